/-
  Of DefBack.
-/
import Derived.Test.YtamikhobdffnfaaGreatDoorBa10
set_option linter.all false
set_option maxRecDepth 99999
set_option maxHeartbeats 0
namespace Go.AV
open Go Go.Proofs Tryz
section
theorem aLc(s:St)(x:aD)(KV Kp)(h:KV s (.bool (tE x))):Den cx 240 [.str x] KV Kp s:=by
 (refine aR func240 [0,2] ?_;simp only[go_sem,ntmps240,f240]);refine yP _ _ _ _ ?_;simp only[go_sem];cases z:dT x with
 | false =>
  simp only[go_sem];rw[show tE x=false by simp[tE,z]]at h;exact aO h
 | true =>
  cases x with
  | nil=>simp[dT]at z
  | cons c r =>
   have y:decide ((97:Int)<=(c.toNat:Int))=decide (97<=c.toNat):=by rw[gV];omega
   have m:decide ((c.toNat:Int)<=122)=decide (c.toNat<=122):=by rw[gV];omega
   rw[show tE (c::r)=((decide (97<=c.toNat)&&decide (c.toNat<=122))&&!decide (c::r=[116,114,117,101])&&!decide (c::r=[102,97,108,115,101]))by simp[tE,z]]at h;cases B:decide (97<=c.toNat)<;>cases h2:decide (c.toNat<=122)<;>cases F:decide (c::r=[116,114,117,101])<;>cases H:decide (c::r=[102,97,108,115,101])<;>simp only[go_sem,y,m,B,h2,F,H]
   all_goals (rw[B,h2,F,H]at h;exact aO h)
section
variable {T:List Tok} {fin:Fault} {d:Dc} {first:Tok} {i n:Nat} {s:St} {r:Nat} {KV Kp:St->A->Prop}
theorem PB.mk{s1:St}{f:Fault}(m:s1.gx s r)(h:PB s r Kp f):PB s1 r (DK Kp) f:=λo=>h.at (eX m) (by rw[aL,aF rfl])
theorem aAU(z:Nat)(sort:aD)(hr:s.getO r=some (bK T fin d first i n))(hi:i<=T.length)(hT:TOk T)(hn:n<=2000)
  (y:(rY fin first (decide (z=60)) sort (T.drop i) n).to (PK T i (λj m=>s.setO r (bK T fin d first j m)) (λl=>.list none (l.map Tm.enc)) KV) (PB s r Kp)) :
  Den cx 242 [.ptr r 0,.int .i64 z,.str sort] KV Kp s:=by
 (refine aR func242 [0,1,2,6,7,8,11,17] ?_;simp only[go_sem,ntmps242,f242]);refine kJ _ hr hi hT ?_;cases O:isT [124] (T.drop i)with
 | false =>
  simp only[rY,O,cE,bR,cG]at y;simp only[go_sem];exact DK.mk (y i (aV _) hi rfl hn) (tS hr) A.le.nil
 | true =>
  have S:=mJ O;simp only[rY,O,bT,nP]at y;simp only[go_sem];have B:(s.setO r (bK T fin d first (i+1) n)).getO r=some (bK T fin d first (i+1) n):=by rw[aL,aF rfl]
  refine lD B S ?_;cases M:T.drop (i+1)with
  | nil=>rw[M]at y;exact PB.at y aY B
  | cons t w =>
   rw[M]at y;obtain⟨h1,h2,h3,h4⟩:=mS M;simp only at y;simp only[go_sem];(refine aQ λb H=>?_);have U:((s.setO r (bK T fin d first (i+1) n)).setO b (.cells 60 t.cs)).getO r=some (bK T fin d first (i+1) n):=by rw[aL,aB (Ne.symm H.1.1),B]
   simp only[go_sem,H];refine jJ U (Nat.le_of_lt h2) hT ?_;rw[M];simp only[eU];cases hf:t.free with
   | false =>
    rw[hf]at y;simp only[cE,bR,eR]at y⊢;exact PB.mk aY y
   | true =>
    rw[hf]at y;simp only[bT,cG]at y⊢;intro Z F _;simp only[go_sem];have ed:decide ((z:Int)=60)=decide (z=60):=by rw[gV];omega
    simp only[go_sem,ed];cases hd:decide (z=60)with
    | true =>
     rw[hd]at y;simp only[bT,eR]at y;simp only[go_sem,H];exact PB.at (f:=⟨19,t.text,t.line,t.col⟩) y aY (by rw[aL,aF rfl]<;>rfl)
    | false =>
     rw[hd]at y;simp only[cE,bR,bX]at y;simp only[go_sem,H];refine aK0 (T:=T) (fin:=fin) (d:=d) (first:=first) (i:=i+1+1) (n:=n) (by rw[aL,aF rfl]<;>rfl) hn ?_;rw[F];refine bB y (λ_ w2 n2 h=>?_) (λf h=>PB.mk aY h);intro e1 e2;subst e1;simp only[cG]at h;simp only[go_sem];refine DK.mk (h (i+1+1) aC Z F e2) (St.gx.ge aY (by rw[aL,aF rfl]<;>rfl)) ?_;exact A.le.list ⟨by simp only[List.map,dJ,A.cells,tG,Tm.cs];exact⟨⟨bH _,rfl⟩,⟨bH _,rfl⟩,⟨bH _,rfl⟩,⟨bH _,rfl⟩,⟨A.le.nil,rfl⟩,⟨A.le.nil,rfl⟩,trivial⟩,trivial⟩
end
end
inductive TmW:Tm->Prop
 | mk (k n:Int) (x y:aD) (a b:List Tm) (hx:x.length<=140737488355328) (hy:y.length<=140737488355328) (ha:∀t,t∈a->TmW t) (hb:∀t,t∈b->TmW t) (la:a.length<=140737488355328) (lb:b.length<=140737488355328):TmW (.mk k n x y a b)
theorem TmW.text{t:Tm}(h:TmW t):t.text.length<=140737488355328:=by cases h;assumption
theorem TmW.sort{t:Tm}(h:TmW t):t.sort.length<=140737488355328:=by cases h;assumption
theorem TmW.kids{t:Tm}(h:TmW t):∀x,x∈t.kids->TmW x:=by cases h;assumption
theorem TmW.rest{t:Tm}(h:TmW t):∀x,x∈t.rest->TmW x:=by cases h;assumption
theorem TmW.lk{t:Tm}(h:TmW t):t.kids.length<=140737488355328:=by cases h;assumption
theorem TmW.lr{t:Tm}(h:TmW t):t.rest.length<=140737488355328:=by cases h;assumption
def Tm.leaf(t:Tm):Bool:=decide (t.kids.length=0)&&decide (t.rest.length=0)
def Tm.opn(t:Tm):Bool:=decide (t.text=[95])||decide (t.text=[36])
def Tm.shV(t:Tm):Bool:=t.leaf&&((dT t.text&&dT t.sort)||(t.opn&&decide (t.sort=[65,110,121])))&&decide (t.n=0)
def Tm.shR(t:Tm)(S:aD):Bool:=match t.rest with
 | []=>true
 | r::l=>decide (l.length=0)&&(decide (r.kind=6)&&(r.shV&&(dT r.text&&decide (r.sort=S))))
def Tm.shape(t:Tm):Bool :=
 if t.kind=1 then t.leaf&&(aBj t.n||(decide (t.n=0)||decide (t.n=1)))&&(decide (t.text=[])&&decide (t.sort=[]))
 else if t.kind=2 then t.leaf&&(decide (t.n=0)||decide (t.n=1))&&(decide (t.text=[])&&decide (t.sort=[]))
 else if t.kind=3 then t.leaf&&oU t.text&&(decide (t.n=0)&&decide (t.sort=[]))
 else if t.kind=4 then t.leaf&&tE t.text&&(decide (t.n=0)&&decide (t.sort=[]))
 else if t.kind=5 then(aCB t.text&&(decide (t.kids.length<=8)&&decide (t.rest.length=0)))&&(decide (t.n=0)&&decide (t.sort=[]))
 else if t.kind=6 then t.shV
 else if t.kind=7 then t.shR [76,105,115,116]&&(decide (t.n=0)&&(decide (t.text=[])&&decide (t.sort=[])))
 else if t.kind=8 then(t.shR [77,97,112]&&decide (t.kids.length % 2=0))&&(decide (t.n=0)&&(decide (t.text=[])&&decide (t.sort=[])))
 else false
theorem uV{s:St}{KV:St->A->Prop}{a b:Bool}(h:KV s (.bool a))(e:b=a):KV s (.bool b):=e▸h
theorem aJg(t:Tm)(y:t.kind=6)(F:TmW t)(s:St)(KV Kp)(B:KV s (.bool t.shV)):Den cx 210 [.agg t.cs] KV Kp s:=by
 (refine aR func210 [0,1,2,3,4,5,6,25,26,53,64,75,95,130,134] ?_;simp only[go_sem,ntmps210,f210]);(refine aQ λp m=>?_);simp only[go_sem,m,y];(refine aQ λq z=>?_);simp only[go_sem,m,z,y,Int.reduceEq]
 repeat' (first|(refine yP _ _ _ _ ?_;simp only[go_sem,m,z,y,Int.reduceEq])|((refine bO (OT.r 0 8) [(5,[3])] ?_;simp only[go_sem,m,z,y,Int.reduceEq]))|refine aS (uV B ?_) cD|(apply aT<;>intro h)<;>simp only[go_sem,h,m,z,y,Int.reduceEq])
 all_goals simp_all [Tm.shV,Tm.leaf,Tm.opn]
theorem aIH(t:Tm)(S:aD)(hw:TmW t)(s:St)(KV Kp){cs:List A}(H:cs=t.cs)(h:KV s (.bool (t.shR S))):Den cx 275 [.agg cs,.str S] KV Kp s:=by
 subst H;(refine aR func275 [0,1,2,4,5,9] ?_;simp only[go_sem,ntmps275,f275]);(refine aQ λp y=>?_);simp only[go_sem,y];cases m:t.rest with
 | nil =>
  have e:t.shR S=true:=by unfold Tm.shR;rw[m]
  rw[e]at h;have U:decide (((0:Nat):Int)=0)=true:=rfl;simp only[go_sem,y,m,U];exact aS h cD
 | cons r l =>
  have d1:decide (((l.length+1:Nat):Int)=0)=false:=by rw[fR];omega
  have Z:decide (((l.length+1:Nat):Int)=1)=decide (l.length=0):=by rw[gV];omega
  simp only[go_sem,y,m,d1];(refine aQ λq z=>?_);simp only[go_sem,y,m,z,d1,Z];have e:t.shR S=(decide (l.length=0)&&(decide (r.kind=6)&&(r.shV&&(dT r.text&&decide (r.sort=S))))):=by unfold Tm.shR;rw[m]
  have F:TmW r:=hw.rest r (by rw[m];exact bU ..);rw[e]at h;clear e;cases B:decide (l.length=0)<;>rw[B]at h<;>simp only[go_sem,y,m,z,B]
  .exact aS h cD
  cases h2:decide (r.kind=6)<;>rw[h2]at h<;>simp only[go_sem,y,m,z,B,h2]
  .exact aS h cD
  refine aJg r (sJ h2) F _ _ _ ?_;cases O:r.shV<;>rw[O]at h<;>simp only[go_sem,y,m,z,B,h2]
  .exact aS h cD
  refine yP _ _ _ _ ?_;cases M:dT r.text<;>rw[M]at h<;>simp only[go_sem,y,m,z,B,h2]
  .exact aS h cD
  exact aS h cD
theorem kinds(k:Int):k=1\/k=2\/k=3\/k=4\/k=5\/k=6\/k=7\/k=8\/(k≠1/\k≠2/\k≠3/\k≠4/\k≠5/\k≠6/\k≠7/\k≠8):=by omega
theorem aRb(t:Tm)(M:TmW t)(s:St)(KV Kp)(B:KV s (.bool t.shape)):Den cx 210 [.agg t.cs] KV Kp s:=by
 have hx:=M.text;have H:decide ((t.kids.length:Int)<=8)=decide (t.kids.length<=8):=by rw[gV];omega
 have F:decide ((t.kids.length:Int).tmod 2=0)=decide (t.kids.length % 2=0):=by
  rw[gV,Int.tmod_eq_emod_of_nonneg aC];omega
 rcases kinds t.kind with m|m|m|m|m|m|m|m|m
 ·(refine aR func210 [0,1,2,3,4,5,6,25,26,53,64,75,95,130,134] ?_;simp only[go_sem,ntmps210,f210]);(refine aQ λp y=>?_);simp only[go_sem,y,m];(refine aQ λq z=>?_);simp only[go_sem,y,z,m,Int.reduceEq]
  repeat' (first|(refine aJB _ _ _ _ ?_;simp only[go_sem,y,z,m,Int.reduceEq])|refine aS (uV B ?_) cD|(apply aT<;>intro h)<;>simp only[go_sem,h,y,z,m,Int.reduceEq])
  all_goals first|(simp_all [Tm.shape,Tm.leaf];done)|(simp_all [Tm.shape,Tm.leaf];intros;omega)
 ·(refine aR func210 [0,1,2,3,4,5,6,25,26,53,64,75,95,130,134] ?_;simp only[go_sem,ntmps210,f210]);(refine aQ λp y=>?_);simp only[go_sem,y,m];(refine aQ λq z=>?_);simp only[go_sem,y,z,m,Int.reduceEq]
  repeat' (first|(refine aJB _ _ _ _ ?_;simp only[go_sem,y,z,m,Int.reduceEq])|refine aS (uV B ?_) cD|(apply aT<;>intro h)<;>simp only[go_sem,h,y,z,m,Int.reduceEq])
  all_goals first|(simp_all [Tm.shape,Tm.leaf];done)|(simp_all [Tm.shape,Tm.leaf];intros;omega)
 ·(refine aR func210 [0,1,2,3,4,5,6,25,26,53,64,75,95,130,134] ?_;simp only[go_sem,ntmps210,f210]);(refine aQ λp y=>?_);simp only[go_sem,y,m];(refine aQ λq z=>?_);simp only[go_sem,y,z,m,Int.reduceEq]
  repeat' (first|(refine aIF _ _ _ _ ?_;simp only[go_sem,y,z,m,Int.reduceEq])|refine aS (uV B ?_) cD|(apply aT<;>intro h)<;>simp only[go_sem,h,y,z,m,Int.reduceEq])
  all_goals first|(simp_all [Tm.shape,Tm.leaf];done)|(simp_all [Tm.shape,Tm.leaf];intros;omega)
 ·(refine aR func210 [0,1,2,3,4,5,6,25,26,53,64,75,95,130,134] ?_;simp only[go_sem,ntmps210,f210]);(refine aQ λp y=>?_);simp only[go_sem,y,m];(refine aQ λq z=>?_);simp only[go_sem,y,z,m,Int.reduceEq]
  repeat' (first|(refine aLc _ _ _ _ ?_;simp only[go_sem,y,z,m,Int.reduceEq])|refine aS (uV B ?_) cD|(apply aT<;>intro h)<;>simp only[go_sem,h,y,z,m,Int.reduceEq])
  all_goals first|(simp_all [Tm.shape,Tm.leaf];done)|(simp_all [Tm.shape,Tm.leaf];intros;omega)
 ·(refine aR func210 [0,1,2,3,4,5,6,25,26,53,64,75,95,130,134] ?_;simp only[go_sem,ntmps210,f210]);(refine aQ λp y=>?_);simp only[go_sem,y,m];(refine aQ λq z=>?_);simp only[go_sem,y,z,m,Int.reduceEq]
  repeat' (first|(refine aRP _ _ _ _ aC ?_;simp only[go_sem,y,z,m,Int.reduceEq,H])|refine aS (uV B ?_) cD|(apply aT<;>intro h)<;>simp only[go_sem,h,y,z,m,Int.reduceEq,H,F])
  all_goals first|(simp_all [Tm.shape,Tm.leaf];done)|(simp_all [Tm.shape,Tm.leaf];intros;omega)
 .exact aJg t m M s KV Kp (uV B (by simp[Tm.shape,m]))
 ·(refine aR func210 [0,1,2,3,4,5,6,25,26,53,64,75,95,130,134] ?_;simp only[go_sem,ntmps210,f210]);(refine aQ λp y=>?_);simp only[go_sem,y,m];(refine aQ λq z=>?_);simp only[go_sem,y,z,m,Int.reduceEq]
  repeat' (first|(refine aIH t _ M _ _ _ (by simp only[Tm.cs,m]) ?_;simp only[go_sem,y,z,m,Int.reduceEq,F])|refine aS (uV B ?_) cD|(apply aT<;>intro h)<;>simp only[go_sem,h,y,z,m,Int.reduceEq,H,F])
  all_goals first|(simp_all [Tm.shape,Tm.leaf];done)|(simp_all [Tm.shape,Tm.leaf];intros;omega)
 ·(refine aR func210 [0,1,2,3,4,5,6,25,26,53,64,75,95,130,134] ?_;simp only[go_sem,ntmps210,f210]);(refine aQ λp y=>?_);simp only[go_sem,y,m];(refine aQ λq z=>?_);simp only[go_sem,y,z,m,Int.reduceEq]
  repeat' (first|(refine aIH t _ M _ _ _ (by simp only[Tm.cs,m]) ?_;simp only[go_sem,y,z,m,Int.reduceEq,F])|refine aS (uV B ?_) cD|(apply aT<;>intro h)<;>simp only[go_sem,h,y,z,m,Int.reduceEq,H,F])
  all_goals first|(simp_all [Tm.shape,Tm.leaf];done)|(simp_all [Tm.shape,Tm.leaf];intros;omega)
 .obtain⟨n1,n2,n3,n4,n5,n6,n7,n8⟩:=m;have d1:=eQ n1;have Z:=eQ n2;have U:=eQ n3;have d4:=eQ n4;have O:=eQ n5;have S:=eQ n6;have d7:=eQ n7;have d8:=eQ n8;(refine aR func210 [0,1,2,3,4,5,6,25,26,53,64,75,95,130,134] ?_;simp only[go_sem,ntmps210,f210]);(refine aQ λp y=>?_);simp only[go_sem,y];(refine aQ λq z=>?_);simp only[go_sem,y,z,d1,Z,U,d4,O,S,d7,d8]
  repeat' (first|refine aS (uV B ?_) cD|(apply aT<;>intro h)<;>simp only[go_sem,h,y,z,d1,Z,U,d4,O,S,d7,d8])
  all_goals simp_all [Tm.shape]
def eM(f:Tm->Nat->Option Nat):List Tm->Nat->Option Nat
 | [],m=>some m
 | t::r,m=>(f t m).bind (eM f r)
def jZ(k r m:Nat):Option Nat:=if r=0 then some m else if 0<k/\m+r<=2000 then some (m+r) else none
def fM:Nat->Tm->Nat->Option Nat
 | 0,_,_=>none
 | k+1,.mk _ _ _ _ y h,m=>if m+1<=2000 then(eM (fM k) y (m+1)).bind (jZ k h.length) else none
def Tm.val:Nat->Tm->Nat->Option Nat
 | 0,_,_=>none
 | k+1,t,m=>if m+1<=2000 then(if t.shape=true then(eM (Tm.val k) t.kids (m+1)).bind (jZ k t.rest.length) else none) else none
def pC(n:Int)(b:Bool):Ob:=.cells 184 [.int .i64 n,.bool b]
theorem aGj(f:Tm->Nat->Option Nat)(x:Tm):∀(l:List Tm) (m:Nat),eM f (l++[x]) m=(eM f l m).bind (f x)
 | [],m=>by
  simp only[bA,eM,Option.bind_some];cases f x m<;>rfl
 | t::r,m=>by
  simp only[aZ,eM];cases f t m with
  | none=>rfl
  | some n=>exact aGj f x r n
theorem aRk{f:Tm->Nat->Option Nat}{l:List Tm}{i:Nat}{x:Tm}(h:l[i]?=some x)(m:Nat):eM f (l.take (i+1)) m=(eM f (l.take i) m).bind (f x):=by
 rw[fD,h];exact aGj f x _ m
theorem aRd{f:Tm->Nat->Option Nat}{l:List Tm}{i:Nat}{m:Nat}(h:eM f (l.take i) m=none):eM f l m=none:=by
 have:∀(a b:List Tm) m,eM f a m=none->eM f (a++b) m=none:=by
  intro a
  induction a with
  | nil=>intro b m h;cases h
  | cons t r z =>
   intro b m h;simp only[aZ,eM]at h⊢;cases y:f t m with
   | none=>rfl
   | some n=>rw[y]at h;exact z b n h
 have:=this _ (l.drop i) m h
 rwa[List.take_append_drop]at this
theorem aGT{f:Tm->Nat->Option Nat}(z:∀t m n,f t m=some n->n<=2000):∀(l:List Tm) (a b:Nat),a<=2000->eM f l a=some b->b<=2000
 | [],a,b,B,h=>by cases h;exact B
 | x::r,a,b,B,h=>by
  simp only[eM]at h;cases y:f x a with
  | none=>rw[y]at h;cases h
  | some c=>rw[y]at h;exact aGT z r c b (z x a c y) h
theorem aMJ:∀(k:Nat) (t:Tm) (m n:Nat),Tm.val k t m=some n->n<=2000
 | 0,_,_,_,h=>by cases h
 | k+1,t,m,n,h=>by
  unfold Tm.val at h;split at h
  .split at h
   .cases hl:eM (Tm.val k) t.kids (m+1)with
    | none=>rw[hl]at h;cases h
    | some q =>
     rw[hl]at h;simp only[Option.bind_some,jZ]at h;split at h
     .cases h;exact aGT (λt m n h=>aMJ k t m n h) _ _ _ (by assumption) hl
     .split at h
      .cases h;omega
      .cases h
   .cases h
  .cases h
def wP(k c j:Nat):Bool:=decide (j=0)||(decide (0<k)&&decide (c+j<=2000))
def leM(m:Nat):Bool:=decide (m<=2000)
theorem aHL(k c j:Nat):wP k c (j+1)=(decide (0<k)&&leM (c+j+1)):=by simp[wP,leM,qE]
theorem aO4:∀(k:Nat) (t:Tm) (n:Nat) (r:Nat) (s:St) (KV Kp:St->A->Prop),k<=60->n<=2000->TmW t->s.getO r=some (pC n true) ->
  (match Tm.val k t n with
   | some m=>KV (s.setO r (pC m true)) (.tuple [])
   | none=>∀z,KV (s.setO r (pC z false)) (.tuple []))->Den cx 139 [.ptr r 0,.agg t.cs,.int .i64 (61-(k:Int))] KV Kp s:=by
 intro k
 induction k with
 | zero =>
  intro t n r s KV Kp hk60 hn hw hr hk;simp only[pC]at hr hk⊢;have w1:=cF n aC;have d1:decide ((61-((0:Nat):Int))<=60)=false:=by decide
  simp only[Tm.val]at hk;(refine aR func139 [0,1,2,4,7,41,43,44,45,46,58,62,63,64] ?_;simp only[go_sem,ntmps139,f139]);(refine aQ λp hp=>?_);have ep:=cJ hr hp;simp only[go_sem,hr,hp,ep,w1,d1];refine aS (hk ((n+1:Nat):Int)) ?_;exact bC
 | succ k ih =>
  intro t n r s KV Kp hk60 hn hw hr hk;simp only[pC]at hr hk;have w1:=cF n aC;have d1:decide ((61-((k+1:Nat):Int))<=60)=true:=by rw[dE];omega
  (refine aR func139 [0,1,2,4,7,41,43,44,45,46,58,62,63,64] ?_;simp only[go_sem,ntmps139,f139]);(refine aQ λp hp=>?_);have ep:=cJ hr hp;simp only[go_sem,hr,hp,ep,w1,d1];by_cases h2:n+1<=2000
  .have d2:decide (((n+1:Nat):Int)<=2000)=true:=by rw[dE];omega
   simp only[go_sem,hr,hp,ep,w1,d1,d2];refine aRb t hw _ _ _ ?_;cases hs:t.shape
   .simp only[go_sem,hr,hp,ep,w1,d1,d2];have hv:Tm.val (k+1) t n=none:=by rw[Tm.val,aF h2,hs,aB aE]
    rw[hv]at hk;exact aS (hk ((n+1:Nat):Int)) bC
   have hv:Tm.val (k+1) t n=(eM (Tm.val k) t.kids (n+1)).bind (jZ k t.rest.length):=by rw[Tm.val,aF h2,hs,aF rfl]
   rw[hv]at hk;simp only[go_sem,hr,hp,ep,w1,d1,d2]
   have w5:IntKind.i64.wrap (61-((k+1:Nat):Int)+1)=61-(k:Int):=by
    rw[hU _ aC aC];omega
   refine Ex.loop (ι:=Nat × Nat) (λc=>[(0,.ptr r 0),(2,.int .i64 (61-((k+1:Nat):Int))),(4,.ptr p 0),(43,.list none (t.kids.map Tm.enc)),(44,.int .i64 (t.kids.length:Nat)),(45,.int .i64 (c.1:Nat))])
    (λc=>(s.setO p (.cells 43 t.cs)).setO r (pC c.2 true)) (λc=>c.1<=t.kids.length/\eM (Tm.val k) (t.kids.take c.1) (n+1)=some c.2) (λc=>t.kids.length-c.1) (0,n+1) ⟨aU _,rfl⟩ ?_ ?_ ?_
   ·(simp only[go_sem];try exact rfl)
   .exact bC
   .rintro⟨i,c⟩ ⟨hi,hc⟩;simp only at hi hc;have hcl:=aGT (λt m n h=>aMJ k t m n h) _ _ _ h2 hc;simp only[pC];refine bE (V:=[0,1,2,4,7,41,43,44,45,46,58,62,63,64]) _ _ _ _ ?_;simp only[go_sem,hr,hp,ep]
    (apply aT<;>intro h)<;>simp only[go_sem,h,hr,hp,ep]
    .have hix:i<t.kids.length:=gQ h;clear h;obtain⟨x,hx⟩:∃a,t.kids[i]?=some a:=⟨_,aX hix⟩
     have hxm:x∈t.kids:=bZ hx;simp only[go_sem,hr,hp,ep,hx,hix];(refine aQ λb5 hb5=>?_);simp only[go_sem,hr,hp,ep,hx,hix,hb5,w5];refine ih x c r _ _ _ aC hcl (hw.kids x hxm) (by simp only[pC];exact gH) ?_;have htk:=aRk (f:=Tm.val k) hx (n+1);rw[hc]at htk;simp only[Option.bind_some]at htk;cases hv2:Tm.val k x c with
     | none =>
      rw[hv2]at htk;rw[aRd htk]at hk;intro z;simp only[pC];simp only[go_sem,hr,hp,ep,hb5];exact aS (hk z) bC
     | some c2 =>
      rw[hv2]at htk;simp only[pC];simp only[go_sem,hr,hp,ep,hb5];refine⟨(i+1,c2),⟨hix,htk⟩,aP,(by simp only[go_sem,cF i (by have:=hw.lk;omega)];try rfl),?_⟩;exact bC
    .have hii:i=t.kids.length:=by have:¬ i<t.kids.length:=gQ h;omega
     subst hii;rw[List.take_length]at hc;rw[hc]at hk;simp only[Option.bind_some]at hk;clear h;have hwr:=hw.lr;have d6:decide ((61-((k+1:Nat):Int))<60)=decide (0<k):=by rw[gV];omega
     refine Ex.loop (ι:=Nat) (λj=>[(0,.ptr r 0),(2,.int .i64 (61-((k+1:Nat):Int))),(4,.ptr p 0),(62,.int .i64 (t.rest.length:Nat)),(63,.int .i64 (j:Nat))])
      (λj=>(s.setO p (.cells 43 t.cs)).setO r (pC ((c+j:Nat):Int) (wP k c j))) (λj=>j<=t.rest.length) (λj=>t.rest.length-j) 0 (aU _) ?_ ?_ ?_
     ·(simp only[go_sem];try exact rfl)
     .exact bC
     .intro j hj;have w6:=cF (c+j) aC;simp only[pC];refine bE (V:=[0,1,2,4,7,41,43,44,45,46,58,62,63,64]) _ _ _ _ ?_;simp only[go_sem,hr,hp,ep]
      (apply aT<;>intro h)<;>simp only[go_sem,h,hr,hp,ep]
      .have hjx:j<t.rest.length:=gQ h;clear h;have d7:decide (((c+j+1:Nat):Int)<=2000)=leM (c+j+1):=by unfold leM;rw[gV];omega
       have w7:=cF j aC;cases hb0:wP k c j with
       | false =>
        have e0:(decide (0<k)&&leM (c+j+1))=false:=by
         simp only[leM,wP,Bool.or_eq_false_iff,Bool.and_eq_false_iff,fR]at hb0⊢;omega
        simp only[go_sem,hr,hp,ep,hb0,w6,d6,d7];refine⟨j+1,hjx,by omega,(by simp only[go_sem,w7];try rfl),?_⟩;rw[aHL,e0];exact bC
       | true =>
        cases hk0:decide (0<k)with
        | false =>
         simp only[go_sem,hr,hp,ep,hb0,w6,d6,d7,hk0];refine⟨j+1,hjx,by omega,(by simp only[go_sem,w7];try rfl),?_⟩;rw[aHL,hk0,fE];exact bC
        | true =>
         simp only[go_sem,hr,hp,ep,hb0,w6,d6,d7,hk0];refine⟨j+1,hjx,by omega,(by simp only[go_sem,w7];try rfl),?_⟩;rw[aHL,hk0,fG];exact bC
      .have hjj:j=t.rest.length:=by have:¬ j<t.rest.length:=gQ h;omega
       subst hjj;clear h;cases hm:jZ k t.rest.length c with
       | none =>
        rw[hm]at hk
        have e0:wP k c t.rest.length=false:=by
         unfold jZ at hm;unfold wP;split at hm
         .cases hm
         .split at hm
          .cases hm
          .simp only[Bool.or_eq_false_iff,Bool.and_eq_false_iff,fR];omega
        rw[e0];exact aS (hk _) bC
       | some m =>
        rw[hm]at hk
        have e0:wP k c t.rest.length=true/\m=c+t.rest.length:=by
         unfold jZ at hm;unfold wP;split at hm
         .cases hm;rename_i h0;exact⟨by rw[h0];rfl,by omega⟩
         .split at hm
          .rename_i h0 h1;cases hm;exact⟨by rw[fN h1.1,fN h1.2];simp,rfl⟩
          .cases hm
        rw[e0.1];rw[e0.2]at hk;exact aS hk bC
  .have d2:decide (((n+1:Nat):Int)<=2000)=false:=by rw[fR];omega
   have hv:Tm.val (k+1) t n=none:=by rw[Tm.val,aB h2]
   rw[hv]at hk;simp only[go_sem,hr,hp,ep,w1,d1,d2];exact aS (hk ((n+1:Nat):Int)) bC
theorem aPG(t:Tm)(H:TmW t)(s:St)(KV Kp:St->A->Prop)(y:KV s (.bool (Tm.val 60 t 0).isSome)):Den cx 80 [.agg t.cs] KV Kp s:=by
 (refine aR func80 [0,1,2,3] ?_;simp only[go_sem,ntmps80,f80]);(refine aQ λp h=>?_);simp only[go_sem,h];(refine aQ λq B=>?_);simp only[go_sem,h,B];refine aO4 60 t 0 q _ _ _ (aV _) aC H (by simp only[pC];exact gH) ?_;cases F:Tm.val 60 t 0 with
 | none =>
  rw[F]at y;intro z;simp only[pC];simp only[go_sem,h,B];exact aS y bC
 | some m =>
  rw[F]at y;simp only[pC];simp only[go_sem,h,B];exact aS y bC
section
def zY(T:List Tok)(fin:Fault)(r k:Nat):Prop:=∀(s:St) (d:Dc) (first:Tok) (i n:Nat) (KV Kp:St->A->Prop),s.getO r=some (bK T fin d first i n)->i<=T.length->n<=2000 ->
 (fU false fin first k (T.drop i) n).to (PK T (i+1) (λj m=>s.setO r (bK T fin d first j m)) Tm.enc KV) (PB s r Kp)->Den cx 92 [.ptr r 0,.int .i64 ((61-k:Nat):Int)] KV Kp s
theorem Tm.hz(a:Tm):a.enc.cells.length=6:=by rw[dJ];rfl
theorem Tm.ho(a:Tm):gD a.enc.cells=true:=by rw[dJ];rfl
theorem Tm.le_leaf(k n:Int)(x y:aD):A.le (.agg [.int .i64 k,.int .i64 n,.str x,.str y,.nils,.nils]) (Tm.enc (.mk k n x y [] [])):=by
 rw[dJ];exact A.le.agg ⟨⟨bH _,rfl⟩,⟨bH _,rfl⟩,⟨bH _,rfl⟩,⟨bH _,rfl⟩,⟨A.le.nil,rfl⟩,⟨A.le.nil,rfl⟩,trivial⟩
section
variable {T:List Tok} {fin:Fault} {d:Dc} {first:Tok} {i n:Nat} {s:St} {r:Nat} {KV Kp:St->A->Prop}
theorem aPB(k:Nat)(O:k<=60)(IH:zY T fin r k)(S U:Nat)(M:s.getO S=some (.cells 74 [.ptr r 0]))(F:s.getO U=some (.cells 3 [.int .i64 ((60-k:Nat):Int)]))
  (H:s.getO r=some (bK T fin d first i n))(hi:i<=T.length)(hn:n<=2000)
  (Z:(fU false fin first k (T.drop i) n).to (PK T (i+1) (λj m=>s.setO r (bK T fin d first j m)) Tm.enc KV) (PB s r Kp)):Den cx 241 [.ptr S 0,.ptr U 0] KV Kp s:=by
 (refine aR func241 [0,1,2] ?_;simp only[go_sem,ntmps241,f241]);(refine aQ λb y=>?_);have e3:=cJ M y;have e5:=cJ F y;have er:=cJ H y;have ed:IntKind.i64.wrap (((60-k:Nat):Int)+1)=((61-k:Nat):Int):=by rw[cF _ aC];congr 1;omega
 simp only[go_sem,y,e3,e5,M,F,ed];refine IH _ d first i n _ _ (by rw[aL,aB er.2];exact H) hi hn (bB Z (λa w m h j hj B hw hm=>?_) (λf h=>PB.mk aY h))
 have z:=h j hj B hw hm;simp only at z;rw[dJ]at z;simp only[go_sem,y,er];exact aS z (St.gx.ge aY (by rw[aL,aB er.2,aL,aF rfl]<;>rfl))
end
end
section
section
variable {T:List Tok} {fin:Fault} {d:Dc} {first:Tok} {i n:Nat} {s:St} {r:Nat} {KV Kp:St->A->Prop}
structure EntQ (b2 b3 q r k:Nat) (s:St) (acc:List Tm) (tk:Option Nat) (i:Nat):Prop where
 len:acc.length<=i
 h2:s.getO b2=some (.cells 74 [.ptr r 0])
 h3:s.getO b3=some (.cells 3 [.int .i64 ((60-k:Nat):Int)])
 hq:s.getO q=none
 ne:q≠r/\q≠b2/\q≠b3/\r≠b2/\r≠b3
 nil:tk=none->acc=[]
 free:∀t,tk=some t->s.getT t=none
def iR(T:List Tok)(fin:Fault)(d:Dc)(first:Tok)(kind:Int)(x:aD)(q r:Nat)(s:St)(acc:List Tm)(tk:Option Nat)(i n:Nat):St :=
 gs ((s.setO q (.cells 43 [.int .i64 kind,.int .i64 0,.str x,.str [],gv tk (acc.map Tm.enc),.nils])).setO r (bK T fin d first i n)) tk acc.length 43
theorem aSN(k b2 b3 q:Nat)(bp:k<=60)(IH:zY T fin r k)(hT:TOk T)(acc:List Tm)(tk:Option Nat)(hQ:EntQ b2 b3 q r k s acc tk i)(hi:i<=T.length)(hn:n<=2000)
  (hk : (oV fin (fU false fin first k) acc (T.drop i) n).to (fun a w n' => ∀ j y,i ≤ j → j ≤ T.length → T.drop j = w → n' ≤ 2000 → EntQ b2 b3 q r k s a y j → KV (iR T fin d first 8 [] q r s a y j n') (.bool true))
   (λf=>∀s1 o,s1.gx s r->s1.getO r=some o->Kp s1 (.iface 36 f.enc))):Den cx 286 [.ptr q 0,.ptr b2 0,.ptr b3 0] KV Kp (iR T fin d first 8 [] q r s acc tk i n):=by
 obtain⟨bl,h2,h3,hq,⟨B,O,F,M,H⟩,b7,S⟩:=hQ;have bn:=hT.len;have ed:IntKind.i64.wrap (((60-k:Nat):Int)+1)=((61-k:Nat):Int):=by rw[cF _ aC];congr 1;omega
 have hg:oF (iR T fin d first 8 [] q r s acc tk i n) tk (acc.map Tm.enc).length 43:=by rw[aK];exact iU λe=>by rw[b7 e];rfl
 refine aJX ?_;(refine aR func286 [0,1,2,3] ?_;simp only[go_sem,ntmps286,f286]);unfold iR;simp only[oV,bX]at hk;cases tk with
 | none =>
  obtain rfl:=b7 rfl;simp only[aMn];(refine bO (OT.l [0,1,2,3,4,6,7,5,8,9,11] (.pair 10 12)) [(5,[1])] ?_;simp only[go_sem,B,O,F,M,H,B.symm,O.symm,F.symm,M.symm,H.symm,h2,h3,ed]);refine IH _ d first i n _ _ (by rw[cO,aL,aF rfl]<;>rfl) hi hn (bB hk (λkk w m bk j hj bg hw hm=>?_) (λf h o=>?_))
  rotate_left
  .simp only[go_sem];exact aO (h _ _ (rN (iY (eX (dH hq (gA s r))) S) rfl) (by rw[fQ,cO,aL,aF rfl]<;>rfl))
  simp only[go_sem,B,O,F,M,H,B.symm,O.symm,F.symm,M.symm,H.symm,h2,h3,ed,Tm.hz];refine⟨by decide,?_⟩;intro t ht;refine⟨rfl,?_⟩;have b4:s.getT t=none:=ht;subst hw;refine iJ aI8 ?_;refine gC (T:=T) (fin:=fin) (d:=d) (first:=first) (i:=j) (n:=m) _ (by simp only[fQ,cO,aL,dG,reduceIte,B,gU]<;>(first|done|rfl)) bg hT (bB bk (λ_ w2 m2 bc bb bj b9=>?_) (λf h o=>?_));rotate_left
  .simp only[go_sem];exact aO (h _ o (by repeat (first|exact gA _ _|refine vL ?_ rfl|refine rN ?_ rfl|refine iY ?_ (λ_ e=>by cases e;assumption)|refine eX ?_|refine dH hq ?_)) (by simp only[fQ,cO,aL,dG,reduceIte,B,gU]<;>(first|done|rfl)))
  subst bj b9;simp only[go_sem,B,O,F,M,H,B.symm,O.symm,F.symm,M.symm,H.symm,h2,h3,ed];(refine bO (OT.l [0,1,2,3,4,6,7,5,8,9,11] (.pair 10 12)) [(5,[1])] ?_;simp only[go_sem,B,O,F,M,H,B.symm,O.symm,F.symm,M.symm,H.symm,h2,h3,ed]);refine IH _ d first (j+1) _ _ _ (by simp only[fQ,cO,aL,dG,reduceIte,B,gU]<;>(first|done|rfl)) bb hm (bB bc (λvv w3 m3 bh j3 bm b6 bd b8=>?_) (λf h o=>?_))
  rotate_left
  .simp only[go_sem];exact aO (h _ o (by repeat (first|exact gA _ _|refine vL ?_ rfl|refine rN ?_ rfl|refine iY ?_ (λ_ e=>by cases e;assumption)|refine eX ?_|refine dH hq ?_)) (by simp only[fQ,cO,aL,dG,reduceIte,B,gU]<;>(first|done|rfl)))
  simp only[go_sem,B,O,F,M,H,B.symm,O.symm,F.symm,M.symm,H.symm,h2,h3,ed,Tm.hz];refine⟨by decide,⟨by rw[yK,iN,aF rfl],λy hy=>?_⟩,λt2 bf=>?_⟩
  .simp only[cC]at hy;subst hy;rfl
  have b5:s.getT t2=none:=aKj bf b4 (λ_=>rfl);have Z:=bh j3 (some t2) aC b6 bd b8 ⟨by simp only[aI,aG,aH]at bl⊢;omega,h2,h3,hq,⟨B,O,F,M,H⟩,λe=>(by cases e),λt' e=>by cases e;exact b5⟩;simp only[iR,dF]at Z;rw[show(([]:List Tm)++[kk,vv]).length=2 by simp]at Z;refine aS (s2:=(gs ((s.setO q (.cells 43 [.int .i64 8,.int .i64 0,.str [],.str [],.list (some t2) ((([]:List Tm)++[kk,vv]).map Tm.enc),.nils])).setO r (bK T fin d first j3 m3)) (some t2) (2) 43).setL none) Z ?_;refine aJk b4 (λb o hb=>?_) (λ_=>rfl) bJ;simp only[aL]at hb⊢;by_cases U:q=b
  .subst U;simp only[B,B.symm,bT,bR]at hb⊢;simpa [dJ,Tm.cs]using hb
  .by_cases b0:r=b
   .simp only[U,b0,bT,bR]at hb⊢;exact hb
   .simp only[U,b0,bR]at hb⊢;exact hb
 | some u =>
  simp only[dF];(refine bO (OT.l [0,1,2,3,4,6,7,5,8,9,11] (.pair 10 12)) [(5,[1])] ?_;simp only[go_sem,B,O,F,M,H,B.symm,O.symm,F.symm,M.symm,H.symm,h2,h3,ed]);refine IH _ d first i n _ _ (by rw[cO,aL,aF rfl]<;>rfl) hi hn (bB hk (λkk w m bk j hj bg hw hm=>?_) (λf h o=>?_))
  rotate_left
  .simp only[go_sem];exact aO (h _ _ (rN (iY (eX (dH hq (gA s r))) S) rfl) (by rw[fQ,cO,aL,aF rfl]<;>rfl))
  simp only[go_sem,B,O,F,M,H,B.symm,O.symm,F.symm,M.symm,H.symm,h2,h3,ed,Tm.hz];refine⟨by decide,?_⟩;refine⟨⟨by rw[iN,aF rfl],λy hy=>?_,by omega⟩,λt ht=>?_⟩
  .simp only[cH]at hy;obtain⟨z,_,rfl⟩:=hy;exact Tm.hz z
  have b4:s.getT t=none:=aDL ht (S u rfl) (λ_=>rfl);subst hw;refine iJ (aFP (S u rfl)) ?_;refine gC (T:=T) (fin:=fin) (d:=d) (first:=first) (i:=j) (n:=m) _ (by simp only[fQ,cO,aL,dG,reduceIte,B,gU]<;>(first|done|rfl)) bg hT (bB bk (λ_ w2 m2 bc bb bj b9=>?_) (λf h o=>?_));rotate_left
  .simp only[go_sem];exact aO (h _ o (by repeat (first|exact gA _ _|refine vL ?_ rfl|refine rN ?_ rfl|refine iY ?_ (λ_ e=>by cases e;assumption)|refine eX ?_|refine dH hq ?_)) (by simp only[fQ,cO,aL,dG,reduceIte,B,gU]<;>(first|done|rfl)))
  subst bj b9;simp only[go_sem,B,O,F,M,H,B.symm,O.symm,F.symm,M.symm,H.symm,h2,h3,ed];(refine bO (OT.l [0,1,2,3,4,6,7,5,8,9,11] (.pair 10 12)) [(5,[1])] ?_;simp only[go_sem,B,O,F,M,H,B.symm,O.symm,F.symm,M.symm,H.symm,h2,h3,ed]);refine IH _ d first (j+1) _ _ _ (by simp only[fQ,cO,aL,dG,reduceIte,B,gU]<;>(first|done|rfl)) bb hm (bB bc (λvv w3 m3 bh j3 bm b6 bd b8=>?_) (λf h o=>?_))
  rotate_left
  .simp only[go_sem];exact aO (h _ o (by repeat (first|exact gA _ _|refine vL ?_ rfl|refine rN ?_ rfl|refine iY ?_ (λ_ e=>by cases e;assumption)|refine eX ?_|refine dH hq ?_)) (by simp only[fQ,cO,aL,dG,reduceIte,B,gU]<;>(first|done|rfl)))
  simp only[go_sem,B,O,F,M,H,B.symm,O.symm,F.symm,M.symm,H.symm,h2,h3,ed,Tm.hz];refine⟨by decide,⟨by rw[yK,iN,aF rfl];simp,λy hy=>?_,by simp;omega⟩,λt2 bf=>?_⟩
  .rcases cZ.1 hy with hy|hy
   .simp only[cH]at hy;obtain⟨z,_,rfl⟩:=hy;exact Tm.hz z
   .simp only[cC]at hy;subst hy;rfl
  have b5:s.getT t2=none:=aKj bf b4 (λ_=>rfl);have Z:=bh j3 (some t2) aC b6 bd b8 ⟨by simp only[aI,aG,aH]at bl⊢;omega,h2,h3,hq,⟨B,O,F,M,H⟩,λe=>(by cases e),λt' e=>by cases e;exact b5⟩;simp only[iR,dF]at Z;rw[show(acc++[kk,vv]).length=acc.length+2 by simp]at Z;refine aS (s2:=(gs ((s.setO q (.cells 43 [.int .i64 8,.int .i64 0,.str [],.str [],.list (some t2) ((acc++[kk,vv]).map Tm.enc),.nils])).setO r (bK T fin d first j3 m3)) (some t2) (acc.length+2) 43).setL none) Z ?_;refine aJk b4 (λb o hb=>?_) (λ_=>rfl) bJ;simp only[aL]at hb⊢;by_cases U:q=b
  .subst U;simp only[B,B.symm,bT,bR]at hb⊢;simpa [dJ,Tm.cs]using hb
  .by_cases b0:r=b
   .simp only[U,b0,bT,bR]at hb⊢;exact hb
   .simp only[U,b0,bR]at hb⊢;exact hb
end
end
section
section
variable {T:List Tok} {fin:Fault} {d:Dc} {first:Tok} {i n:Nat} {s:St} {r:Nat} {KV Kp:St->A->Prop}
theorem EntQ.setT{m y q r k:Nat}{s:St}{acc:List Tm}{tk:Option Nat}{i t:Nat}{v:Nat × TypeId}(h:EntQ m y q r k s acc tk i)(B:tk≠some t):EntQ m y q r k (s.setT t v) acc tk i :=
 ⟨h.len,h.h2,h.h3,h.hq,h.ne,h.nil,fun u z => by
  rw[dM,aB (λe=>B (by rw[z,e]))];exact h.free u z⟩
theorem EntQ.unT{m y q r k:Nat}{s:St}{acc:List Tm}{tk:Option Nat}{i t:Nat}{v:Nat × TypeId}(h:EntQ m y q r k (s.setT t v) acc tk i):tk≠some t/\∀u,tk=some u->s.getT u=none:=by
 have B:tk≠some t:=λe=>by
  have:=h.free t e;rw[dM,aF rfl]at this;cases this
 refine⟨B,λu z=>?_⟩;have:=h.free u z;rw[dM]at this;split at this
 .cases this
 .exact this
theorem EntQ.dropT{m y q r k:Nat}{s:St}{acc:List Tm}{tk:Option Nat}{i t:Nat}{v:Nat × TypeId}(h:EntQ m y q r k (s.setT t v) acc tk i):EntQ m y q r k s acc tk i :=
 ⟨h.len,h.h2,h.h3,h.hq,h.ne,h.nil,h.unT.2⟩
section
variable {kind:Int} {x:aD} {q:Nat} {acc:List Tm} {tk:Option Nat} {t:Nat} {v u:Nat × TypeId}
theorem aAS:(iR T fin d first kind x q r s acc tk i n).getT t=if tk=some t then some (acc.length,43) else s.getT t:=iN _ _ _ _ _
theorem aJC(h:tk≠some t):((iR T fin d first kind x q r s acc tk i n).setT t v).ge (iR T fin d first kind x q r (s.setT t v) acc tk i n):=aHe h
theorem aJ4(h:tk≠some t):((iR T fin d first kind x q r (s.setT t v) acc tk i n).setT t u).ge (iR T fin d first kind x q r (s.setT t u) acc tk i n):=by
 refine⟨λb o ho=>by rw[pW];unfold iR at *;rw[cO]at *;exact ho,λc m B=>?_,λy F=>by cases tk<;>exact F⟩;rw[aAS,dM]at B;rw[dM,aAS,dM];by_cases z:t=c
 .subst z;rw[aB h,aF rfl]at B;rw[aF rfl];exact B
 .rw[aB z]at B⊢;rw[aB z];exact B
theorem aJH(h:s.getT t=none):(iR T fin d first kind x q r (s.setT t v) acc tk i n).ge (iR T fin d first kind x q r s acc tk i n) :=
 aLs (λb o ho=>ho) (λy H=>H) (λc m _ F=>by
  show(s.setT t v).getT c=some m;have z:s.getT c=some m:=F;rw[dM];by_cases B:t=c
  .subst B;rw[h]at z;cases z
  .rw[aB B];exact z)
theorem aMQ(h:q≠r):(iR T fin d first kind x q r s acc tk i n).getO r=some (bK T fin d first i n):=by
 unfold iR;rw[cO,aL,aF rfl]
theorem aJy:((iR T fin d first kind x q r s acc tk i n).setO r (bK T fin d first (i+1) n)).ge (iR T fin d first kind x q r s acc tk (i+1) n):=by
 unfold iR;rw[zU,nR];exact aM _
end
theorem aPD(k:Nat)(bk:k<=60)(IH:zY T fin r k)(hr:s.getO r=some (bK T fin d first i n))(hi:i<=T.length)(hT:TOk T)(hn:n<=2000)
  (hk : ((if isT [124] (T.drop i) = true ∨ isT [125] (T.drop i) = true then Rd.ok [] (T.drop i) n else dK fin [44] (oV fin (fU false fin first k)) ((T.drop i).length + 1) [] (T.drop i) n).bind fun l w n =>
   (rY fin first (decide (k=0)) [77,97,112] w n).bind λr w n=>(gP fin [125] w n).bind λ_ w n=>.ok (.mk 8 0 [] [] l r) w n).to (PK T i (λj m=>s.setO r (bK T fin d first j m)) Tm.enc KV) (PB s r Kp)) :
  Den cx 243 [.ptr r 0,.int .i64 ((60-k:Nat):Int)] KV Kp s:=by
 (refine aR func243 [0,1,2,3,4,5,6,16] ?_;simp only[go_sem,ntmps243,f243]);(refine aQ λb2 z=>?_);simp only[go_sem,z];(refine aQ λb3 F=>?_);simp only[go_sem,z,F];(refine aQ λb4 H=>?_);simp only[go_sem,z,F,H];(refine aQ λb5 B=>?_);have O:=cJ hr z;have S:=cJ hr F.2;have U:=cJ hr H.2.2;have M:=cJ hr B.2.2.2;have ek:decide (60-k=60)=decide (k=0):=by rw[gV];omega
 simp only[go_sem,z,F,H,B,O,S,U,M];refine oR (T:=T) (fin:=fin) (d:=d) (first:=first) (i:=i) (n:=n) _ gH hi ?_;simp only[go_sem,z,F,H,B,O,S,U,M];cases cA:isT [124] (T.drop i)
 .simp only[go_sem,z,F,H,B,O,S,U,M,cA];refine oR (T:=T) (fin:=fin) (d:=d) (first:=first) (i:=i) (n:=n) _ gH hi ?_;simp only[go_sem,z,F,H,B,O,S,U,M,cA];cases cB:isT [125] (T.drop i)
  .simp only[go_sem,z,F,H,B,O,S,U,M,cA,cB];rw[aB (by rw[cA,cB];simp),bX]at hk
   refine iJ (tS gH) (aFF (fin:=fin) (σ:=List Tm) (α:=Unit) (X:=Option Nat) (r:=r) (λ_=>.bool true) (λ_=>rfl) (λ_=>rfl) hT
    (λs' acc tk i n=>iR T fin d first 8 [] b5 r s' acc tk i n) (λs' acc tk i=>EntQ b2 b3 b5 r k s' acc tk i) (λacc w n=>(oV fin (fU false fin first k) acc w n).bind λa w n=>.ok (a,()) w n) 286 [] [.ptr b5 0,.ptr b2 0,.ptr b3 0]
    (λs' a x i n=>⟨d,first,aMQ M.2,aJy⟩) (λs' a x i n t v h ht=>?_) (λs' a x i n t v u ht h=>?_) (λs' a x i n t v ht h=>⟨h.dropT,aJH ht⟩)
    (λs' a x i h=>⟨by have:=h.len;omega,h.h2,h.h3,h.hq,h.ne,h.nil,h.free⟩) (λs' a x i n h=>iY (eX (dH h.hq (gA _ _))) h.free)
    (λs' a x i n br bt h bn bq bh=>aSN k b2 b3 b5 bk IH hT a x h bn bq (by rw[bX]at bh;exact bB bh (λ_ _ _ h=>h) (λ_ h=>h)))
    [] none i n ?_ hi hn ?_)
   .have bd:=ht;rw[aAS]at bd;have hx:x≠some t:=λe=>by rw[aF e]at bd;cases bd
    rw[aB hx]at bd;exact⟨bd,h.setT hx,aJC hx⟩
   .have hx:=h.unT.1;refine⟨by rw[aAS,aB hx,dM,aF rfl],h.dropT.setT hx,aJ4 hx⟩
   .refine⟨aU _,gH,gH,?_,⟨M.2,B.2.2.1.2,B.2.1.2,O.1,S.1⟩,λ_=>rfl,λt e=>(by cases e)⟩;simp only[aL,dG,reduceIte,B]
   refine bB (aDu _ _ _ _ _ [] _ _ _ _ hk) (λc w m bg j y hj bm hw hm hy=>?_) (λf h s1 o hg bl=>h.at (hg.trans aY) bl);obtain⟨l,ul⟩:=c;simp only at bg hy;subst hw;rw[bX,<-ek]at bg;have Z:∀t,y=some t->s.getT t=none:=hy.free
   have bp:=hy.nil;simp only[iR];simp only[go_sem,z,F,H,B,O,S,U,M];refine aAU (T:=T) (fin:=fin) (d:=d) (first:=first) (i:=j) (n:=m) (60-k) _ (by simp only[fQ,cO,aL,dG,reduceIte,gU,z,F,H,B,O,S,U,M]<;>(first|done|rfl|assumption)) bm hT hm (bB bg (λrs w2 m2 b7 j2 bj b0 bb bf=>?_) (λf h=>PB.mk (by repeat (first|exact gA _ _|refine iY ?_ Z|refine eX ?_|refine dH z ?_|refine dH F.2 ?_|refine dH H.2.2 ?_|refine dH B.2.2.2 ?_)) h));subst bb;simp only[go_sem,z,F,H,B,O,S,U,M];refine gC (T:=T) (fin:=fin) (d:=d) (first:=first) (i:=j2) (n:=m2) _ (by simp only[fQ,cO,aL,dG,reduceIte,gU,z,F,H,B,O,S,U,M]<;>(first|done|rfl|assumption)) b0 hT ?_;rw[bX]at b7;refine bB b7 (λ_ w3 m3 b8 b6 bc b9=>?_) (λf h=>PB.mk (by repeat (first|exact gA _ _|refine iY ?_ Z|refine eX ?_|refine dH z ?_|refine dH F.2 ?_|refine dH H.2.2 ?_|refine dH B.2.2.2 ?_)) h);rw[cG]at b8;subst b9;simp only[go_sem,z,F,H,B,O,S,U,M];refine⟨sU y _,?_⟩;refine DK.mk (b8 (j2+1) aC b6 bc bf) (St.gx.ge (by repeat (first|exact gA _ _|refine iY ?_ Z|refine eX ?_|refine dH z ?_|refine dH F.2 ?_|refine dH H.2.2 ?_|refine dH B.2.2.2 ?_)) (by simp only[fQ,cO,aL,dG,reduceIte,gU,z,F,H,B,O,S,U,M]<;>(first|done|rfl|assumption))) ?_;rw[dJ];exact A.le.agg ⟨⟨bH _,rfl⟩,⟨bH _,rfl⟩,⟨bH _,rfl⟩,⟨bH _,rfl⟩,⟨iQ y _ (λe=>by rw[bp e];rfl),rfl⟩,⟨bH _,rfl⟩,trivial⟩
  ·(try simp only[go_sem,z,F,H,B,O,S,U,M,cA,cB])
   rw[aF (by simp[cA,cB]),bX,cG,bX,<-ek]at hk;have Z:∀t:Nat,(none:Option Nat)=some t->s.getT t=none:=λt e=>by cases e
   refine aAU (T:=T) (fin:=fin) (d:=d) (first:=first) (i:=i) (n:=n) (60-k) _ (by simp only[fQ,cO,aL,dG,reduceIte,gU,z,F,H,B,O,S,U,M]<;>(first|done|rfl|assumption)) hi hT hn (bB hk (λrs w2 m2 b7 j2 bj b0 bb bf=>?_) (λf h=>PB.mk (by repeat (first|exact gA _ _|refine iY ?_ Z|refine eX ?_|refine dH z ?_|refine dH F.2 ?_|refine dH H.2.2 ?_|refine dH B.2.2.2 ?_)) h));subst bb;simp only[go_sem,z,F,H,B,O,S,U,M];refine gC (T:=T) (fin:=fin) (d:=d) (first:=first) (i:=j2) (n:=m2) _ (by simp only[fQ,cO,aL,dG,reduceIte,gU,z,F,H,B,O,S,U,M]<;>(first|done|rfl|assumption)) b0 hT ?_;rw[bX]at b7;refine bB b7 (λ_ w3 m3 b8 b6 bc b9=>?_) (λf h=>PB.mk (by repeat (first|exact gA _ _|refine iY ?_ Z|refine eX ?_|refine dH z ?_|refine dH F.2 ?_|refine dH H.2.2 ?_|refine dH B.2.2.2 ?_)) h);rw[cG]at b8;subst b9;simp only[go_sem,z,F,H,B,O,S,U,M];refine DK.mk (b8 (j2+1) aC b6 bc bf) (St.gx.ge (by repeat (first|exact gA _ _|refine iY ?_ Z|refine eX ?_|refine dH z ?_|refine dH F.2 ?_|refine dH H.2.2 ?_|refine dH B.2.2.2 ?_)) (by simp only[fQ,cO,aL,dG,reduceIte,gU,z,F,H,B,O,S,U,M]<;>(first|done|rfl|assumption))) ?_;rw[dJ];exact A.le.agg ⟨⟨bH _,rfl⟩,⟨bH _,rfl⟩,⟨bH _,rfl⟩,⟨bH _,rfl⟩,⟨A.le.nil,rfl⟩,⟨bH _,rfl⟩,trivial⟩
 ·(try simp only[go_sem,z,F,H,B,O,S,U,M,cA])
  rw[aF (by simp[cA]),bX,cG,bX,<-ek]at hk;have Z:∀t:Nat,(none:Option Nat)=some t->s.getT t=none:=λt e=>by cases e
  refine aAU (T:=T) (fin:=fin) (d:=d) (first:=first) (i:=i) (n:=n) (60-k) _ (by simp only[fQ,cO,aL,dG,reduceIte,gU,z,F,H,B,O,S,U,M]<;>(first|done|rfl|assumption)) hi hT hn (bB hk (λrs w2 m2 b7 j2 bj b0 bb bf=>?_) (λf h=>PB.mk (by repeat (first|exact gA _ _|refine iY ?_ Z|refine eX ?_|refine dH z ?_|refine dH F.2 ?_|refine dH H.2.2 ?_|refine dH B.2.2.2 ?_)) h));subst bb;simp only[go_sem,z,F,H,B,O,S,U,M];refine gC (T:=T) (fin:=fin) (d:=d) (first:=first) (i:=j2) (n:=m2) _ (by simp only[fQ,cO,aL,dG,reduceIte,gU,z,F,H,B,O,S,U,M]<;>(first|done|rfl|assumption)) b0 hT ?_;rw[bX]at b7;refine bB b7 (λ_ w3 m3 b8 b6 bc b9=>?_) (λf h=>PB.mk (by repeat (first|exact gA _ _|refine iY ?_ Z|refine eX ?_|refine dH z ?_|refine dH F.2 ?_|refine dH H.2.2 ?_|refine dH B.2.2.2 ?_)) h);rw[cG]at b8;subst b9;simp only[go_sem,z,F,H,B,O,S,U,M];refine DK.mk (b8 (j2+1) aC b6 bc bf) (St.gx.ge (by repeat (first|exact gA _ _|refine iY ?_ Z|refine eX ?_|refine dH z ?_|refine dH F.2 ?_|refine dH H.2.2 ?_|refine dH B.2.2.2 ?_)) (by simp only[fQ,cO,aL,dG,reduceIte,gU,z,F,H,B,O,S,U,M]<;>(first|done|rfl|assumption))) ?_;rw[dJ];exact A.le.agg ⟨⟨bH _,rfl⟩,⟨bH _,rfl⟩,⟨bH _,rfl⟩,⟨bH _,rfl⟩,⟨A.le.nil,rfl⟩,⟨bH _,rfl⟩,trivial⟩
end
end
section
section
variable {T:List Tok} {fin:Fault} {d:Dc} {first:Tok} {i n:Nat} {s:St} {r:Nat} {KV Kp:St->A->Prop}
theorem aPI(k:Nat)(bm:k<=60)(IH:zY T fin r k)(t:Tok)(hr:s.getO r=some (bK T fin d first i n))(hi:i<=T.length)(hT:TOk T)(hn:n<=2000)(ht:t∈T)
  (U:(nT fin first (fU false fin first k) (decide (k=0)) t (T.drop i) n).to (PK T i (λj m=>s.setO r (bK T fin d first j m)) Tm.enc KV) (PB s r Kp)) :
  Den cx 168 [.ptr r 0,t.enc,.int .i64 ((60-k:Nat):Int)] KV Kp s:=by
 simp only[go_sem];(refine aR func168 [0,1,2,3,4,5,6,7,8,9,11,12,33,47,71,84,94,107] ?_;simp only[go_sem,ntmps168,f168]);(refine aQ λb3 y=>?_);simp only[go_sem,y];(refine aQ λb4 z=>?_);simp only[go_sem,y,z];(refine aQ λb5 B=>?_);simp only[go_sem,y,z,B];(refine aQ λb6 F=>?_);have O:=cJ hr y;have S:=cJ hr z.2;have M:=cJ hr B.2.2;have H:=cJ hr F.2.2.2;have b2:=hr;simp only[go_sem]at b2;have c6:=hT.len;simp only[go_sem,y,z,B,F,O,S,M,H]
 (apply aT<;>intro h)<;>simp only[go_sem,h,y,z,B,F,O,S,M,H]
 ·
  have hx:t.text=[45]:=gQ h;simp only[nT,hx,bT]at U
  (try simp only[go_sem,y,z,B,F,O,S,M,H])
  refine lD (T:=T) (fin:=fin) (d:=d) (first:=first) (i:=i) (n:=n) gH hi ?_;cases hw:T.drop i with
  | nil=>rw[hw]at U;exact U.at aY gH
  | cons u w =>
   rw[hw]at U;obtain⟨h1,h2,h3,h4⟩:=mS hw;simp only[go_sem];(refine aQ λb7 b0=>?_);have e7:=cJ hr b0.2.2.2.2
   have bad:∀(bg:St->A->Prop) (s1:St),s1.gx s r->s1.getO r=some (bK T fin d first i n)->PB s r Kp (gK fin 11 (u::w))->Den cx 42 [.ptr r 0,.int .i64 11] bg (DK Kp) s1:=by
    intro bg s1 bn bf hf;refine pH 11 bf hi hT ?_;rw[hw];exact hf.at bn bf
   simp only at U;have bl:IntKind.i64.wrap (t.col+1)=t.col+1:=by have:=hT.col t ht;exact hU _ aC aC
   have bq:IntKind.i64.wrap (0-u.n)=-u.n:=by have:=hT.num u h4;rw[hU _ aC aC];omega
   cases c1:decide (u.kind=2)
   .have h2:¬ u.kind=2:=gQ c1;rw[aB (λhc=>h2 hc.1),eR]at U;simp only[go_sem,y,z,B,F,O,S,M,H,b0,e7,b2,c1];exact bad _ _ aY gH U
   cases c2:decide (u.line=t.line)
   .have h2:¬ u.line=t.line:=gQ c2;rw[aB (λhc=>h2 hc.2.1),eR]at U;simp only[go_sem,y,z,B,F,O,S,M,H,b0,e7,b2,c1,c2];exact bad _ _ aY gH U
   cases c3:decide (u.col=t.col+1)
   .have h2:¬ u.col=t.col+1:=gQ c3;rw[aB (λhc=>h2 hc.2.2),eR]at U;simp only[go_sem,y,z,B,F,O,S,M,H,b0,e7,b2,c1,c2,bl,c3];exact bad _ _ aY gH U
   .rw[aF ⟨gQ c1,gQ c2,gQ c3⟩,cG]at U;simp only[go_sem,y,z,B,F,O,S,M,H,b0,e7,b2,c1,c2,bl,c3,cF i aC,bq];refine DK.mk (U (i+1) aC h2 h3 hn) (St.gx.ge aY gH) (Tm.le_leaf _ _ _ _)
 have x1:¬ t.text=[45]:=gQ h
 (try simp only[go_sem,y,z,B,F,O,S,M,H])
 (apply aT<;>intro h)<;>simp only[go_sem,h,y,z,B,F,O,S,M,H]
 ·
  have hx:t.text=[39]:=gQ h;rw[nT.eq_def,aB x1,aF hx]at U
  (try simp only[go_sem,y,z,B,F,O,S,M,H])
  refine lD (T:=T) (fin:=fin) (d:=d) (first:=first) (i:=i) (n:=n) gH hi ?_;cases hw:T.drop i with
  | nil=>rw[hw]at U;exact U.at aY gH
  | cons u w =>
   rw[hw]at U;obtain⟨h1,h2,h3,h4⟩:=mS hw;simp only[go_sem];(refine aQ λb7 b0=>?_);have e7:=cJ hr b0.2.2.2.2
   have bad:∀(bg:St->A->Prop) (s1:St),s1.gx s r->s1.getO r=some (bK T fin d first i n)->PB s r Kp (gK fin 11 (u::w))->Den cx 42 [.ptr r 0,.int .i64 11] bg (DK Kp) s1:=by
    intro bg s1 bn bf hf;refine pH 11 bf hi hT ?_;rw[hw];exact hf.at bn bf
   simp only at U;cases c1:decide (u.kind=1)
   .have h2:¬ u.free=true:=by simp[Tok.free,c1]
    rw[aB (λhc=>h2 hc.1),eR]at U;simp only[go_sem,y,z,B,F,O,S,M,H,b0,e7,b2,c1];exact bad _ _ aY gH U
   simp only[go_sem,y,z,B,F,O,S,M,H,b0,e7,b2,c1];refine vF _ _ _ _ ?_;simp only[go_sem,y,z,B,F,O,S,M,H,b0,e7,b2,c1];cases c2:decide (u.text∈iM);rotate_left
   .have h2:¬ u.free=true:=by simp[Tok.free,c2]
    rw[aB (λhc=>h2 hc.1),eR]at U;simp only[go_sem,y,z,B,F,O,S,M,H,b0,e7,b2,c1,c2];exact bad _ _ aY gH U
   simp only[go_sem,y,z,B,F,O,S,M,H,b0,e7,b2,c1,c2];refine aLc _ _ _ _ ?_;simp only[go_sem,y,z,B,F,O,S,M,H,b0,e7,b2,c1,c2];cases c3:tE u.text
   .rw[aB (λhc=>by rw[c3]at hc;exact cM hc.2 bJ),eR]at U;simp only[go_sem,y,z,B,F,O,S,M,H,b0,e7,b2,c1,c2,c3];exact bad _ _ aY gH U
   .rw[aF ⟨by simp[Tok.free,c1,c2],c3⟩,cG]at U;simp only[go_sem,y,z,B,F,O,S,M,H,b0,e7,b2,c1,c2,c3,cF i aC];refine DK.mk (U (i+1) aC h2 h3 hn) (St.gx.ge aY gH) (Tm.le_leaf _ _ _ _)
 have x2:¬ t.text=[39]:=gQ h
 (try simp only[go_sem,y,z,B,F,O,S,M,H])
 (apply aT<;>intro h)<;>simp only[go_sem,h,y,z,B,F,O,S,M,H]
 ·
  have hx:t.text=[91]:=gQ h;rw[nT.eq_def,aB x1,aB x2,aF hx]at U
  (try simp only[go_sem,y,z,B,F,O,S,M,H])
  (refine aQ λb9 Z=>?_);have e9:=cJ hr Z.2.2.2.2;simp only[go_sem,y,z,B,F,O,S,M,H,Z,e9];refine oR (T:=T) (fin:=fin) (d:=d) (first:=first) (i:=i) (n:=n) _ gH hi ?_;simp only[go_sem,y,z,B,F,O,S,M,H,Z,e9];have ek:decide (60-k=60)=decide (k=0):=by rw[gV];omega
  cases cA:isT [124] (T.drop i)
  .simp only[go_sem,y,z,B,F,O,S,M,H,Z,e9,cA];refine oR (T:=T) (fin:=fin) (d:=d) (first:=first) (i:=i) (n:=n) _ gH hi ?_;simp only[go_sem,y,z,B,F,O,S,M,H,Z,e9,cA];cases cB:isT [93] (T.drop i)
   .simp only[go_sem,y,z,B,F,O,S,M,H,Z,e9,cA,cB];rw[aB (by rw[cA,cB];simp),bX]at U
    refine iJ (tS gH) (aIm (fin:=fin) (d:=d) (fi:=first) Tm.enc Tm.hz Tm.ho hT (λs'=>s'.getO b3=some (.cells 74 [.ptr r 0])/\s'.getO b5=some (.cells 3 [.int .i64 ((60-k:Nat):Int)])) (λ_ _ _=>Iff.rfl)
     (fU false fin first k) 241 [] [.ptr b3 0,.ptr b5 0] (aEB (fun s' o hq => ⟨by rw [aL,aB O.1]; exact hq.1,by rw [aL,aB M.1]; exact hq.2⟩)
      (λs' i' n' bg c7 bz br c4 c5 c0=>aPB k bm IH b3 b5 br.1 br.2 bz c4 c5 (bB c0 (λ_ _ _ h j hj=>h j aC) (λ_ h=>h)))) i n ?_ hi hn ?_)
    .exact⟨gH,gH⟩
    refine bB U (λl w m bw j hj bp hw hm=>?_) (λf h s1 o hg bf=>h.at (hg.trans aY) bf);subst hw;rw[bX,<-ek]at bw;simp only[go_sem,y,z,B,F,O,S,M,H,Z,e9];refine aAU (T:=T) (fin:=fin) (d:=d) (first:=first) (i:=j) (n:=m) (60-k) _ gH bp hT hm (bB bw (λrs w2 m2 bc j2 bt b8 bj bv=>?_) (λf h=>PB.mk aY h));subst bj;simp only[go_sem,y,z,B,F,O,S,M,H,Z,e9];refine gC (T:=T) (fin:=fin) (d:=d) (first:=first) (i:=j2) (n:=m2) _ gH b8 hT ?_;rw[bX]at bc;refine bB bc (λ_ w3 m3 bd bb bk bh=>?_) (λf h=>PB.mk aY h);rw[cG]at bd;simp only[go_sem,y,z,B,F,O,S,M,H,Z,e9];exact DK.mk (bd (j2+1) aC bb bk aC) (St.gx.ge aY (by subst bh;rw[aL,aB H.2,aL,aF rfl]<;>rfl)) (by rw[dJ];exact bH _)
   .simp only[go_sem,y,z,B,F,O,S,M,H,Z,e9,cA,cB];rw[aF (by simp[cA,cB]),bX,cG,bX,<-ek]at U;refine aAU (T:=T) (fin:=fin) (d:=d) (first:=first) (i:=i) (n:=n) (60-k) _ gH hi hT hn (bB U (λrs w2 m2 bc j2 bt b8 bj bv=>?_) (λf h=>PB.mk aY h));subst bj;simp only[go_sem,y,z,B,F,O,S,M,H,Z,e9];refine gC (T:=T) (fin:=fin) (d:=d) (first:=first) (i:=j2) (n:=m2) _ gH b8 hT ?_;rw[bX]at bc;refine bB bc (λ_ w3 m3 bd bb bk bh=>?_) (λf h=>PB.mk aY h);rw[cG]at bd;simp only[go_sem,y,z,B,F,O,S,M,H,Z,e9];exact DK.mk (bd (j2+1) aC bb bk aC) (St.gx.ge aY (by subst bh;rw[aL,aB H.2,aL,aF rfl]<;>rfl)) (by rw[dJ];exact A.le.agg ⟨⟨bH _,rfl⟩,⟨bH _,rfl⟩,⟨bH _,rfl⟩,⟨bH _,rfl⟩,⟨A.le.nil,rfl⟩,⟨bH _,rfl⟩,trivial⟩)
  .simp only[go_sem,y,z,B,F,O,S,M,H,Z,e9,cA];rw[aF (by simp[cA]),bX,cG,bX,<-ek]at U;refine aAU (T:=T) (fin:=fin) (d:=d) (first:=first) (i:=i) (n:=n) (60-k) _ gH hi hT hn (bB U (λrs w2 m2 bc j2 bt b8 bj bv=>?_) (λf h=>PB.mk aY h));subst bj;simp only[go_sem,y,z,B,F,O,S,M,H,Z,e9];refine gC (T:=T) (fin:=fin) (d:=d) (first:=first) (i:=j2) (n:=m2) _ gH b8 hT ?_;rw[bX]at bc;refine bB bc (λ_ w3 m3 bd bb bk bh=>?_) (λf h=>PB.mk aY h);rw[cG]at bd;simp only[go_sem,y,z,B,F,O,S,M,H,Z,e9];exact DK.mk (bd (j2+1) aC bb bk aC) (St.gx.ge aY (by subst bh;rw[aL,aB H.2,aL,aF rfl]<;>rfl)) (by rw[dJ];exact A.le.agg ⟨⟨bH _,rfl⟩,⟨bH _,rfl⟩,⟨bH _,rfl⟩,⟨bH _,rfl⟩,⟨A.le.nil,rfl⟩,⟨bH _,rfl⟩,trivial⟩)
 have x3:¬ t.text=[91]:=gQ h
 (try simp only[go_sem,y,z,B,F,O,S,M,H])
 (apply aT<;>intro h)<;>simp only[go_sem,h,y,z,B,F,O,S,M,H]
 ·
  have hx:t.text=[123]:=gQ h;rw[nT.eq_def,aB x1,aB x2,aB x3,aF hx]at U
  (try simp only[go_sem,y,z,B,F,O,S,M,H])
  refine aPD (T:=T) (fin:=fin) (d:=d) (first:=first) (i:=i) (n:=n) k bm IH gH hi hT hn (bB U (λa w m h j hj bp hw hm=>?_) (λf h=>PB.mk aY h));have h':=h j hj bp hw hm;simp only at h';rw[dJ]at h';simp only[go_sem,y,z,B,F,O,S,M,H];exact aS h' (St.gx.ge aY gH)
 have x4:¬ t.text=[123]:=gQ h;rw[nT.eq_def,aB x1,aB x2,aB x3,aB x4,cG]at U
 (try simp only[go_sem,y,z,B,F,O,S,M,H])
 exact DK.mk (U i (aV _) hi rfl hn) (St.gx.ge aY gH) (Tm.le_leaf _ _ _ _)
end
end
section
section
variable {T:List Tok} {fin:Fault} {d:Dc} {first:Tok} {i n:Nat} {s:St} {r:Nat} {KV Kp:St->A->Prop}
theorem aSE(k b2 b3 q:Nat)(x:aD)(hk60:k<=60)(IH:zY T fin r k)(hT:TOk T)(acc:List Tm)(tk:Option Nat)(hQ:EntQ b2 b3 q r k s acc tk i)(hi:i<=T.length)(hn:n<=2000)
  (hk : (oW false fin first (fU false fin first k) acc (T.drop i) n).to (fun a w n' => ∀ j y,i ≤ j → j ≤ T.length → T.drop j = w → n' ≤ 2000 → EntQ b2 b3 q r k s (acc ++ [a]) y j → KV (iR T fin d first 5 x q r s (acc ++ [a]) y j n') a.enc)
   (λf=>∀s1 o,s1.gx s r->s1.getO r=some o->Kp s1 (.iface 36 f.enc))):Den cx 239 [.ptr q 0,.ptr b2 0,.ptr b3 0] KV Kp (iR T fin d first 5 x q r s acc tk i n):=by
 obtain⟨hac,h2,h3,hq,⟨n1,n2,n3,n4,n5⟩,hnil,hfree⟩:=hQ;have hlen:=hT.len;have ed:IntKind.i64.wrap (((60-k:Nat):Int)+1)=((61-k:Nat):Int):=by rw[cF _ aC];congr 1;omega
 have hg:oF (iR T fin d first 5 x q r s acc tk i n) tk (acc.map Tm.enc).length 43:=by rw[aK];exact iU λe=>by rw[hnil e];rfl
 refine aJX ?_;(refine aR func239 [0,1,2,3,4,12] ?_;simp only[go_sem,ntmps239,f239]);unfold iR;(refine aQ λb6 hb6=>?_)
 have f6:s.getO b6=none/\b6≠r/\b6≠q:=by
  have h0:=hb6;rw[cO,aL]at h0;split at h0
  .cases h0
  .rename_i hrb;rw[aL]at h0;split at h0
   .cases h0
   .rename_i hqb;exact⟨h0,λe=>hrb e.symm,λe=>hqb e.symm⟩
 obtain⟨hf6,e6,e6q⟩:=f6;clear hb6;have e62:=(cJ h2 hf6);have e63:=(cJ h3 hf6);simp only[go_sem,n1,n2,n3,n4,n5,n1.symm,n2.symm,n3.symm,n4.symm,n5.symm,h2,h3,ed,hf6,e6,e6.symm,e6q,e6q.symm,e62,e63,qO hg];cases tk with
 | none =>
  obtain rfl:=hnil rfl;simp only[aMn];cases c8:decide ((([]:List Tm).length:Int)=8)
  ·(try simp only [go_sem,n1,n2,n3,n4,n5,n1.symm,n2.symm,n3.symm,n4.symm,n5.symm,h2,h3,ed,hf6,e6,e6.symm,e6q,e6q.symm,e62,e63,c8])
   have hk3:=hk;rw[oW.eq_def,aB (by intro e;simp[e]at c8)]at hk3;refine IH _ d first i n _ _ (by simp only[fQ,cO,aL,dG,reduceIte,gU,n1,n2,n3,n4,n5,n1.symm,n2.symm,n3.symm,n4.symm,n5.symm,h2,h3,ed,hf6,e6,e6.symm,e6q,e6q.symm,e62,e63]<;>(first|done|rfl|assumption)) hi hn (bB hk3 (λa w m hk2 j hj hjT hw hm=>?_) (λf h o=>?_))
   rotate_left
   .simp only[go_sem];exact aO (h _ o (by repeat (first|exact gA _ _|refine vL ?_ rfl|refine rN ?_ rfl|refine iY ?_ hfree|refine eX ?_|refine dH hq ?_|refine dH hf6 ?_)) (by simp only[fQ,cO,aL,dG,reduceIte,gU,n1,n2,n3,n4,n5,n1.symm,n2.symm,n3.symm,n4.symm,n5.symm,h2,h3,ed,hf6,e6,e6.symm,e6q,e6q.symm,e62,e63]<;>(first|done|rfl|assumption)))
   simp only[go_sem,n1,n2,n3,n4,n5,n1.symm,n2.symm,n3.symm,n4.symm,n5.symm,h2,h3,ed,hf6,e6,e6.symm,e6q,e6q.symm,e62,e63,dJ,Tm.cs];intro b7 hb7;rw[cO]at hb7;obtain⟨e7,hb7⟩:=rO hb7;obtain⟨e76,hb7⟩:=rO hb7;obtain⟨_,hb7⟩:=rO hb7;obtain⟨e7q,hf7⟩:=rO hb7;have e72:=(cJ h2 hf7);have e73:=(cJ h3 hf7);simp only[go_sem,n1,n2,n3,n4,n5,n1.symm,n2.symm,n3.symm,n4.symm,n5.symm,h2,h3,ed,hf6,e6,e6.symm,e6q,e6q.symm,e62,e63,hf7,e7,e7.symm,e7q,e7q.symm,e76,e76.symm,e72,e73];(refine bO (OT.l [0,1,2,3,4,5,6,8] (.pair 7 9)) [] ?_;simp only[go_sem,n1,n2,n3,n4,n5,n1.symm,n2.symm,n3.symm,n4.symm,n5.symm,h2,h3,ed,hf6,e6,e6.symm,e6q,e6q.symm,e62,e63,hf7,e7,e7.symm,e7q,e7q.symm,e76,e76.symm,e72,e73]);refine⟨by decide,?_⟩;intro t ht;have hft:s.getT t=none:=ht;refine⟨rfl,?_⟩;have hk5:=hk2 j (some t) aC hjT hw hm ⟨by simp only[aI,aG,aH]at hac⊢;omega,h2,h3,hq,⟨n1,n2,n3,n4,n5⟩,λe=>(by cases e),λt' e=>by cases e;exact hft⟩;simp only[iR,dF]at hk5;rw[show(([]:List Tm)++[a]).length=1 by simp,dJ a]at hk5;refine aS (s2:=(gs ((s.setO q (.cells 43 [.int .i64 5,.int .i64 0,.str x,.str [],.list (some t) ((([]:List Tm)++[a]).map Tm.enc),.nils])).setO r (bK T fin d first j m)) (some t) (1) 43).setL none) hk5 (St.ge.trans aI8 (aG0 (λb o hb=>?_) (λ_=>rfl)));simp only[aL]at hb⊢;by_cases hb1:q=b
   .subst hb1;simp only[n1,n1.symm,e6q,e6q.symm,e7q,e7q.symm,bT,bR]at hb⊢;simpa [dJ,Tm.cs]using hb
   .by_cases hb2:r=b
    .subst hb2;simp only[hb1,e6,e6.symm,e7,e7.symm,bT,bR]at hb⊢;exact hb
    .simp only[hb1,hb2,bR]at hb⊢;by_cases hb3:b6=b
     .subst hb3;rw[hf6]at hb;cases hb
     .by_cases hb4:b7=b
      .subst hb4;rw[hf7]at hb;cases hb
      .simp only[hb3,hb4,bR];exact hb
  .simp at c8
 | some u =>
  simp only[dF];cases c8:decide ((acc.length:Int)=8)
  ·(try simp only [go_sem,n1,n2,n3,n4,n5,n1.symm,n2.symm,n3.symm,n4.symm,n5.symm,h2,h3,ed,hf6,e6,e6.symm,e6q,e6q.symm,e62,e63,c8])
   have hk3:=hk;rw[oW.eq_def,aB (by intro e;simp[e]at c8)]at hk3;refine IH _ d first i n _ _ (by simp only[fQ,cO,aL,dG,reduceIte,gU,n1,n2,n3,n4,n5,n1.symm,n2.symm,n3.symm,n4.symm,n5.symm,h2,h3,ed,hf6,e6,e6.symm,e6q,e6q.symm,e62,e63]<;>(first|done|rfl|assumption)) hi hn (bB hk3 (λa w m hk2 j hj hjT hw hm=>?_) (λf h o=>?_))
   rotate_left
   .simp only[go_sem];exact aO (h _ o (by repeat (first|exact gA _ _|refine vL ?_ rfl|refine rN ?_ rfl|refine iY ?_ hfree|refine eX ?_|refine dH hq ?_|refine dH hf6 ?_)) (by simp only[fQ,cO,aL,dG,reduceIte,gU,n1,n2,n3,n4,n5,n1.symm,n2.symm,n3.symm,n4.symm,n5.symm,h2,h3,ed,hf6,e6,e6.symm,e6q,e6q.symm,e62,e63]<;>(first|done|rfl|assumption)))
   simp only[go_sem,n1,n2,n3,n4,n5,n1.symm,n2.symm,n3.symm,n4.symm,n5.symm,h2,h3,ed,hf6,e6,e6.symm,e6q,e6q.symm,e62,e63,dJ,Tm.cs];intro b7 hb7;rw[cO]at hb7;obtain⟨e7,hb7⟩:=rO hb7;obtain⟨e76,hb7⟩:=rO hb7;obtain⟨_,hb7⟩:=rO hb7;obtain⟨e7q,hf7⟩:=rO hb7;have e72:=(cJ h2 hf7);have e73:=(cJ h3 hf7);simp only[go_sem,n1,n2,n3,n4,n5,n1.symm,n2.symm,n3.symm,n4.symm,n5.symm,h2,h3,ed,hf6,e6,e6.symm,e6q,e6q.symm,e62,e63,hf7,e7,e7.symm,e7q,e7q.symm,e76,e76.symm,e72,e73];(refine bO (OT.l [0,1,2,3,4,5,6,8] (.pair 7 9)) [] ?_;simp only[go_sem,n1,n2,n3,n4,n5,n1.symm,n2.symm,n3.symm,n4.symm,n5.symm,h2,h3,ed,hf6,e6,e6.symm,e6q,e6q.symm,e62,e63,hf7,e7,e7.symm,e7q,e7q.symm,e76,e76.symm,e72,e73]);refine⟨by decide,?_⟩;refine⟨⟨by rw[iN,aF rfl],λy hy=>?_,by omega⟩,λt ht=>?_⟩
   .simp only[cH]at hy;obtain⟨z,_,rfl⟩:=hy;exact Tm.hz z
   have hft:s.getT t=none:=aDL ht (hfree u rfl) (λ_=>rfl);have hk5:=hk2 j (some t) aC hjT hw hm ⟨by simp only[aI,aG,aH]at hac⊢;omega,h2,h3,hq,⟨n1,n2,n3,n4,n5⟩,λe=>(by cases e),λt' e=>by cases e;exact hft⟩;simp only[iR,dF]at hk5;rw[show(acc++[a]).length=acc.length+1 by simp,dJ a]at hk5;refine aS (s2:=(gs ((s.setO q (.cells 43 [.int .i64 5,.int .i64 0,.str x,.str [],.list (some t) ((acc++[a]).map Tm.enc),.nils])).setO r (bK T fin d first j m)) (some t) (acc.length+1) 43).setL none) hk5 (St.ge.trans (aFP (hfree u rfl)) (aG0 (λb o hb=>?_) (λ_=>rfl)));simp only[aL]at hb⊢;by_cases hb1:q=b
   .subst hb1;simp only[n1,n1.symm,e6q,e6q.symm,e7q,e7q.symm,bT,bR]at hb⊢;simpa [dJ,Tm.cs]using hb
   .by_cases hb2:r=b
    .subst hb2;simp only[hb1,e6,e6.symm,e7,e7.symm,bT,bR]at hb⊢;exact hb
    .simp only[hb1,hb2,bR]at hb⊢;by_cases hb3:b6=b
     .subst hb3;rw[hf6]at hb;cases hb
     .by_cases hb4:b7=b
      .subst hb4;rw[hf7]at hb;cases hb
      .simp only[hb3,hb4,bR];exact hb
  ·(try simp only [go_sem,n1,n2,n3,n4,n5,n1.symm,n2.symm,n3.symm,n4.symm,n5.symm,h2,h3,ed,hf6,e6,e6.symm,e6q,e6q.symm,e62,e63,c8])
   rw[oW.eq_def,aF (by simp at c8;omega)]at hk;refine aDf (T:=T) (fin:=fin) (d:=d) (first:=first) (i:=i) (n:=n) (by simp only[fQ,cO,aL,dG,reduceIte,gU,n1,n2,n3,n4,n5,n1.symm,n2.symm,n3.symm,n4.symm,n5.symm,h2,h3,ed,hf6,e6,e6.symm,e6q,e6q.symm,e62,e63]<;>(first|done|rfl|assumption)) hi ?_;cases hw0:T.drop i with
   | nil =>
    rw[hw0]at hk;intro o;simp only[go_sem];exact aO (hk _ o (by repeat (first|exact gA _ _|refine vL ?_ rfl|refine rN ?_ rfl|refine iY ?_ hfree|refine eX ?_|refine dH hq ?_|refine dH hf6 ?_)) (by simp only[fQ,cO,aL,dG,reduceIte,gU,n1,n2,n3,n4,n5,n1.symm,n2.symm,n3.symm,n4.symm,n5.symm,h2,h3,ed,hf6,e6,e6.symm,e6q,e6q.symm,e62,e63]<;>(first|done|rfl|assumption)))
   | cons t0 w0 =>
    rw[hw0]at hk;simp only at hk⊢;cases hb0:t0.begins with
    | true =>
     rw[hb0]at hk;simp only[bT,cE,rP,bR,eR]at hk;simp only[go_sem,n1,n2,n3,n4,n5,n1.symm,n2.symm,n3.symm,n4.symm,n5.symm,h2,h3,ed,hf6,e6,e6.symm,e6q,e6q.symm,e62,e63];refine lD (T:=T) (fin:=fin) (d:=d) (first:=first) (i:=i) (n:=n) (by simp only[fQ,cO,aL,dG,reduceIte,gU,n1,n2,n3,n4,n5,n1.symm,n2.symm,n3.symm,n4.symm,n5.symm,h2,h3,ed,hf6,e6,e6.symm,e6q,e6q.symm,e62,e63]<;>(first|done|rfl|assumption)) hi ?_;rw[hw0];simp only[go_sem];refine aGt t0 ?_;simp only[go_sem];exact aO (hk _ _ (by repeat (first|exact gA _ _|refine vL ?_ rfl|refine rN ?_ rfl|refine iY ?_ hfree|refine eX ?_|refine dH hq ?_|refine dH hf6 ?_)) (by simp only[fQ,cO,aL,dG,reduceIte,gU,n1,n2,n3,n4,n5,n1.symm,n2.symm,n3.symm,n4.symm,n5.symm,h2,h3,ed,hf6,e6,e6.symm,e6q,e6q.symm,e62,e63]<;>(first|done|rfl|assumption)))
    | false =>
     rw[hb0]at hk;simp only[cE,bR]at hk;have hk3:=hk;rw[<-hw0]at hk3;simp only[go_sem,n1,n2,n3,n4,n5,n1.symm,n2.symm,n3.symm,n4.symm,n5.symm,h2,h3,ed,hf6,e6,e6.symm,e6q,e6q.symm,e62,e63];refine IH _ d first i n _ _ (by simp only[fQ,cO,aL,dG,reduceIte,gU,n1,n2,n3,n4,n5,n1.symm,n2.symm,n3.symm,n4.symm,n5.symm,h2,h3,ed,hf6,e6,e6.symm,e6q,e6q.symm,e62,e63]<;>(first|done|rfl|assumption)) hi hn (bB hk3 (λa w m hk2 j hj hjT hw hm=>?_) (λf h o=>?_))
     rotate_left
     .simp only[go_sem];exact aO (h _ o (by repeat (first|exact gA _ _|refine vL ?_ rfl|refine rN ?_ rfl|refine iY ?_ hfree|refine eX ?_|refine dH hq ?_|refine dH hf6 ?_)) (by simp only[fQ,cO,aL,dG,reduceIte,gU,n1,n2,n3,n4,n5,n1.symm,n2.symm,n3.symm,n4.symm,n5.symm,h2,h3,ed,hf6,e6,e6.symm,e6q,e6q.symm,e62,e63]<;>(first|done|rfl|assumption)))
     simp only[go_sem,n1,n2,n3,n4,n5,n1.symm,n2.symm,n3.symm,n4.symm,n5.symm,h2,h3,ed,hf6,e6,e6.symm,e6q,e6q.symm,e62,e63,dJ,Tm.cs];intro b7 hb7;rw[cO]at hb7;obtain⟨e7,hb7⟩:=rO hb7;obtain⟨e76,hb7⟩:=rO hb7;obtain⟨_,hb7⟩:=rO hb7;obtain⟨e7q,hf7⟩:=rO hb7;have e72:=(cJ h2 hf7);have e73:=(cJ h3 hf7);simp only[go_sem,n1,n2,n3,n4,n5,n1.symm,n2.symm,n3.symm,n4.symm,n5.symm,h2,h3,ed,hf6,e6,e6.symm,e6q,e6q.symm,e62,e63,hf7,e7,e7.symm,e7q,e7q.symm,e76,e76.symm,e72,e73];(refine bO (OT.l [0,1,2,3,4,5,6,8] (.pair 7 9)) [] ?_;simp only[go_sem,n1,n2,n3,n4,n5,n1.symm,n2.symm,n3.symm,n4.symm,n5.symm,h2,h3,ed,hf6,e6,e6.symm,e6q,e6q.symm,e62,e63,hf7,e7,e7.symm,e7q,e7q.symm,e76,e76.symm,e72,e73]);refine⟨by decide,?_⟩;refine⟨⟨by rw[iN,aF rfl],λy hy=>?_,by omega⟩,λt ht=>?_⟩
     .simp only[cH]at hy;obtain⟨z,_,rfl⟩:=hy;exact Tm.hz z
     have hft:s.getT t=none:=aDL ht (hfree u rfl) (λ_=>rfl);have hk5:=hk2 j (some t) aC hjT hw hm ⟨by simp only[aI,aG,aH]at hac⊢;omega,h2,h3,hq,⟨n1,n2,n3,n4,n5⟩,λe=>(by cases e),λt' e=>by cases e;exact hft⟩;simp only[iR,dF]at hk5;rw[show(acc++[a]).length=acc.length+1 by simp,dJ a]at hk5;refine aS (s2:=(gs ((s.setO q (.cells 43 [.int .i64 5,.int .i64 0,.str x,.str [],.list (some t) ((acc++[a]).map Tm.enc),.nils])).setO r (bK T fin d first j m)) (some t) (acc.length+1) 43).setL none) hk5 (St.ge.trans (aFP (hfree u rfl)) (aG0 (λb o hb=>?_) (λ_=>rfl)));simp only[aL]at hb⊢;by_cases hb1:q=b
     .subst hb1;simp only[n1,n1.symm,e6q,e6q.symm,e7q,e7q.symm,bT,bR]at hb⊢;simpa [dJ,Tm.cs]using hb
     .by_cases hb2:r=b
      .subst hb2;simp only[hb1,e6,e6.symm,e7,e7.symm,bT,bR]at hb⊢;exact hb
      .simp only[hb1,hb2,bR]at hb⊢;by_cases hb3:b6=b
       .subst hb3;rw[hf6]at hb;cases hb
       .by_cases hb4:b7=b
        .subst hb4;rw[hf7]at hb;cases hb
        .simp only[hb3,hb4,bR];exact hb
end
end
section
section
variable {T:List Tok} {fin:Fault} {d:Dc} {first:Tok} {i n:Nat} {s:St} {r:Nat} {KV Kp:St->A->Prop}
theorem aIO(h:s.getO r=some (bK T fin d first i n))(m:KV s (.bool false)):Den cx 237 [.ptr r 0] KV Kp s:=by
 simp only[go_sem]at h;(refine aR func237 [0,2] ?_;simp only[go_sem,ntmps237,f237]);simp only[go_sem,h];exact aO m
theorem aRi(h:s.getO r=some (bK T fin d first i n))(m:KV s (.str [])):Den cx 238 [.ptr r 0] KV Kp s:=by
 simp only[go_sem]at h;(refine aR func238 [0,2,12] ?_;simp only[go_sem,ntmps238,f238]);simp only[go_sem,h];exact aO m
theorem aKf{α:Type}(fin:Fault)(sep:aD)(one:List α->List Tok->Nat->Rd α):∀(f:Nat) (a:List α) (l:List α) (w:List Tok) (n:Nat) (p:List α->List Tok->Nat->Prop) (b:Fault->Prop),
  (dK fin sep (λacc w n=>(one acc w n).bind λa w n=>.ok (acc++[a]) w n) f a w n).to p b ->
  (dK fin sep (λ(c:List α × List α) w n=>((one c.1 w n).bind λa w n=>Rd.ok (c.1++[a],a) w n).bind λq w n=>.ok (q.1,c.2++[q.2]) w n) f (a,l) w n).to (λc w n=>p c.1 w n) b
 | 0,a,l,w,n,p,b,h=>h
 | f+1,a,l,w,n,p,b,h=>by
  simp only[dK,bX]at h⊢;refine bB h (λx w n h=>?_) (λ_ h=>h);simp only[cG]at h⊢;split
  .rename_i e;rw[aF e]at h;exact aKf fin sep one f (a++[x]) (l++[x]) w.tail n p b h
  .rename_i e;rw[aB e]at h;exact h
theorem aQw(k:Nat)(bg:k<=60)(IH:zY T fin r k)(t:Tok)(ht:t∈T)(hr:s.getO r=some (bK T fin d first i n))(hi:i<=T.length)(hT:TOk T)(hn:n<=2000)
  (hk:(uC false fin first (fU false fin first k) t (T.drop i) n).to (PK T i (λj m=>s.setO r (bK T fin d first j m)) Tm.enc KV) (PB s r Kp)) :
  Den cx 167 [.ptr r 0,t.enc,.int .i64 ((60-k:Nat):Int)] KV Kp s:=by
 simp only[go_sem];(refine aR func167 [0,1,2,3,4,5,6,7,8,9,19,29,47] ?_;simp only[go_sem,ntmps167,f167]);(refine aQ λb3 z=>?_);simp only[go_sem,z];(refine aQ λb4 B=>?_);simp only[go_sem,z,B];(refine aQ λb5 F=>?_);simp only[go_sem,z,B,F];(refine aQ λb6 H=>?_);have S:=cJ hr z;have Z:=cJ hr B.2;have O:=cJ hr F.2.2;have U:=cJ hr H.2.2.2;have bl:=hr;simp only[go_sem]at bl;have br:=hT.len;simp only[go_sem,z,B,F,H,S,Z,O,U];rw[uC.eq_def]at hk;cases c1:decide (t.text=[116,114,117,101]);rotate_left
 .rw[aF (gQ c1),cG]at hk;simp only[go_sem,z,B,F,H,S,Z,O,U,c1];refine aIO (T:=T) (fin:=fin) (d:=d) (first:=first) (i:=i) (n:=n) gH ?_;simp only[go_sem,z,B,F,H,S,Z,O,U,c1];exact DK.mk (hk i (aV _) hi rfl hn) (St.gx.ge aY gH) (Tm.le_leaf _ _ _ _)
 rw[aB (gQ c1)]at hk;simp only[go_sem,z,B,F,H,S,Z,O,U,c1];cases c2:decide (t.text=[102,97,108,115,101]);rotate_left
 .rw[aF (gQ c2),cG]at hk;simp only[go_sem,z,B,F,H,S,Z,O,U,c1,c2];refine aIO (T:=T) (fin:=fin) (d:=d) (first:=first) (i:=i) (n:=n) gH ?_;simp only[go_sem,z,B,F,H,S,Z,O,U,c1,c2];exact DK.mk (hk i (aV _) hi rfl hn) (St.gx.ge aY gH) (Tm.le_leaf _ _ _ _)
 rw[aB (gQ c2)]at hk;simp only[go_sem,z,B,F,H,S,Z,O,U,c1,c2];refine kJ (T:=T) (fin:=fin) (d:=d) (first:=first) (i:=i) (n:=n) _ gH hi hT ?_;cases c3:isT [58] (T.drop i)with
 | true =>
  rw[aF c3,bX,nP]at hk;have b8:=mJ c3;simp only[go_sem,z,B,F,H,S,Z,O,U];(refine bO (OT.r 0 6) [(3,[1])] ?_;simp only[go_sem,z,B,F,H,S,Z,O,U]);refine jJ (T:=T) (fin:=fin) (d:=d) (first:=first) (i:=i+1) (n:=n) gH b8 hT (bB hk (λx w m h b2 hw hm=>?_) (λf h=>PB.mk aY h));subst hm;rw[cG]at h;simp only[go_sem,z,B,F,H,S,Z,O,U];exact DK.mk (h (i+1+1) aC b2 hw hn) (St.gx.ge aY gH) (Tm.le_leaf _ _ _ _)
 | false =>
  rw[aB (by simp[c3]),bX]at hk;simp only[go_sem,z,B,F,H,S,Z,O,U];(refine bO (OT.r 0 8) [(3,[1]),(6,[1,2])] ?_;simp only[go_sem,z,B,F,H,S,Z,O,U]);refine aRi (T:=T) (fin:=fin) (d:=d) (first:=first) (i:=i) (n:=n) gH ?_;simp only[go_sem,z,B,F,H,S,Z,O,U];refine⟨by have:=hT.txt t ht;unfold maxLen;omega,?_⟩;rw[eH];(refine aQ λb7 M=>?_);have e7:=cJ hr M.2.2.2.2;simp only[go_sem,z,B,F,H,S,Z,O,U,M,e7];refine gC (T:=T) (fin:=fin) (d:=d) (first:=first) (i:=i) (n:=n) _ gH hi hT (bB hk (λ_ w m h b8 hw hm=>?_) (λf h=>PB.mk aY h));subst hw hm;simp only[go_sem,z,B,F,H,S,Z,O,U,M,e7];refine kJ (T:=T) (fin:=fin) (d:=d) (first:=first) (i:=i+1) (n:=_) _ gH b8 hT ?_;cases c4:isT [41] (T.drop (i+1))with
  | true =>
   rw[aF c4,cG]at h;have b2:=mJ c4;simp only[go_sem,z,B,F,H,S,Z,O,U,M,e7];refine DK.mk (h (i+1+1) aC b2 bJ hn) (St.gx.ge aY gH) ?_;exact Tm.le_leaf _ _ _ _
  | false =>
   rw[aB (by simp[c4]),bX]at h;simp only[go_sem,z,B,F,H,S,Z,O,U,M,e7]
   refine aFJ (fin:=fin) (σ:=List Tm) (α:=Tm) (X:=Option Nat) (r:=r) Tm.enc Tm.hz Tm.ho hT
    (λs' acc tk i n=>iR T fin d first 5 t.text b7 r s' acc tk i n) (λs' acc tk i=>EntQ b3 b5 b7 r k s' acc tk i) (λacc w n=>(oW false fin first (fU false fin first k) acc w n).bind λa w n=>.ok (acc++[a],a) w n) 239 [] [.ptr b7 0,.ptr b3 0,.ptr b5 0]
    (λs' a x i n=>⟨d,first,aMQ e7.2,aJy⟩) (λs' a x i n t v h ht=>?_) (λs' a x i n t v u ht h=>?_) (λs' a x i n t v ht h=>⟨h.dropT,aJH ht⟩)
    (λs' a x i h=>⟨by have:=h.len;omega,h.h2,h.h3,h.hq,h.ne,h.nil,h.free⟩) (λs' a x i n h=>iY (eX (dH h.hq (gA _ _))) h.free)
    (λs' a x i n bt bv h bn bq bb=>aSE k b3 b5 b7 t.text bg IH hT a x h bn bq (by rw[bX]at bb;exact bB bb (λ_ _ _ h=>h) (λ_ h=>h)))
    [] none (i+1) _ ?_ b8 hn ?_
   .have b0:=ht;rw[aAS]at b0;have hx:x≠some t:=λe=>by rw[aF e]at b0;cases b0
    rw[aB hx]at b0;exact⟨b0,h.setT hx,aJC hx⟩
   .have hx:=h.unT.1;refine⟨by rw[aAS,aB hx,dM,aF rfl],h.dropT.setT hx,aJ4 hx⟩
   .refine⟨aU _,gH,gH,?_,⟨e7.2,?_,?_,S.1,O.1⟩,λ_=>rfl,λt e=>(by cases e)⟩
    .simp only[aL,dG,reduceIte,M]
    .exact M.2.2.2.1.2
    .exact M.2.1.2
   refine bB (aKf _ _ _ _ _ [] _ _ _ _ h) (λc w m2 b9 j y hj bm hw hm hy=>?_) (λf h s1 o hg bj=>h.at (hg.trans aY) bj);obtain⟨l,ul⟩:=c;simp only at b9 hy;subst hw;rw[bX]at b9;have bd:∀t,y=some t->s.getT t=none:=hy.free
   have bp:=hy.nil;simp only[iR];simp only[go_sem,z,B,F,H,S,Z,O,U,M,e7];refine gC (T:=T) (fin:=fin) (d:=d) (first:=first) (i:=j) (n:=m2) _ (by simp only[fQ,cO,aL,dG,reduceIte,gU,z,B,F,H,S,Z,O,U,M,e7]<;>(first|done|rfl|assumption)) bm hT (bB b9 (λ_ w3 m3 bf bc bk bh=>?_) (λf h=>PB.mk (by repeat (first|exact gA _ _|refine iY ?_ bd|refine eX ?_|refine dH z ?_|refine dH B.2 ?_|refine dH F.2.2 ?_|refine dH H.2.2.2 ?_|refine dH M.2.2.2.2 ?_)) h));rw[cG]at bf;subst bh;simp only[go_sem,z,B,F,H,S,Z,O,U,M,e7];refine⟨sU y _,?_⟩;refine DK.mk (bf (j+1) aC bc bk hm) (St.gx.ge (by repeat (first|exact gA _ _|refine iY ?_ bd|refine eX ?_|refine dH z ?_|refine dH B.2 ?_|refine dH F.2.2 ?_|refine dH H.2.2.2 ?_|refine dH M.2.2.2.2 ?_)) (by simp only[fQ,cO,aL,dG,reduceIte,gU,z,B,F,H,S,Z,O,U,M,e7]<;>(first|done|rfl|assumption))) ?_;rw[dJ];exact A.le.agg ⟨⟨bH _,rfl⟩,⟨bH _,rfl⟩,⟨bH _,rfl⟩,⟨bH _,rfl⟩,⟨iQ y _ (λe=>by rw[bp e];rfl),rfl⟩,⟨A.le.nil,rfl⟩,trivial⟩
end
end
section
section
variable {T:List Tok} {fin:Fault} {r:Nat}
theorem aUg(hT:TOk T):∀k,k<=60->zY T fin r k:=by
 intro k
 induction k with
 | zero =>
  intro _ s d first i n KV Kp hr Z hn B
  have b6:decide ((60:Int)<((61:Nat):Int))=true:=by decide
  have b7:decide ((60:Int)<((61-0:Nat):Int))=true:=by decide
  (refine aR func92 [0,1,4,5,10,14,27,28,33,38] ?_;simp only[go_sem,ntmps92,f92]);(refine aQ λb4 y=>?_);have H:=cJ hr y;simp only[go_sem,y,H];refine lD (T:=T) (fin:=fin) (d:=d) (first:=first) (i:=i) (n:=n) gH Z ?_;cases O:T.drop i with
  | nil=>rw[O]at B;exact B.at aY gH
  | cons t w =>
   rw[O]at B;simp only[go_sem,y,H];(refine aQ λb5 z=>?_);have M:=cJ hr z.2;simp only[go_sem,y,H,z,M];refine aDf (T:=T) (fin:=fin) (d:=d) (first:=first) (i:=i) (n:=n) gH Z ?_;rw[O];simp only[fU]at B⊢;cases hb:t.begins with
   | true =>
    rw[hb]at B;simp only[bT,eR]at B;simp only[go_sem,y,H,z,M,b6,b7];refine pH (T:=T) (fin:=fin) (d:=d) (first:=first) (i:=i) (n:=n) 19 gH Z hT ?_;rw[O];exact B.at aY gH
   | false =>
    rw[hb]at B;simp only[cE,bR,eR]at B;simp only[go_sem,y,H,z,M];refine pH (T:=T) (fin:=fin) (d:=d) (first:=first) (i:=i) (n:=n) 11 gH Z hT ?_;rw[O];exact B.at aY gH
 | succ k ih =>
  intro bb s d first i n KV Kp hr Z hn B
  rw[show(61-(k+1):Nat)=60-k by omega];have IH:=ih aC;have b9:=hT.len;have b8:decide ((60:Int)<((60-k:Nat):Int))=false:=by rw[fR];omega
  (refine aR func92 [0,1,4,5,10,14,27,28,33,38] ?_;simp only[go_sem,ntmps92,f92]);(refine aQ λb4 y=>?_);have H:=cJ hr y;simp only[go_sem,y,H];refine lD (T:=T) (fin:=fin) (d:=d) (first:=first) (i:=i) (n:=n) gH Z ?_;cases O:T.drop i with
  | nil=>rw[O]at B;exact B.at aY gH
  | cons t w =>
   rw[O]at B;obtain⟨h1,h2,h3,h4⟩:=mS O;simp only[go_sem,y,H];(refine aQ λb5 z=>?_);have M:=cJ hr z.2;simp only[go_sem,y,H,z,M];refine aDf (T:=T) (fin:=fin) (d:=d) (first:=first) (i:=i) (n:=n) gH Z ?_;rw[O];simp only[fU]at B⊢;cases hb:t.begins with
   | false =>
    rw[hb]at B;simp only[cE,bR,eR]at B;simp only[go_sem,y,H,z,M];refine pH (T:=T) (fin:=fin) (d:=d) (first:=first) (i:=i) (n:=n) 11 gH Z hT ?_;rw[O];exact B.at aY gH
   | true =>
    rw[hb]at B;simp only[bT,bX]at B;simp only[go_sem,y,H,z,M,b8];refine aK0 (T:=T) (fin:=fin) (d:=d) (first:=first) (i:=i) (n:=n) gH hn ?_
    have b3:(pO first (T.drop i) n).to (λ_ w' m0=>w'=T.drop i->m0<=2000->((if t.kind=2 then Rd.ok (Tm.mk 1 t.n [] [] [] []) w m0 else if t.kind=3 then Rd.ok (Tm.mk 3 0 t.text [] [] []) w m0 else if t.kind=1 then uC false fin first (fU false fin first k) t w m0 else nT fin first (fU false fin first k) (decide (k=0)) t w m0)).to (PK T (i+1) (λj m=>s.setO r (bK T fin d first j m)) Tm.enc KV) (PB s r Kp)) (PB s r Kp):=by
     unfold pO at B⊢;split
     .rename_i hc;rw[aF hc]at B;exact B
     .rename_i hc;rw[aB hc]at B;exactλ_ _=>B
    refine bB b3 (λ_ w' m0 F b2 S=>?_) (λf h=>PB.mk aY h);have F:=F b2 S;simp only[go_sem,y,H,z,M,cF i aC]
    (apply aT<;>intro h)<;>simp only[go_sem,h,y,H,z,M]
    .have x2:t.kind=2:=gQ h;rw[aF x2,cG]at F
     (try simp only[go_sem,y,H,z,M])
     exact DK.mk (F (i+1) (aV _) h2 h3 S) (St.gx.ge aY gH) (Tm.le_leaf _ _ _ _)
    have x2:¬ t.kind=2:=gQ h;rw[aB x2]at F
    (try simp only[go_sem,y,H,z,M])
    (apply aT<;>intro h)<;>simp only[go_sem,h,y,H,z,M]
    .have x3:t.kind=3:=gQ h;rw[aF x3,cG]at F
     (try simp only[go_sem,y,H,z,M])
     exact DK.mk (F (i+1) (aV _) h2 h3 S) (St.gx.ge aY gH) (Tm.le_leaf _ _ _ _)
    have x3:¬ t.kind=3:=gQ h;rw[aB x3]at F
    (try simp only[go_sem,y,H,z,M])
    have U:∀(a:Tm) (w:List Tok) (m:Nat),PK T (i+1) (λj m=>s.setO r (bK T fin d first j m)) Tm.enc KV a w m ->
      ∀(j:Nat),i+1<=j->j<=T.length->T.drop j=w->m<=2000->KV (s.setO r (bK T fin d first j m)) (.agg a.cs):=λa w m h j h1 h2 h3 h4=>by
     rw[<-dJ];exact h j h1 h2 h3 h4
    (apply aT<;>intro h)<;>simp only[go_sem,h,y,H,z,M]
    .have x1:t.kind=1:=gQ h;rw[aF x1,<-h3]at F
     (try simp only[go_sem,y,H,z,M])
     refine aQw (T:=T) (fin:=fin) (d:=d) (first:=first) (i:=i+1) (n:=m0) k aC IH t h4 gH h2 hT S (bB F (λa w m h j hj b0 O hm=>?_) (λf h=>PB.mk aY h));have h':=U _ _ _ h j hj b0 O hm;simp only[go_sem]at h';simp only[go_sem,y,H,z,M,dJ];exact aS h' (St.gx.ge aY gH)
    .have x1:¬ t.kind=1:=gQ h;rw[aB x1,<-h3]at F
     (try simp only[go_sem,y,H,z,M])
     refine aPI (T:=T) (fin:=fin) (d:=d) (first:=first) (i:=i+1) (n:=m0) k aC IH t gH h2 hT S h4 (bB F (λa w m h j hj b0 O hm=>?_) (λf h=>PB.mk aY h));have h':=U _ _ _ h j hj b0 O hm;simp only[go_sem]at h';simp only[go_sem,y,H,z,M,dJ];exact aS h' (St.gx.ge aY gH)
end
end
section
section
variable {T:List Tok} {fin:Fault} {d:Dc} {first:Tok} {i n:Nat} {s:St} {r:Nat} {KV Kp:St->A->Prop}
theorem tU(hT:TOk T)(S:s.getO r=some (bK T fin d first i n))(hi:i<=T.length)(hn:n<=2000)
  (hk:(gS false fin (T.drop i) n).to (PK T (i+1) (λj m=>s.setO r (bK T fin d first j m)) Tm.enc KV) (PB s r Kp)):Den cx 41 [.ptr r 0] KV Kp s:=by
 (refine aR func41 [0,2,3,4,5] ?_;simp only[go_sem,ntmps41,f41]);have B:=S;simp only[go_sem]at B;(intro b2 y;try simp only[jE,cO,dG]at y);have M:=cJ S (mD y);simp only[go_sem,B,y,M];(refine bO (OT.r 0 11) [(8,[3,7]),(9,[7])] ?_;simp only[go_sem,B,y,M]);(intro b3 F;try simp only[jE,cO,dG]at F);have U:=cJ S (mD F);simp only[go_sem,B,y,M,F,U]
 have z:(match T.drop i with|t::w=>(match fU false fin t 60 (T.drop i) 0 with|.ok a w _=>Rd.ok a w n|.bad f=>.bad f).to (PK T (i+1) (λj m=>s.setO r (bK T fin d first j m)) Tm.enc KV) (PB s r Kp)|[]=>PB s r Kp fin):=by
  unfold gS at hk;revert hk;cases T.drop i with
  | nil=>exactλh=>h
  | cons t w=>exactλh=>h
 refine lD (T:=T) (fin:=fin) (d:=d) (first:=first) (i:=i) (n:=n) gH hi ?_;cases hw:T.drop i with
 | nil=>rw[hw]at z;exact z.at aY gH
 | cons t w =>
  rw[hw]at z;simp only at z⊢;simp only[go_sem,B,y,M,F,U];refine aUg hT 60 (aV _) _ d t i 0 _ _ gH hi (aU _) ?_;rw[hw];cases ht:fU false fin t 60 (t::w) 0 with
  | bad f=>rw[ht]at z;exact PB.mk aY z
  | ok a w2 m =>
   rw[ht]at z;intro j hj Z b0 hm;have O:=z j hj Z b0 hn;simp only[dJ]at O;simp only[go_sem,B,y,M,F,U];(intro b5 H;try simp only[jE,cO,dG]at H);have e5:=cJ S (mD H);simp only[go_sem,B,y,M,F,U,H,e5];exact aS O (St.gx.ge aY gH)
theorem dZ{s1:St}{f:Fault}(m:s1.gx s r)(h:∀s1 o,s1.gx s r->s1.getO r=some o->Kp s1 (.iface 36 f.enc)):PB s1 r (DK Kp) f:=λo=>aO (h _ o (eX m) (by rw[aL,aF rfl]))
def aCw(fin:Fault)(a:Nat)(w:List Tok)(n:Nat):Rd Tm:=match w with
 | []=>.bad fin
 | t::r=>if t.begins=true then(wD fin a 20 (t::r) n).bind λ_ w n=>gS false fin w n else gS false fin (t::r) n
def sB(T:List Tok)(fin:Fault)(d:Dc)(first:Tok)(h r:Nat)(s:St)(a i n:Nat):St :=
 (s.setO h (.cells 3 [.int .i64 (a:Int)])).setO r (bK T fin d first i n)
structure CndQ (b1 b3 r:Nat) (s:St) (a i:Nat):Prop where
 len:a<=i
 h1:s.getO b1=some (.cells 74 [.ptr r 0])
 h3:s.getO b3=none
 ne:b1≠r/\b3≠r/\b1≠b3
theorem aQT(hT:TOk T)(b1 b3 a:Nat)(hQ:CndQ b1 b3 r s a i)(hi:i<=T.length)(hn:n<=2000)
  (z : (aCw fin a (T.drop i) n).to (fun x w n' => ∀ j,i + 1 ≤ j → j ≤ T.length → T.drop j = w → n' ≤ 2000 → KV (sB T fin d first b3 r s (a + 1) j n') x.enc)
   (λf=>∀s1 o,s1.gx s r->s1.getO r=some o->Kp s1 (.iface 36 f.enc))):Den cx 223 [.ptr b1 0,.ptr b3 0] KV Kp (sB T fin d first b3 r s a i n):=by
 obtain⟨b9,U,h3,B,H,F⟩:=hQ;have b7:=hT.len;(refine aR func223 [0,1,2,4] ?_;simp only[go_sem,ntmps223,f223]);unfold sB;have m1:=B.symm;have m2:=H.symm;have m3:=F.symm;(refine aQ λb2 y=>?_);have e2:=cJ U y.2.2;simp only[go_sem,B,H,F,B.symm,H.symm,F.symm,U,y,e2];refine aDf (T:=T) (fin:=fin) (d:=d) (first:=first) (i:=i) (n:=n) gH hi ?_
 have M:∀(b0:St->A->Prop) (s2:St),s2.gx s r->s2.getO r=some (bK T fin d first i n) ->
   (∀(j:Nat) (x:Tm) (m:Nat),i+1<=j->j<=T.length->m<=2000->(∀w,T.drop j=w->KV (sB T fin d first b3 r s (a+1) j m) x.enc)->b0 (s2.setO r (bK T fin d first j m)) x.enc) ->
   (gS false fin (T.drop i) n).to (fun x w n' => ∀ j,i + 1 ≤ j → j ≤ T.length → T.drop j = w → n' ≤ 2000 → KV (sB T fin d first b3 r s (a + 1) j n') x.enc)
    (λf=>∀s1 o,s1.gx s r->s1.getO r=some o->Kp s1 (.iface 36 f.enc))->Den cx 41 [.ptr r 0] b0 (DK Kp) s2:=by
  intro b0 s2 hg b6 b5 Z;refine tU hT b6 hi hn (bB Z (λx w m h j hj S Z hm=>b5 j x m hj S hm λw' b8=>?_) (λf h=>dZ hg h));exact h j hj S Z hm
 cases Z:T.drop i with
 | nil=>rw[Z]at z;exact dZ aY z
 | cons t w =>
  rw[Z]at z M;simp only[aCw]at z⊢;cases hb:t.begins with
  | true =>
   rw[hb]at z;simp only[bT,bX,wD]at z;simp only[go_sem,B,H,F,B.symm,H.symm,F.symm,U,y,e2];refine nS (T:=T) (fin:=fin) (d:=d) (first:=first) (i:=i) (n:=n) _ _ gH hi ?_;by_cases b4:20<=a
   .rw[aF b4]at z;rw[aF aC,Z];exact dZ aY z
   .rw[aB b4,cG]at z;rw[aB aC];simp only[go_sem,B,H,F,B.symm,H.symm,F.symm,U,y,e2,cF a aC];refine M _ _ aY gH (λj x m hj S hm h=>?_) z;have O:=h _ rfl;simp only[dJ,sB]at O;simp only[go_sem,B,H,F,B.symm,H.symm,F.symm,U,y,e2,dJ];exact aS O bC
  | false =>
   rw[hb]at z;simp only[cE,bR]at z;simp only[go_sem,B,H,F,B.symm,H.symm,F.symm,U,y,e2,cF a aC];refine M _ _ aY gH (λj x m hj S hm h=>?_) z;have O:=h _ rfl;simp only[dJ,sB]at O;simp only[go_sem,B,H,F,B.symm,H.symm,F.symm,U,y,e2,dJ];exact aS O bC
theorem aJt{α:Type}(fin:Fault)(sep:aD)(one:List α->List Tok->Nat->Rd α):∀(f:Nat) (a:List α) (w:List Tok) (n:Nat) (p:List α->List Tok->Nat->Prop) (b:Fault->Prop),
  (dK fin sep (λacc w n=>(one acc w n).bind λa w n=>.ok (acc++[a]) w n) f a w n).to p b ->
  (dK fin sep (λ(c:List α × List α) w n=>((one c.1 w n).bind λa w n=>Rd.ok (c.1++[a],a) w n).bind λq w n=>.ok (q.1,c.2++[q.2]) w n) f (a,a) w n).to (λc w n=>c.1=c.2/\p c.2 w n) b
 | 0,a,w,n,p,b,h=>h
 | f+1,a,w,n,p,b,h=>by
  simp only[dK,bX]at h⊢;refine bB h (λx w n h=>?_) (λ_ h=>h);simp only[cG]at h⊢;split
  .rename_i e;rw[aF e]at h;exact aJt fin sep one f (a++[x]) w.tail n p b h
  .rename_i e;rw[aB e]at h;exact⟨rfl,h⟩
theorem aQy(w:List Tok)(n:Nat):qT false fin w n=if isT [105,102] w=true then kP fin (λacc w n=>aCw fin acc.length w n) [] w.tail n else .ok [] w n:=by
 unfold qT aCw;split
 .congr 1
 .rfl
theorem aJI(hT:TOk T)(hr:s.getO r=some (bK T fin d first i n))(hi:i<=T.length)(hn:n<=2000)
  (M:(qT false fin (T.drop i) n).to (PK T i (λj m=>s.setO r (bK T fin d first j m)) (λl=>.list none (l.map Tm.enc)) KV) (PB s r Kp)):Den cx 153 [.ptr r 0] KV Kp s:=by
 rw[aQy]at M;(refine aR func153 [0,1,2,3,6] ?_;simp only[go_sem,ntmps153,f153]);(intro b1 z;try simp only[jE,cO,dG]at z);have H:=cJ hr (mD z);simp only[go_sem,z,H];refine kJ (T:=T) (fin:=fin) (d:=d) (first:=first) (i:=i) (n:=n) _ gH hi hT ?_;cases c:isT [105,102] (T.drop i)with
 | false =>
  rw[aB (by simp[c]),cG]at M;simp only[go_sem,z,H];exact DK.mk (M i (aV _) hi rfl hn) (St.gx.ge aY gH) A.le.nil
 | true =>
  rw[aF c,nP]at M;have Z:=mJ c;simp only[go_sem,z,H];(intro S B;try simp only[jE,cO,dG]at B);have e3:=cJ hr (mD B);simp only[go_sem,z,H,B,e3]
  refine iJ (s':=sB T fin d first S r (s.setO b1 (.cells 74 [.ptr r 0])) 0 (i+1) n) ?_ (aFJ (fin:=fin) (σ:=List Tm) (α:=Tm) (X:=Unit) (r:=r) Tm.enc Tm.hz Tm.ho hT
    (λs' acc _ i n=>sB T fin d first S r s' acc.length i n) (λs' acc _ i=>CndQ b1 S r s' acc.length i) (λacc w n=>(aCw fin acc.length w n).bind λa w n=>.ok (acc++[a],a) w n) 223 [] [.ptr b1 0,.ptr S 0]
    (λs' a x i n=>⟨d,first,by unfold sB;rw[aL,aF rfl],by unfold sB;rw[nR];exact aM _⟩) (λs' a x i n t v h U=>⟨U,⟨h.len,h.h1,h.h3,h.ne⟩,aM _⟩)
    (λs' a x i n t v u U h=>⟨?_,⟨h.len,h.h1,h.h3,h.ne⟩,?_⟩) (λs' a x i n t v U h=>⟨⟨h.len,h.h1,h.h3,h.ne⟩,?_⟩)
    (λs' a x i h=>⟨by have:=h.len;omega,h.h1,h.h3,h.ne⟩) (λs' a x i n h=>eX (dH h.h3 (gA _ _)))
    (λs' a x i n b6 b5 h b0 b2 O=>aQT hT b1 S a.length h b0 b2 ?_)
    [] () (i+1) n ?_ Z hn ?_)
  .exact bC
  .show(s'.setT t v).getT t=some v;rw[dM,aF rfl]
  .exact rM (rM (aCZ s' t v u))
  .exact rM (rM (yL U))
  .rw[bX]at O;refine bB O (λx w m h2 j hj F hw hm=>?_) (λ_ h=>h);have h3:=h2 j () aC F hw hm ⟨by have:=h.len;simp only[aI,aG,aH];omega,h.h1,h.h3,h.ne⟩;simpa only[aI,aG,aH]using h3
  .refine⟨aU _,gH,?_,?_⟩
   .simp only[aL,dG,reduceIte,B]
   .simp only[B,H,e3,dG,gU,kS,sQ]
  .refine bB (aJt _ _ _ _ _ _ _ _ _ M) (λc w m h2 j y hj F hw hm hy=>?_) (λf h s1 o hg b4=>h.at (hg.trans aY) b4);obtain⟨l,ul⟩:=c;obtain⟨e,h2⟩:=h2;simp only at e h2;subst e;have h3:=h2 j aC F hw hm;unfold sB;simp only[go_sem,z,H,B,e3];exact aS h3 bC
end
end
section
section
variable {T:List Tok} {fin:Fault} {d:Dc} {first:Tok} {i n:Nat} {s:St} {r:Nat} {KV Kp:St->A->Prop}
theorem aDF(hT:TOk T)(hr:s.getO r=some (bK T fin d first i n))(hi:i<=T.length)(hn:n<=2000)
  (F:(pQ false fin (T.drop i) n).to (PK T (i+1) (λj m=>s.setO r (bK T fin d first j m)) Cel.enc KV) (PB s r Kp)):Den cx 226 [.ptr r 0] KV Kp s:=by
 (refine aR func226 [0,2,3,4] ?_;simp only[go_sem,ntmps226,f226]);(intro b2 y;try simp only[jE,cO,dG]at y);have H:=cJ hr (mD y);simp only[go_sem,y,H];refine lD (T:=T) (fin:=fin) (d:=d) (first:=first) (i:=i) (n:=n) gH hi ?_;cases hw:T.drop i with
 | nil=>rw[hw]at F;exact F.at aY gH
 | cons t w =>
  rw[hw]at F;obtain⟨g1,g2,g3,g4⟩:=mS hw;simp only[pQ,bX]at F;simp only[go_sem,y,H];(intro b3 z;try simp only[jE,cO,dG]at z);have M:=cJ hr (mD z);simp only[go_sem,y,H,z,M];(refine bO (OT.l [0,2,3,4,5,1,6,7,8] .nil) [(1,[3,5]),(7,[3,5])] ?_;simp only[go_sem,y,H,z,M]);rw[<-hw]at F;(refine jJ (T:=T) (fin:=fin) (d:=d) (first:=first) (i:=i) (n:=n) gH hi hT (bB F (λx1 w1 m1 S b0 bd bm=>?_) (λf h=>PB.mk aY h));subst m1;rw[<-bd]at S);simp only[go_sem,y,H,z,M];(intro b4 B;try simp only[jE,cO,dG]at B);have e4:=cJ hr (mD B);simp only[go_sem,y,H,z,M,B,e4];(refine gC (T:=T) (fin:=fin) (d:=d) (first:=first) (i:=i+1) (n:=n) _ gH b0 hT (bB S (λ_ w2 m2 b8 b7 bh bl=>?_) (λf h=>PB.mk aY h));subst m2;rw[<-bh]at b8);simp only[go_sem,y,H,z,M,B,e4];(refine jJ (T:=T) (fin:=fin) (d:=d) (first:=first) (i:=i+1+1) (n:=n) gH b7 hT (bB b8 (λx3 w3 m3 O b9 bc bj=>?_) (λf h=>PB.mk aY h));subst m3;rw[<-bc]at O);simp only[go_sem,y,H,z,M,B,e4];(refine gC (T:=T) (fin:=fin) (d:=d) (first:=first) (i:=i+1+1+1) (n:=n) _ gH b9 hT (bB O (λ_ w4 m4 b6 Z bg bn=>?_) (λf h=>PB.mk aY h));subst m4;rw[<-bg]at b6);simp only[go_sem,y,H,z,M,B,e4];(refine tU (T:=T) (fin:=fin) (d:=d) (first:=first) (i:=i+1+1+1+1) (n:=n) hT gH Z hn (bB b6 (λa5 w5 m5 b5 j5 bk U bb bf=>?_) (λf h=>PB.mk aY h));rw[<-bb]at b5);have F:=b5 j5 aC U rfl bf;simp only[Cel.enc,Cel.cs]at F;simp only[go_sem]at F;simp only[go_sem,y,H,z,M,B,e4,dJ];exact aS F bC
def aBv(T:List Tok)(fin:Fault)(d:Dc)(first:Tok)(b r:Nat)(x:aD)(s:St)(tk:Option Nat)(h:List aD)(i n:Nat):St :=
 gs ((s.setO b (.cells 73 [.str x,gv tk (h.map .str),.str [],.nils,.int .i64 0,.int .i64 0,.nils])).setO r (bK T fin d first i n)) tk h.length 9
theorem aTl(hT:TOk T)(hr:s.getO r=some (bK T fin d first i n))(hi:i<=T.length)(hn:n<=2000)
  (hk:(xY fin (T.drop i) n).to (PK T i (λj m=>s.setO r (bK T fin d first j m)) Opr.enc KV) (PB s r Kp)):Den cx 152 [.ptr r 0] KV Kp s:=by
 have br:=hT.len;simp only[xY,bX]at hk;(refine aR func152 [0,2,3,4,13,24] ?_;simp only[go_sem,ntmps152,f152]);(intro b2 z;try simp only[jE,cO,dG]at z);have H:=cJ hr (mD z);simp only[go_sem,z,H];(refine jJ (T:=T) (fin:=fin) (d:=d) (first:=first) (i:=i) (n:=n) gH hi hT (bB hk (λx1 w1 m1 bd bg bn bw=>?_) (λf h=>PB.mk aY h));subst m1;rw[<-bn]at bd);simp only[go_sem,z,H];(intro b3 B;try simp only[jE,cO,dG]at B);have O:=cJ hr (mD B);simp only[go_sem,z,H,B,O];(refine gC (T:=T) (fin:=fin) (d:=d) (first:=first) (i:=i+1) (n:=n) _ gH bg hT (bB bd (λ_ w2 m2 bc bj bl bv=>?_) (λf h=>PB.mk aY h));subst m2;rw[<-bl]at bc);simp only[go_sem,z,H,B,O];rw[show(T.drop (i+1+1)).length=T.length-(i+1+1)by rw[eC]]at bc
 refine Ex.loop (ι:=Option Nat × List aD × Nat) (λc=>[(0,.ptr r 0),(2,.ptr b2 0),(3,.ptr b3 0)]) (λc=>aBv T fin d first b3 r x1 (s.setO b2 (.cells 73 [.str [],.nils,.str [],.nils,.int .i64 0,.int .i64 0,.nils])) c.1 c.2.1 c.2.2 n)
  (fun c => (c.1 = none → c.2.1 = []) ∧ (∀ t,c.1 = some t → s.getT t = none) ∧ i + 1 + 1 ≤ c.2.2 ∧ c.2.2 ≤ T.length ∧ c.2.1.length ≤ c.2.2 ∧ ∃ k,T.length - c.2.2 < k ∧
   (nF fin k c.2.1 (T.drop c.2.2) n).to (λar w n=>(eU fin w n).to (λy w n=>PK T i (λj m=>s.setO r (bK T fin d first j m)) Opr.enc KV ⟨x1,ar,y,[],0,0,[]⟩ w n) (PB s r Kp)) (PB s r Kp))
  (λc=>T.length-c.2.2) (none,[],i+1+1) ?_ ?_ ?_ ?_
 .exact⟨λ_=>rfl,λt e=>(by cases e),aV _,bj,aU _,_,iD _,bc⟩
 .simp only[go_sem,z,H,B,O]
 .exact bC
 .rintro⟨tk,ar,i2⟩ ⟨S,U,bk,b6,has,k,bq,M⟩;simp only at S U bk b6 has bq M;obtain⟨k,rfl⟩:∃k',k=k'+1:=⟨k-1,by omega⟩
  have hg:oF (aBv T fin d first b3 r x1 (s.setO b2 (.cells 73 [.str [],.nils,.str [],.nils,.int .i64 0,.int .i64 0,.nils])) tk ar i2 n) tk (ar.map A.str).length 9:=by rw[aK];exact iU λe=>by rw[S e];rfl
  refine bE (V:=[0,2,3,4,13,24]) _ _ _ _ ?_;unfold aBv;simp only[go_sem,z,H,B,O];refine kJ (T:=T) (fin:=fin) (d:=d) (first:=first) (i:=i2) (n:=n) _ gH b6 hT ?_;cases hx:isT [45,62] (T.drop i2)with
  | true =>
   rw[nF,aF hx,cG,nP]at M;have bp:=mJ hx;simp only[go_sem,z,H,B,O];(refine jJ (T:=T) (fin:=fin) (d:=d) (first:=first) (i:=i2+1) (n:=n) gH bp hT (bB M (λx5 w5 m5 b0 bf bm bt=>?_) (λf h=>PB.mk aY h));subst m5;rw[<-bm]at b0);simp only[go_sem,z,H,B,O];have hk:=b0 (i2+1+1) aC bf rfl hn;simp only[Opr.enc,Opr.cs]at hk;simp only[go_sem]at hk;refine⟨sU _ _,?_⟩;refine DK.mk hk bC ?_;exact A.le.agg ⟨⟨bH _,rfl⟩,⟨iQ _ _ (λe=>by rw[S e];rfl),rfl⟩,⟨bH _,rfl⟩,⟨A.le.nil,rfl⟩,⟨bH _,rfl⟩,⟨bH _,rfl⟩,⟨A.le.nil,rfl⟩,trivial⟩
  | false =>
   simp only[go_sem,z,H,B,O];refine lD (T:=T) (fin:=fin) (d:=d) (first:=first) (i:=i2) (n:=n) gH b6 ?_;cases hw:T.drop i2 with
   | nil=>rw[hw,nF,aB (by simp[isT])]at M;exact M.at aY gH
   | cons t w =>
    obtain⟨g1,g2,g3,g4⟩:=mS hw;rw[hw,nF,aB (by rw[<-hw,hx];simp),bX]at M;simp only[go_sem,z,H,B,O];(intro b4 F;try simp only[jE,cO,dG]at F);have e4:=cJ hr (mD F);simp only[go_sem,z,H,B,O,F,e4]
    have b7:(t.free=true->¬ 8<=ar.length)->(eU fin (T.drop i2) n).to (λa w n=>(nF fin k (ar++[a]) w n).to (λar w n =>
      (eU fin w n).to (λy w n=>PK T i (λj m=>s.setO r (bK T fin d first j m)) Opr.enc KV ⟨x1,ar,y,[],0,0,[]⟩ w n) (PB s r Kp)) (PB s r Kp)) (PB s r Kp):=λh=>by
     rw[hw];simp only[mK]at M;rw[aB (λhc=>h hc.1 hc.2)]at M;exact M
    cases c1:decide (t.kind=1)
    .have b0:=b7 (λhf=>by simp[Tok.free,c1]at hf);simp only[go_sem,z,H,B,O,F,e4,c1];(refine bO (OT.r 0 8) [(3,[1])] ?_;simp only[go_sem,z,H,B,O,F,e4]);(refine jJ (T:=T) (fin:=fin) (d:=d) (first:=first) (i:=i2) (n:=n) gH b6 hT (bB b0 (λx6 w6 m6 b5 bb b9 bh=>?_) (λf h=>PB.mk aY h));subst m6;rw[<-b9]at b5);simp only[go_sem,z,H,B,O,F,e4];refine⟨by decide,λy Z=>by simp only[cC]at Z;subst Z;rfl,eI rfl rfl (by rw[aK];exact iU λe=>by rw[S e];rfl) (λy Z=>?_) (by simp only[aK,aG,aH];omega) (λt ht=>?_)⟩
     .simp only[cH]at Z;obtain⟨q,_,rfl⟩:=Z;rfl
     have b8:=gI ht U;rw[fY ht];simp only[go_sem,z,H,B,O,F,e4];refine⟨(some t,ar++[x6],i2+1),⟨λe=>(by cases e),λt' e=>by cases e;exact b8,aP,aP,by simp only[aI,aG,aH];omega,k,aP,b5⟩,aP,?_⟩
     .simp only[aBv,dF,cN,bN,dI,aI,aG,aH,aK];exact bC
    simp only[go_sem,z,H,B,O,F,e4,c1];refine vF _ _ _ _ ?_;simp only[go_sem,z,H,B,O,F,e4];cases c2:decide (t.text∈iM);rotate_left
    .have b0:=b7 (λhf=>by simp[Tok.free,c2]at hf);simp only[go_sem,z,H,B,O,F,e4,c2];(refine bO (OT.r 0 8) [(3,[1])] ?_;simp only[go_sem,z,H,B,O,F,e4]);(refine jJ (T:=T) (fin:=fin) (d:=d) (first:=first) (i:=i2) (n:=n) gH b6 hT (bB b0 (λx6 w6 m6 b5 bb b9 bh=>?_) (λf h=>PB.mk aY h));subst m6;rw[<-b9]at b5);simp only[go_sem,z,H,B,O,F,e4];refine⟨by decide,λy Z=>by simp only[cC]at Z;subst Z;rfl,eI rfl rfl (by rw[aK];exact iU λe=>by rw[S e];rfl) (λy Z=>?_) (by simp only[aK,aG,aH];omega) (λt ht=>?_)⟩
     .simp only[cH]at Z;obtain⟨q,_,rfl⟩:=Z;rfl
     have b8:=gI ht U;rw[fY ht];simp only[go_sem,z,H,B,O,F,e4];refine⟨(some t,ar++[x6],i2+1),⟨λe=>(by cases e),λt' e=>by cases e;exact b8,aP,aP,by simp only[aI,aG,aH];omega,k,aP,b5⟩,aP,?_⟩
     .simp only[aBv,dF,cN,bN,dI,aI,aG,aH,aK];exact bC
    simp only[go_sem,z,H,B,O,F,e4,c2,qO hg];refine nS (T:=T) (fin:=fin) (d:=d) (first:=first) (i:=i2) (n:=n) _ _ gH b6 ?_;by_cases h8:8<=ar.length
    .rw[aF aC,hw];simp only[mK]at M;rw[aF ⟨by simp[Tok.free,c1,c2],h8⟩]at M;exact PB.mk aY M
    rw[aB aC];have b0:=b7 (λ_=>h8);simp only[go_sem,z,H,B,O,F,e4];(refine bO (OT.r 0 8) [(3,[1])] ?_;simp only[go_sem,z,H,B,O,F,e4]);(refine jJ (T:=T) (fin:=fin) (d:=d) (first:=first) (i:=i2) (n:=n) gH b6 hT (bB b0 (λx6 w6 m6 b5 bb b9 bh=>?_) (λf h=>PB.mk aY h));subst m6;rw[<-b9]at b5);simp only[go_sem,z,H,B,O,F,e4];refine⟨by decide,λy Z=>by simp only[cC]at Z;subst Z;rfl,eI rfl rfl (by rw[aK];exact iU λe=>by rw[S e];rfl) (λy Z=>?_) (by simp only[aK,aG,aH];omega) (λt ht=>?_)⟩
    .simp only[cH]at Z;obtain⟨q,_,rfl⟩:=Z;rfl
    have b8:=gI ht U;rw[fY ht];simp only[go_sem,z,H,B,O,F,e4];refine⟨(some t,ar++[x6],i2+1),⟨λe=>(by cases e),λt' e=>by cases e;exact b8,aP,aP,by simp only[aI,aG,aH];omega,k,aP,b5⟩,aP,?_⟩
    .simp only[aBv,dF,cN,bN,dI,aI,aG,aH,aK];exact bC
end
end
section
def nv(es:List A):A:=match es with
 | []=>.nils
 | x::l=>.list none (x::l)
@[go_sem] theorem aW4(es:List A):(nv es).cells=[nv es]:=by cases es<;>rfl
@[go_sem] theorem aXT(es:List A):(nv es).one=true:=by cases es<;>rfl
@[go_sem] theorem aXI(s:St)(es:List A):kB s (nv es)=nv es:=by cases es<;>rfl
@[go_sem] theorem aXm(es:List A):nJ (nv es)=some (.int .i64 es.length):=by cases es<;>rfl
theorem aNd(es:List A):A.le (nv es) (.list none es):=by
 cases es with
 | nil=>exact A.le.nil
 | cons x l=>exact bH _
def opC(o:Opr)(m h:A):List A:=[.str o.name,m,.str o.sort,h,.int .i64 o.prec,.int .i64 o.assoc,nv (o.strict.map (.int .i64))]
attribute [go_sem] opC
theorem aKp{α:Type}(fin:Fault)(sep:aD)(one:List α->List Tok->Nat->Rd α):∀(f:Nat) (a:List α) (w:List Tok) (n:Nat) (p:List α->List Tok->Nat->Prop) (b:Fault->Prop),
  (dK fin sep (λacc w n=>(one acc w n).bind λa w n=>.ok (acc++[a]) w n) f a w n).to p b ->
  (dK fin sep (λacc w n=>(one acc w n).bind λa w n=>.ok (acc++[a]) w n) f a w n).to (λl w n=>l≠[]/\p l w n) b
 | 0,a,w,n,p,b,h=>h
 | f+1,a,w,n,p,b,h=>by
  simp only[dK,bX]at h⊢;refine bB h (λx w n h=>?_) (λ_ h=>h);simp only[cG]at h⊢;split
  .rename_i e;rw[aF e]at h;exact aKp fin sep one f (a++[x]) w.tail n p b h
  .rename_i e;rw[aB e]at h;exact⟨by simp,h⟩
section
variable {T:List Tok} {fin:Fault} {d:Dc} {first:Tok} {i n:Nat} {s:St} {r:Nat} {KV Kp:St->A->Prop}
theorem aHI{s1:St}{L M:List Nat}{f:Fault}(y:r∈L)(m:s1.gel s L M)(h:∀s1 o,s1.gel s L M->s1.getO r=some o->Kp s1 (.iface 36 f.enc)):PB s1 r (DK Kp) f :=
 λo=>aO (h _ o (aCt y m) (by rw[aL,aF rfl]))
theorem aPS(M:TOk T)(y:Nat)(B:s.getO r=some (bK T fin d first i n))(h2:s.getO y=some (.cells 74 [.ptr r 0]))(H:i<=T.length)
  (F:(sR fin 8 (T.drop i) n).to (λx w z=>i+1<=T.length->T.drop (i+1)=w->z=n->KV (s.setO r (bK T fin d first (i+1) n)) (.int .i64 x)) (PB s r Kp)):Den cx 283 [.ptr y 0] KV Kp s:=by
 (refine aR func283 [0,1] ?_;simp only[go_sem,ntmps283,f283]);simp only[go_sem,h2];refine aI2 8 B H M (bB F (λx w m h a b c=>?_) (λf h=>PB.mk (gA _ _) h));simp only[go_sem];exact aO (h a b c)
theorem aKc(hT:TOk T)(b:Nat)(aA pA:A)(S:aA.one=true)(O:pA.one=true)(o:Opr)(k:Nat)(hr:s.getO r=some (bK T fin d first i n))(hb:s.getO b=some (.cells 73 (opC o aA pA)))(y:b≠r)(hi:i<=T.length)(hn:n<=2000)(bj:T.length-i<k)
  (hk : (jB fin k o (T.drop i) n).to (fun o' w n' => ∀ j,i ≤ j → j ≤ T.length → T.drop j = w → n' ≤ 2000 → KV ((s.setO b (.cells 73 (opC o' aA pA))).setO r (bK T fin d first j n')) (.tuple []))
   (λf=>∀s1 x,s1.gel s [b,r] []->s1.getO r=some x->Kp s1 (.iface 36 f.enc))):Den cx 221 [.ptr r 0,.ptr b 0] KV Kp s:=by
 have bn:=hT.len;(refine aR func221 [0,1,2,4,7,11,14,21,63,74,87,94,99] ?_;simp only[go_sem,ntmps221,f221]);(intro b2 B;try simp only[jE,cO,dG]at B);have M:=cJ hr (mD B);have F:=cJ hb B;have br:=y.symm;simp only[go_sem,B,M,y,y.symm,F,S,O]
 refine Ex.loop (ι:=Opr × Nat × Nat × Nat) (λc=>[(0,.ptr r 0),(1,.ptr b 0),(2,.ptr b2 0)]) (λc=>((s.setO b2 (.cells 74 [.ptr r 0])).setO b (.cells 73 (opC c.1 aA pA))).setO r (bK T fin d first c.2.1 c.2.2.1))
  (fun c => i ≤ c.2.1 ∧ c.2.1 ≤ T.length ∧ c.2.2.1 ≤ 2000 ∧ T.length - c.2.1 < c.2.2.2 ∧ (jB fin c.2.2.2 c.1 (T.drop c.2.1) c.2.2.1).to (fun o' w n' => ∀ j,i ≤ j → j ≤ T.length → T.drop j = w → n' ≤ 2000 → KV ((s.setO b (.cells 73 (opC o' aA pA))).setO r (bK T fin d first j n')) (.tuple []))
   (λf=>∀s1 x,s1.gel s [b,r] []->s1.getO r=some x->Kp s1 (.iface 36 f.enc)))
  (λc=>T.length-c.2.1) (o,i,n,k) ?_ ?_ ?_ ?_
 .exact⟨aV _,hi,hn,bj,hk⟩
 .simp only[go_sem,B,M,y,y.symm,F,S,O]
 .refine qV (xK ?_ (xK ?_ (zE _ _ _)))
  .rw[aL,aB M.2];exact hr
  .rw[aL,aB F.2];exact hb
 .rintro⟨o,i2,n,k⟩ ⟨b9,b0,hn,bk,z⟩;simp only at b9 b0 hn bk z;obtain⟨k,rfl⟩:∃k',k=k'+1:=⟨k-1,by omega⟩
  have b6:r∈[b,r]:=by simp
  refine bE (V:=[0,1,2,4,7,11,14,21,63,74,87,94,99]) _ _ _ _ ?_;simp only[go_sem,B,M,y,y.symm,F,S,O];refine oR (T:=T) (fin:=fin) (d:=d) (first:=first) (i:=i2) (n:=n) _ gH b0 ?_;rw[jB.eq_def]at z;simp only at z;cases hx:isT [46] (T.drop i2)with
  | true =>
   rw[aF hx,cG]at z;simp only[go_sem,B,M,y,y.symm,F,S,O];exact aS (z i2 b9 b0 rfl hn) bC
  | false =>
   rw[aB (by rw[hx];simp)]at z;simp only[go_sem,B,M,y,y.symm,F,S,O];refine lD (T:=T) (fin:=fin) (d:=d) (first:=first) (i:=i2) (n:=n) gH b0 ?_;cases hw:T.drop i2 with
   | nil=>rw[hw]at z;exact aO (z _ (bK T fin d first i2 n) nA gH)
   | cons t w =>
    obtain⟨g1,g2,g3,g4⟩:=mS hw;rw[hw]at z;simp only at z;simp only[go_sem,B,M,y,y.symm,F,S,O];(refine aQ λb4 H=>?_);simp only[go_sem,B,M,y,y.symm,F,S,O,H]
    have bad:∀(b8:St->A->Prop) (c:Int) (s1:St),s1.gel s [b,r] []->s1.getO r=some (bK T fin d first i2 n)->(∀s1 x,s1.gel s [b,r] []->s1.getO r=some x->Kp s1 (.iface 36 (gK fin c (t::w)).enc))->Den cx 42 [.ptr r 0,.int .i64 c] b8 (DK Kp) s1:=by
     intro b8 c s1 bg b5 hf;refine pH c b5 b0 hT ?_;rw[hw];exact aO (hf _ _ bg b5)
    by_cases x1:t.text=[112,114,101,99]
    .have d1:decide (t.text=[112,114,101,99])=true:=by rw[x1];rfl
     have d2:decide (t.text=[108,101,102,116])=false:=by rw[x1];rfl
     have d3:decide (t.text=[114,105,103,104,116])=false:=by rw[x1];rfl
     have Z:decide (t.text=[115,116,114,105,99,116])=false:=by rw[x1];rfl
     simp only[go_sem,B,M,y,y.symm,F,S,O,H,d1,d2,d3,Z];cases U:decide (t.kind=1)
     .rw[aF (gQ U),eR]at z;simp only[go_sem,B,M,y,y.symm,F,S,O,H,U];exact bad _ _ _ nA gH z
     rw[aB (gQ U),aF x1]at z;simp only[go_sem,B,M,y,y.symm,F,S,O,H,U,d1,d2,d3,Z];cases c2:decide (0<o.prec)
     .rw[aB (gQ c2),bX,<-g3]at z;simp only[go_sem,B,M,y,y.symm,F,S,O,H,U,c2,d1,d2,d3,Z,cF i2 aC];refine aI2 (T:=T) (fin:=fin) (d:=d) (first:=first) (i:=i2+1) (n:=n) 20 gH g2 hT (bB z (λx w m b3 bt hw hm=>?_) (λf h=>aHI b6 nA h));subst m;rw[<-hw]at b3;simp only[go_sem,B,M,y,y.symm,F,S,O,H];refine⟨({ o with prec:=x },i2+1+1,n,k),⟨aP,aP,hn,aP,b3⟩,aP,bC⟩
     .rw[aF (gQ c2),eR]at z;simp only[go_sem,B,M,y,y.symm,F,S,O,H,U,c2,d1,d2,d3,Z];exact bad _ _ _ nA gH z
    by_cases x2:t.text=[108,101,102,116]
    .have d1:decide (t.text=[112,114,101,99])=false:=by rw[x2];rfl
     have d2:decide (t.text=[108,101,102,116])=true:=by rw[x2];rfl
     have d3:decide (t.text=[114,105,103,104,116])=false:=by rw[x2];rfl
     have Z:decide (t.text=[115,116,114,105,99,116])=false:=by rw[x2];rfl
     simp only[go_sem,B,M,y,y.symm,F,S,O,H,d1,d2,d3,Z];cases U:decide (t.kind=1)
     .rw[aF (gQ U),eR]at z;simp only[go_sem,B,M,y,y.symm,F,S,O,H,U];exact bad _ _ _ nA gH z
     rw[aB (gQ U),aB x1,aF x2]at z;simp only[go_sem,B,M,y,y.symm,F,S,O,H,U,d1,d2,d3,Z];cases c2:decide (o.assoc=0)
     .rw[aB (gQ c2),eR]at z;simp only[go_sem,B,M,y,y.symm,F,S,O,H,U,c2,d1,d2,d3,Z];exact bad _ _ _ nA gH z
     .rw[aF (gQ c2),<-g3]at z;simp only[go_sem,B,M,y,y.symm,F,S,O,H,U,c2,d1,d2,d3,Z,cF i2 aC];refine⟨({ o with assoc:=1 },i2+1,n,k),⟨aP,aP,hn,aP,z⟩,aP,bC⟩
    by_cases x3:t.text=[114,105,103,104,116]
    .have d1:decide (t.text=[112,114,101,99])=false:=by rw[x3];rfl
     have d2:decide (t.text=[108,101,102,116])=false:=by rw[x3];rfl
     have d3:decide (t.text=[114,105,103,104,116])=true:=by rw[x3];rfl
     have Z:decide (t.text=[115,116,114,105,99,116])=false:=by rw[x3];rfl
     simp only[go_sem,B,M,y,y.symm,F,S,O,H,d1,d2,d3,Z];cases U:decide (t.kind=1)
     .rw[aF (gQ U),eR]at z;simp only[go_sem,B,M,y,y.symm,F,S,O,H,U];exact bad _ _ _ nA gH z
     rw[aB (gQ U),aB x1,aB x2,aF x3]at z;simp only[go_sem,B,M,y,y.symm,F,S,O,H,U,d1,d2,d3,Z];cases c2:decide (o.assoc=0)
     .rw[aB (gQ c2),eR]at z;simp only[go_sem,B,M,y,y.symm,F,S,O,H,U,c2,d1,d2,d3,Z];exact bad _ _ _ nA gH z
     .rw[aF (gQ c2),<-g3]at z;simp only[go_sem,B,M,y,y.symm,F,S,O,H,U,c2,d1,d2,d3,Z,cF i2 aC];refine⟨({ o with assoc:=2 },i2+1,n,k),⟨aP,aP,hn,aP,z⟩,aP,bC⟩
    by_cases x4:t.text=[115,116,114,105,99,116]
    .have d1:decide (t.text=[112,114,101,99])=false:=by rw[x4];rfl
     have d2:decide (t.text=[108,101,102,116])=false:=by rw[x4];rfl
     have d3:decide (t.text=[114,105,103,104,116])=false:=by rw[x4];rfl
     have Z:decide (t.text=[115,116,114,105,99,116])=true:=by rw[x4];rfl
     simp only[go_sem,B,M,y,y.symm,F,S,O,H,d1,d2,d3,Z];cases U:decide (t.kind=1)
     .rw[aF (gQ U),eR]at z;simp only[go_sem,B,M,y,y.symm,F,S,O,H,U];exact bad _ _ _ nA gH z
     rw[aB (gQ U),aB x1,aB x2,aB x3,aF x4]at z;simp only[go_sem,B,M,y,y.symm,F,S,O,H,U,d1,d2,d3,Z];cases c2:decide ((0:Int)<(o.strict.length:Int));rotate_left
     .rw[aF (gQ c2),eR]at z;simp only[go_sem,B,M,y,y.symm,F,S,O,H,U,c2,d1,d2,d3,Z];exact bad _ _ _ nA gH z
     rw[aB (gQ c2),bX,<-g3]at z;simp only[go_sem,B,M,y,y.symm,F,S,O,H,U,c2,d1,d2,d3,Z,cF i2 aC];refine gC (T:=T) (fin:=fin) (d:=d) (first:=first) (i:=i2+1) (n:=n) _ gH g2 hT (bB z (λ_ w m b3 bb hw hm=>?_) (λf h=>aHI b6 nA h));subst m;rw[<-hw,bX]at b3;simp only[go_sem,B,M,y,y.symm,F,S,O,H]
     refine iJ (tS gH) (aOD (fin:=fin) (d:=d) (fi:=first) (λx:Int=>A.int .i64 x) (λ_=>rfl) (λ_=>rfl) hT (λs'=>s'.getO b2=some (.cells 74 [.ptr r 0])) (λ_ _ _=>Iff.rfl)
      (sR fin 8) 283 [] [.ptr b2 0] (aEB (fun s' x hq => by rw [aL,aB M.1]; exact hq)
       (λs' i' n' b8 bw bd bh bm bp bf=>aPS hT b2 bd bh bm (bB bf (λ_ _ _ h h1 h2 h3=>by subst h3;exact h (i'+1) aC h1 h2 bp) (λ_ h=>h)))) (i2+1+1) n ?_ bb hn ?_)
     .exact gH
     refine bB (aKp _ _ _ _ _ _ _ _ _ b3) (λl w m b7 j hj bl hw hm=>?_) (λf h s1 x hg b5=>aO (h _ _ ((aKm hg b6).trans nA) b5));obtain⟨hl,b7⟩:=b7;subst hw;rw[bX]at b7
     obtain⟨x0,l0,rfl⟩:∃x0 l0,l=x0::l0:=by
      cases l with
      | nil=>exact cM rfl hl
      | cons a b=>exact⟨a,b,rfl⟩
     simp only[go_sem,B,M,y,y.symm,F,S,O,H];refine gC (T:=T) (fin:=fin) (d:=d) (first:=first) (i:=j) (n:=m) _ gH bl hT (bB b7 (λ_ w m' bc bq hw bv=>?_) (λf h=>aHI b6 nA h));subst m';rw[<-hw]at bc;simp only[go_sem,B,M,y,y.symm,F,S,O,H];refine⟨({ o with strict:=x0::l0 },j+1,m,k),⟨aP,aP,hm,aP,bc⟩,aP,bC⟩
    .have d1:decide (t.text=[112,114,101,99])=false:=gQ x1;have d2:decide (t.text=[108,101,102,116])=false:=gQ x2;have d3:decide (t.text=[114,105,103,104,116])=false:=gQ x3;have Z:decide (t.text=[115,116,114,105,99,116])=false:=gQ x4;rw[aB x1,aB x2,aB x3,aB x4,ite_self,eR]at z;simp only[go_sem,B,M,y,y.symm,F,S,O,H,d1,d2,d3,Z];exact bad _ _ _ nA gH z
end
end
section
section
variable {T:List Tok} {fin:Fault} {d:Dc} {first:Tok} {i n:Nat} {s:St} {r:Nat} {KV Kp:St->A->Prop}
theorem aDk{α:Type}{r:Rd α}{p:α->List Tok->Nat->Prop}{b:Fault->Prop}(h:∀a w n,p a w n)(m:∀f,b f):r.to p b:=by
 cases r with
 | ok a w n=>exact h a w n
 | bad f=>exact m f
theorem aGa{α:Type}{r:Rd α}{p q:α->List Tok->Nat->Prop}{b:Fault->Prop}(h:r.to p b)(m:r.to q (λ_=>True)):r.to (λa w n=>q a w n/\p a w n) b:=by
 cases r with
 | ok a w n=>exact⟨m,h⟩
 | bad f=>exact h
theorem aFT(fin:Fault):∀(k:Nat) (o:Opr) (w:List Tok) (n:Nat),(jB fin k o w n).to (λh _ _=>h.name=o.name/\h.args=o.args/\h.sort=o.sort/\h.pieces=o.pieces) (λ_=>True)
 | 0,o,w,n=>trivial
 | k+1,o,w,n=>by
  have m:=λ(h:Opr) w n=>aFT fin k h w n
  rw[jB.eq_def];simp only;split
  .exact⟨rfl,rfl,rfl,rfl⟩
  .cases w with
   | nil=>trivial
   | cons t w =>
    simp only[aAM,bX,eR]
    repeat' split
    all_goals first|trivial|exact m _ _ _|exact aDk (λa w n=>m { o with prec:=a } w n) (λ_=>trivial)|exact aDk (λ_ w n=>aDk (λl w n=>aDk (λ_ w n=>m { o with strict:=l } w n) (λ_=>trivial)) (λ_=>trivial)) (λ_=>trivial)
def opS(T:List Tok)(fin:Fault)(d:Dc)(first:Tok)(b r:Nat)(x:aD)(s:St)(y m:Option Nat)(z:List aD)(h:List Piece)(i n:Nat):St :=
 gs (gs ((s.setO b (.cells 73 [.str x,gv y (z.map .str),.str [],gv m (h.map Piece.enc),.int .i64 0,.int .i64 0,.nils])).setO r (bK T fin d first i n)) y z.length 9) m h.length 143
theorem aU1(hT:TOk T)(hr:s.getO r=some (bK T fin d first i n))(hi:i<=T.length)(hn:n<=2000)
  (hk:(yB fin (T.drop i) n).to (PK T i (λj m=>s.setO r (bK T fin d first j m)) Opr.enc KV) (PB s r Kp)):Den cx 151 [.ptr r 0] KV Kp s:=by
 have c0:=hT.len;simp only[yB,bX]at hk;(refine aR func151 [0,2,3,4,5,14,29,39,76] ?_;simp only[go_sem,ntmps151,f151]);(intro b2 B;try simp only[jE,cO,dG]at B);have H:=cJ hr (mD B);simp only[go_sem,B,H];(refine jJ (T:=T) (fin:=fin) (d:=d) (first:=first) (i:=i) (n:=n) gH hi hT (bB hk (λx1 w1 m1 bk bl bv c9=>?_) (λf h=>PB.mk aY h));subst m1;rw[<-bv]at bk);simp only[go_sem,B,H];(intro b3 z;try simp only[jE,cO,dG]at z);have O:=cJ hr (mD z);simp only[go_sem,B,H,z,O];(refine gC (T:=T) (fin:=fin) (d:=d) (first:=first) (i:=i+1) (n:=n) _ gH bl hT (bB bk (λ_ w2 m2 bh bm bt c8=>?_) (λf h=>PB.mk aY h));subst m2;rw[<-bt]at bh);simp only[go_sem,B,H,z,O];rw[show(T.drop (i+1+1)).length=T.length-(i+1+1)by rw[eC]]at bh
 refine Ex.loop (ι:=(Option Nat × Option Nat) × (List aD × List Piece × Bool) × Nat) (λc=>[(0,.ptr r 0),(2,.ptr b2 0),(3,.ptr b3 0),(4,.bool c.2.1.2.2)])
  (λc=>opS T fin d first b3 r x1 (s.setO b2 (.cells 73 [.str [],.nils,.str [],.nils,.int .i64 0,.int .i64 0,.nils])) c.1.1 c.1.2 c.2.1.1 c.2.1.2.1 c.2.2 n)
  (fun c => (c.1.1 = none → c.2.1.1 = []) ∧ (c.1.2 = none → c.2.1.2.1 = []) ∧ (∀ t,c.1.1 = some t → s.getT t = none) ∧ (∀ t,c.1.2 = some t → s.getT t = none ∧ c.1.1 ≠ some t) ∧ i + 1 + 1 ≤ c.2.2 ∧ c.2.2 ≤ T.length ∧ c.2.1.1.length ≤ c.2.2 ∧ c.2.1.2.1.length ≤ c.2.2 ∧ ∃ k,T.length - c.2.2 < k ∧
   (qL fin k c.2.1.2.1 c.2.1.1 c.2.1.2.2 (T.drop c.2.2) n).to (λp w n=>(eU fin w n).to (λy w n=>(jB fin (w.length+1) ⟨x1,p.2.1,y,if p.2.2=true then p.1 else [],0,0,[]⟩ w n).to (PK T i (λj m=>s.setO r (bK T fin d first j m)) Opr.enc KV) (PB s r Kp)) (PB s r Kp)) (PB s r Kp))
  (λc=>T.length-c.2.2) ((none,none),([],[],false),i+1+1) ?_ ?_ ?_ ?_
 .exact⟨λ_=>rfl,λ_=>rfl,λt e=>(by cases e),λt e=>(by cases e),aV _,bm,aU _,aU _,_,iD _,bh⟩
 .simp only[go_sem,B,H,z,O]
 .exact bC
 .rintro⟨⟨ta,tp⟩,⟨ar,ps,tx⟩,i2⟩ ⟨S,U,bf,b5,br,b0,has,c5,k,bz,F⟩;simp only at S U bf b5 br b0 has c5 bz F;obtain⟨k,rfl⟩:∃k',k=k'+1:=⟨k-1,by omega⟩
  have c7:∀t,tp=some t->s.getT t=none:=λt e=>(b5 t e).1
  have bn:oF (opS T fin d first b3 r x1 (s.setO b2 (.cells 73 [.str [],.nils,.str [],.nils,.int .i64 0,.int .i64 0,.nils])) ta tp ar ps i2 n) tp (ps.map Piece.enc).length 143:=by rw[aK];exact iU λe=>by rw[U e];rfl
  have c6:oF (opS T fin d first b3 r x1 (s.setO b2 (.cells 73 [.str [],.nils,.str [],.nils,.int .i64 0,.int .i64 0,.nils])) ta tp ar ps i2 n) ta (ar.map A.str).length 9:=by
   rw[aK];cases ta with
   | none=>rw[S rfl];rfl
   | some t =>
    show(gs _ _ _ _).getT t=_;rw[iN,aB (λe=>(b5 t e).2 rfl),iN,aF rfl]
  refine bE (V:=[0,2,3,4,5,14,29,39,76]) _ _ _ _ ?_;unfold opS;simp only[go_sem,B,H,z,O];refine kJ (T:=T) (fin:=fin) (d:=d) (first:=first) (i:=i2) (n:=n) _ gH b0 hT ?_;rw[qL.eq_def]at F;simp only at F;cases hx:isT [45,62] (T.drop i2)with
  | true =>
   rw[aF hx,cG,nP]at F;have bp:=mJ hx
   have bq:∀(o:Opr),o.name=x1->o.args=ar->o.pieces=(if tx=true then ps else [])->A.le (.agg (opC o (gv ta (ar.map A.str)) (if tx=true then gv tp (ps.map Piece.enc) else .nils))) o.enc:=λo e1 H O=>by
    subst e1 H;refine A.le.agg ⟨⟨bH _,rfl⟩,⟨iQ _ _ (λe=>by rw[S e];rfl),rfl⟩,⟨bH _,rfl⟩,⟨?_,rfl⟩,⟨bH _,rfl⟩,⟨bH _,rfl⟩,⟨aNd _,rfl⟩,trivial⟩;rw[O];cases tx
    .exact A.le.nil
    .exact iQ _ _ (λe=>by rw[U e];rfl)
   simp only[go_sem,B,H,z,O];cases tx
   .simp only[go_sem,B,H,z,O];(refine jJ (T:=T) (fin:=fin) (d:=d) (first:=first) (i:=i2+1) (n:=n) gH bp hT (bB F (λx5 w5 m5 b9 b6 bc bw=>?_) (λf h=>PB.mk aY h));subst m5;rw[<-bc]at b9);simp only[go_sem,B,H,z,O];refine aKc hT b3 (gv ta (ar.map A.str)) .nils (sU _ _) rfl ⟨x1,ar,x5,[],0,0,[]⟩ ((List.drop (i2+1+1) T).length+1) (T:=T) (fin:=fin) (d:=d) (first:=first) (i:=i2+1+1) (n:=n) gH gH z.1.2 b6 hn (by rw[eC];omega) (bB (aGa b9 (aFT _ _ _ _ _)) (λo' w m h j hj bg hw hm=>?_) (λf h s1 x hg bb=>?_))
    .obtain⟨⟨q1,q2,q3,q4⟩,h⟩:=h;have hk:=h j aC bg hw hm;simp only[go_sem,B,H,z,O];refine⟨by cases ta<;>cases o'.strict<;>rfl,?_⟩;refine DK.mk hk bC ?_;have:=bq o' q1 q2 q4;simp only[go_sem]at this;exact this
    .exact aS (h x) (qV (xK bb (aK4 z.2.2 (hg.trans nA))))
   .simp only[go_sem,B,H,z,O];(refine jJ (T:=T) (fin:=fin) (d:=d) (first:=first) (i:=i2+1) (n:=n) gH bp hT (bB F (λx5 w5 m5 b9 b6 bc bw=>?_) (λf h=>PB.mk aY h));subst m5;rw[<-bc]at b9);simp only[go_sem,B,H,z,O];refine aKc hT b3 (gv ta (ar.map A.str)) (gv tp (ps.map Piece.enc)) (sU _ _) (sU _ _) ⟨x1,ar,x5,ps,0,0,[]⟩ ((List.drop (i2+1+1) T).length+1) (T:=T) (fin:=fin) (d:=d) (first:=first) (i:=i2+1+1) (n:=n) gH gH z.1.2 b6 hn (by rw[eC];omega) (bB (aGa b9 (aFT _ _ _ _ _)) (λo' w m h j hj bg hw hm=>?_) (λf h s1 x hg bb=>?_))
    .obtain⟨⟨q1,q2,q3,q4⟩,h⟩:=h;have hk:=h j aC bg hw hm;simp only[go_sem,B,H,z,O];refine⟨by cases ta<;>cases tp<;>cases o'.strict<;>rfl,?_⟩;refine DK.mk hk bC ?_;have:=bq o' q1 q2 q4;simp only[go_sem]at this;exact this
    .exact aS (h x) (qV (xK bb (aK4 z.2.2 (hg.trans nA))))
  | false =>
   rw[aB (by rw[hx];simp)]at F;simp only[go_sem,B,H,z,O];refine lD (T:=T) (fin:=fin) (d:=d) (first:=first) (i:=i2) (n:=n) gH b0 ?_;cases hw:T.drop i2 with
   | nil=>rw[hw]at F;exact F.at aY gH
   | cons t w =>
    obtain⟨g1,g2,g3,g4⟩:=mS hw;rw[hw]at F;simp only at F;simp only[go_sem,B,H,z,O];(intro b4 M;try simp only[jE,cO,dG]at M);have e4:=cJ hr (mD M);simp only[go_sem,B,H,z,O,M,e4];cases c3:decide (t.kind=3);rotate_left
    ·
     have k3:t.kind=3:=gQ c3;rw[aF (.inl k3),aF k3]at F;simp only[go_sem,B,H,z,O,M,e4,c3,qO bn];refine nS (T:=T) (fin:=fin) (d:=d) (first:=first) (i:=i2) (n:=n) _ _ gH b0 ?_;by_cases b8:20<=ps.length
     .rw[aF b8,eR]at F;rw[aF aC,hw];exact PB.mk aY F
     rw[aB b8,<-g3]at F;rw[aB aC];simp only[go_sem,B,H,z,O,M,e4,c3];refine⟨by decide,λy hy=>by simp only[cC]at hy;subst hy;rfl,eI rfl rfl (by rw[aK];exact iU λe=>by rw[U e];rfl) (λy hy=>?_) (by simp only[aK,aG,aH];omega) (λu Z=>?_)⟩
     .simp only[cH]at hy;obtain⟨q,_,rfl⟩:=hy;rfl
     have b7:s.getT u=none/\ta≠some u:=by
      rcases Z with e|⟨e,Z⟩
      .exact b5 u e
      .rw[e]at Z;have Z:(gs (gs _ ta _ _) none _ _).getT u=none:=Z;rw[iN,aB bJ,iN]at Z;split at Z
       .cases Z
       .rename_i H;exact⟨Z,H⟩
     have bj:=b7.2;rw[fY Z];simp only[go_sem,B,H,z,O,M,e4,cF i2 aC];refine⟨((ta,some u),(ar,ps++[⟨t.text,[]⟩],true),i2+1),⟨S,λe=>(by cases e),bf,λt' e=>by cases e;exact b7,aP,aP,aP,by simp only[aI,aG,aH];omega,k,aP,F⟩,aP,?_⟩;simp only[opS,dF,cN,bN,dI,aI,aG,aH,aK];exact⟨trivial,bC⟩
    have k3:¬ t.kind=3:=gQ c3;cases c1:decide (t.kind=1)
    .rw[aB (by simp[k3,Tok.free,c1]),eR]at F;simp only[go_sem,B,H,z,O,M,e4,c3,c1];refine pH (T:=T) (fin:=fin) (d:=d) (first:=first) (i:=i2) (n:=n) 11 gH b0 hT ?_;rw[hw];exact PB.at F aY gH
    simp only[go_sem,B,H,z,O,M,e4,c3,c1];refine vF _ _ _ _ ?_;simp only[go_sem,B,H,z,O,M,e4];cases c2:decide (t.text∈iM);rotate_left
    .rw[aB (by simp[k3,Tok.free,c2]),eR]at F;simp only[go_sem,B,H,z,O,M,e4,c2];refine pH (T:=T) (fin:=fin) (d:=d) (first:=first) (i:=i2) (n:=n) 11 gH b0 hT ?_;rw[hw];exact PB.at F aY gH
    rw[aF (.inr (by simp[Tok.free,c1,c2])),aB k3]at F;simp only[go_sem,B,H,z,O,M,e4,c2,qO bn];refine nS (T:=T) (fin:=fin) (d:=d) (first:=first) (i:=i2) (n:=n) _ _ gH b0 ?_;by_cases b8:20<=ps.length
    .rw[aF b8,eR]at F;rw[aF aC,hw];exact PB.mk aY F
    rw[aB b8]at F;rw[aB aC];simp only[go_sem,B,H,z,O,M,e4,c3,qO c6];refine nS (T:=T) (fin:=fin) (d:=d) (first:=first) (i:=i2) (n:=n) _ _ gH b0 ?_;by_cases h8:8<=ar.length
    .rw[aF h8,eR]at F;rw[aF aC,hw];exact PB.mk aY F
    rw[aB h8,<-g3]at F;rw[aB aC];simp only[go_sem,B,H,z,O,M,e4,c3];refine⟨by decide,λy hy=>by simp only[cC]at hy;subst hy;rfl,eI rfl rfl (by rw[aK];exact iU λe=>by rw[U e];rfl) (λy hy=>?_) (by simp only[aK,aG,aH];omega) (λu Z=>?_)⟩
    .simp only[cH]at hy;obtain⟨q,_,rfl⟩:=hy;rfl
    have b7:s.getT u=none/\ta≠some u:=by
     rcases Z with e|⟨e,Z⟩
     .exact b5 u e
     .rw[e]at Z;have Z:(gs (gs _ ta _ _) none _ _).getT u=none:=Z;rw[iN,aB bJ,iN]at Z;split at Z
      .cases Z
      .rename_i H;exact⟨Z,H⟩
    have bj:=b7.2;rw[fY Z];simp only[go_sem,B,H,z,O,M,e4];refine⟨by decide,λy hy=>by simp only[cC]at hy;subst hy;rfl,eI rfl rfl ?_ (λy hy=>?_) (by simp only[aK,aG,aH];omega) (λv hv=>?_)⟩
    .rw[aK];cases ta with
     | none=>rw[S rfl];rfl
     | some t =>
      show St.getT _ t=_;rw[dM,aB (λe=>bj (by rw[e])),iN,aF rfl]
    .simp only[cH]at hy;obtain⟨q,_,rfl⟩:=hy;rfl
    have bd:s.getT v=none/\¬ v=u:=by
     rcases hv with e|⟨e,hv⟩
     .exact⟨bf v e,λH=>bj (by rw[e,H])⟩
     .subst e;rw[dM]at hv;split at hv
      .cases hv
      .rename_i H;exact⟨hv,λO=>H O.symm⟩
    simp only[go_sem,B,H,z,O,M,e4,cF i2 aC];refine⟨((some v,some u),(ar++[t.text],ps++[⟨[],t.text⟩],tx),i2+1),⟨λe=>(by cases e),λe=>(by cases e),λt' e=>by cases e;exact bd.1,λt' e=>by cases e;exact⟨b7.1,λe=>bd.2 (by cases e;rfl)⟩,aP,aP,by simp only[aI,aG,aH];omega,by simp only[aI,aG,aH];omega,k,aP,F⟩,aP,?_⟩;simp only[opS,dF,cN,bN,dI,aI,aG,aH,aK];have c4:=bd.2;refine⟨trivial,qV (aDv ?_ (aDv ?_ nA))⟩
    .rintro _ ⟨⟩;simp only[dM,c4,bR,reduceIte,fH]
    .rintro _ ⟨⟩;simp only[dM,reduceIte,fH]
end
end
section
def vO(p:Part):A:=.agg (.str p.cell::.str p.at_::(p.left.cs++[nv (p.right.map Tm.enc),.int .i64 p.line,.int .i64 p.col]))
def wI(x:Rul)(h y m:Option Nat):Ob:=.cells 84 [.str x.name,gv h (x.parts.map vO),.nils,gv y (x.new.map Fresh.enc),gv m (x.drop.map .str),.int .i64 x.line,.int .i64 x.col]
def fV(x:Rul)(h y m:Option Nat):List fZ:=[(h,x.parts.length,86),(y,x.new.length,141),(m,x.drop.length,9)]
def iG(T:List Tok)(fin:Fault)(d:Dc)(first:Tok)(b r:Nat)(s:St)(x:Rul)(m y h:Option Nat)(i n:Nat):St:=eT ((s.setO b (wI x m y h)).setO r (bK T fin d first i n)) (fV x m y h)
structure RulQ (b r:Nat) (s:St) (x:Rul) (tp tn td:Option Nat) (i:Nat):Prop where
 own:OwnOk s (fV x tp tn td)
 hb:s.getO b=none
 ne:b≠r
 l1:x.parts.length<=i
 l2:x.new.length<=i
 l3:x.drop.length<=i
section
variable {T:List Tok} {fin:Fault} {d:Dc} {first:Tok} {i n:Nat} {s:St} {r:Nat} {KV Kp:St->A->Prop}
theorem aB6(hT:TOk T)(b:Nat)(x:Rul)(U Z td:Option Nat)(hQ:RulQ b r s x U Z td i)(hi:i<=T.length)(hn:n<=2000)
  (hk : (pN false fin x (T.drop i) n).to (fun x' w n' => ∀ j bt bv bz,i + 1 ≤ j → j ≤ T.length → T.drop j = w → n' ≤ 2000 → RulQ b r s x' bt bv bz j → KV (iG T fin d first b r s x' bt bv bz j n') (.tuple []))
   (λf=>∀s1 o,s1.gx s r->s1.getO r=some o->Kp s1 (.iface 36 f.enc))):Den cx 224 [.ptr r 0,.ptr b 0] KV Kp (iG T fin d first b r s x U Z td i n):=by
 obtain⟨F,hb,m,l1,l2,l3⟩:=hQ;have cd:=hT.len;have cl:=F.free;(refine aR func224 [0,1,4,5,16,27,42,65] ?_;simp only[go_sem,ntmps224,f224]);unfold iG wI;have ck:=m.symm;simp only[go_sem,aN,m,m.symm];refine lD (T:=T) (fin:=fin) (d:=d) (first:=first) (i:=i) (n:=n) gH hi ?_;cases hw:T.drop i with
 | nil=>rw[hw]at hk;exact aO (hk _ (bK T fin d first i n) aY gH)
 | cons t w =>
  obtain⟨g1,g2,g3,g4⟩:=mS hw;rw[hw]at hk;simp only[pN]at hk;simp only[go_sem,aN,m,m.symm];(refine jM λb4 z=>?_);simp only[go_sem,aN,m,m.symm,z];refine kJ (T:=T) (fin:=fin) (d:=d) (first:=first) (i:=i) (n:=n) _ gH hi hT ?_;rw[hw];cases c1:eO t [110,101,119]with
  | true =>
   rw[aF c1,bX,<-g3]at hk;simp only[isT,c1];simp only[go_sem,aN,m,m.symm,z];refine gC (T:=T) (fin:=fin) (d:=d) (first:=first) (i:=i+1) (n:=n) _ gH g2 hT (bB hk (λ_ w2 m2 bj bg bl c9=>?_) (λf h=>dZ aY h));subst m2;rw[<-bl,bX]at bj;simp only[go_sem,aN,m,m.symm,z];(refine bO (OT.r 0 15) [(8,[4])] ?_;simp only[go_sem,aN,m,m.symm,z])
   refine iJ (tS gH) (aIm (fin:=fin) (d:=d) (fi:=first) Tm.enc Tm.hz Tm.ho hT (λ_=>True) (λ_ _ _=>Iff.rfl) (gS false fin) 41 [.ptr r 0] []
    (aEB (λ_ _ h=>h) (λs' i' n' cn cp c0 _ cb cf c6=>tU hT c0 cb cf (bB c6 (λ_ _ _ h j hj=>h j aC) (λ_ h=>h)))) (i+1+1) n trivial bg hn ?_)
   refine bB bj (λl w3 m3 b0 j3 cm bw bc bk=>?_) (λf h s1 o hg c5=>aO (h _ o (hg.trans aY) c5));subst bc;rw[bX]at b0;simp only[go_sem,aN,m,m.symm,z];refine⟨by decide,λy O=>by simp only[cC]at O;subst O;rfl,eI rfl rfl (by rw[aK];refine qJ F (k:=1) (o:=(Z,x.new.length,141)) rfl ?_;exactλ_=>rfl) (λy O=>?_) (by simp only[aK,aG,aH];omega) (λu hu=>?_)⟩
   .simp only[cH]at O;obtain⟨q,_,rfl⟩:=O;rfl
   have B:=qN F (k:=1) (o:=(Z,x.new.length,141)) rfl hu (λ_=>rfl) (x.new.length+1);simp only[go_sem,aN,m,m.symm,z];refine iJ (qP F (k:=1) (o:=(Z,x.new.length,141)) rfl B (λ_=>rfl)) ?_;have M:OwnOk s (fV { x with new:=x.new++[⟨l⟩] } U (some u) td):=by simpa only[fV,aI,aG,aH,wV,yG]using B
   rw[show(fV x U Z td).set 1 (some u,x.new.length+1,(Z,x.new.length,141).snd.snd)=fV { x with new:=x.new++[⟨l⟩] } U (some u) td by simp[fV]];have cj:=M.free;refine gC (T:=T) (fin:=fin) (d:=d) (first:=first) (i:=j3) (n:=m3) _ gH bw hT (bB b0 (λ_ w4 m4 b8 b6 br cg=>?_) (λf h=>dZ aY h));subst m4;rw[cG]at b8;simp only[go_sem,aN,m,m.symm,z];have S:=b8 (j3+1) U (some u) td aC b6 br bk ⟨M,hb,m,aP,by simp only[aI,aG,aH];omega,aP⟩;refine aS S ?_;unfold iG;refine lH ?_;simp only[wI,dF,cN,bN,dI,vO,nv,Tm.cs,aZ,bA,dJ];exact bC
  | false =>
   rw[aB (by simp[c1])]at hk;simp only[isT,c1];simp only[go_sem,aN,m,m.symm,z];refine kJ (T:=T) (fin:=fin) (d:=d) (first:=first) (i:=i) (n:=n) _ gH hi hT ?_;rw[hw];cases c2:eO t [100,114,111,112]with
   | true =>
    rw[aF c2,bX,<-g3]at hk;simp only[isT,c2];simp only[go_sem,aN,m,m.symm,z];refine gC (T:=T) (fin:=fin) (d:=d) (first:=first) (i:=i+1) (n:=n) _ gH g2 hT (bB hk (λ_ w2 m2 bj bg bl c9=>?_) (λf h=>dZ aY h));subst m2;rw[<-bl,bX]at bj;simp only[go_sem,aN,m,m.symm,z];(refine bO (OT.r 0 12) [(6,[4])] ?_;simp only[go_sem,aN,m,m.symm,z]);refine jJ (T:=T) (fin:=fin) (d:=d) (first:=first) (i:=i+1+1) (n:=n) gH bg hT (bB bj (λy w3 m3 b0 b7 bc bk=>?_) (λf h=>dZ aY h));subst m3;rw[cG]at b0;simp only[go_sem,aN,m,m.symm,z];refine⟨by decide,λy O=>by simp only[cC]at O;subst O;rfl,eI rfl rfl (by rw[aK];refine qJ F (k:=2) (o:=(td,x.drop.length,9)) rfl ?_;exactλ_=>rfl) (λy O=>?_) (by simp only[aK,aG,aH];omega) (λu hu=>?_)⟩
    .simp only[cH]at O;obtain⟨q,_,rfl⟩:=O;rfl
    have B:=qN F (k:=2) (o:=(td,x.drop.length,9)) rfl hu (λ_=>rfl) (x.drop.length+1);have M:OwnOk s (fV { x with drop:=x.drop++[y] } U Z (some u)):=by simpa only[fV,aI,aG,aH,wV,yG]using B
    simp only[go_sem,aN,m,m.symm,z];have S:=b0 (i+1+1+1) U Z (some u) aC b7 bc hn ⟨M,hb,m,aP,aP,by simp only[aI,aG,aH];omega⟩;refine aS S (St.ge.trans (qP F (k:=2) (o:=(td,x.drop.length,9)) rfl B (λ_=>rfl)) ?_);unfold iG;rw[show(fV x U Z td).set 2 (some u,x.drop.length+1,(td,x.drop.length,9).snd.snd)=fV { x with drop:=x.drop++[y] } U Z (some u)by simp[fV]];refine lH ?_;simp only[wI,dF,cN,bN,dI,vO,nv,Tm.cs,aZ,bA,dJ];exact bC
   | false =>
    rw[aB (by simp[c2]),bX,<-hw]at hk;simp only[isT,c2];simp only[go_sem,aN,m,m.symm,z];(refine bO (OT.l [0,2,3,4,5,1,6,7,8] .nil) [(1,[3,5]),(7,[3,5])] ?_;simp only[go_sem,aN,m,m.symm,z]);refine jJ (T:=T) (fin:=fin) (d:=d) (first:=first) (i:=i) (n:=n) gH hi hT (bB hk (λy w3 m3 b0 b7 bc bk=>?_) (λf h=>dZ aY h));subst m3;rw[<-bc]at b0;simp only[go_sem,aN,m,m.symm,z];(refine jM λb5 H=>?_);simp only[go_sem,aN,m,m.symm,z,H];refine kJ (T:=T) (fin:=fin) (d:=d) (first:=first) (i:=i+1) (n:=n) _ gH b7 hT ?_;rw[bX]at b0;cases c3:isT [64] (T.drop (i+1))with
    | true =>
     rw[aF c3,nP]at b0;have b6:=mJ c3;simp only[go_sem,aN,m,m.symm,z,H];refine jJ (T:=T) (fin:=fin) (d:=d) (first:=first) (i:=i+1+1) (n:=n) gH b6 hT (bB b0 (λy2 w4 m4 b8 b6 br cg=>?_) (λf h=>dZ aY h));subst m4;rw[<-br]at b8;simp only[go_sem,aN,m,m.symm,z,H];rw[bX]at b8;refine gC (T:=T) (fin:=fin) (d:=d) (first:=first) (i:=i+1+1+1) (n:=n) _ gH b6 hT (bB b8 (λ_ w5 m5 S bb bp c8=>?_) (λf h=>dZ aY h));subst m5;rw[<-bp,bX]at S;simp only[go_sem,aN,m,m.symm,z,H];refine tU (T:=T) (fin:=fin) (d:=d) (first:=first) (i:=i+1+1+1+1) (n:=n) hT gH bb hn (bB S (λl6 w6 m6 b2 j6 ch b3 bm bf=>?_) (λf h=>dZ aY h));rw[<-bm,bX]at b2;simp only[go_sem,aN,m,m.symm,z,H,dJ];refine kJ (T:=T) (fin:=fin) (d:=d) (first:=first) (i:=j6) (n:=m6) _ gH b3 hT ?_;cases c4:isT [61,62] (T.drop j6)with
     | true =>
      rw[aF c4,nP,bX]at b2;have b9:=mJ c4;simp only[go_sem,aN,m,m.symm,z,H];refine tU (T:=T) (fin:=fin) (d:=d) (first:=first) (i:=j6+1) (n:=m6) hT gH b9 bf (bB b2 (λl8 w8 m8 bd j8 c7 bh bq bn=>?_) (λf h=>dZ aY h));rw[cG,<-bq,cG]at bd;simp only[go_sem,aN,m,m.symm,z,H,dJ];(refine bO (OT.r 0 11) [] ?_;simp only[go_sem,aN,m,m.symm,z,H])
      (try simp only[go_sem,aN,m,m.symm,z,H])
      refine⟨by decide,λy O=>by simp only[cC]at O;subst O;rfl,eI rfl rfl (by rw[aK];refine qJ F (k:=0) (o:=(U,x.parts.length,86)) rfl ?_;exactλ_=>rfl) (λy O=>?_) (by simp only[aK,aG,aH];omega) (λu hu=>?_)⟩
      .simp only[cH]at O;obtain⟨q,_,rfl⟩:=O;rfl
      have B:=qN F (k:=0) (o:=(U,x.parts.length,86)) rfl hu (λ_=>rfl) (x.parts.length+1);have M:OwnOk s (fV { x with parts:=x.parts++[⟨y,y2,l6,[l8],t.line,t.col⟩] } (some u) Z td):=by simpa only[fV,aI,aG,aH,wV,yG]using B
      simp only[go_sem,aN,m,m.symm,z,H];have S:=bd (j8) (some u) Z td aC bh rfl bn ⟨M,hb,m,by simp only[aI,aG,aH];omega,aP,aP⟩;refine aS S (St.ge.trans (qP F (k:=0) (o:=(U,x.parts.length,86)) rfl B (λ_=>rfl)) ?_);unfold iG;rw[show(fV x U Z td).set 0 (some u,x.parts.length+1,(U,x.parts.length,86).snd.snd)=fV { x with parts:=x.parts++[⟨y,y2,l6,[l8],t.line,t.col⟩] } (some u) Z td by simp[fV]];refine lH ?_;simp only[wI,dF,cN,bN,dI,vO,nv,Tm.cs,aZ,bA,dJ];exact bC
     | false =>
      rw[aB (by simp[c4]),cG,cG]at b2;simp only[go_sem,aN,m,m.symm,z,H];(refine bO (OT.r 0 11) [] ?_;simp only[go_sem,aN,m,m.symm,z,H])
      (try simp only[go_sem,aN,m,m.symm,z,H])
      refine⟨by decide,λy O=>by simp only[cC]at O;subst O;rfl,eI rfl rfl (by rw[aK];refine qJ F (k:=0) (o:=(U,x.parts.length,86)) rfl ?_;exactλ_=>rfl) (λy O=>?_) (by simp only[aK,aG,aH];omega) (λu hu=>?_)⟩
      .simp only[cH]at O;obtain⟨q,_,rfl⟩:=O;rfl
      have B:=qN F (k:=0) (o:=(U,x.parts.length,86)) rfl hu (λ_=>rfl) (x.parts.length+1);have M:OwnOk s (fV { x with parts:=x.parts++[⟨y,y2,l6,[],t.line,t.col⟩] } (some u) Z td):=by simpa only[fV,aI,aG,aH,wV,yG]using B
      simp only[go_sem,aN,m,m.symm,z,H];have S:=b2 (j6) (some u) Z td aC b3 rfl bf ⟨M,hb,m,by simp only[aI,aG,aH];omega,aP,aP⟩;refine aS S (St.ge.trans (qP F (k:=0) (o:=(U,x.parts.length,86)) rfl B (λ_=>rfl)) ?_);unfold iG;rw[show(fV x U Z td).set 0 (some u,x.parts.length+1,(U,x.parts.length,86).snd.snd)=fV { x with parts:=x.parts++[⟨y,y2,l6,[],t.line,t.col⟩] } (some u) Z td by simp[fV]];refine lH ?_;simp only[wI,dF,cN,bN,dI,vO,nv,Tm.cs,aZ,bA,dJ];exact bC
    | false =>
     rw[aB (by simp[c3]),cG]at b0;simp only[go_sem,aN,m,m.symm,z,H];rw[bX]at b0;refine gC (T:=T) (fin:=fin) (d:=d) (first:=first) (i:=i+1) (n:=n) _ gH b7 hT (bB b0 (λ_ w5 m5 S bb bp c8=>?_) (λf h=>dZ aY h));subst m5;rw[<-bp,bX]at S;simp only[go_sem,aN,m,m.symm,z,H];refine tU (T:=T) (fin:=fin) (d:=d) (first:=first) (i:=i+1+1) (n:=n) hT gH bb hn (bB S (λl6 w6 m6 b2 j6 ch b3 bm bf=>?_) (λf h=>dZ aY h));rw[<-bm,bX]at b2;simp only[go_sem,aN,m,m.symm,z,H,dJ];refine kJ (T:=T) (fin:=fin) (d:=d) (first:=first) (i:=j6) (n:=m6) _ gH b3 hT ?_;cases c4:isT [61,62] (T.drop j6)with
     | true =>
      rw[aF c4,nP,bX]at b2;have b9:=mJ c4;simp only[go_sem,aN,m,m.symm,z,H];refine tU (T:=T) (fin:=fin) (d:=d) (first:=first) (i:=j6+1) (n:=m6) hT gH b9 bf (bB b2 (λl8 w8 m8 bd j8 c7 bh bq bn=>?_) (λf h=>dZ aY h));rw[cG,<-bq,cG]at bd;simp only[go_sem,aN,m,m.symm,z,H,dJ];(refine bO (OT.r 0 11) [] ?_;simp only[go_sem,aN,m,m.symm,z,H])
      (try simp only[go_sem,aN,m,m.symm,z,H])
      refine⟨by decide,λy O=>by simp only[cC]at O;subst O;rfl,eI rfl rfl (by rw[aK];refine qJ F (k:=0) (o:=(U,x.parts.length,86)) rfl ?_;exactλ_=>rfl) (λy O=>?_) (by simp only[aK,aG,aH];omega) (λu hu=>?_)⟩
      .simp only[cH]at O;obtain⟨q,_,rfl⟩:=O;rfl
      have B:=qN F (k:=0) (o:=(U,x.parts.length,86)) rfl hu (λ_=>rfl) (x.parts.length+1);have M:OwnOk s (fV { x with parts:=x.parts++[⟨y,[],l6,[l8],t.line,t.col⟩] } (some u) Z td):=by simpa only[fV,aI,aG,aH,wV,yG]using B
      simp only[go_sem,aN,m,m.symm,z,H];have S:=bd (j8) (some u) Z td aC bh rfl bn ⟨M,hb,m,by simp only[aI,aG,aH];omega,aP,aP⟩;refine aS S (St.ge.trans (qP F (k:=0) (o:=(U,x.parts.length,86)) rfl B (λ_=>rfl)) ?_);unfold iG;rw[show(fV x U Z td).set 0 (some u,x.parts.length+1,(U,x.parts.length,86).snd.snd)=fV { x with parts:=x.parts++[⟨y,[],l6,[l8],t.line,t.col⟩] } (some u) Z td by simp[fV]];refine lH ?_;simp only[wI,dF,cN,bN,dI,vO,nv,Tm.cs,aZ,bA,dJ];exact bC
     | false =>
      rw[aB (by simp[c4]),cG,cG]at b2;simp only[go_sem,aN,m,m.symm,z,H];(refine bO (OT.r 0 11) [] ?_;simp only[go_sem,aN,m,m.symm,z,H])
      (try simp only[go_sem,aN,m,m.symm,z,H])
      refine⟨by decide,λy O=>by simp only[cC]at O;subst O;rfl,eI rfl rfl (by rw[aK];refine qJ F (k:=0) (o:=(U,x.parts.length,86)) rfl ?_;exactλ_=>rfl) (λy O=>?_) (by simp only[aK,aG,aH];omega) (λu hu=>?_)⟩
      .simp only[cH]at O;obtain⟨q,_,rfl⟩:=O;rfl
      have B:=qN F (k:=0) (o:=(U,x.parts.length,86)) rfl hu (λ_=>rfl) (x.parts.length+1);have M:OwnOk s (fV { x with parts:=x.parts++[⟨y,[],l6,[],t.line,t.col⟩] } (some u) Z td):=by simpa only[fV,aI,aG,aH,wV,yG]using B
      simp only[go_sem,aN,m,m.symm,z,H];have S:=b2 (j6) (some u) Z td aC b3 rfl bf ⟨M,hb,m,by simp only[aI,aG,aH];omega,aP,aP⟩;refine aS S (St.ge.trans (qP F (k:=0) (o:=(U,x.parts.length,86)) rfl B (λ_=>rfl)) ?_);unfold iG;rw[show(fV x U Z td).set 0 (some u,x.parts.length+1,(U,x.parts.length,86).snd.snd)=fV { x with parts:=x.parts++[⟨y,[],l6,[],t.line,t.col⟩] } (some u) Z td by simp[fV]];refine lH ?_;simp only[wI,dF,cN,bN,dI,vO,nv,Tm.cs,aZ,bA,dJ];exact bC
end
end
end Go.AV
