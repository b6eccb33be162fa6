/-
  Of DefParses.
-/
import Derived.Test.YtamikhobdffnfaaGreatDoorPa19
import Derived.Shelf.LaysM
import Derived.Shelf.Strconv.Itoa3
set_option linter.all false
set_option maxRecDepth 99999
set_option maxHeartbeats 0
namespace Go.AV
open Go Go.Proofs Tryz
theorem sI (s:St) (x:aD) (KV Kp) (hk:KV s (.bool (decide (x∈jL)))):Den cx 145 [.str x] KV Kp s:=by
 (refine aZ func145 [0,2] ?_;simp only[go_sem,ntmps145,f145]);refine aKA _ _ _ ?_;simp only[go_sem,yO];refine aDH _ _ _ _ _ ?_;simp only[go_sem];exact aO hk
theorem aKJ (s:St) (x:aD) (KV Kp) (hk:KV s (.bool (decide (x∈aBY)))):Den cx 107 [.str x] KV Kp s:=by
 (refine aZ func107 [0,2] ?_;simp only[go_sem,ntmps107,f107]);refine aKE _ _ _ ?_;simp only[go_sem,yO];refine aDH _ _ _ _ _ ?_;simp only[go_sem];exact aO hk
theorem aAc (w:aD) (x:aD):∀ (l:List aD) (n:Nat),fY w (l++[x]) n=if fY w l n<x.length∧kE w x=true then x.length else fY w l n
 | [],n=>rfl
 | y::l,n=>aAc w x l _
theorem aBs (w:aD):∀ (l:List aD) (n:Nat),n≤w.length→fY w l n≤w.length
 | [],n,h=>h
 | y::l,n,h=>by
  refine aBs w l _ ?_;split
  ·rename_i hc;have:=hc.2;simp only[kE,bT,eC] at this;exact this.1
  ·exact h
theorem aFj:∀ (w:aD) (c:UInt8),Lib.indexByte w c<(w.length:Int)
 | [],c=>by simp[Lib.indexByte]
 | d::w,c=>by
  have ih:=aFj w c;have ig:=Lib.indexByte_ge w c;unfold Lib.indexByte;simp only[aF];split
  ·omega
  ·split<;>omega
theorem aM3 (s:St) (r:Nat) (x:aD) (at_ l c:Nat) (sg:List aD) (op:Bool) (KV Kp)
  (hr:s.getO r=some (.cells 226 (gB x at_ l c sg op))) (hx:x.length≤4294967296) (ha:at_<x.length) (hsg:sg.length≤4294967296)
  (hk:KV s (.tuple [(hC (x.drop at_) sg op).1.enc,.int .i64 (hC (x.drop at_) sg op).2.1,.bool (hC (x.drop at_) sg op).2.2])):Den cx 278 [.ptr r 0] KV Kp s:=by
 obtain ⟨b,w,hw⟩:∃ b w,x.drop at_=b::w:=by
  cases h:x.drop at_ with
  | nil=>have:=congrArg List.length h;simp at this;omega
  | cons b w=>exact ⟨b,w,rfl⟩
 have hlw:(b::w).length≤4294967296:=by rw[← hw,cP];omega
 (refine aZ func278 [0,2,3,4,5,6,8,20,33,41,67,68,69,70,81,100] ?_;simp only[go_sem,ntmps278,f278]);(intro q hq;try simp only[aV,ne_eq] at hq);have hne:=cF hr hq;simp only[go_sem,hr,hq,hne,gB];(refine aP (OT.r 0 10) [] ?_;simp only[go_sem,hr,hq,hne,gB]);rw[hw] at hk ⊢;have hpos:0<(b::w).length:=by simp
 simp only[go_sem,Nat.le_of_lt ha,hpos];refine ⟨⟨by omega,by omega⟩,?_⟩;have e1:List.take (Int.toNat 1) (b::w)=[b]:=rfl;rw[e1];refine aGx _ _ _ _ ?_;simp only[go_sem];(refine cD (fun h=>?_) (fun h=>?_))<;>simp only[go_sem,h,hr,hq,hne,gB]
 ·refine aIP _ _ _ (fun c=>dU c.toNat) _ _ hlw (fun c KV Kp h=>aD4 _ _ _ _ h) ?_;have hn:((b::w).takeWhile fun c=>dU c.toNat).length≤(b::w).length:=(List.takeWhile_sublist _).length_le;simp only[hC,h,if_true] at hk;generalize ((b::w).takeWhile fun c=>dU c.toNat).length=n at hk hn;simp only[go_sem,hr,hq,hne,gB,hn];refine ⟨by simpa using hn,?_⟩;have e2:decide ((n:Int)≤40)=decide (n≤40):=by rw[lW];omega
  rw[e2];exact aM hk (fL hq)
 ·refine aGp _ _ _ _ ?_;have hnm:¬ gZ [b]=true:=by rw[h];simp
  simp only[go_sem];(refine cD (fun h=>?_) (fun h=>?_))<;>simp only[go_sem,h,hr,hq,hne,gB]
  ·simp only[hC,hnm,if_false,h,if_true,bN] at hk;refine aLM _ _ _ _ hlw ?_;simp only[go_sem,hr,hq,hne];exact aM hk (fL hq)
  ·have hnd:¬ fB b.toNat=true:=by rw[h];simp
   have h340:(34:UInt8).toNat=34:=rfl
   have e3:decide ((b.toNat:Int)=34)=decide (b=34):=by
    rw[lW,← nE,h340];omega
   rw[e3];(refine cD (fun h=>?_) (fun h=>?_))<;>simp only[go_sem,h,hr,hq,hne,gB]
   ·have hb:b=34:=by simpa using h
    simp only[hC,hnm,hnd,hb,if_false,if_true] at hk;refine ⟨⟨by omega,by omega⟩,?_⟩
    have e4:List.take (w.length+1-Int.toNat 1) (List.drop (Int.toNat 1) (b::w))=w:=by
     show List.take (w.length+1-1) w=w;simp
    have e5:(A.int IntKind.u8 34)=.int .u8 ((34:UInt8).toNat):=rfl;rw[e4,e5];refine aDy _ _ _ _ _ ?_;have hm1:=Lib.indexByte_ge w 34;have hm2:=aFj w 34;obtain ⟨k,hk0⟩:∃ k:Nat,Lib.indexByte w 34=(k:Int)-1:=⟨(Lib.indexByte w 34+1).toNat,by omega⟩
    rw[hk0] at hk hm2 ⊢;simp only[aF] at hlw;have hkw:k≤w.length:=by omega
    have ew:IntKind.i64.wrap ((k:Int)-1+2)=((k+1:Nat):Int):=by rw[eX _ (by omega) (by omega)];omega
    have ew2:IntKind.i64.wrap (((k+1:Nat):Int)-1)=(k:Int):=by rw[eX _ (by omega) (by omega)];omega
    have en:((k:Int)-1+2).toNat=k+1:=by omega
    simp only[en] at hk;simp only[go_sem,ew];(refine aP (OT.r 0 19) [] ?_;simp only[go_sem,hr,hq,hne,gB,ew2]);have em:(if (k:Int)<1 then (1:Int) else k)=((max k 1:Nat):Int):=by split<;>omega
    rw[em];refine ⟨⟨by omega,by omega,by omega⟩,?_⟩
    have et:List.take (Int.toNat ((max k 1:Nat):Int)-Int.toNat 1) (List.drop (Int.toNat 1) (b::w))=w.take (k-1):=by
     show List.take (max k 1-1) w=w.take (k-1);congr 1;omega
    rw[et];have et2:k+1-2=k-1:=by omega
    rw[et2] at hk;(refine cD (fun h=>?_) (fun h=>?_))<;>simp only[go_sem,h,hr,hq,hne,gB,ew2]
    ·have hk1:1<k+1:=by have:=h;simp at this;omega
     refine ⟨⟨by omega,by omega,by omega⟩,?_⟩;have et3:List.take (k-Int.toNat 1) (List.drop (Int.toNat 1) (b::w))=w.take (k-1):=rfl;rw[et3];refine aLa _ _ _ _ ?_;simp only[go_sem,hr,hq,hne];simp only[hk1,kA,dY] at hk;exact aM hk (fL hq)
    ·have hk1:¬ 1<k+1:=by have:=h;simp at this;omega
     simp only[hk1,pN,cQ] at hk;exact aM hk (fL hq)
   ·have hnb:¬ b=34:=by simpa using h
    simp only[hC,hnm,hnd,hnb,if_false] at hk;have hz:=aBs (b::w) sg 0 (bS _)
    refine Ex.loop (fun i=>[(0,.ptr r 0),(2,.ptr q 0),(3,.int .i64 (fY (b::w) (sg.take i) 0:Nat)),(5,.str (b::w)),(6,.int .u8 b.toNat),(67,.list none (sg.map .str)),(68,.int .i64 (sg.length:Nat)),(69,.int .i64 (i:Nat))])
     (fun _=>s.setO q (.cells 60 [.int .i64 0,.str [],.int .i64 0,.int .i64 0,.int .i64 0])) (fun i=>i≤sg.length) (fun i=>sg.length-i) 0 (bS _) ?_ (bA _) ?_
    ·simp[Env.has,Env.get,fY]
    ·intro i hi;refine bV (V:=[0,2,3,4,5,6,8,20,33,41,67,68,69,70,81,100]) _ _ _ _ ?_;simp only[go_sem];(refine cD (fun h=>?_) (fun h=>?_))<;>simp only[go_sem,h,hr,hq,hne,gB]
     ·have hlt:i<sg.length:=by simpa using h
      obtain ⟨y,hy⟩:∃ y,sg[i]?=some y:=⟨sg[i],cH hlt⟩
      have hst:fY (b::w) (sg.take (i+1)) 0=if fY (b::w) (sg.take i) 0<y.length∧kE (b::w) y=true then y.length else fY (b::w) (sg.take i) 0:=by
       rw[← aAc,sJ,hy];rfl
      generalize fY (b::w) (sg.take i) 0=n at hst;refine ⟨hlt,?_⟩;simp only[go_sem,hy];(refine cD (fun h=>?_) (fun h=>?_))<;>simp only[go_sem,h,hr,hq,hne,gB]
      ·have h5:n<y.length:=by simpa using h
       refine aFV _ _ _ _ _ ?_;simp only[go_sem];(refine cD (fun h=>?_) (fun h=>?_))<;>simp only[go_sem,h]
       ·exact ⟨i+1,by omega,by omega,⟨by rw[hst,if_pos ⟨h5,h⟩],bP i (by omega)⟩,bA _⟩
       ·exact ⟨i+1,by omega,by omega,⟨by rw[hst,if_neg (by rw[h];simp)],bP i (by omega)⟩,bA _⟩
      ·have h5:¬ n<y.length:=by simpa using h
       exact ⟨i+1,by omega,by omega,⟨by rw[hst,if_neg (by simp[h5])],bP i (by omega)⟩,bA _⟩
     ·have hge:sg.length≤i:=by simpa using h
      obtain rfl:i=sg.length:=by omega
      rw[List.take_length];generalize fY (b::w) sg 0=n at hk hz
      have hqr:(s.setO q (.cells 60 [.int .i64 0,.str [],.int .i64 0,.int .i64 0,.int .i64 0])).getO r=some (.cells 226 (gB x at_ l c sg op)):=by
       rw[aJ,if_neg hne.2];exact hr
      simp only[bN,if_false] at hk;have h390:(39:UInt8).toNat=39:=rfl;have h950:(95:UInt8).toNat=95:=rfl;have e39:decide ((b.toNat:Int)=39)=decide (b=39):=by rw[lW,← nE,h390];omega
      have e95:decide ((b.toNat:Int)=95)=decide (b=95):=by rw[lW,← nE,h950];omega
      have e0:decide ((n:Int)=0)=decide (n=0):=by rw[lW];omega
      rw[e0];cases h0:decide (n=0)<;>cases op<;>simp only[go_sem,hqr,hq,hne,gB,e39,e95]<;>cases h39:decide (b=39)<;>cases h95:decide (b=95)<;>(try simp only[go_sem,hqr,hq,hne,gB,e39,e95,h39,h95])
      all_goals (simp only[eC,tY] at h0 h39 h95)
      all_goals (have ed:decide (0<(n:Int))=decide (0<n):=by rw[lW];omega)
      all_goals (simp only[aF] at hz)
      all_goals first
       | (rw[if_neg (fun hc=>by simp_all)] at hk;refine ⟨by omega,?_⟩;rw[ed];exact aM hk (fL hq))
       | (rw[if_pos (by simp_all)] at hk;refine ⟨by omega,?_⟩;exact aM hk (fL hq))
theorem yR (p:UInt8→Bool) (w:aD):(w.takeWhile p).length≤w.length:=(List.takeWhile_sublist _).length_le
theorem aJl {p:UInt8→Bool} {c:UInt8} {w:aD} (h:p c=true):1≤((c::w).takeWhile p).length:=by simp[List.takeWhile,h]
theorem aBE {c:UInt8} {r:aD} {sg:List aD} {op:Bool} {t:Tok} {n:Nat} (h:hC (c::r) sg op=(t,n,true)):1≤n∧n≤(c::r).length:=by
 simp only[hC] at h;split at h
 ·rename_i hn;simp only[oX,eC] at h;obtain ⟨_,rfl,_⟩:=h;refine ⟨aJl ?_,yR _ _⟩;simp only[gZ,bT,List.all_cons] at hn;exact hn.2.2.1
 ·split at h
  ·rename_i hd;simp only[mU] at h;split at h
   ·simp at h
   ·simp only[oX,eC] at h;obtain ⟨_,rfl,_⟩:=h;exact ⟨aJl hd,yR _ _⟩
  ·split at h
   ·simp only[oX,bT,eC] at h;have:=aFj r 34;simp only[aF];omega
   ·have hz:=aBs (c::r) sg 0 (bS _);simp only[oX,eC] at h;obtain ⟨_,rfl,h⟩:=h;refine ⟨h,?_⟩;split
    ·simp
    ·exact hz
theorem sW:∀ (f:Nat) (w:aD),rE f w≤w.length
 | 0,w=>bS _
 | f+1,[]=>bS _
 | f+1,b::r=>by
  simp only[rE];split
  ·have:=sW f r;simp only[aF];omega
  ·split
   ·have:=sW f ((b::r).drop ((b::r).takeWhile (fun c=>!decide (c=10))).length);rw[cP] at this;have:=yR (fun c=>!decide (c=10)) (b::r);omega
   ·exact bS _
def Lx.out (KV:St→A→Prop):Lx→St→Prop
 | .ok l,s=>KV s (.tuple [.list none (l.map Tok.enc),Fault.none.enc])
 | .bad f,s=>KV s (.tuple [.list none [],f.enc])
theorem aOt (s:St) (r:Nat) (x:aD) (sg:List aD) (KV Kp)
  (hr:s.getO r=some (.cells 226 (gB x 0 1 1 sg true))) (hx:x.length≤4294967290) (hsg:sg.length≤4294967296)
  (hk:∀ o,(iH sg true x).out KV (s.setO r o)):Den cx 215 [.ptr r 0] KV Kp s:=by
 (refine aZ func215 [0,2,3,4,5,6,18,38] ?_;simp only[go_sem,ntmps215,f215]);(intro q hq;try simp only[aV,ne_eq] at hq);have hne:=cF hr hq;simp only[go_sem,hr,hq,hne,gB];refine aGE _ r x 0 1 1 sg true _ _ (by rw[aJ,if_neg hne.2];exact hr) (by omega) (bS _) (by omega) (by omega) ?_;have hb0:=sW x.length x;change dD x≤x.length at hb0;simp only[go_sem,hr,hq,hne,gB]
 refine Ex.loop (ι:=Nat × (Nat × Nat) × List Tok × Option Nat) (fun i=>[(0,.ptr r 0),(2,gv i.2.2.2 (i.2.2.1.map Tok.enc)),(3,.ptr q 0)])
  (fun i=>gs ((s.setO q (.cells 36 [.int .i64 0,.str [],.int .i64 0,.int .i64 0])).setO r (.cells 226 (gB x i.1 i.2.1.1 i.2.1.2 sg true))) i.2.2.2 i.2.2.1.length 60)
  (fun i => i.1 ≤ x.length ∧ i.2.1.1 ≤ i.1 + 1 ∧ i.2.1.2 ≤ i.1 + 1 ∧ (i.2.2.2 = none → i.2.2.1 = []) ∧ (∀ t,i.2.2.2 = some t → s.getT t = none) ∧ i.2.2.1.length ≤ i.1 ∧
   ∃ f,x.length-i.1≤f∧iH sg true x=oM sg true f (x.drop i.1) i.2.1 i.2.2.1) (fun i=>x.length-i.1)
  (dD x,bY (1,1) (x.take (dD x)),[],none) ?_ ?_ ?_ ?_
 ·have:=nM (x.take (dD x)) (1,1) 0 (by omega) (by omega);rw[eY] at this;refine ⟨hb0,by simp only;omega,by simp only;omega,fun _=>rfl,fun t h=>(by cases h),bS _,x.length,by simp only;omega,rfl⟩
 ·simp only[go_sem];rfl
 ·simp only[go_sem];exact bA _
 ·rintro ⟨a,⟨l,c⟩,acc,tk⟩ ⟨ha,hl,hc,hn,hf,hla,f,hff,hlex⟩;simp only at ha hl hc hn hf hla hff hlex;refine bV (V:=[0,2,3,4,5,6,18,38]) _ _ _ _ ?_;simp only[go_sem];(refine aP (OT.r 0 10) [] ?_;simp only[go_sem,hne,gB]);(refine cD (fun h=>?_) (fun h=>?_))<;>simp only[go_sem,h]
  ·have hlt:a<x.length:=by simpa using h
   obtain ⟨b,w,hw⟩:∃ b w,x.drop a=b::w:=⟨_,_,lU hlt⟩
   obtain ⟨f,rfl⟩:∃ f',f=f'+1:=⟨f-1,by omega⟩
   refine aM3 _ r x a l c sg true _ _ (by simp only[go_sem];rfl) (by omega) hlt hsg ?_;rw[hw] at hlex ⊢;simp only[oM] at hlex;rcases htok:hC (b::w) sg true with ⟨⟨tkd,ttx,tn,tl,tc⟩,n,ok⟩
   rw[htok] at hlex;simp only[go_sem];(intro q2 hq2;try simp only[aV,ne_eq] at hq2)
   have hne2:q2≠r∧q2≠q:=by
    have h1:=hq2;rw[aT,aJ] at h1;have h2:=hq2;rw[aT,aJ] at h2;constructor<;>rintro rfl
    ·simp at h1
    ·rw[if_neg hne.1,aJ] at h2;simp at h2
   simp only[go_sem,hne,hne2,hq2];(refine aP (OT.r 0 12) [(9,[7])] ?_;simp only[go_sem,hne,hne2,gB]);(refine cD (fun h=>?_) (fun h=>?_))<;>simp only[go_sem,h,hne,hne2,gB]
   ·have hok:ok=false:=by simpa using h
    subst hok;simp only at hlex;(refine aP (OT.r 0 25) [] ?_;simp only[go_sem,hne,hne2,gB,Nat.le_of_lt hlt]);have ew:IntKind.i64.wrap ((a:Int)+1)=((a+1:Nat):Int):=bP a (by omega);rw[ew];refine ⟨⟨by omega,by omega⟩,?_⟩;have et:List.take ((((a+1:Nat):Int)).toNat-a) (x.drop a)=[b]:=by rw[hw,Int.toNat_natCast,Nat.add_sub_cancel_left];rfl
    rw[et];rw[hlex] at hk;refine DK.mk (hk _) (qU (nI ?_ (nI ?_ (pQ (fL hq)))) ?_) (A.le.tuple ⟨A.le.nil,aK _,trivial⟩)
    ·rw[aJ,if_neg hne.1];exact hq
    ·have h1:=hq2;rw[aT,aJ,if_neg hne2.1.symm,aJ,if_neg hne2.2.symm] at h1;rw[aJ,if_neg hne2.1.symm];exact h1
    ·exact hf
   ·have hok:ok=true:=by simpa using h
    subst hok;simp only at hlex;obtain ⟨hn1,hn2⟩:=aBE htok;refine ⟨by decide,by simp[A.cells],cW rfl rfl (by rw[aI];exact fA fun e=>by rw[hn e];rfl) (fun y hy=>by simp only[bW] at hy;obtain ⟨z,_,rfl⟩:=hy;rfl) (by simp;omega) fun t ht=>?_⟩;have hft':s.getT t=none:=by have:=kC ht (fun u hu=>hf u hu);exact this
    rw[gY ht];simp only[go_sem,hne,hne2];refine aBO _ r x a l c n sg true _ _ (by simp only[go_sem,hne,hne2];rfl) (by omega) (by have:=congrArg List.length hw;rw[cP] at this;omega) (by omega) (by omega) ?_;simp only[go_sem];have hal:=nM ((b::w).take n) (l,c) a hl hc;rw[eY,wY hn2] at hal;have hwl:x.length-a=(b::w).length:=by rw[← hw,cP]
    rw[hw];have hblk:=sW ((b::w).drop n).length ((b::w).drop n);change dD ((b::w).drop n)≤_ at hblk;rw[cP] at hblk;have hdd:x.drop (a+n)=(b::w).drop n:=by rw[← kS,hw]
    refine aGE _ r x (a+n) _ _ sg true _ _ (by simp only[go_sem,hne,hne2];rfl) (by omega) (by omega) (by omega) (by omega) ?_;simp only[go_sem];rw[hdd];refine ⟨(a+n+dD ((b::w).drop n),bY (bY (l,c) ((b::w).take n)) (((b::w).drop n).take (dD ((b::w).drop n))),acc++[⟨tkd,ttx,tn,l,c⟩],some t),⟨?_,?_,?_,?_,?_,?_,f,?_,?_⟩,?_,?_,?_⟩
    ·simp only;omega
    ·have:=nM (((b::w).drop n).take (dD ((b::w).drop n))) (bY (l,c) ((b::w).take n)) (a+n) (by omega) (by omega);rw[eY,cP,wY hblk] at this;simp only;omega
    ·have:=nM (((b::w).drop n).take (dD ((b::w).drop n))) (bY (l,c) ((b::w).take n)) (a+n) (by omega) (by omega);rw[eY,cP,wY hblk] at this;simp only;omega
    ·intro h;cases h
    ·intro u hu;cases hu;exact hft'
    ·simp only[aR,aF,aH];omega
    ·simp only;omega
    ·simp only[hlex];congr 1;rw[← kS,hdd]
    ·simp only;omega
    ·simp only[cM,bK,bQ,cL];exact rfl
    ·simp only[gs,aR,aF,aH];refine aGL (aGT ?_ hne2.1);have h1:=hq2;rw[aT,aJ,if_neg hne2.1.symm] at h1;exact h1
  ·(refine aP (OT.r 0 4) [] ?_; simp only [go_sem,hne,gB]);have hge : x.length ≤ a := by simpa using h
   have hlx:iH sg true x=.ok acc:=by
    rw[hlex,vE hge];cases f<;>rfl
   rw[hlx] at hk;refine DK.mk (hk _) (qU (nI ?_ (pQ (fL hq))) ?_) (A.le.tuple ⟨fN tk _ (fun e=>by rw[hn e];rfl),aK _,trivial⟩)
   ·rw[aJ,if_neg hne.1];exact hq
   ·exact hf
structure TokW (N:Nat) (t:Tok):Prop where
 kind:t.kind=1∧(∃ c r,t.text=c::r∧gJ c.toNat=true)∨t.kind=2∧t.text=[]∨t.kind=3∨t.kind=4∧(t.text∈dX∨t.text=[39]∨t.text=[95])
 num:0≤t.n∧t.n≤2147483647
 col:0≤t.col∧t.col≤N
 line:0≤t.line∧t.line≤N
 txt:t.text.length≤N
theorem aAu:∀ (w:aD) (p:Nat × Nat),(bY p w).1≤p.1+w.length∧(bY p w).2≤p.2+w.length∧(1≤p.2→1≤(bY p w).2)
 | [],p=>⟨bE _,bE _,fun h=>h⟩
 | b::r,(l,c)=>by
  simp only[bY];split
  ·have:=aAu r (l+1,1);simp only[aF] at this ⊢;refine ⟨?_,?_,fun h=>this.2.2 (bE _)⟩<;>omega
  ·have:=aAu r (l,c+1);simp only[aF] at this ⊢;refine ⟨?_,?_,fun h=>this.2.2 (by omega)⟩<;>omega
theorem aD2 (w:aD):∀ (sg:List aD) (n:Nat),fY w sg n=n∨w.take (fY w sg n)∈sg
 | [],n=>.inl rfl
 | x::r,n=>by
  simp only[fY];split
  ·rename_i h;rcases aD2 w r x.length with h1|h1
   ·rw[h1];refine .inr (List.mem_cons.2 (.inl ?_));have h2:=h.2;simp only[kE,bT,eC] at h2;exact h2.2
   ·exact .inr (List.mem_cons.2 (.inr h1))
  ·rcases aD2 w r n with h1|h1
   ·exact .inl h1
   ·exact .inr (List.mem_cons.2 (.inr h1))
theorem aOd {c:UInt8} {r:aD} {t:Tok} {n N:Nat} (h:hC (c::r) dX true=(t,n,true)) (hN:(c::r).length≤N) (l k:Nat) (hl:l≤N) (hk:k≤N):TokW N ⟨t.kind,t.text,t.n,l,k⟩:=by
 have htake:∀ m,((c::r).take m).length≤N:=fun m=>by rw[eY];omega
 have hlen:=aBE h;have hc:(0:Int)≤(k:Int)∧(k:Int)≤N:=⟨by omega,by omega⟩;have hl':(0:Int)≤(l:Int)∧(l:Int)≤N:=⟨by omega,by omega⟩;have h0:(0:Int)≤0∧(0:Int)≤2147483647:=by decide
 simp only[hC] at h;split at h
 ·rename_i hn;simp only[oX,eC] at h;obtain ⟨rfl,h2,_⟩:=h;refine ⟨.inl ⟨rfl,?_⟩,h0,hc,hl',htake _⟩;have hlet:gJ c.toNat=true:=by simp only[gZ,bT] at hn;exact hn.2.1
  obtain ⟨m,hm⟩:∃ m,n=m+1:=⟨n-1,by omega⟩
  rw[hm] at h2;rw[h2];exact ⟨c,r.take m,rfl,hlet⟩
 ·split at h
  ·simp only[mU] at h;split at h
   ·simp only[oX,bN,and_false] at h
   ·simp only[oX,eC] at h;obtain ⟨rfl,_,h3⟩:=h;exact ⟨.inr (.inl ⟨rfl,rfl⟩),⟨Int.natCast_nonneg _,by simp only;omega⟩,hc,hl',bS _⟩
  ·split at h
   ·simp only[oX] at h;obtain ⟨h1,h2,_⟩:=h;generalize (Lib.indexByte r 34+2).toNat-2=m at h1;subst h1;refine ⟨.inr (.inr (.inl rfl)),h0,hc,hl',?_⟩;show (r.take m).length≤N;rw[eY];rw[aF] at hN;omega
   ·simp only[oX,eC] at h;obtain ⟨h1,h2,h3⟩:=h;rw[h2] at h1 h3;subst h1;refine ⟨.inr (.inr (.inr ⟨rfl,?_⟩)),h0,hc,hl',htake n⟩;show (c::r).take n∈dX∨(c::r).take n=[39]∨(c::r).take n=[95];by_cases h4:fY (c::r) dX 0=0∧True∧(c=39∨c=95)
    ·rw[if_pos (by simpa using h4)] at h2;subst h2;rcases h4.2.2 with rfl|rfl
     ·exact .inr (.inl rfl)
     ·exact .inr (.inr rfl)
    ·rw[if_neg (by simpa using h4)] at h2;subst h2;rcases aD2 (c::r) dX 0 with h5|h5
     ·omega
     ·exact .inl h5
theorem aJn (N:Nat):∀ (f:Nat) (w:aD) (p:Nat × Nat) (acc:List Tok) (l:List Tok),p.1+w.length≤N→p.2+w.length≤N→acc.length+w.length≤N→(∀ t,t∈acc→TokW N t)→oM dX true f w p acc=.ok l →
  l.length≤N∧∀ t,t∈l→TokW N t
 | _,[],p,acc,l,h1,h2,h3,ha,h=>by
  simp only[oM] at h;cases h;exact ⟨by simpa using h3,ha⟩
 | 0,_::_,p,acc,l,h1,h2,h3,ha,h=>by
  simp only[oM] at h;cases h;exact ⟨by omega,ha⟩
 | f+1,c::r,p,acc,l,h1,h2,h3,ha,h=>by
  simp only[oM] at h;rcases htok:hC (c::r) dX true with ⟨t,n,ok⟩
  rw[htok] at h;cases ok with
  | false=>cases h
  | true =>
   simp only at h;obtain ⟨hn1,hn2⟩:=aBE htok;have hb:dD ((c::r).drop n)≤((c::r).drop n).length:=sW _ _;have a1:=aAu ((c::r).take n) p;have a2:=aAu (((c::r).drop n).take (dD ((c::r).drop n))) (bY p ((c::r).take n));simp only[eY,cP,aF] at a1 a2 hb h1 h2 h3 hn2;refine aJn N f _ _ _ l ?_ ?_ ?_ ?_ h
   ·simp only[cP,aF];omega
   ·simp only[cP,aF];omega
   ·simp only[aR,aF,aH,cP] at h3 ⊢;omega
   ·intro t' ht';rcases kR.1 ht' with h5|h5
    ·exact ha t' h5
    ·simp only[cE] at h5;subst h5;exact aOd htok (by simp only[aF];omega) p.1 p.2 (by omega) (by omega)
theorem aE0 {x:aD} {l:List Tok} (h:iH dX true x=.ok l):l.length≤x.length+1∧∀ t,t∈l→TokW (x.length+1) t:=by
 have hb:dD x≤x.length:=sW _ _;have a1:=aAu (x.take (dD x)) (1,1);simp only[eY] at a1;refine aJn (x.length+1) _ _ _ _ l ?_ ?_ ?_ (fun t ht=>by cases ht) h
 ·simp only[cP];omega
 ·simp only[cP];omega
 ·simp only[cP,aH];omega
theorem aIa (sg:List aD) (op:Bool):∀ (f:Nat) (w:aD) (p:Nat × Nat) (acc:List Tok) (g:Fault),oM sg op f w p acc=.bad g→g.code=10
 | _,[],p,acc,g,h=>by simp only[oM] at h;cases h
 | 0,_::_,p,acc,g,h=>by simp only[oM] at h;cases h
 | f+1,c::r,p,acc,g,h=>by
  simp only[oM] at h;rcases htok:hC (c::r) sg op with ⟨t,n,ok⟩
  rw[htok] at h;cases ok with
  | false=>cases h;rfl
  | true=>exact aIa sg op f _ _ _ g h
theorem aBU {x:aD} {g:Fault} (h:iH dX true x=.bad g):g.code=10:=aIa _ _ _ _ _ _ _ h
theorem aNn (s:St) (x:aD) (KV Kp) (hx:x.length≤4294967290) (hk:(iH dX true x).out KV s):Den cx 141 [.str x] KV Kp s:=by
 (refine aZ func141 [0,2,3] ?_;simp only[go_sem,ntmps141,f141]);(intro q hq;try simp only[aV,ne_eq] at hq);simp only[go_sem,hq];refine aK1 _ _ _ ?_;simp only[go_sem,yO];(intro r hr;try simp only[aV,ne_eq] at hr);have hq':q≠r:=hr.1.1;simp only[go_sem,hr,hq,hq'];refine aOt _ r x dX _ _ (by rw[aJ,if_pos rfl];rfl) hx (by decide) fun o=>?_
 cases hl:iH dX true x with
 | ok l =>
  rw[hl] at hk;simp only[Lx.out] at hk ⊢;simp only[go_sem,hr,hq,hq',Fault.none];exact aM hk (nI hq (nI hr.2 (fL hq)))
 | bad f =>
  rw[hl] at hk;simp only[Lx.out] at hk ⊢;simp only[go_sem,hr,hq,hq'];exact aM hk (nI hq (nI hr.2 (fL hq)))
end Go.AV
section
open Go.Proofs.Tryz
namespace Go.Proofs
open Go.Shelf
def laysM171_ren:Go.Shelf.Ren:=⟨fun|171=>169|243=>244|246=>287|283=>307|284=>308|285=>309|286=>310|129=>319|317=>318|318=>320|319=>321|320=>322|337=>329|338=>330|n=>n,fun|3=>3|9=>9|2=>2|4=>4|171=>283|0=>0|53=>284|37=>152|5=>5|173=>287|212=>303|51=>277|20=>20|213=>304|46=>282|232=>326|233=>327|n=>n,fun|17=>3|18=>4|19=>5|n=>n⟩
theorem laysM171:Go.Proofs.LaysM.n171 prog laysM171_ren:={
 mixed:=by kernel_rfl
 f129:=Tryz.func319.trans (congrArg some (by kernel_rfl))
 f171:=func169.trans (congrArg some (by kernel_rfl))
 f243:=Tryz.func244.trans (congrArg some (by kernel_rfl))
 f246:=Tryz.func287.trans (congrArg some (by kernel_rfl))
 f283:=Tryz.func307.trans (congrArg some (by kernel_rfl))
 f284:=Tryz.func308.trans (congrArg some (by kernel_rfl))
 f285:=Tryz.func309.trans (congrArg some (by kernel_rfl))
 f286:=Tryz.func310.trans (congrArg some (by kernel_rfl))
 f317:=Tryz.func318.trans (congrArg some (by kernel_rfl))
 f318:=Tryz.func320.trans (congrArg some (by kernel_rfl))
 f319:=Tryz.func321.trans (congrArg some (by kernel_rfl))
 f320:=Tryz.func322.trans (congrArg some (by kernel_rfl))
 f337:=Tryz.func329.trans (congrArg some (by kernel_rfl))
 f338:=Tryz.func330.trans (congrArg some (by kernel_rfl))
 t0:=underlying0
 a0:=isAgg0
 z0:=sizeOf0
 v0:=zeroValue0
 t2:=underlying2
 a2:=isAgg2
 z2:=sizeOf2
 v2:=zeroValue2
 t3:=underlying3
 a3:=isAgg3
 z3:=sizeOf3
 v3:=zeroValue3
 t4:=underlying4
 a4:=isAgg4
 z4:=sizeOf4
 v4:=zeroValue4
 t5:=underlying5
 a5:=isAgg5
 z5:=sizeOf5
 v5:=zeroValue5
 t9:=underlying9
 a9:=isAgg9
 z9:=sizeOf9
 v9:=zeroValue9
 t20:=underlying20
 a20:=isAgg20
 z20:=sizeOf20
 v20:=zeroValue20
 t37:=underlying152
 a37:=isAgg152
 z37:=sizeOf152
 v37:=zeroValue152
 t46:=underlying282
 a46:=isAgg282
 z46:=sizeOf282
 v46:=zeroValue282
 t51:=underlying277
 a51:=isAgg277
 z51:=sizeOf277
 v51:=zeroValue277
 t53:=underlying284
 a53:=isAgg284
 z53:=sizeOf284
 v53:=zeroValue284
 t171:=underlying283
 a171:=isAgg283
 z171:=sizeOf283
 v171:=zeroValue283
 t173:=underlying287
 a173:=isAgg287
 z173:=sizeOf287
 v173:=zeroValue287
 t212:=underlying303
 a212:=isAgg303
 z212:=sizeOf303
 v212:=zeroValue303
 t213:=underlying304
 a213:=isAgg304
 z213:=sizeOf304
 t232:=underlying326
 a232:=isAgg326
 z232:=sizeOf326
 v232:=zeroValue326
 t233:=underlying327
 a233:=isAgg327
 z233:=sizeOf327
 v233:=zeroValue327
 g17:=by kernel_rfl
 g18:=by kernel_rfl
 g19:=by kernel_rfl
 i0:=by kernel_rfl
 i2:=by kernel_rfl
 i3:=by kernel_rfl
 i4:=by kernel_rfl
 i5:=by kernel_rfl
 i9:=by kernel_rfl
 i20:=by kernel_rfl
 i37:=by kernel_rfl
 i46:=by kernel_rfl
 i51:=by kernel_rfl
 i53:=by kernel_rfl
 i171:=by kernel_rfl
 i173:=by kernel_rfl
 i212:=by kernel_rfl
 i232:=by kernel_rfl
 i233:=by kernel_rfl
 m17:=by kernel_rfl
 m18:=by kernel_rfl
 m19:=by kernel_rfl }
open Go.RowKit Go.Sort Go.Lib in
theorem strconv_Itoa (n : Int) (h0 : -9223372036854775808 ≤ n) (h1 : n ≤ 9223372036854775807) (w : World) (htab : Lib.TabIs prog w "internal/strconv.uint64pow10" .u64 Lib.pow10Tab) :
  Calls prog 169 #[.int .i64 n] w fun e w'=>e=.returned (.string ⟨(Lib.itoa n).toArray⟩)∧∃ k os,w'=grow (w.drewN k) os:=Any.strconv_Itoa laysM171 n h0 h1 w htab
end Go.Proofs
namespace Go.AV
open Go Go.Proofs
theorem aMO : prog.globalNamed "internal/strconv.uint64pow10" = some 3 := by kernel_rfl
theorem aB9:uZ=Lib.pow10Tab.map (fun z=>A.int .u64 z):=by kernel_rfl
theorem aMQ {P : Program} {f : FuncId} {fn : Func} {c : Code} (hf : P.funcs[f]? = some fn) (hb : fn.body = some c) (hname : (fn.name == "runtime.NumGoroutine") = false) (vals : Array Value) (w : World) :
  (callFunc f vals).run P w=.ok (.enter f vals) w:=by
 simp only[callFunc,bH,run_program,bJ,hf,hname,bN,↓reduceIte,hb,Option.isNone_some,bX]
theorem aNu (n:Int) (h0:-9223372036854775808≤n) (h1:n≤9223372036854775807) (s:St) (KV Kp:St→A→Prop) (hk:KV s (.str (Lib.itoa n))):Den cx 169 [.int .i64 n] KV Kp s:=by
 refine aK9 (fun vals w=>?_) fun F g w vals hR hv=>?_
 ·exact aMQ (P:=prog) func169 rfl rfl vals w
 ·obtain ⟨v,hv0,hr⟩:=hv.get (j:=0) rfl;have hl:=hv.1
  have hvs:vals=[.int .i64 n]:=by
   match vals,hl,hv0 with
   | [x],_,h=>simp only[kI,bM] at h;subst h;rw[hr.int_inv]
  subst hvs
  have htab : Lib.TabIs prog w "internal/strconv.uint64pow10" .u64 Lib.pow10Tab := by
   obtain ⟨pre,ty,fr,h1,h2,h3,h4,h5⟩:=hR.gpi (b:=3) (cs:=uZ) rfl;unfold Lib.TabIs World.var?;rw[aMO];simp only[Option.bind_some,h1,bM];congr 1;apply List.ext_getElem?;intro i;by_cases hi:i<uZ.length
   ·have hp:i<pre.length:=by rw[h3];exact hi
    have hc:uZ[i]?=some (.int .u64 (Lib.pow10Tab[i]'(by rw[aB9] at hi;simpa using hi))):=by
     rw[cH hi];simp[aB9]
    have:=h5 i _ _ hc (cH hp);rw[cH hp,this.int_inv];rw[aB9] at hi;simp only[aI] at hi;simp[hi]
   ·rw[tZ (by omega),tZ (by rw[aB9] at hi;simpa using hi)]
  refine Calls.mono (strconv_Itoa n h0 h1 w htab) fun e w' hp=>?_
  obtain ⟨rfl,k,os,rfl⟩:=hp;refine ⟨_,_,rfl,fun b hb=>?_,rfl,.str _,hk⟩;show (w.heap++os)[b]?=w.heap[b]?;rw[Array.getElem?_append_left hb]
end Go.AV
end
namespace Go.AV
open Go Go.Proofs Tryz
section
structure Dc where
 name:aD
 sorts:A
 below:A
 ops:A
 funs:A
 values:A
 eqs:A
 once:A
 kind:aD
 many:A
 rules:A
 start:aD
 watch:aD
def Dc.cs (d:Dc):List A:=[.str d.name,d.sorts,d.below,d.ops,d.funs,d.values,d.eqs,d.once,.str d.kind,d.many,d.rules,.str d.start,.str d.watch]
def psC (T:List Tok) (fin:Fault) (d:Dc) (first:Tok) (i n:Nat):List A :=
 .list none (T.map Tok.enc)::.int .i64 i::(fin.cs++(d.cs++(first.cs++[.int .i64 n,.bool false])))
def bC (T:List Tok) (fin:Fault) (d:Dc) (first:Tok) (i n:Nat):Ob:=.cells 91 (psC T fin d first i n)
attribute [go_sem] Dc.cs psC bC
structure TOk (T:List Tok):Prop where
 len:T.length≤4294967290
 num:∀ t,t∈T→0≤t.n∧t.n≤2147483647
 col:∀ t,t∈T→0≤t.col∧t.col≤4294967296
 txt:∀ t,t∈T→t.text.length≤4294967296
def PK {α:Type} (T:List Tok) (i:Nat) (S:Nat→Nat→St) (enc:α→A) (KV:St→A→Prop) (a:α) (w:List Tok) (n:Nat):Prop:=∀ j,i≤j→j≤T.length→T.drop j=w→n≤2000→KV (S j n) (enc a)
def PB (s:St) (r:Nat) (Kp:St→A→Prop) (f:Fault):Prop:=∀ o,Kp (s.setO r o) (.iface 36 f.enc)
theorem lI {T:List Tok} {i:Nat} {t:Tok} {w:List Tok} (h:T.drop i=t::w):T[i]?=some t∧i<T.length∧T.drop (i+1)=w∧t∈T:=by
 have hl:=congrArg List.length h;rw[cP,aF] at hl;have h0:(T.drop i)[0]?=some t:=by rw[h];rfl
 rw[lE,Nat.add_zero] at h0;refine ⟨h0,by omega,?_,fJ h0⟩;rw[← kS,h];rfl
section
variable {T:List Tok} {fin:Fault} {d:Dc} {first:Tok} {i n:Nat} {s:St} {r:Nat} {KV Kp:St→A→Prop}
theorem kB (hr:s.getO r=some (bC T fin d first i n)) (hi:i≤T.length)
  (hk:match T.drop i with|t::_=>KV s t.enc|[]=>Kp s (.iface 36 fin.enc)):Den cx 91 [.ptr r 0] KV Kp s:=by
 simp only[go_sem] at hr;(refine aZ func91 [0,2,12] ?_;simp only[go_sem,ntmps91,f91]);intro b hb;have hne:=cF hr hb;simp only[go_sem,hb,hne,hr];(refine aP (OT.r 0 10) [] ?_;simp only[go_sem,hr,hne]);(refine cD (fun h=>?_) (fun h=>?_))<;>simp only[go_sem,h,hr,hne]
 ·have he:i=T.length:=by simpa using h
  rw[vE (by omega)] at hk;exact aM hk (fL hb)
 ·have hlt:i<T.length:=by
   have:¬ i=T.length:=by simpa using h
   omega
  rw[lU hlt] at hk;have ht:T[i]?=some T[i]:=cH hlt;(refine aP (OT.r 0 11) [] ?_;simp only[go_sem,hr,hne,ht,hlt]);exact aM hk (fL hb)
theorem nN (x:aD) (hr:s.getO r=some (bC T fin d first i n)) (hi:i≤T.length)
  (hk:KV s (.bool (bI x (T.drop i)))):Den cx 149 [.ptr r 0,.str x] KV Kp s:=by
 simp only[go_sem] at hr;(refine aZ func149 [0,1,4,5,15] ?_;simp only[go_sem,ntmps149,f149]);(refine aP (OT.r 0 10) [] ?_;simp only[go_sem,hr]);(refine cD (fun h=>?_) (fun h=>?_))<;>simp only[go_sem,h,hr]
 ·have he:i=T.length:=by simpa using h
  rw[vE (by omega)] at hk;exact aO hk
 ·have hlt:i<T.length:=by
   have:¬ i=T.length:=by simpa using h
   omega
  rw[lU hlt] at hk;have ht:T[i]?=some T[i]:=cH hlt;simp only[bI,dC] at hk;(refine aP (OT.r 0 12) [(10,[3,7,9])] ?_;simp only[go_sem,hr,ht,hlt]);intro b hb;have hne:=cF hr hb;simp only[go_sem,hb,hne,hr,ht,hlt]
  (repeat' (first|exact aM hk dA|((refine cD (fun h=>?_) (fun h=>?_))<;>simp only[go_sem,h,hb]<;>(try simp only[h,dY,cQ,fK,cZ,iX,fO,iI,eD,dT,fD] at hk))))
theorem iZ (x:aD) (hr:s.getO r=some (bC T fin d first i n)) (hi:i≤T.length) (hT:TOk T)
  (hk:match bI x (T.drop i) with|true=>KV (s.setO r (bC T fin d first (i+1) n)) (.bool true)|false=>KV s (.bool false)):Den cx 144 [.ptr r 0,.str x] KV Kp s:=by
 (refine aZ func144 [0,1,4,8] ?_;simp only[go_sem,ntmps144,f144]);refine nN x hr hi ?_;simp only[go_sem] at hr;have:=hT.len;simp only[go_sem];(refine cD (fun h=>?_) (fun h=>?_))<;>simp only[go_sem,h]
 ·rw[show bI x (T.drop i)=false from by simpa using h] at hk;exact aO hk
 ·rw[show bI x (T.drop i)=true from by simpa using h] at hk;simp only[go_sem,hr,bP i (by omega)];exact aO hk
theorem kY {x:aD} (h:bI x (T.drop i)=true):i+1≤T.length:=by
 cases hw:T.drop i with
 | nil=>rw[hw] at h;cases h
 | cons t w=>exact (lI hw).2.1
theorem aLu (t:Tok) (h0:0≤t.n) (h1:t.n≤2147483647) (hk:KV s (.str t.name)):Den cx 93 [t.enc] KV Kp s:=by
 unfold Tok.name at hk;simp only[go_sem];(refine aZ func93 [0,1,2,5] ?_;simp only[go_sem,ntmps93,f93]);(intro b hb;try simp only[aV,ne_eq] at hb);simp only[go_sem,hb];(refine cD (fun h=>?_) (fun h=>?_))<;>simp only[go_sem,h,hb]
 ·have hk2:t.kind=2:=by simpa using h
  rw[if_pos hk2] at hk;refine aNu t.n (by omega) (by omega) _ _ _ ?_;simp only[go_sem];exact aM hk (fL hb)
 ·have hk2:¬ t.kind=2:=by simpa using h
  rw[if_neg hk2] at hk;exact aM hk (fL hb)
theorem aD7 (t:Tok) (hk:Kp s (.iface 36 (Fault.enc ⟨3,[],t.line,t.col⟩))):Den cx 220 [t.enc] KV Kp s:=by
 simp only[go_sem] at hk;simp only[go_sem];(refine aZ func220 [0,1] ?_;simp only[go_sem,ntmps220,f220]);(intro b hb;try simp only[aV,ne_eq] at hb);simp only[go_sem,hb];exact aM hk (fL hb)
theorem nZ (code:Int) (hr:s.getO r=some (bC T fin d first i n)) (hi:i≤T.length) (hT:TOk T)
  (hk:Kp s (.iface 36 (eG fin code (T.drop i)).enc)):Den cx 42 [.ptr r 0,.int .i64 code] KV Kp s:=by
 (refine aZ func42 [0,1,4] ?_;simp only[go_sem,ntmps42,f42]);refine kB hr hi ?_;cases hw:T.drop i with
 | nil=>rw[hw] at hk;exact aO hk
 | cons t w =>
  rw[hw] at hk;obtain ⟨h1,h2,h3,h4⟩:=lI hw;obtain ⟨h5,h6⟩:=hT.num t h4;simp only[eG] at hk;simp only[go_sem] at hk;simp only[go_sem];(intro b hb;try simp only[aV,ne_eq] at hb);simp only[go_sem,hb];(refine aP (OT.l [0,1,3,4,5,6,2,7,8,9] .nil) [(2,[4,6])] ?_;simp only[go_sem,hb]);refine aLu t h5 h6 ?_;simp only[go_sem,hb];exact aM hk (fL hb)
end
end
def aC (ln cl:Int):Fault:=⟨12,[],ln,cl⟩
def gC {T:List Tok} (ln cl:Int) (q:RQ T) (d:Dc):List A:=.list none (T.map Tok.enc)::.int .i64 q.at_::.int .i64 ln::.int .i64 cl::(q.f.cs++(.int .i64 q.first::.int .i64 q.nodes::.bool q.over::d.cs))
def aG {T:List Tok} (ln cl:Int) (q:RQ T) (d:Dc):Ob:=.cells 95 (gC ln cl q d)
attribute [go_sem] gC aG
theorem bD {p:Prop} (h:p:=by (simp only[aJ,dN,gE,aT,aB,ne_eq,dK,reduceIte,aG,gC, *]<;>(first|done|rfl|assumption))):p:=h
theorem RQ.get {T:List Tok} {q:RQ T} (h:q.at_<T.length):T[q.at_]?=some q.tok:=by
 unfold RQ.tok;rw[cH h];rfl
theorem xS {T:List Tok} {q:RQ T} (h:q.at_<T.length):q.inc=⟨q.at_+1,h,q.f,q.first,q.nodes,q.over⟩:=by
 unfold RQ.inc;rw[dif_pos h]
theorem RQ.mem {T:List Tok} {q:RQ T} (h:q.at_<T.length):q.tok∈T:=fJ (RQ.get h)
theorem aFW {u:Nat} (h:¬ u<10):Lib.decDigits u=Lib.decDigits (u / 10)++Lib.decDigits (u % 10):=by
 rw[Lib.decDigits,dif_neg h];congr 1;rw[Lib.decDigits,dif_pos (Nat.mod_lt _ (by omega))]
theorem aLU (n:Nat) (h:n<10):List.take 1 (List.drop n ([48,49,50,51,52,53,54,55,56,57]:List UInt8))=[UInt8.ofNat (48+n)]:=by
 match n,h with
 | 0,_|1,_|2,_|3,_|4,_|5,_|6,_|7,_|8,_|9,_=>rfl
theorem xA:∀ (k u:Nat),u<10 ^ (k+1)→(Lib.decDigits u).length≤k+1
 | 0,u,h=>by rw[Lib.decDigits,dif_pos (by simpa using h)];simp
 | k+1,u,h=>by
  by_cases h1:u<10
  ·rw[Lib.decDigits,dif_pos h1];simp
  ·rw[Lib.decDigits,dif_neg h1,aR,List.length_singleton];have:=xA k (u / 10) (by rw[Nat.pow_succ] at h;omega);omega
theorem p19:(10:Nat) ^ (18+1)=10000000000000000000:=by decide
theorem aDK (m:Nat):∀ (n:Nat) (s:St) (KV Kp:St→A→Prop),n≤m→(n:Int)≤9223372036854775807→KV s (.str (Lib.decDigits n))→Den cx 77 [.int .i64 (n:Int)] KV Kp s:=by
 induction m using Nat.strongRecOn with
 | _ m ih =>
  intro n s KV Kp hm hn hk;have d1:decide ((n:Int)≤-10)=false:=by rw[tY];omega
  have d2:decide ((n:Int)<0)=false:=by rw[tY];omega
  (refine aZ func77 [0,2,4,14,20] ?_;simp only[go_sem,ntmps77,f77]);simp only[go_sem,d1,d2];cases c:decide ((n:Int)<10) with
  | true =>
   have hlt:n<10:=by simp at c;omega
   simp only[go_sem,d1,d2,c];rw[bP n (by omega)];refine ⟨by omega,?_⟩;rw[show (((n+1:Nat):Int).toNat-n)=1 by omega]
   have e:List.take 1 (List.drop n ([48,49,50,51,52,53,54,55,56,57]:List UInt8))=Lib.decDigits n:=by
    rw[Lib.decDigits,dif_pos hlt];exact aLU n hlt
   rw[e];exact aO hk
  | false =>
   have hge:¬ n<10:=by simp at c;omega
   have e1:IntKind.i64.wrap ((n:Int).tdiv 10)=((n / 10:Nat):Int):=by
    rw[show (n:Int).tdiv 10=((n / 10:Nat):Int) from rfl,eX _ (by omega) (by omega)]
   have e2:IntKind.i64.wrap ((n:Int).tmod 10)=((n % 10:Nat):Int):=by
    rw[show (n:Int).tmod 10=((n % 10:Nat):Int) from rfl,eX _ (by omega) (by omega)]
   have d10:((10:Int)=0)=False:=by simp
   simp only[go_sem,d1,d2,c,d10,e1,e2];refine ih (n / 10) (by omega) (n / 10) _ _ _ (bE _) (by omega) ?_;simp only[go_sem,d1,d2,c,d10,e1,e2];refine ih (n % 10) (by omega) (n % 10) _ _ _ (bE _) (by omega) ?_;simp only[go_sem,d1,d2,c,d10,e1,e2];have l1:=xA 18 (n / 10) (by rw[p19];omega);have l2:=xA 18 (n % 10) (by rw[p19];omega);refine ⟨by unfold maxLen;omega,?_⟩;rw[← aFW hge];exact aO hk
theorem aK6 (n:Int) (s:St) (KV Kp:St→A→Prop) (h1:-9223372036854775808≤n) (h2:n≤9223372036854775807) (hk:KV s (.str (Lib.itoa n))):Den cx 77 [.int .i64 n] KV Kp s:=by
 by_cases hn:0≤n
 ·obtain ⟨m,rfl⟩:=Int.eq_ofNat_of_zero_le hn;refine aDK m m _ _ _ (bE _) h2 ?_;unfold Lib.itoa at hk;rw[if_neg (by omega)] at hk;exact hk
 ·have neg:∀ (m:Nat) (j:Int) (s:St) (KV Kp:St→A→Prop),j.natAbs≤m→-9223372036854775808≤j→j<0→KV s (.str (45::Lib.decDigits j.natAbs))→Den cx 77 [.int .i64 j] KV Kp s:=by
   intro m
   induction m with
   | zero=>intro j s KV Kp h _ h2;omega
   | succ m ih =>
    intro j s KV Kp hm hj1 hj2 hk;by_cases hb:j≤-10
    ·have d1:decide (j≤-10)=true:=by rw[decide_eq_true_iff];exact hb
     have d10:((10:Int)=0)=False:=by simp
     have q1:j.tdiv 10=-((j.natAbs / 10:Nat):Int):=by
      have:j=-((j.natAbs:Nat):Int):=by omega
      rw[this,Int.neg_tdiv];simp only[Int.natAbs_neg,Int.natAbs_natCast];rfl
     have q2:j.tmod 10=-((j.natAbs % 10:Nat):Int):=by
      have:j=-((j.natAbs:Nat):Int):=by omega
      rw[this,Int.neg_tmod];simp only[Int.natAbs_neg,Int.natAbs_natCast];rfl
     have e1:IntKind.i64.wrap (j.tdiv 10)=-((j.natAbs / 10:Nat):Int):=by rw[q1,eX _ (by omega) (by omega)]
     have e2:IntKind.i64.wrap (j.tmod 10)=-((j.natAbs % 10:Nat):Int):=by rw[q2,eX _ (by omega) (by omega)]
     have e3:IntKind.i64.wrap (0 - -((j.natAbs % 10:Nat):Int))=((j.natAbs % 10:Nat):Int):=by rw[eX _ (by omega) (by omega)];omega
     (refine aZ func77 [0,2,4,14,20] ?_;simp only[go_sem,ntmps77,f77]);simp only[go_sem,d1,d10,e1];refine ih _ _ _ _ (by omega) (by omega) (by omega) ?_;simp only[go_sem,d1,d10,e1,e2,e3,q2];refine aDK _ (j.natAbs % 10) _ _ _ (bE _) (by omega) ?_;simp only[go_sem,d1,d10,e1,e2,e3,q2];have l1:=xA 18 (j.natAbs / 10) (by rw[p19];omega);have l2:=xA 18 (j.natAbs % 10) (by rw[p19];omega);have e4:(-((j.natAbs / 10:Nat):Int)).natAbs=j.natAbs / 10:=by omega
     rw[e4];refine ⟨by unfold maxLen;omega,?_⟩;rw[← aFW (by omega)];exact aO hk
    ·have d1:decide (j≤-10)=false:=by rw[tY];omega
     have d2:decide (j<0)=true:=by rw[decide_eq_true_iff];omega
     have e1:IntKind.i64.wrap (0-j)=((j.natAbs:Nat):Int):=by rw[eX _ (by omega) (by omega)];omega
     (refine aZ func77 [0,2,4,14,20] ?_;simp only[go_sem,ntmps77,f77]);simp only[go_sem,d1,d2,e1];refine aDK _ j.natAbs _ _ _ (bE _) (by omega) ?_;simp only[go_sem,d1,d2,e1];have l1:=xA 18 j.natAbs (by rw[p19];omega);refine ⟨by unfold maxLen;omega,?_⟩;exact aO hk
  refine neg _ n _ _ _ (bE _) h1 (by omega) ?_;unfold Lib.itoa at hk;rw[if_pos (by omega)] at hk;exact hk
section
theorem aKI (x:aD) (s:St) (KV Kp:St→A→Prop) (hk:KV s (.bool (decide (x∈jL)))):Den cx 79 [.str x] KV Kp s:=by
 have e:decide (x∈jL)=(decide (x=[108,97,110,103,117,97,103,101])||(decide (x=[115,111,114,116])||(decide (x=[115,117,98,115,111,114,116])||(decide (x=[118,97,108,117,101])||(decide (x=[111,112])||(decide (x=[102,117,110])||(decide (x=[108,101,116])||(decide (x=[105,102])||(decide (x=[115,116,97,114,116])||(decide (x=[99,101,108,108])||(decide (x=[109,97,110,121])||(decide (x=[119,97,116,99,104])||(decide (x=[114,117,108,101])||(decide (x=[112,114,101,99])||(decide (x=[108,101,102,116])||(decide (x=[114,105,103,104,116])||(decide (x=[115,116,114,105,99,116])||(decide (x=[110,101,119])||(decide (x=[100,114,111,112])||(decide (x=[116,114,117,101])||decide (x=[102,97,108,115,101]))))))))))))))))))))):=by
  simp only[jL,iR,qH,oA,Bool.decide_or]
 (refine aZ func79 [0,2,3,4] ?_;simp only[go_sem,ntmps79,f79]);rw[e] at hk
 repeat' (first|exact aO hk|((refine cD (fun h=>?_) (fun h=>?_))<;>simp only[go_sem,h]<;>(try simp only[h,fO,eD] at hk)))
section
variable {T:List Tok} {ln cl:Int} {q:RQ T} {d:Dc} {s:St} {r:Nat} {KV Kp:St→A→Prop}
theorem iJ (hr:s.getO r=some (aG ln cl q d)) (hk:KV s (.bool q.ok)):Den cx 45 [.ptr r 0] KV Kp s:=by
 simp only[go_sem] at hr;(refine aZ func45 [0,2] ?_;simp only[go_sem,ntmps45,f45]);simp only[go_sem,hr];exact aO hk
theorem kU (hT:TOk T) (code:Int) (p:Nat) (named:Bool) (hr:s.getO r=some (aG ln cl q d)) (hk:KV (s.setO r (aG ln cl (cJ (aC ln cl) code p named q) d)) (.tuple [])) :
  Den cx 46 [.ptr r 0,.int .i64 code,.int .i64 p,.bool named] KV Kp s:=by
 have hr2:=hr;simp only[go_sem] at hr2;(refine aZ func46 [0,1,2,3,8,11,18,47,56] ?_;simp only[go_sem,ntmps46,f46]);refine iJ hr ?_;unfold cJ at hk;cases h:q.ok with
 | false =>
  rw[h] at hk;simp only[bN,if_false] at hk;simp only[go_sem];exact aM hk (lY hr)
 | true =>
  rw[h] at hk;simp only[if_true] at hk;simp only[go_sem,hr2];cases hp:decide (T.length≤p) with
  | true =>
   have:T[p]?=none:=tZ (by simpa using hp);rw[this] at hk;simp only[go_sem,hr2];(refine aP (OT.r 0 13) [] ?_;simp only[go_sem,hr2]);simp only[go_sem] at hk;exact aO hk
  | false =>
   have hlt:p<T.length:=by simp at hp;omega
   have ht:T[p]?=some T[p]:=cH hlt;have hmem:=fJ ht;rw[ht] at hk;generalize T[p]=t at ht hk hmem;simp only at hk;simp only[go_sem,hr2,ht,hlt];(intro b hb;try simp only[aV,ne_eq] at hb);have hne:=cF hr hb;simp only[go_sem,hr2,hne,hb];cases named with
   | false =>
    simp only[bN,if_false] at hk;simp only[go_sem,hr2,hne,hb];simp only[go_sem] at hk;exact aM hk (mT (rT (by simp only[aJ,reduceIte]<;>rfl) (vW (by simp) (sX hb (vN _ _ _)))))
   | true =>
    simp only[if_true,Tok.name] at hk;simp only[go_sem,hr2,hne,hb];cases h2:decide (t.kind=2) with
    | true =>
     rw[if_pos (by simpa using h2)] at hk;simp only[go_sem,hr2,hne,hb,h2];have hnum:=hT.num t hmem;refine aK6 t.n _ _ _ (by omega) (by omega) ?_;simp only[go_sem,hr2,hne,hb,h2];simp only[go_sem] at hk;exact aM hk (mT (rT (by simp only[aJ,reduceIte]<;>rfl) (vW (by simp) (sX hb (vN _ _ _)))))
    | false =>
     rw[if_neg (by simpa using h2)] at hk;simp only[go_sem,hr2,hne,hb,h2];simp only[go_sem] at hk;exact aM hk (mT (rT (by simp only[aJ,reduceIte]<;>rfl) (vW (by simp) (sX hb (vN _ _ _)))))
theorem aEh (kind:Int) (x:aD) (hr:s.getO r=some (aG ln cl q d)) (hk:KV s (.bool (aS kind x q))):Den cx 156 [.ptr r 0,.int .i64 kind,.str x] KV Kp s:=by
 have hr2:=hr;simp only[go_sem] at hr2;have ho:∀ K1 K2 s1,s1.getO r=some (aG ln cl q d)→K1 s1 (.bool q.ok)→Den cx 45 [.ptr r 0] K1 K2 s1:=fun K1 K2 s1 h1 h2=>iJ h1 h2
 unfold aS at hk;(refine aZ func156 [0,1,2,6] ?_;simp only[go_sem,ntmps156,f156]);(refine aP (OT.r 0 45) [(1,[6,10,18,22,25,33,37,40])] ?_;simp only[go_sem,hr2]);refine ho _ _ _ hr ?_;cases h1:q.ok with
 | false =>
  rw[h1] at hk;simp only[go_sem,hr2];exact aO hk
 | true =>
  rw[h1] at hk;simp only[go_sem,hr2];cases h2:decide (q.at_<T.length) with
  | false =>
   rw[h2] at hk;simp only[go_sem,hr2,h2];exact aO hk
  | true =>
   rw[h2] at hk;have hlt:q.at_<T.length:=by simpa using h2
   have ht:=RQ.get hlt;simp only[go_sem,hr2,h2,ht,hlt];cases h3:decide (q.tok.kind=kind) with
   | false =>
    rw[h3] at hk;simp only[go_sem,hr2,h2,ht,hlt];exact aO hk
   | true =>
    rw[h3] at hk;simp only[go_sem,hr2,h2,ht,hlt];exact aO hk
end
end
section
section
variable {T:List Tok} {ln cl:Int} {q:RQ T} {d:Dc} {s:St} {r:Nat} {KV Kp:St→A→Prop}
theorem sQ (kind:Int) (hr:s.getO r=some (aG ln cl q d)) (hk:KV s (.bool (fS kind q))):Den cx 229 [.ptr r 0,.int .i64 kind] KV Kp s:=by
 have hr2:=hr;simp only[go_sem] at hr2;unfold fS at hk;(refine aZ func229 [0,1,4] ?_;simp only[go_sem,ntmps229,f229]);(refine aP (OT.r 0 30) [(1,[6,10,18,22,25])] ?_;simp only[go_sem,hr2]);refine iJ hr ?_;cases h1:q.ok with
 | false =>
  rw[h1] at hk;simp only[go_sem,hr2];exact aO hk
 | true =>
  rw[h1] at hk;simp only[go_sem,hr2];cases h2:decide (q.at_<T.length) with
  | false =>
   rw[h2] at hk;simp only[go_sem,hr2,h2];exact aO hk
  | true =>
   rw[h2] at hk;have hlt:q.at_<T.length:=by simpa using h2
   have ht:=RQ.get hlt;simp only[go_sem,hr2,h2,ht,hlt];exact aO hk
theorem uC (hr:s.getO r=some (aG ln cl q d)) (hk:KV s (.bool (cN q))):Den cx 157 [.ptr r 0] KV Kp s:=by
 have hr2:=hr;simp only[go_sem] at hr2;unfold cN at hk;(refine aZ func157 [0,2] ?_;simp only[go_sem,ntmps157,f157]);(refine aP (OT.r 0 44) [(1,[6,10,18,22,25,32,36,39])] ?_;simp only[go_sem,hr2]);refine iJ hr ?_;cases h1:q.ok with
 | false =>
  rw[h1] at hk;simp only[go_sem,hr2];exact aO hk
 | true =>
  rw[h1] at hk;simp only[go_sem,hr2];cases h2:decide (q.at_<T.length) with
  | false =>
   rw[h2] at hk;simp only[go_sem,hr2,h2];exact aO hk
  | true =>
   rw[h2] at hk;have hlt:q.at_<T.length:=by simpa using h2
   have ht:=RQ.get hlt;simp only[go_sem,hr2,h2,ht,hlt];cases h3:decide (q.tok.kind=1) with
   | false =>
    rw[h3] at hk;simp only[go_sem,hr2,h2,ht,hlt];exact aO hk
   | true =>
    rw[h3] at hk;simp only[go_sem,hr2,h2,ht,hlt];refine aKI _ _ _ _ ?_;simp only[go_sem,hr2,h2,ht,hlt];exact aO hk
theorem fP (x:aD) (hr:s.getO r=some (aG ln cl q d)) (hk:KV s (.bool (aS 1 x q))):Den cx 158 [.ptr r 0,.str x] KV Kp s:=by
 (refine aZ func158 [0,1,4] ?_;simp only[go_sem,ntmps158,f158]);refine aEh 1 x hr ?_;simp only[go_sem];exact aO hk
theorem oY (x:aD) (hr:s.getO r=some (aG ln cl q d)) (hk:KV s (.bool (aS 4 x q))):Den cx 228 [.ptr r 0,.str x] KV Kp s:=by
 (refine aZ func228 [0,1,4] ?_;simp only[go_sem,ntmps228,f228]);refine aEh 4 x hr ?_;simp only[go_sem];exact aO hk
theorem lP {kind:Int} {x:aD} (h:aS kind x q=true):q.at_<T.length:=by
 simp only[aS,bT,eC] at h;exact h.2.1
theorem aEG {kind:Int} (h:fS kind q=true):q.at_<T.length:=by
 simp only[fS,bT,eC] at h;exact h.2.1
theorem aAf (h:cN q=true):q.at_<T.length:=by
 simp only[cN,bT,eC] at h;exact h.2.1
theorem aGr (hT:TOk T) (kind:Int) (x:aD) (hr:s.getO r=some (aG ln cl q d)) (hk:KV (s.setO r (aG ln cl (aY (aC ln cl) kind x q) d)) (.tuple [])):Den cx 87 [.ptr r 0,.int .i64 kind,.str x] KV Kp s:=by
 have hr2:=hr;simp only[go_sem] at hr2;have hlen:=hT.len;unfold aY at hk;(refine aZ func87 [0,1,2,10] ?_;simp only[go_sem,ntmps87,f87]);refine aEh kind x hr ?_;cases h:aS kind x q with
 | false =>
  rw[h] at hk;simp only[bN,if_false] at hk;simp only[go_sem,hr2];refine kU hT 11 q.at_ true hr ?_;simp only[go_sem];exact aO hk
 | true =>
  have hlt:=lP h;rw[h,if_pos rfl,xS hlt] at hk;simp only[go_sem,hr2,bP q.at_ (by omega)];simp only[go_sem] at hk;exact aO hk
theorem dZ (hT:TOk T) (x:aD) (hr:s.getO r=some (aG ln cl q d)) (hk:KV (s.setO r (aG ln cl (aY (aC ln cl) 4 x q) d)) (.tuple [])):Den cx 89 [.ptr r 0,.str x] KV Kp s:=by
 (refine aZ func89 [0,1] ?_;simp only[go_sem,ntmps89,f89]);refine aGr hT 4 x hr ?_;simp only[go_sem];exact aO hk
theorem iW (hT:TOk T) (hr:s.getO r=some (aG ln cl q d)) (hk:KV (s.setO r (aG ln cl (bB (aC ln cl) q).2 d)) (.str (bB (aC ln cl) q).1)):Den cx 88 [.ptr r 0] KV Kp s:=by
 have hr2:=hr;simp only[go_sem] at hr2;have hlen:=hT.len;unfold bB at hk;(refine aZ func88 [0,2,5] ?_;simp only[go_sem,ntmps88,f88]);refine uC hr ?_;cases h:cN q with
 | false =>
  rw[h] at hk;simp only[bN,if_false] at hk;simp only[go_sem,hr2];refine kU hT 11 q.at_ true hr ?_;simp only[go_sem];exact aO hk
 | true =>
  have hlt:=aAf h;have ht:=RQ.get hlt;rw[h,if_pos rfl,xS hlt] at hk;have em:IntKind.i64.wrap (((q.at_+1:Nat):Int)-1)=(q.at_:Int):=by rw[eX _ (by omega) (by omega)];omega
  have h0:(0:Int)≤(q.at_:Int):=by omega
  simp only[go_sem,hr2,bP q.at_ (by omega)];(refine aP (OT.r 0 13) [] ?_;simp only[go_sem,hr2,em,h0,ht,hlt,Int.toNat_natCast,Option.map]);simp only[go_sem] at hk;exact aO hk
theorem nG (hT:TOk T) (hr:s.getO r=some (aG ln cl q d)) (hk:KV (s.setO r (aG ln cl (dQ [44] q).2 d)) (.bool (dQ [44] q).1)):Den cx 159 [.ptr r 0] KV Kp s:=by
 have hr2:=hr;simp only[go_sem] at hr2;have hlen:=hT.len;unfold dQ at hk;(refine aZ func159 [0,2,5] ?_;simp only[go_sem,ntmps159,f159]);refine oY [44] hr ?_;cases h:aS 4 [44] q with
 | false =>
  rw[h] at hk;simp only[bN,if_false] at hk;simp only[go_sem,hr2];exact aM hk (lY hr)
 | true =>
  have hlt:=lP h;rw[h,if_pos rfl,xS hlt] at hk;simp only[go_sem,hr2,bP q.at_ (by omega)];simp only[go_sem] at hk;exact aO hk
theorem aBi (hT:TOk T) (hr:s.getO r=some (aG ln cl q d)) (hk:KV (s.setO r (aG ln cl (dQ [59] q).2 d)) (.bool (dQ [59] q).1)):Den cx 284 [.ptr r 0] KV Kp s:=by
 have hr2:=hr;simp only[go_sem] at hr2;have hlen:=hT.len;unfold dQ at hk;(refine aZ func284 [0,2,5] ?_;simp only[go_sem,ntmps284,Tryz.f284]);refine oY [59] hr ?_;cases h:aS 4 [59] q with
 | false =>
  rw[h] at hk;simp only[bN,if_false] at hk;simp only[go_sem,hr2];exact aM hk (lY hr)
 | true =>
  have hlt:=lP h;rw[h,if_pos rfl,xS hlt] at hk;simp only[go_sem,hr2,bP q.at_ (by omega)];simp only[go_sem] at hk;exact aO hk
end
end
section
section
variable {T:List Tok}
@[go_sem] theorem RQ.inc_f (q:RQ T):q.inc.f=q.f:=by unfold RQ.inc;split<;>rfl
@[go_sem] theorem aF3 (q:RQ T):q.inc.first=q.first:=by unfold RQ.inc;split<;>rfl
@[go_sem] theorem aFY (q:RQ T):q.inc.nodes=q.nodes:=by unfold RQ.inc;split<;>rfl
@[go_sem] theorem aDQ (q:RQ T):q.inc.over=q.over:=by unfold RQ.inc;split<;>rfl
theorem RQ.inc_at {q:RQ T} (h:q.at_<T.length):q.inc.at_=q.at_+1:=by rw[xS h]
variable (fin:Fault) (code:Int) (p:Nat) (b:Bool) (q:RQ T)
@[go_sem] theorem aEz:(cJ fin code p b q).at_=q.at_:=by unfold cJ;split<;>rfl
@[go_sem] theorem aSN:(cJ fin code p b q).first=q.first:=by unfold cJ;split<;>rfl
@[go_sem] theorem aSM:(cJ fin code p b q).nodes=q.nodes:=by unfold cJ;split<;>rfl
@[go_sem] theorem aST:(cJ fin code p b q).over=q.over:=by unfold cJ;split<;>rfl
end
section
variable {T:List Tok} {ln cl:Int} {q:RQ T} {d:Dc} {s:St} {r:Nat} {KV Kp:St→A→Prop}
theorem lX (hT:TOk T) (a b:Nat) (hr:s.getO r=some (aG ln cl q d)) (hk:KV (s.setO r (aG ln cl (bG (aC ln cl) a b q) d)) (.tuple [])):Den cx 160 [.ptr r 0,.int .i64 (a:Int),.int .i64 (b:Int)] KV Kp s:=by
 have hr2:=hr;simp only[go_sem] at hr2;unfold bG at hk;(refine aZ func160 [0,1,2,8] ?_;simp only[go_sem,ntmps160,f160]);cases h:decide (b≤a) with
 | true =>
  rw[if_pos (by simp at h;omega)] at hk;simp only[go_sem,h,hr2];refine kU hT 3 q.at_ false hr ?_;simp only[go_sem];simp only[go_sem] at hk;exact aO hk
 | false =>
  rw[if_neg (by simp at h;omega)] at hk;simp only[go_sem,h];exact aM hk (lY hr)
theorem qK (hT:TOk T) (was:Bool) (hlt:q.at_<T.length) (hr:s.getO r=some (aG ln cl q d)) (hk:KV (s.setO r (aG ln cl (dI (aC ln cl) was q) d)) (.tuple [])):Den cx 230 [.ptr r 0,.bool was] KV Kp s:=by
 have hr2:=hr;simp only[go_sem] at hr2;have hlen:=hT.len;unfold dI at hk;(refine aZ func230 [0,1,4] ?_;simp only[go_sem,ntmps230,f230]);cases was with
 | true =>
  simp only[if_true] at hk;simp only[go_sem,hr2];refine kU hT 14 q.at_ true hr ?_;simp only[go_sem,bP q.at_ (by omega)];simp only[go_sem,RQ.inc_at (q:=cJ (aC ln cl) 14 q.at_ true q) (by rw[aEz];exact hlt)] at hk;exact aO hk
 | false =>
  simp only[bN,if_false] at hk;simp only[go_sem,hr2,bP q.at_ (by omega)];simp only[go_sem,RQ.inc_at hlt] at hk;exact aO hk
theorem aA7 (hT:TOk T) (most:Int) (hr:s.getO r=some (aG ln cl q d)) (hk:KV (s.setO r (aG ln cl (gS (aC ln cl) most q).2 d)) (.int .i64 (gS (aC ln cl) most q).1)):Den cx 231 [.ptr r 0,.int .i64 most] KV Kp s:=by
 have hr2:=hr;simp only[go_sem] at hr2;have hlen:=hT.len;unfold gS at hk;(refine aZ func231 [0,1,4,5,8,32] ?_;simp only[go_sem,ntmps231,f231]);refine sQ 2 hr ?_;cases h:fS 2 q with
 | false =>
  rw[h] at hk;simp only[bN,if_false] at hk;simp only[go_sem,hr2];refine kU hT 11 q.at_ true hr ?_;simp only[go_sem];simp only[go_sem] at hk;exact aO hk
 | true =>
  have hlt:=aEG h;have ht:=RQ.get hlt;rw[h,if_pos rfl] at hk;simp only[go_sem];(refine aP (OT.r 0 12) [] ?_;simp only[go_sem,hr2,ht,hlt]);cases c1:decide (q.tok.n<1) with
  | true =>
   rw[if_pos (.inl (by simpa using c1))] at hk;simp only[go_sem,hr2,c1];refine kU hT 20 q.at_ true hr ?_;simp only[go_sem,bP q.at_ (by omega)];simp only[go_sem,RQ.inc_at (q:=cJ (aC ln cl) 20 q.at_ true q) (by rw[aEz];exact hlt)] at hk;exact aO hk
  | false =>
   cases c2:decide (most<q.tok.n) with
   | true =>
    rw[if_pos (.inr (by simpa using c2))] at hk;simp only[go_sem,hr2,c1,c2];refine kU hT 20 q.at_ true hr ?_;simp only[go_sem,bP q.at_ (by omega)];simp only[go_sem,RQ.inc_at (q:=cJ (aC ln cl) 20 q.at_ true q) (by rw[aEz];exact hlt)] at hk;exact aO hk
   | false =>
    rw[if_neg (by simp at c1 c2;omega)] at hk;simp only[go_sem,hr2,c1,c2,bP q.at_ (by omega)];simp only[go_sem,RQ.inc_at hlt] at hk;exact aO hk
theorem aBh (hr:s.getO r=some (aG ln cl q d)) (hk:KV s (.tuple [.int .i64 (dR (aC ln cl) q).1,.int .i64 (dR (aC ln cl) q).2])):Den cx 232 [.ptr r 0] KV Kp s:=by
 have hr2:=hr;simp only[go_sem] at hr2;unfold dR at hk;(refine aZ func232 [0,2,3,13] ?_;simp only[go_sem,ntmps232,f232]);(refine aP (OT.r 0 10) [] ?_;simp only[go_sem,hr2]);cases h:decide (T.length≤q.at_) with
 | true =>
  rw[if_pos (by simpa using h)] at hk;simp only[go_sem,h];(refine aP (OT.r 0 10) [] ?_;simp only[go_sem,hr2]);exact aO hk
 | false =>
  have hlt:q.at_<T.length:=by simp at h;omega
  have ht:=RQ.get hlt;rw[if_neg (by omega)] at hk;simp only[go_sem,h];(refine aP (OT.r 0 24) [] ?_;simp only[go_sem,hr2,ht,hlt]);exact aO hk
theorem aDN (hT:TOk T) (deep p:Nat) (hr:s.getO r=some (aG ln cl q d)) (hk:KV (s.setO r (aG ln cl (iE (aC ln cl) deep p q) d)) (.tuple [])):Den cx 171 [.ptr r 0,.int .i64 (deep:Int),.int .i64 (p:Int)] KV Kp s:=by
 have hr2:=hr;simp only[go_sem] at hr2;have hk:∀ q1:RQ T,q1={ q with nodes:=IntKind.i64.wrap (q.nodes+1) }→KV (s.setO r (aG ln cl (if q1.ok=true then (if 60<deep then cJ (aC ln cl) 19 p true q1 else if 2000<q1.nodes then cJ (aC ln cl) 3 q1.first false q1 else q1) else q1) d)) (.tuple []):=fun q1 e=>by subst e;exact hk
 (refine aZ func171 [0,1,2,13,17,23] ?_;simp only[go_sem,ntmps171,Tryz.f171]);simp only[go_sem,hr2];generalize hq1:({ q with nodes:=IntKind.i64.wrap (q.nodes+1) }:RQ T)=q1 at hk;have hk:=hk q1 rfl;have hr3:(s.setO r (aG ln cl q1 d)).getO r=some (aG ln cl q1 d):=by rw[aJ,if_pos rfl]
 have hr4:=hr3;simp only[go_sem] at hr4;refine dE (s':=s.setO r (aG ln cl q1 d)) (by subst hq1;exact bA _) ?_;refine iJ hr3 ?_;cases h:q1.ok with
 | false =>
  rw[h] at hk;simp only[bN,if_false] at hk;simp only[go_sem];simp only[go_sem] at hk;exact aO hk
 | true =>
  rw[h] at hk;simp only[if_true] at hk;cases h2:decide ((60:Int)<(deep:Int)) with
  | true =>
   rw[if_pos (by simp at h2;omega)] at hk;simp only[go_sem,h2];refine kU hT 19 p true hr3 ?_;simp only[go_sem];simp only[go_sem] at hk;exact aO hk
  | false =>
   rw[if_neg (by simp at h2;omega)] at hk;simp only[go_sem,h2,hr4];cases h3:decide ((2000:Int)<q1.nodes) with
   | true =>
    rw[if_pos (by simpa using h3)] at hk;simp only[go_sem,h3,hr4];refine kU hT 3 q1.first false hr3 ?_
    simp only[go_sem];simp only[go_sem] at hk;exact aO hk
   | false =>
    rw[if_neg (by simpa using h3)] at hk;simp only[go_sem,h3];simp only[go_sem] at hk;exact aO hk
end
end
section
def wN:List aD:=[[45],[39],[95],[36],[91],[123]]
section
variable {T:List Tok} {ln cl:Int} {q:RQ T} {d:Dc} {s:St} {r:Nat} {KV Kp:St→A→Prop}
theorem aDB (hr:s.getO r=some (aG ln cl q d)) (hk:KV s (.bool (iL q))):Den cx 170 [.ptr r 0] KV Kp s:=by
 unfold iL at hk;(refine aZ func170 [0,2,4,22,23,24,25,26,31] ?_;simp only[go_sem,ntmps170,f170]);refine sQ 2 hr ?_;cases h1:fS 2 q with
 | true =>
  rw[h1,fO] at hk;simp only[go_sem];exact aO hk
 | false =>
 rw[h1,eD] at hk;simp only[go_sem];refine sQ 3 hr ?_;cases h2:fS 3 q with
 | true =>
  rw[h2,fO] at hk;simp only[go_sem];exact aO hk
 | false =>
 rw[h2,eD] at hk;simp only[go_sem];refine uC hr ?_;cases h3:cN q with
 | true =>
  rw[h3,fO] at hk;simp only[go_sem];exact aO hk
 | false =>
 rw[h3,eD] at hk;simp only[go_sem];refine fP _ hr ?_;cases h4:aS 1 [116,114,117,101] q with
 | true =>
  rw[h4,fO] at hk;simp only[go_sem];exact aO hk
 | false =>
 rw[h4,eD] at hk;simp only[go_sem];refine fP _ hr ?_;cases h5:aS 1 [102,97,108,115,101] q with
 | true =>
  rw[h5,fO] at hk;simp only[go_sem];exact aO hk
 | false =>
 rw[h5,eD] at hk;simp only[go_sem]
 refine Ex.loop (ι:=Nat) (fun j=>[(0,.ptr r 0),(23,.list none (wN.map .str)),(24,.int .i64 6),(25,.int .i64 (j:Int))]) (fun _=>s)
  (fun j=>j≤6∧KV s (.bool ((wN.drop j).any fun x=>aS 4 x q))) (fun j=>6-j) 0 ⟨bS _,?_⟩ ?_ (bA _) ?_
 ·simpa only[wN,rL,List.any_cons,List.any_nil,iI] using hk
 ·simp only[go_sem];exact ⟨rfl,rfl,rfl⟩
 ·rintro j ⟨hj,hk⟩;refine bV (V:=[0,2,4,22,23,24,25,26,31]) _ _ _ _ ?_;by_cases hlt:j<6
  ·have dl:decide ((j:Int)<6)=true:=by rw[decide_eq_true_iff];omega
   have hl6:j<wN.length:=hlt;have hx:wN[j]?=some wN[j]:=cH hl6;rw[lU hl6,List.any_cons] at hk;generalize wN[j]=x at hx hk;have h0:(0:Int)≤(j:Int):=by omega
   simp only[go_sem,dl,hx,h0,hlt,hl6,Int.toNat_natCast];refine oY x hr ?_;cases h:aS 4 x q with
   | true =>
    rw[h,fO] at hk;simp only[go_sem];exact aO hk
   | false =>
    rw[h,eD] at hk;simp only[go_sem,bP j (by omega)];exact ⟨j+1,⟨hlt,hk⟩,by omega,rfl,bA _⟩
  ·have dl:decide ((j:Int)<6)=false:=by rw[tY];omega
   rw[show j=6 by omega] at hk;simp only[go_sem,dl];exact aO hk
theorem uG (hT:TOk T) (sort:aD) (deep:Nat) (hd:deep≤4294967296) (hr:s.getO r=some (aG ln cl q d)) (hk:KV (s.setO r (aG ln cl (fR (aC ln cl) sort deep q).2 d)) (.list none ((fR (aC ln cl) sort deep q).1.map Tm.enc))) :
  Den cx 246 [.ptr r 0,.str sort,.int .i64 (deep:Int)] KV Kp s:=by
 have hr2:=hr;simp only[go_sem] at hr2;have hlen:=hT.len;unfold fR at hk;(refine aZ func246 [0,1,2,6,7,8,11] ?_;simp only[go_sem,ntmps246,Tryz.f246]);refine oY _ hr ?_;cases h:aS 4 [124] q with
 | false =>
  rw[h] at hk;simp only[bN,if_false] at hk;simp only[go_sem];exact DK.mk hk (lY hr) A.le.nil
 | true =>
  have hlt:=lP h;rw[h,if_pos rfl] at hk;simp only at hk;simp only[go_sem,hr2,bP q.at_ (by omega)];refine dE (s':=s.setO r (aG ln cl q.inc d)) (by simp only[go_sem,RQ.inc_at hlt];exact bA _) ?_;refine iW (q:=q.inc) (d:=d) hT (by rw[aJ,if_pos rfl]) ?_;simp only[go_sem,RQ.inc_at hlt,bP deep (by omega)];refine aDN (q:=(bB (aC ln cl) q.inc).2) (d:=d) hT (deep+1) (q.at_+1) (by rw[aJ,if_pos rfl]<;>rfl) ?_;simp only[go_sem];rw[RQ.inc_at hlt] at hk;refine DK.mk hk (bA _) ?_;exact A.le.list ⟨by simp only[List.map,bO,A.cells,qY,Tm.cs];exact ⟨⟨aK _,rfl⟩,⟨aK _,rfl⟩,⟨aK _,rfl⟩,⟨aK _,rfl⟩,⟨A.le.nil,rfl⟩,⟨A.le.nil,rfl⟩,trivial⟩,trivial⟩
end
end
end Go.AV
