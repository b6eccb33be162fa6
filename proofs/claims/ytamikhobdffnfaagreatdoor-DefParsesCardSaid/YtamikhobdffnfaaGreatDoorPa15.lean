/-
  Of DefParses.
-/
import Derived.Test.YtamikhobdffnfaaGreatDoorPa14
import Derived.Laws.Externs
import Derived.Laws.RangeAny
set_option linter.all false
set_option maxRecDepth 99999
set_option maxHeartbeats 0
namespace Go.AV
open Go Go.Proofs Tryz
theorem aF7 (s:St) (c:Int) (KV Kp) (hk:KV s (.bool (gJ c))):Den cx 261 [.int .u8 c] KV Kp s:=by
 unfold gJ at hk;(refine aZ func261 [0,2] ?_;simp only[go_sem,ntmps261,f261])
 (repeat' (first|exact aM hk dA|((refine cD (fun h=>?_) (fun h=>?_))<;>simp only[go_sem,h]<;>(try simp only[h,dY,cQ,fK,cZ,iX,fO,iI,eD,dT,fD] at hk))))
theorem aD4 (s:St) (c:Int) (KV Kp) (hk:KV s (.bool (dU c))):Den cx 185 [.int .u8 c] KV Kp s:=by
 unfold dU at hk;(refine aZ func185 [0,2] ?_;simp only[go_sem,ntmps185,f185])
 (repeat' (first|exact aM hk dA|(refine aF7 _ _ _ _ ?_;simp only[go_sem])|((refine cD (fun h=>?_) (fun h=>?_))<;>simp only[go_sem,h]<;>(try simp only[h,dY,cQ,fK,cZ,iX,fO,iI,eD,dT,fD] at hk))))
theorem aGx (s:St) (x:List UInt8) (KV Kp) (hk:KV s (.bool (gZ x))):Den cx 196 [.str x] KV Kp s:=by
 (refine aZ func196 [0,2,3,16,18,19,20,26] ?_;simp only[go_sem,ntmps196,f196]);(refine cD (fun h=>?_) (fun h=>?_))<;>simp only[go_sem,h]
 ·have:x=[]:=by simpa using h
  subst this;exact aO hk
 have hne:x≠[]:=by simpa using h
 obtain ⟨c,r,hx⟩:=List.exists_cons_of_ne_nil hne;(refine cD (fun h=>?_) (fun h=>?_))<;>simp only[go_sem,h]
 ·have h40:¬ x.length≤40:=by simp at h;omega
  have:gZ x=false:=by rw[hx] at h40 ⊢;simp only[gZ,h40,pN,cQ]
  exact aO (by rwa[this] at hk)
 have h40:x.length≤40:=by simp at h;omega
 have h0:x[0]?=some c:=by rw[hx];rfl
 have hl0:0<x.length:=by rw[hx];exact Nat.zero_lt_succ _
 simp only[go_sem,h0,hl0];refine aF7 _ _ _ _ ?_;simp only[go_sem];(refine cD (fun h=>?_) (fun h=>?_))<;>simp only[go_sem,h]
 ·have:gZ x=false:=by
   have:gJ c.toNat=false:=by simpa using h
   rw[hx];simp[gZ,this]
  exact aO (by rwa[this] at hk)
 have hl:gJ c.toNat=true:=by simpa using h
 refine Ex.loop (fun i=>[(0,.str x),(18,.int .i64 x.length),(19,.int .i64 (i:Nat))]) (fun _=>s)
  (fun i=>i≤x.length∧∀ d∈x.take i,dU d.toNat=true) (fun i=>x.length-i) 0 ⟨bS _,by simp⟩ ?_ (bA s) ?_
 ·simp only[go_sem];rfl
 ·rintro i ⟨hi,hall⟩;refine bV (V:=[0,2,3,16,18,19,20,26]) _ _ _ _ ?_;simp only[go_sem];(refine cD (fun h=>?_) (fun h=>?_))<;>simp only[go_sem,h]
  ·have hix:i<x.length:=by simpa using h
   obtain ⟨d,hd⟩:∃ d,x[i]?=some d:=⟨_,cH hix⟩
   simp only[go_sem,hd,hix];refine aD4 _ _ _ _ ?_;simp only[go_sem];(refine cD (fun h=>?_) (fun h=>?_))<;>simp only[go_sem,h]
   ·have hp:dU d.toNat=false:=by simpa using h
    have:gZ x=false:=by
     rw[hx] at hd ⊢;simp only[gZ,Bool.and_eq_false_iff];refine .inr (.inr (vF.2 fun hall=>?_));rw[iV] at hall;have:=hall d (fJ hd);rw[hp] at this;cases this
    exact aO (by rwa[this] at hk)
   ·have hp:dU d.toNat=true:=by simpa using h
    refine ⟨i+1,⟨by omega,?_⟩,by omega,?_,bA s⟩
    ·intro q hq;rw[sJ,hd] at hq;simp only[kR,Option.toList_some,cE] at hq;rcases hq with hq|rfl
     ·exact hall q hq
     ·exact hp
    ·simp only[go_sem,bP i (by omega)]
  ·have hix:i=x.length:=by simp at h;omega
   have:gZ x=true:=by
    rw[hix,List.take_length] at hall;rw[hx] at hall h40 ⊢;simp only[gZ,hl,iV,bT,eC];exact ⟨h40,trivial,hall⟩
   exact aO (by rwa[this] at hk)
theorem zY {C : Cx} {f : FuncId} {fn : Func} {e : Array Value → Sem Value} (hf : C.P.funcs[f]? = some fn) (hname : (fn.name == "runtime.NumGoroutine") = false)
  (hb:fn.body.isNone=true) (hn:Extern.findNext fn=none) (he:Extern.find fn=some e) {args:List A} {s:St} {KV Kp:St→A→Prop}
  (h:∀ g vals,Rzs g args vals→∃ v a,(∀ w,(e vals.toArray).run C.P w=.ok v w)∧Rz g a v∧KV s a):Den C f args KV Kp s:=by
 intro F g w vals hR hv;obtain ⟨v,a,h1,h2,h3⟩:=h g vals hv;rw[run_callFunc_extern hf hname hb hn he,h1];exact ⟨g,a,s,fU g,hR,h2,h3⟩
theorem Rzs.two {g:Gh} {a b:A} {vals:List Value} (h:Rzs g [a,b] vals):∃ u v,vals=[u,v]∧Rz g a u∧Rz g b v:=by
 have hl:=h.1
 match vals,hl with
 | [u,v],_=>exact ⟨u,v,rfl,h.2 0 a u rfl rfl,h.2 1 b v rfl rfl⟩
theorem aKH (s:St) (x:aD) (c:UInt8) (KV Kp) (hk:KV s (.int .i64 (Lib.indexByte x c))):Den cx 316 [.str x,.int .u8 c.toNat] KV Kp s:=by
 refine zY (C:=cx) func316 rfl rfl rfl (e:=Extern.BytealgIndexByte.indexByte) (by kernel_rfl) fun g vals hv=>?_
 obtain ⟨u,v,rfl,r1,r2⟩:=hv.two;rw[r1.str_inv,r2.int_inv];refine ⟨_,_,fun w=>Lib.run_indexByteString _ _ w,.int _ _,?_⟩;simpa using hk
theorem aKX (s:St) (x:aD) (c:UInt8) (KV Kp) (hk:KV s (.int .i64 (x.count c:Nat))):Den cx 217 [.str x,.int .u8 c.toNat] KV Kp s:=by
 refine zY (C:=cx) func217 rfl rfl rfl (e:=Extern.BytealgCount.count) (by kernel_rfl) fun g vals hv=>?_
 obtain ⟨u,v,rfl,r1,r2⟩:=hv.two;rw[r1.str_inv,r2.int_inv];refine ⟨_,_,fun w=>Lib.run_countString _ _ w,.int _ _,?_⟩;simpa [Lib.countByte] using hk
theorem aKB (s:St) (x:aD) (c:UInt8) (KV Kp) (hk:KV s (.int .i64 (Lib.indexByte x c))):Den cx 303 [.str x,.int .u8 c.toNat] KV Kp s:=by
 (refine aZ func303 [0,1,4] ?_;simp only[go_sem,ntmps303,f303])
 (repeat' (first|exact aM hk dA|(refine aKH _ _ _ _ _ ?_;simp only[go_sem])|((refine cD (fun h=>?_) (fun h=>?_))<;>simp only[go_sem,h]<;>(try simp only[h,dY,cQ,fK,cZ,iX,fO,iI,eD,dT,fD] at hk))))
theorem aDy (s:St) (x:aD) (c:UInt8) (KV Kp) (hk:KV s (.int .i64 (Lib.indexByte x c))):Den cx 298 [.str x,.int .u8 c.toNat] KV Kp s:=by
 (refine aZ func298 [0,1,4] ?_;simp only[go_sem,ntmps298,f298])
 (repeat' (first|exact aM hk dA|(refine aKB _ _ _ _ _ ?_;simp only[go_sem])|((refine cD (fun h=>?_) (fun h=>?_))<;>simp only[go_sem,h]<;>(try simp only[h,dY,cQ,fK,cZ,iX,fO,iI,eD,dT,fD] at hk))))
theorem aKK (s:St) (x p:aD) (KV Kp) (hk:KV s (.bool (kE x p))):Den cx 311 [.str x,.str p] KV Kp s:=by
 unfold kE at hk;(refine aZ func311 [0,1,4] ?_;simp only[go_sem,ntmps311,f311]);(refine cD (fun h=>?_) (fun h=>?_))<;>simp only[go_sem,h]<;>(try simp only[h,dY,cQ,fK,cZ,iX,fO,iI,eD,dT,fD] at hk)
 ·have hl:p.length≤x.length:=by simpa using h
  simp only[go_sem,hl];exact aO hk
 ·exact aO hk
theorem aFV (s:St) (x p:aD) (KV Kp) (hk:KV s (.bool (kE x p))):Den cx 299 [.str x,.str p] KV Kp s:=by
 (refine aZ func299 [0,1,4] ?_;simp only[go_sem,ntmps299,f299])
 (repeat' (first|exact aM hk dA|(refine aKK _ _ _ _ _ ?_;simp only[go_sem])|((refine cD (fun h=>?_) (fun h=>?_))<;>simp only[go_sem,h]<;>(try simp only[h,dY,cQ,fK,cZ,iX,fO,iI,eD,dT,fD] at hk))))
theorem aKC (s:St) (x:aD) (c:UInt8) (KV Kp) (hx:x.length≤4294967296) (hk:KV s (.int .i64 (mA x c x.length))):Den cx 219 [.str x,.int .u8 c.toNat] KV Kp s:=by
 (refine aZ func219 [0,1,4,5,10,17] ?_;simp only[go_sem,ntmps219,f219]);rw[eX _ (by omega) (by omega)]
 refine Ex.loop (fun n=>[(0,.str x),(1,.int .u8 c.toNat),(5,.int .i64 ((n:Nat)-1:Int))]) (fun _=>s)
  (fun n=>n≤x.length∧mA x c x.length=mA x c n) (fun n=>n) x.length ⟨bE _,rfl⟩ ?_ (bA s) ?_
 ·simp only[go_sem]
 ·rintro n ⟨hn,he⟩;refine bV (V:=[0,1,4,5,10,17]) _ _ _ _ ?_;simp only[go_sem];(refine cD (fun h=>?_) (fun h=>?_))<;>simp only[go_sem,h]
  ·obtain ⟨m,rfl⟩:∃ m,n=m+1:=⟨n-1,by simp at h;omega⟩
   have e1:(((m+1:Nat):Int)-1)=(m:Int):=by omega
   have hm:m<x.length:=by omega
   obtain ⟨d,hd⟩:∃ d,x[m]?=some d:=⟨_,cH hm⟩
   simp only[go_sem,e1,hm,hd];(refine cD (fun h=>?_) (fun h=>?_))<;>simp only[go_sem,h]
   ·have hdc:d=c:=by
     have:d.toNat=c.toNat:=by simpa using h
     exact nE.1 this
    subst hdc;rw[he,mA,if_pos hd] at hk;exact aO hk
   ·have hdc:¬ d=c:=by
     rintro rfl;simp at h
    rw[eX _ (by omega) (by omega)];refine ⟨m,⟨by omega,?_⟩,by omega,?_,bA s⟩
    ·rw[he,mA,if_neg (by rw[hd];simpa using hdc)]
    ·simp only[go_sem]
  ·have h0:n=0:=by simp at h;omega
   subst h0;rw[he,mA] at hk;exact aO hk
theorem aKD (s:St) (x:aD) (c:UInt8) (KV Kp) (hx:x.length≤4294967296) (hk:KV s (.int .i64 (mA x c x.length))):Den cx 143 [.str x,.int .u8 c.toNat] KV Kp s:=by
 (refine aZ func143 [0,1,4] ?_;simp only[go_sem,ntmps143,f143])
 (repeat' (first|exact aM hk dA|(refine aKC _ _ _ _ _ hx ?_;simp only[go_sem])|((refine cD (fun h=>?_) (fun h=>?_))<;>simp only[go_sem,h]<;>(try simp only[h,dY,cQ,fK,cZ,iX,fO,iI,eD,dT,fD] at hk))))
theorem aGp (s:St) (c:Int) (KV Kp) (hk:KV s (.bool (fB c))):Den cx 301 [.int .u8 c] KV Kp s:=by
 unfold fB at hk;(refine aZ func301 [0,2] ?_;simp only[go_sem,ntmps301,f301])
 (repeat' (first|exact aM hk dA|((refine cD (fun h=>?_) (fun h=>?_))<;>simp only[go_sem,h]<;>(try simp only[h,dY,cQ,fK,cZ,iX,fO,iI,eD,dT,fD] at hk))))
theorem aIP (s:St) (x:aD) (f:FuncId) (p:UInt8→Bool) (KV Kp) (hx:x.length≤4294967296)
  (hf:∀ (c:UInt8) KV Kp,KV s (.bool (p c))→Den cx f [.int .u8 c.toNat] KV Kp s)
  (hk:KV s (.int .i64 (x.takeWhile p).length)):Den cx 300 [.str x,.fn f [] []] KV Kp s:=by
 (refine aZ func300 [0,1,4,5,16] ?_;simp only[go_sem,ntmps300,f300])
 refine Ex.loop (fun n=>[(0,.str x),(1,.fn f [] []),(5,.int .i64 (n:Nat))]) (fun _=>s)
  (fun n=>n≤x.length∧(x.takeWhile p).length=n+((x.drop n).takeWhile p).length) (fun n=>x.length-n) 0 ⟨bS _,by simp⟩ ?_ (bA s) ?_
 ·simp only[go_sem];rfl
 ·rintro n ⟨hn,he⟩;refine bV (V:=[0,1,4,5,16]) _ _ _ _ ?_;simp only[go_sem];(refine cD (fun h=>?_) (fun h=>?_))<;>simp only[go_sem,h]
  ·have hn':n<x.length:=by simpa using h
   obtain ⟨d,hd⟩:∃ d,x[n]?=some d:=⟨_,cH hn'⟩
   have hdr:x.drop n=d::x.drop (n+1):=by
    rw[lU hn'];congr 1;rw[cH hn'] at hd;simpa using hd
   simp only[go_sem,hd,hn'];refine hf _ _ _ ?_;simp only[go_sem];(refine cD (fun h=>?_) (fun h=>?_))<;>simp only[go_sem,h]
   ·have hp:p d=true:=by simpa using h
    refine ⟨n+1,⟨by omega,?_⟩,by omega,?_,bA s⟩
    ·rw[he,hdr,sF hp,aF];omega
    ·simp only[go_sem,bP n (by omega)]
   ·have hp:¬ p d=true:=by simp[h]
    rw[he,hdr,sG hp] at hk;exact aO (by simpa using hk)
  ·have hn':n=x.length:=by simp at h;omega
   subst hn';rw[he,wX] at hk;exact aO (by simpa using hk)
theorem lY {s:St} {b:Nat} {o:Ob} (h:s.getO b=some o):s.ge (s.setO b o) :=
 ⟨fun c x hc => by
  rw[aJ] at hc;split at hc
  ·rename_i e;subst e;rw[h];exact hc
  ·exact hc,fun _ _ h=>h,fun _ h=>h⟩
def gB (x:aD) (at_ line col:Nat) (sg:List aD) (op:Bool):List A:=[.str x,.int .i64 at_,.int .i64 line,.int .i64 col,.list none (sg.map .str),.bool op]
theorem vT:∀ (w v:aD) (p:Nat × Nat),bY p (w++v)=bY (bY p w) v
 | [],v,p=>rfl
 | b::w,v,(l,c)=>by
  simp only[jZ,bY];split<;>exact vT w v _
theorem nM:∀ (w:aD) (p:Nat × Nat) (k:Nat),p.1≤k+1→p.2≤k+1→(bY p w).1≤k+w.length+1∧(bY p w).2≤k+w.length+1
 | [],p,k,h1,h2=>⟨h1,h2⟩
 | b::w,(l,c),k,h1,h2=>by
  simp only[bY,aF];split
  ·have:=nM w (l+1,1) (k+1) (by simpa using h1) (by simp);omega
  ·have:=nM w (l,c+1) (k+1) (by have:l≤k+1:=h1;simp;omega) (by simpa using h2);omega
theorem aBO (s:St) (r:Nat) (x:aD) (at_ l c n:Nat) (sg:List aD) (op:Bool) (KV Kp)
  (hr:s.getO r=some (.cells 226 (gB x at_ l c sg op))) (hx:x.length≤4294967296) (hn:at_+n≤x.length) (hl:l≤at_+1) (hc:c≤at_+1)
  (hk:KV (s.setO r (.cells 226 (gB x (at_+n) (bY (l,c) ((x.drop at_).take n)).1 (bY (l,c) ((x.drop at_).take n)).2 sg op))) (.tuple [])) :
  Den cx 279 [.ptr r 0,.int .i64 n] KV Kp s:=by
 (refine aZ func279 [0,1,4,5,6,23] ?_;simp only[go_sem,ntmps279,f279])
 refine Ex.loop (fun i=>[(0,.ptr r 0),(4,.int .i64 n),(5,.int .i64 (i:Nat))])
  (fun i=>s.setO r (.cells 226 (gB x (at_+i) (bY (l,c) ((x.drop at_).take i)).1 (bY (l,c) ((x.drop at_).take i)).2 sg op)))
  (fun i=>i≤n) (fun i=>n-i) 0 (bS _) ?_ ?_ ?_
 ·simp only[go_sem];rfl
 ·simp only[Nat.add_zero,List.take_zero,bY];exact lY hr
 ·intro i hi;refine bV (V:=[0,1,4,5,6,23]) _ _ _ _ ?_;have hb:=nM ((x.drop at_).take i) (l,c) at_ hl hc;have hlen:((x.drop at_).take i).length=i:=by rw[eY,cP];omega
  rw[hlen] at hb;simp only[go_sem];(refine cD (fun h=>?_) (fun h=>?_))<;>simp only[go_sem,h]
  ·have hin:i<n:=by simpa using h
   have hix:at_+i<x.length:=by omega
   obtain ⟨d,hd⟩:∃ d,x[at_+i]?=some d:=⟨_,cH hix⟩
   simp only[go_sem,gB];rw[bP _ (by omega)];(refine aP (OT.r 0 10) [] ?_;simp only[go_sem,hd,hix])
   have hst:bY (l,c) ((x.drop at_).take (i+1))=bY (bY (l,c) ((x.drop at_).take i)) [d]:=by
    rw[sJ,lE,hd,vT];rfl
   have e5:IntKind.i64.wrap ((i:Int)+1)=((i+1:Nat):Int):=bP i (by omega);have e1:IntKind.i64.wrap (((at_+i:Nat):Int)+1)=((at_+(i+1):Nat):Int):=by rw[bP _ (by omega)];rfl
   have e2:IntKind.i64.wrap (((bY (l,c) ((x.drop at_).take i)).1:Int)+1)=(((bY (l,c) ((x.drop at_).take i)).1+1:Nat):Int):=bP _ (by omega);(refine cD (fun h=>?_) (fun h=>?_))<;>simp only[go_sem,h,e1,e2,e5]
   ·have hd10:d=10:=by
     have:d.toNat=10:=by simp at h;omega
     exact nE.1 this
    refine ⟨i+1,by omega,by omega,rfl,?_⟩;rw[hst];simp only[bY,hd10,if_true];exact bA _
   ·have hd10:¬ d=10:=by rintro rfl;simp at h
    refine ⟨i+1,by omega,by omega,rfl,?_⟩;rw[hst];simp only[bY,hd10,if_false];exact bA _
  ·have hin:i=n:=by simp at h;omega
   subst hin;exact aO hk
@[go_sem] theorem aKN (x:aD) (n:Nat):(x.drop n).take (x.length-n)=x.drop n:=oU (by rw[cP];exact bE _)
theorem aA8 {b:UInt8} {r:aD} (h:kE (b::r) [47,47]=true):1≤((b::r).takeWhile (fun c=>!decide (c=10))).length:=by
 have hb:b=47:=by
  simp only[kE,bT,eC] at h;have:=h.2;simp at this;exact this.1
 subst hb;simp[List.takeWhile]
theorem aEC:∀ (f g:Nat) (w:aD),w.length≤f→w.length≤g→rE f w=rE g w
 | f,g,[],_,_=>by cases f<;>cases g<;>rfl
 | 0,g,b::r,h,_=>by simp at h
 | f,0,b::r,_,h=>by simp at h
 | f+1,g+1,b::r,hf,hg=>by
  simp only[aF] at hf hg;simp only[rE];split
  ·rw[aEC f g r (by omega) (by omega)]
  ·split
   ·rename_i hp;have:=aA8 hp;rw[aEC f g _ (by rw[cP,aF];omega) (by rw[cP,aF];omega)]
   ·rfl
theorem aH3:dD []=0:=rfl
theorem aGM {b:UInt8} {r:aD} (h:pU b=true):dD (b::r)=1+dD r:=by
 simp only[dD,aF,rE,h,if_true]
theorem aGR {b:UInt8} {r:aD} (hb:pU b=false) (h:kE (b::r) [47,47]=true) :
  dD (b::r)=((b::r).takeWhile (fun c=>!decide (c=10))).length+dD ((b::r).drop ((b::r).takeWhile (fun c=>!decide (c=10))).length):=by
 have:=aA8 h;simp only[dD,aF,rE,hb,bN,if_false,h,if_true];rw[aEC r.length _ _ (by rw[cP,aF];omega) (bE _)]
theorem aHj {b:UInt8} {r:aD} (hb:pU b=false) (h:kE (b::r) [47,47]=false):dD (b::r)=0:=by
 simp only[dD,aF,rE,hb,bN,if_false,h]
theorem aMP (b:UInt8):decide (0≤Lib.indexByte [32,9,10,13] b)=pU b:=by
 by_cases h1:b=32
 ·subst h1;decide
 by_cases h2:b=9
 ·subst h2;decide
 by_cases h3:b=10
 ·subst h3;decide
 by_cases h4:b=13
 ·subst h4;decide
 have e1:((32:UInt8) == b)=false:=zS.2 fun e=>h1 e.symm
 have e2:((9:UInt8) == b)=false:=zS.2 fun e=>h2 e.symm
 have e3:((10:UInt8) == b)=false:=zS.2 fun e=>h3 e.symm
 have e4:((13:UInt8) == b)=false:=zS.2 fun e=>h4 e.symm
 simp[Lib.indexByte,pU,e1,e2,e3,e4,h1,h2,h3,h4]
theorem aN8 (w:aD):(if Lib.indexByte w 10<0 then ((w.length:Nat):Int) else Lib.indexByte w 10)=((w.takeWhile (fun c=>!decide (c=10))).length:Nat)∧(Lib.indexByte w 10=-1∨0≤Lib.indexByte w 10):=by
 induction w with
 | nil=>simp[Lib.indexByte]
 | cons b r ih =>
  obtain ⟨ih,ih2⟩:=ih;unfold Lib.indexByte;by_cases hb:b=10
  ·subst hb;simp
  ·have hb':(b == 10)=false:=by simpa using hb
   rw[hb'];simp only[bN,if_false];have htw:(b::r).takeWhile (fun c=>!decide (c=10))=b::r.takeWhile (fun c=>!decide (c=10)):=by simp[List.takeWhile,hb]
   rw[htw];rcases ih2 with h|h
   ·rw[h] at ih ⊢;simp only[show ((-1:Int)<0) from by decide,if_true] at ih;simp only[beq_self_eq_true,if_true,show ((-1:Int)<0) from by decide,aF];exact ⟨by omega,.inl trivial⟩
   ·have h1:¬ Lib.indexByte r 10<0:=by omega
    have h2:(Lib.indexByte r 10 == -1)=false:=by simpa using (by omega:¬ Lib.indexByte r 10=-1)
    rw[if_neg h1] at ih;rw[h2];simp only[bN,if_false,aF];rw[if_neg (by omega)];exact ⟨by omega,.inr (by omega)⟩
theorem aGE (s:St) (r:Nat) (x:aD) (at_ l c:Nat) (sg:List aD) (op:Bool) (KV Kp)
  (hr:s.getO r=some (.cells 226 (gB x at_ l c sg op))) (hx:x.length≤4294967296) (ha:at_≤x.length) (hl:l≤at_+1) (hc:c≤at_+1)
  (hk:KV (s.setO r (.cells 226 (gB x (at_+dD (x.drop at_)) (bY (l,c) ((x.drop at_).take (dD (x.drop at_)))).1 (bY (l,c) ((x.drop at_).take (dD (x.drop at_)))).2 sg op))) (.tuple [])) :
  Den cx 277 [.ptr r 0] KV Kp s:=by
 (refine aZ func277 [0,2,3,13,23,30,36] ?_;simp only[go_sem,ntmps277,f277])
 refine Ex.loop (fun k=>[(0,.ptr r 0)])
  (fun k=>s.setO r (.cells 226 (gB x (at_+k) (bY (l,c) ((x.drop at_).take k)).1 (bY (l,c) ((x.drop at_).take k)).2 sg op)))
  (fun k=>at_+k≤x.length∧dD (x.drop at_)=k+dD (x.drop (at_+k))) (fun k=>x.length-(at_+k)) 0 ⟨by omega,by simp⟩ ?_ ?_ ?_
 ·simp only[go_sem]
 ·simp only[Nat.add_zero,List.take_zero,bY];exact lY hr
 ·rintro k ⟨hkx,hb⟩;have hlen:((x.drop at_).take k).length=k:=by rw[eY,cP];omega
  have hal:=nM ((x.drop at_).take k) (l,c) at_ hl hc;rw[hlen] at hal
  have hstep:∀ m,bY (l,c) ((x.drop at_).take (k+m))=bY (bY (l,c) ((x.drop at_).take k)) ((x.drop (at_+k)).take m):=by
   intro m;rw[List.take_add,vT,kS]
  refine bV (V:=[0,2,3,13,23,30,36]) _ _ _ _ ?_;simp only[go_sem];(refine aP (OT.r 0 10) [] ?_;simp only[go_sem,gB]);(refine cD (fun h=>?_) (fun h=>?_))<;>simp only[go_sem,h]
  ·have hlt:at_+k<x.length:=by simpa using h
   have hcons:∃ d w,x.drop (at_+k)=d::w:=by
    rw[lU hlt];exact ⟨_,_,rfl⟩
   obtain ⟨d,w,hw⟩:=hcons;have ha':at_+k≤x.length:=by omega
   have htk:(d::w).take (x.length-(at_+k))=d::w:=by rw[← hw];exact aKN x _
   (refine aP (OT.r 0 10) [] ?_;simp only[go_sem,gB,hw,htk,ha',bE]);refine aDy _ _ _ _ _ ?_;simp only[go_sem,aMP];(refine cD (fun h=>?_) (fun h=>?_))<;>simp only[go_sem,h]
   ·
    refine aBO _ r x (at_+k) _ _ 1 sg op _ _ (by rw[aJ,if_pos rfl];rfl) hx (by omega) (by omega) (by omega) ?_;simp only[go_sem];refine ⟨k+1,⟨by omega,?_⟩,by omega,?_⟩
    ·rw[hb,hw,aGM h,show at_+(k+1)=at_+k+1 from rfl,← kS,hw];simp;omega
    ·rw[hstep 1];exact bA _
   ·refine aFV _ _ _ _ _ ?_;simp only[go_sem];(refine cD (fun h=>?_) (fun h=>?_))<;>simp only[go_sem,h]
    ·have hbl:pU d=false:=by assumption
     have hp:=h;refine aDy _ _ 10 _ _ ?_;simp only[go_sem];have hi:=aN8 (d::w);have hpos:=aA8 hp;have hle:((d::w).takeWhile (fun c=>!decide (c=10))).length≤(d::w).length:=(List.takeWhile_sublist _).length_le;have hwl:(d::w).length=x.length-(at_+k):=by rw[← hw,cP]
     have fin:∀ m:Nat,m=((d::w).takeWhile (fun c=>!decide (c=10))).length→at_+k+m≤x.length∧dD (x.drop at_)=k+m+dD (x.drop (at_+(k+m))):=by
      rintro m rfl;refine ⟨by omega,?_⟩;have:=aGR hbl hp;rw[hb,hw,this,← pM at_,← kS,hw];omega
     generalize hm:((d::w).takeWhile (fun c=>!decide (c=10))).length=m at hi hpos hle;obtain ⟨f1,f2⟩:=fin m hm.symm;(refine cD (fun h=>?_) (fun h=>?_))<;>simp only[go_sem,h]
     ·have hlt:Lib.indexByte (d::w) 10<0:=by simpa using h
      have e:=hi.1;rw[if_pos hlt] at e;have e:w.length+1=m:=by simp at e;omega
      rw[e];refine aBO _ r x (at_+k) _ _ m sg op _ _ (by rw[aJ,if_pos rfl];rfl) hx f1 (by omega) (by omega) ?_;simp only[go_sem];refine ⟨k+m,⟨by omega,f2⟩,by omega,?_⟩;rw[hstep m,pM at_ k m];exact bA _
     ·have hlt:¬ Lib.indexByte (d::w) 10<0:=by simpa using h
      have e:=hi.1;rw[if_neg hlt] at e;rw[e];refine aBO _ r x (at_+k) _ _ m sg op _ _ (by rw[aJ,if_pos rfl];rfl) hx f1 (by omega) (by omega) ?_;simp only[go_sem];refine ⟨k+m,⟨by omega,f2⟩,by omega,?_⟩;rw[hstep m,pM at_ k m];exact bA _
    ·have hbl:pU d=false:=by assumption
     rw[hb,hw,aHj hbl h,Nat.add_zero] at hk;exact aO hk
  ·have hkl:at_+k=x.length:=by simp at h;omega
   have e:dD (x.drop at_)=k:=by rw[hb,hkl,wX,aH3];rfl
   rw[e] at hk;exact aO hk
theorem aAv {x:aD} {i:Nat} {d:UInt8} (hd:x[i]?=some d) (h:d.toNat<128):Utf8.decode ⟨x.toArray⟩ i=(d.toNat,1):=by
 have hi:i<x.length:=(eT.1 hd).1;have hs:i<(ByteArray.mk x.toArray).size:=by simpa [ByteArray.size] using hi
 have e:(ByteArray.mk x.toArray)[i]'hs=d:=by
  exact (eT.1 hd).2
 have:=decode_ascii ⟨x.toArray⟩ i hs (by rw[e];exact h);rw[this,e]
theorem aN5 {x:aD} {i:Nat} {d:UInt8} (hd:x[i]?=some d) (h:128≤d.toNat):128≤(Utf8.decode ⟨x.toArray⟩ i).1:=by
 have hi:i<x.length:=(eT.1 hd).1;have hs:i<(ByteArray.mk x.toArray).size:=by simpa [ByteArray.size] using hi
 have e:(ByteArray.mk x.toArray)[i]'hs=d:=by
  exact (eT.1 hd).2
 exact (decode_high ⟨x.toArray⟩ i hs (by rw[e];exact h)).1
theorem aLa (s:St) (x:aD) (KV Kp) (hk:KV s (.bool (pX x))):Den cx 273 [.str x] KV Kp s:=by
 (refine aZ func273 [0,2,4,6,7,8,23] ?_;simp only[go_sem,ntmps273,f273]);intro b hb;simp only[go_sem]
 refine Ex.loop (fun i=>[(0,.str x),(6,.ptr b 0)]) (fun i=>s.setO b (.iter x i))
  (fun i=>i≤x.length∧∀ d∈x.take i,eS d=true) (fun i=>x.length-i) 0 ⟨bS _,by simp⟩ ?_ (bA _) ?_
 ·simp only[go_sem]
 ·rintro i ⟨hi,hall⟩;refine bV (V:=[0,2,4,6,7,8,23]) _ _ _ _ ?_;by_cases hlt:i<x.length
  ·obtain ⟨d,hd⟩:∃ d,x[i]?=some d:=⟨_,cH hlt⟩
   have bad:eS d=false→∀ o,DK KV (s.setO b o) (.bool false):=fun ho o=>by
    have:pX x=false:=by
     rw[pX,Bool.and_eq_false_iff];refine .inl (vF.2 fun hall=>?_);rw[iV] at hall;rw[hall d (fJ hd)] at ho;cases ho
    rw[this] at hk;exact aM hk (fL hb)
   by_cases hlow:d.toNat<128
   ·by_cases ho:eS d=true
    ·have ho':=ho;simp only[eS,bT,eC,mM,tY] at ho';obtain ⟨o1,o2,o3,o4⟩:=ho';have n3:¬ d.toNat=34:=fun e=>o3 (nE.1 e)
     have n4:¬ d.toNat=92:=fun e=>o4 (nE.1 e)
     have e1:decide ((d.toNat:Int)<32)=false:=eL (by omega);have e2:decide (126<(d.toNat:Int))=false:=eL (by omega);have e3:decide ((d.toNat:Int)=34)=false:=eL (by omega);have e4:decide ((d.toNat:Int)=92)=false:=eL (by omega);simp only[go_sem,hlt,aAv hd hlow,e1,e2,e3,e4];refine ⟨i+1,⟨by omega,fun q hq=>?_⟩,by omega,bA _⟩;rw[sJ,hd] at hq;simp only[kR,Option.toList_some,cE] at hq;rcases hq with hq|rfl
     ·exact hall q hq
     ·exact ho
    ·have ho':eS d=false:=by simpa using ho
     have bad:=bad ho';by_cases o1:32≤d.toNat
     ·have e1:decide ((d.toNat:Int)<32)=false:=eL (by omega);by_cases o2:d.toNat≤126
      ·have e2:decide (126<(d.toNat:Int))=false:=eL (by omega);by_cases o3:d.toNat=34
       ·have e3:decide ((d.toNat:Int)=34)=true:=fC (by omega);simp only[go_sem,hlt,aAv hd hlow,e1,e2,e3];exact bad _
       ·have e3:decide ((d.toNat:Int)=34)=false:=eL (by omega)
        have o4:d.toNat=92:=by
         have n3:¬ d=34:=fun e=>o3 (by rw[e];rfl)
         simp only[eS,o1,o2,n3,kA,pN,dY,fD,wU,eC] at ho';rw[ho'];rfl
        have e4:decide ((d.toNat:Int)=92)=true:=fC (by omega);simp only[go_sem,hlt,aAv hd hlow,e1,e2,e3,e4];exact bad _
      ·have e2:decide (126<(d.toNat:Int))=true:=fC (by omega);simp only[go_sem,hlt,aAv hd hlow,e1,e2];exact bad _
     ·have e1:decide ((d.toNat:Int)<32)=true:=fC (by omega);simp only[go_sem,hlt,aAv hd hlow,e1];exact bad _
   ·have hh:=aN5 hd (by omega);have e1:decide (((Utf8.decode ⟨x.toArray⟩ i).1:Int)<32)=false:=eL (by omega);have e2:decide (126<((Utf8.decode ⟨x.toArray⟩ i).1:Int))=true:=fC (by omega);simp only[go_sem,hlt,e1,e2];exact bad (by simp only[eS,show ¬ d.toNat≤126 from by omega,pN,cQ,cZ]) _
  ·have hix:i=x.length:=by omega
   simp only[go_sem,hlt];refine aM (s2:=s) ?_ (fL hb)
   have:pX x=decide ((x.length:Int)≤200):=by
    rw[pX]
    have:x.all eS=true:=by
     rw[iV];intro d hd;rw[hix,List.take_length] at hall;exact hall d hd
    rw[this,dY];congr 1;simp;omega
   rwa[this] at hk
theorem aK3 (s:St) (x:aD) (c:UInt8) (KV Kp) (hk:KV s (.str (x.dropWhile (mK c)))):Den cx 323 [.str x,.int .u8 c.toNat] KV Kp s:=by
 (refine aZ func323 [0,1,4,13] ?_;simp only[go_sem,ntmps323,f323])
 refine Ex.loop (fun w=>[(0,.str w),(1,.int .u8 c.toNat)]) (fun _=>s)
  (fun w=>w.dropWhile (mK c)=x.dropWhile (mK c)) (fun w=>w.length) x rfl ?_ (bA s) ?_
 ·simp only[go_sem]
 ·intro w hw;refine bV (V:=[0,1,4,13]) _ _ _ _ ?_;cases w with
  | nil =>
   simp only[go_sem,show decide ((0:Int)<((0:Nat):Int))=false from rfl];rw[← hw] at hk;exact aO hk
  | cons b r =>
   simp only[go_sem,show decide ((0:Int)<((r.length+1:Nat):Int))=true from fC (by omega)]
   have e:decide (b.toNat=c.toNat)=mK c b:=by
    unfold mK;congr 1;exact propext nE
   simp only[go_sem,e];(refine cD (fun h=>?_) (fun h=>?_))<;>simp only[go_sem,h]
   ·simp only[go_sem,show (1:Int)≤((r.length+1:Nat):Int) from by omega,show Int.toNat 1=1 from rfl];refine ⟨by decide,r,?_,by omega,?_,bA s⟩
    ·rw[← hw,List.dropWhile_cons,if_pos h]
    ·exact oU (by omega)
   ·rw[← hw,List.dropWhile_cons,if_neg (by simp[h])] at hk;exact aO hk
theorem aLe (s:St) (x:aD) (c:UInt8) (KV Kp) (hc:c.toNat<128) (hk:KV s (.str (x.dropWhile (mK c)))):Den cx 314 [.str x,.str [c]] KV Kp s:=by
 (refine aZ func314 [0,1,4,5,6,12,21,31] ?_;simp only[go_sem,ntmps314,f314]);cases x with
 | nil =>
  simp only[go_sem];exact aO hk
 | cons b r =>
  simp only[go_sem,show decide (((1:Nat):Int)=1)=true from rfl,show decide ((c.toNat:Int)<128)=true from fC (by omega)];refine aK3 _ _ _ _ _ ?_;simp only[go_sem];exact aO hk
theorem aGU (x:aD) (d:UInt8):eK (x++[d])=eK x * 10+(d.toNat-48):=by
 simp[eK,List.foldl_append]
theorem aIc:∀ (n:Nat) (x:aD),x.length=n→vZ x→eK x<10 ^ n
 | 0,x,h,_=>by have:x=[]:=gR h;subst this;simp[eK]
 | n+1,x,h,hd=>by
  have hne:x≠[]:=by rintro rfl;simp at h
  obtain ⟨y,d,rfl⟩:∃ y d,x=y++[d]:=⟨x.dropLast,x.getLast hne,(List.dropLast_concat_getLast hne).symm⟩
  have ih:=aIc n y (by simpa using h) (fun e he=>hd e (by simp[he]));have:=hd d (by simp);rw[aGU,Nat.pow_succ];omega
theorem aNH (s:St) (x:aD) (KV Kp) (hl:1≤x.length) (hl2:x.length≤11) (hd:vZ x) (hk:KV s (.tuple [.int .i64 (eK x),.nili])):Den cx 327 [.str x] KV Kp s:=by
 obtain ⟨b,r,rfl⟩:∃ b r,x=b::r:=by
  cases x with
  | nil=>simp at hl
  | cons b r=>exact ⟨b,r,rfl⟩
 have hb:=hd b (by simp);(refine aZ func327 [0,2,3,4,5,6,8,9,10,30,39,44,47,48,49,50,56,66] ?_;simp only[go_sem,ntmps327,f327]);have e1:decide ((0:Int)<((r.length+1:Nat):Int))=true:=fC (by omega);have e2:decide (((r.length+1:Nat):Int)<19)=true:=fC (by simp at hl2;omega);have e3:decide ((b.toNat:Int)=45)=false:=eL (by omega);have e4:decide ((b.toNat:Int)=43)=false:=eL (by omega);simp only[go_sem,e1,e2,e3,e4];refine ⟨by unfold maxLen;simp at hl2;omega,?_⟩;have hx:(b::r).length=r.length+1:=rfl;generalize hxx:b::r=x at *
 refine Ex.loop (fun i=>[(5,.str x),(6,.int .i64 (eK (x.take i):Nat)),(47,.list none (x.map fun c=>.int .u8 c.toNat)),(48,.int .i64 ((r.length+1:Nat))),(49,.int .i64 (i:Nat)),(3,.nili)]) (fun _=>s)
  (fun i=>i≤x.length) (fun i=>x.length-i) 0 (bS _) ?_ (bA s) ?_
 ·simp only[go_sem];subst hxx;exact ⟨rfl,rfl,rfl⟩
 ·intro i hi;refine bV (V:=[0,2,3,4,5,6,8,9,10,30,39,44,47,48,49,50,56,66]) _ _ _ _ ?_;simp only[go_sem];(refine cD (fun h=>?_) (fun h=>?_))<;>simp only[go_sem,h]
  ·have hix:i<x.length:=by simp at h;omega
   obtain ⟨d,hdd⟩:∃ d,x[i]?=some d:=⟨_,cH hix⟩
   have hdig:=hd d (fJ hdd)
   have f1:IntKind.u8.wrap ((d.toNat:Int)-48)=((d.toNat-48:Nat):Int):=by
    have e0:((d.toNat:Int)-48) % 2 ^ 8=(d.toNat:Int)-48:=by omega
    simp only[IntKind.wrap,IntKind.signed,IntKind.bits,cQ,bN,if_false,e0];omega
   have hn:eK (x.take i)<10 ^ 11:=by
    have h1:=aIc (x.take i).length (x.take i) rfl (fun e he=>hd e (qF he));have h2:(x.take i).length≤11:=by rw[eY];omega
    exact Nat.lt_of_lt_of_le h1 (Nat.pow_le_pow_right (by decide) h2)
   have f2:decide ((9:Int)<((d.toNat-48:Nat):Int))=false:=eL (by omega)
   have f3:IntKind.i64.wrap (((eK (x.take i):Nat):Int) * 10)=((eK (x.take i) * 10:Nat):Int):=by
    rw[eX _ (by omega) (by omega)];omega
   have f4:IntKind.i64.wrap ((d.toNat-48:Nat):Int)=((d.toNat-48:Nat):Int):=eX _ (by omega) (by omega)
   have f5:IntKind.i64.wrap (((eK (x.take i) * 10:Nat):Int)+((d.toNat-48:Nat):Int))=((eK (x.take (i+1)):Nat):Int):=by
    rw[sJ,hdd];show _=((eK (x.take i++[d]):Nat):Int);rw[aGU,eX _ (by omega) (by omega)];omega
   simp only[go_sem,hdd,hix,f1,f2,f3,f4,f5,bP i (by omega)];exact ⟨i+1,by omega,by omega,⟨rfl,rfl⟩,bA s⟩
  ·have hix:i=x.length:=by simp at h;omega
   have h0:x[0]?=some b:=by rw[← hxx];rfl
   have hl0:0<x.length:=by omega
   simp only[go_sem,h0,hl0,e3];rw[hix,List.take_length];exact aO hk
theorem aGf (s:St) (x:aD) (KV Kp) (hl:1≤x.length) (hl2:x.length≤11) (hd:vZ x) (hk:KV s (.tuple [.int .i64 (eK x),.nili])):Den cx 315 [.str x] KV Kp s:=by
 (refine aZ func315 [0,2,3,4,5,12] ?_;simp only[go_sem,ntmps315,f315]);refine aNH _ _ _ _ hl hl2 hd ?_;simp only[go_sem];exact aO hk
theorem aLM (s:St) (x:aD) (KV Kp) (hx:x.length≤4294967296) (hk:KV s (.tuple [(mU x).1.enc,.int .i64 (mU x).2.1,.bool (mU x).2.2])):Den cx 302 [.str x] KV Kp s:=by
 (refine aZ func302 [0,2,3,4,5,6,28] ?_;simp only[go_sem,ntmps302,f302]);intro b hb;simp only[go_sem,hb];refine aIP _ _ _ (fun c=>fB c.toNat) _ _ hx (fun c KV Kp h=>aGp _ _ _ _ h) ?_;generalize hn:(x.takeWhile fun c=>fB c.toNat).length=n at hk;have hnl:n≤x.length:=by rw[← hn];exact (List.takeWhile_sublist _).length_le
 simp only[go_sem,hnl];refine aLe _ _ 48 _ _ (by decide) ?_;simp only[go_sem];generalize hg:(x.take n).dropWhile (mK 48)=g at hk
 have bad:(10<g.length∨(∃ c,x[n]?=some c∧dU c.toNat=true))→mU x=(⟨0,[],0,0,0⟩,0,false):=by
  intro hh;simp only[mU,hn,hg,if_pos hh]
 have good:¬ (10<g.length∨(∃ c,x[n]?=some c∧dU c.toNat=true))→mU x=(⟨2,[],eK g,0,0⟩,n,decide (eK g≤2147483647)):=by
  intro hh;simp only[mU,hn,hg,if_neg hh]
 have hdg:vZ g:=by
  intro d hd;rw[← hg] at hd;have h1:=(List.dropWhile_sublist _).mem hd;rw[← hn] at h1
  have h2:d∈x.takeWhile fun c=>fB c.toNat:=by
   have:=qF (l:=x) h1
   have e:x.take (x.takeWhile fun c=>fB c.toNat).length=x.takeWhile fun c=>fB c.toNat:=by
    conv=>lhs;arg 2;rw[← List.takeWhile_append_dropWhile (p:=fun c=>fB c.toNat) (l:=x)]
    rw[List.take_left'];rfl
   rw[e] at h1;exact h1
  have h3:=iV.1 (List.all_takeWhile (p:=fun c:UInt8=>fB c.toNat) (l:=x)) d h2;simp only[fB,bT,eC] at h3;omega
 (refine cD (fun h=>?_) (fun h=>?_))<;>simp only[go_sem,h,hb]
 ·rw[bad (.inl (by simp at h;omega))] at hk;exact aM hk (fL hb)
 ·have hg10:¬ 10<g.length:=by simp at h;omega
  (refine cD (fun h=>?_) (fun h=>?_))<;>simp only[go_sem,h,hb]
  ·have hlt:n<x.length:=by simpa using h
   obtain ⟨c,hc⟩:∃ c,x[n]?=some c:=⟨_,cH hlt⟩
   simp only[go_sem,hc,hlt,hb];refine aD4 _ _ _ _ ?_;simp only[go_sem,hb];(refine cD (fun h=>?_) (fun h=>?_))<;>simp only[go_sem,h,hb]
   ·rw[bad (.inr ⟨c,hc,h⟩)] at hk;exact aM hk (fL hb)
   ·have hno:¬ (10<g.length∨(∃ c,x[n]?=some c∧dU c.toNat=true)):=by
     rintro (h1|⟨c',h1,h2⟩)
     ·exact hg10 h1
     ·rw[hc] at h1;cases h1;rw[h] at h2;cases h2
    have hgd:=good hno;rw[hgd] at hk;have m1:(48::g).length≤11:=by simp;omega
    refine ⟨by unfold maxLen;omega,?_⟩
    refine aGf _ _ _ _ (by simp) m1 (fun d hd=>by
     simp only[iR] at hd;rcases hd with rfl|hd
     ·decide
     ·exact hdg d hd) ?_
    have m2:eK (48::g)=eK g:=rfl;simp only[go_sem,hb,m2];have m3:decide (((eK g:Nat):Int)≤2147483647)=decide (eK g≤2147483647):=by congr 1;simp only[eq_iff_iff];omega
    rw[m3];exact aM hk (fL hb)
  ·have hno:¬ (10<g.length∨(∃ c,x[n]?=some c∧dU c.toNat=true)):=by
    rintro (h1|⟨c',h1,h2⟩)
    ·exact hg10 h1
    ·have:=(eT.1 h1).1;simp at h;omega
   have hgd:=good hno;rw[hgd] at hk;have m1:(48::g).length≤11:=by simp;omega
   refine ⟨by unfold maxLen;omega,?_⟩
   refine aGf _ _ _ _ (by simp) m1 (fun d hd=>by
    simp only[iR] at hd;rcases hd with rfl|hd
    ·decide
    ·exact hdg d hd) ?_
   have m2:eK (48::g)=eK g:=rfl;simp only[go_sem,hb,m2];have m3:decide (((eK g:Nat):Int)≤2147483647)=decide (eK g≤2147483647):=by congr 1;simp only[eq_iff_iff];omega
   rw[m3];exact aM hk (fL hb)
theorem aKU (s:St) (x:aD) (c:UInt8) (KV Kp) (hk:KV s (.int .i64 (x.count c:Nat))):Den cx 142 [.str x,.str [c]] KV Kp s:=by
 (refine aZ func142 [0,1,4,5,6,9,15,24] ?_;simp only[go_sem,ntmps142,f142]);simp only[go_sem,show decide (((1:Nat):Int)=0)=false from rfl,show decide (((1:Nat):Int)=1)=true from rfl];refine aKX _ _ _ _ _ ?_;simp only[go_sem];exact aO hk
theorem aLB (s:St) (l:List aD) (x:aD) (KV Kp) (hk:∀ r:Int,(0≤r↔x∈l)→KV s (.int .i64 r)):Den cx 198 [.list none (l.map .str),.str x] KV Kp s:=by
 refine rS fun hz1=>?_
 have hlw:=hz1 _ (rK ..);(refine aZ func198 [0,1,4,5,7,8,9,16] ?_;simp only[go_sem,ntmps198,f198])
 refine Ex.loop (fun i=>[(0,.list none (l.map .str)),(1,.str x),(7,.int .i64 l.length),(8,.int .i64 (i:Nat))]) (fun _=>s)
  (fun i=>i≤l.length∧∀ j,j<i→l[j]?≠some x) (fun i=>l.length-i) 0 ⟨bS _,fun j hj=>by omega⟩ ?_ (bA s) ?_
 ·simp only[go_sem];rfl
 ·rintro i ⟨hi,hall⟩;refine bV (V:=[0,1,4,5,7,8,9,16]) _ _ _ _ ?_;simp only[go_sem];(refine cD (fun h=>?_) (fun h=>?_))<;>simp only[go_sem,h]
  ·have hix:i<l.length:=by simpa using h
   obtain ⟨a,ha⟩:∃ a,l[i]?=some a:=⟨_,cH hix⟩
   simp only[go_sem,ha,hix];(refine cD (fun h=>?_) (fun h=>?_))<;>simp only[go_sem,h]
   ·have hxa:x=a:=by simpa using h
    subst hxa;have hm:x∈l:=fJ ha;exact aO (hk _ ⟨fun _=>hm,fun _=>by omega⟩)
   ·have hxa:¬ x=a:=by simpa using h
    refine ⟨i+1,⟨by omega,fun j hj=>?_⟩,by omega,?_,bA s⟩
    ·by_cases hji:j=i
     ·subst hji;rw[ha];simpa [eq_comm] using hxa
     ·exact hall j (by omega)
    ·simp only[go_sem,hlw.wrap (i:=i) (by simpa using hix)]
  ·have hix:i=l.length:=by simp at h;omega
   have hm:¬ x∈l:=by
    intro hm;obtain ⟨j,hj,e⟩:=iT hm;exact hall j (by omega) (by rw[cH hj,e])
   exact aO (hk _ ⟨fun h=>absurd h (by decide),fun h=>absurd h hm⟩)
theorem aDH (s:St) (l:List aD) (x:aD) (KV Kp) (hk:KV s (.bool (decide (x∈l)))):Den cx 108 [.list none (l.map .str),.str x] KV Kp s:=by
 (refine aZ func108 [0,1,4] ?_;simp only[go_sem,ntmps108,f108]);refine aLB _ _ _ _ _ fun r hr=>?_
 simp only[go_sem];have:decide (0≤r)=decide (x∈l):=by simp only[hr]
 rw[this];exact aO hk
def or5:Tr (OT × List (Nat × List Nat)):=(.nd (.nd .lf none (.nd .lf (some ((OT.l [0,1,2,3,4,5,6,7,8,9,11,10,12,13,14] .nil),[(10,[11])])) .lf)) none .lf)
def or6:Tr (OT × List (Nat × List Nat)):=(.nd (.nd (.nd .lf (some ((OT.l [0,1,3,4,2,5,6,7,8,9,11,12,10,13,14,15,16,17,18,19,20,21,22,23,24] .nil),[(2,[3,4,8,9,11,12,17,18]),(5,[8,9,11,12,17,18]),(10,[11,12,17,18]),(13,[17,18])])) .lf) none .lf) none .lf)
def aSo:Tr (OT × List (Nat × List Nat)):=(.nd (.nd (.nd .lf (some ((OT.l [0,1,2,3] .nil),[(2,[1])])) .lf) none .lf) none .lf)
def aRY:Tr (OT × List (Nat × List Nat)):=(.nd (.nd (.nd .lf (some ((OT.l [0,1,2,3] .nil),[(2,[1])])) .lf) none .lf) none .lf)
def aR9:Tr (OT × List (Nat × List Nat)):=(.nd .lf none (.nd (.nd .lf none (.nd .lf (some ((OT.l [0,1,2,3,4,5,6,7,8,9,10,11,12,13,14,15,16,17,18,19] .nil),[])) .lf)) none (.nd (.nd (.nd .lf (some ((OT.l [0,1,2,3,4,5,6,7,8,9,10,11,12,13,14,15,16,17,18,19] .nil),[])) .lf) none .lf) (some ((OT.l [0,1,2,3,4,5,6,7,8,9,10,11,12,13,14,15,16,17,18,19] .nil),[])) (.nd .lf none (.nd .lf (some ((OT.l [0,1,2,3,4,5,6,7,8,9,10,11,12,13,14,15,16,17,18,19] .nil),[])) .lf)))))
def aR1:Tr (OT × List (Nat × List Nat)):=(.nd (.nd (.nd .lf (some ((OT.l [0,1,2,3] .nil),[(2,[1])])) .lf) none .lf) none (.nd (.nd (.nd .lf (some ((OT.l [0,1,2,3] .nil),[(2,[1])])) .lf) none .lf) none (.nd .lf (some ((OT.l [0,1,2,3,4,5,6,7,8,9] .nil),[])) .lf)))
def aRL:Tr (OT × List (Nat × List Nat)):=(.nd (.nd (.nd .lf (some ((OT.l [0,1,2,3] .nil),[(2,[1])])) .lf) none .lf) none (.nd .lf none (.nd (.nd .lf (some ((OT.l [0,1,2,3,4,5,6] .nil),[(5,[4])])) .lf) none .lf)))
def aSl:Tr (OT × List (Nat × List Nat)):=(.nd (.nd (.nd .lf none (.nd (.nd .lf (some ((OT.l [0,1,2,3,4,5,6,7,9,10,11,12,8,13,14,15,16,17,18] .nil),[(8,[2,10]),(13,[2]),(14,[2])])) .lf) none .lf)) none .lf) none (.nd (.nd (.nd .lf none (.nd .lf (some ((OT.l [0,1,2,6,7,10,11,3,4,5,8,9,12,13,14,15,16] .nil),[(3,[7,11]),(8,[11])])) .lf)) none .lf) none (.nd .lf none (.nd (.nd (.nd .lf (some ((OT.l [0,1,2,3,4,5,6,7,8,9,10,11] .nil),[(6,[2])])) .lf) none .lf) none .lf))))
def aSw:Tr (OT × List (Nat × List Nat)):=(.nd .lf none (.nd (.nd .lf none (.nd .lf (some ((OT.l [0,1,2,3,4,5,6,7,8,9,10,11] .nil),[])) .lf)) none (.nd .lf (some ((OT.l [0,1,2,3,4,5,6,7,8,9,10,11,12,13,14,15,16,17,18,19,20,21,22,23,24,25,26,27,28,29,30,31,32,33] .nil),[(8,[12,14,18,24,26,30]),(19,[24,26,30])])) .lf)))
def aRV:Tr (OT × List (Nat × List Nat)):=(.nd (.nd .lf none (.nd .lf (some ((OT.l [0,1,2,4,5,8,3,6,7] .nil),[(3,[5])])) .lf)) none .lf)
def aR0:Tr (OT × List (Nat × List Nat)):=(.nd (.nd (.nd (.nd .lf (some ((OT.l [0,1,2,3,4,5,6] .nil),[(5,[4])])) .lf) none .lf) none (.nd .lf (some ((OT.l [0,1,2,3,4,5,6,7,8,9] .nil),[])) .lf)) none .lf)
def aSn:Tr (OT × List (Nat × List Nat)):=(.nd (.nd .lf none (.nd (.nd .lf (some ((OT.l [0,1,2,3,4,5,6] .nil),[(5,[4])])) .lf) none .lf)) none (.nd .lf none (.nd .lf (some ((OT.l [0,1,2,3,4,5,6,7,8,9,10,11,12,13] .nil),[(1,[6,10])])) .lf)))
def aSa:Tr (OT × List (Nat × List Nat)):=(.nd (.nd .lf (some ((OT.l [0,1,2,3,4,5,6,7,8,9,10] .nil),[(8,[3,7]),(9,[7])])) .lf) none .lf)
def aRJ:Tr (OT × List (Nat × List Nat)):=(.nd (.nd .lf (some ((OT.l [0,1,3,4,5,6,2,7,8,9] .nil),[(2,[4,6])])) .lf) none .lf)
def aRE:Tr (OT × List (Nat × List Nat)):=(.nd (.nd (.nd .lf (some ((OT.l [0,1,2,3,4,5,6,7,8,9] .nil),[])) .lf) none .lf) none .lf)
def aSs:Tr (OT × List (Nat × List Nat)):=(.nd .lf none (.nd .lf (some ((OT.l [0,1,2,3,4,5,6,7,8,9,10,11,12] .nil),[])) .lf))
def aRG:Tr (OT × List (Nat × List Nat)):=(.nd .lf none (.nd .lf none (.nd .lf (some ((OT.l [0,1,2,3,4,5,6,7,8,9] .nil),[])) .lf)))
def aRQ:Tr (OT × List (Nat × List Nat)):=(.nd .lf none (.nd (.nd .lf (some ((OT.l [0,1,2,4,5,8,3,6,7] .nil),[(3,[5])])) .lf) none .lf))
def aSt:Tr (OT × List (Nat × List Nat)):=(.nd (.nd (.nd (.nd .lf (some ((OT.l [0,1,2,4,5,8,3,6,7] .nil),[(3,[5])])) .lf) none .lf) none (.nd .lf (some ((OT.l [0,1,2,3,4,5,7,8,6,9,10] .nil),[(6,[8])])) .lf)) none (.nd .lf none (.nd (.nd (.nd .lf (some ((OT.l [0,1,2,3,5,6,4,7,8] .nil),[(4,[6])])) .lf) none .lf) none .lf)))
def aSh:Tr (OT × List (Nat × List Nat)):=(.nd (.nd (.nd .lf none (.nd (.nd .lf (some ((OT.l [0,1,4,5,6,7,8,9,2,3,10,11,12,13] .nil),[(2,[5,7])])) .lf) none .lf)) none (.nd (.nd (.nd .lf (some ((OT.l [0,1,2,3,4,5,6,7,8] .nil),[(5,[1])])) .lf) none .lf) none .lf)) none (.nd .lf none (.nd (.nd .lf none (.nd .lf (some ((OT.l [0,1,2,3,4,5,8,9,10,11,12,13,6,7,14,15,16,17] .nil),[(6,[9,13])])) .lf)) none .lf)))
def aRU:Tr (OT × List (Nat × List Nat)):=(.nd (.nd .lf (some ((OT.l [0,1,2,3,4,5,6,7,8,9,10,11] .nil),[(9,[1,4])])) .lf) none .lf)
def aSg:Tr (OT × List (Nat × List Nat)):=(.nd .lf none (.nd .lf none (.nd (.nd .lf none (.nd .lf (some ((OT.l [0,1,2,3,4,7,8,5,6,9,10,11] .nil),[(5,[1,8]),(9,[1])])) .lf)) none .lf)))
def aRD:Tr (OT × List (Nat × List Nat)):=(.nd .lf none (.nd .lf none (.nd .lf (some ((OT.l [0,1,2,3,4,5,6,7,8,9] .nil),[])) .lf)))
def aSb:Tr (OT × List (Nat × List Nat)):=(.nd (.nd (.nd (.nd .lf (some ((OT.l [0,1,2,3,4,6,7,8,10,11,12,14,15,16,17,5,9,13,18,19,20,21,22] .nil),[(5,[1,6,8,10,12,15,17]),(9,[1,10,12,15,17]),(13,[1,15,17])])) .lf) (some ((OT.l [0,1,2,4,5,6,7,9,10,11,13,14,15,17,18,19,21,22,23,25,26,27,3,8,12,16,20,24,28,29,30,31] .nil),[(3,[5,6,9,11,13,15,17,19,21,23,25,27]),(8,[9,11,13,15,17,19,21,23,25,27]),(12,[13,15,17,19,21,23,25,27]),(16,[17,19,21,23,25,27]),(20,[21,23,25,27]),(24,[25,27]),(30,[0,2,5,6,9,11,13,15,17,19,21,23,25,27])])) .lf) none .lf) none (.nd (.nd .lf none (.nd .lf (some ((OT.l [0,1,2,3,4,5,6,7,8] .nil),[(4,[1])])) .lf)) none .lf))
def aSy:Tr (OT × List (Nat × List Nat)):=(.nd (.nd (.nd (.nd .lf (some ((OT.l [0,1,2,3,4,5,7,8,9,6,10,11,12,13,14,15,16] .nil),[(6,[2,7,9]),(10,[2])])) .lf) (some ((OT.l [0,1,2,3,5,6,7,8,10,11,12,13,15,16,17,18,4,9,14,19,20,21,22] .nil),[(4,[5,8,10,13,15,18]),(9,[10,13,15,18]),(14,[15,18])])) .lf) none .lf) none (.nd (.nd .lf none (.nd .lf (some ((OT.l [0,1,2,4,5,6,8,9,10,3,12,7,11,13,14,15,16,17] .nil),[(3,[4,6,8,10]),(7,[8,10])])) .lf)) (some ((OT.l [0,1,2,4,5,6,8,9,10,12,13,14,16,17,18,20,21,22,3,7,11,15,19,23,24,25,26] .nil),[(3,[4,6,8,10,12,14,16,18,20,22]),(7,[8,10,12,14,16,18,20,22]),(11,[12,14,16,18,20,22]),(15,[16,18,20,22]),(19,[20,22]),(25,[0,2,4,6,8,10,12,14,16,18,20,22])])) (.nd (.nd (.nd .lf (some ((OT.l [0,1,2,3,4,5,6,7,8] .nil),[(4,[1])])) .lf) none .lf) none .lf)))
def aRW:Tr (OT × List (Nat × List Nat)):=(.nd .lf none (.nd .lf none (.nd .lf (some ((OT.l [0,1,2,3,4,5,6,7,8,9,10] .nil),[])) .lf)))
def aRF:Tr (OT × List (Nat × List Nat)):=(.nd .lf none (.nd .lf none (.nd .lf (some ((OT.l [0,1,2,3,4,5,6,7,8,9,10,11,12,13,14,15,16,17,18,19,20,21,22,23,24,25,26,27,28,29,30,31,32,33,34,35,36,37] .nil),[])) .lf)))
def aRR:Tr (OT × List (Nat × List Nat)):=(.nd (.nd (.nd .lf none (.nd (.nd .lf (some ((OT.l [0,1,2,3,4,5,6,7,8,9,10] .nil),[])) .lf) none .lf)) none (.nd .lf none (.nd .lf (some ((OT.l [0,1,2,3,4,5,6,7,8,9,10,11,12,13] .nil),[])) .lf))) none .lf)
def aR6:Tr (OT × List (Nat × List Nat)):=(.nd (.nd .lf none (.nd (.nd .lf (some ((OT.l [0,1,2,3,4,5] .nil),[])) .lf) none .lf)) none .lf)
def aR5:Tr (OT × List (Nat × List Nat)):=(.nd (.nd (.nd .lf (some ((OT.l [0,1,2] .nil),[])) .lf) none (.nd .lf (some ((OT.l [0,1,2,4,3,5,6] .nil),[(3,[4])])) .lf)) none .lf)
def aSj:Tr (OT × List (Nat × List Nat)):=(.nd (.nd (.nd (.nd .lf (some ((OT.l [0,1,2,3,4,5,6,7] .nil),[])) .lf) none (.nd (.nd .lf (some ((OT.l [0,1,2,3,4,5,6,7,8,9,10,11,12,13] .nil),[(7,[0,1,5]),(9,[0])])) .lf) none .lf)) none .lf) none (.nd (.nd (.nd (.nd (.nd .lf (some ((OT.l [0,1,2,3,4,5,6,7,8,9,10,11,12] .nil),[(7,[0,1,4]),(9,[0])])) .lf) (some ((OT.l [0,1,2,3,4,5,6,7,8,9,10,11,12,13,14] .nil),[])) .lf) none (.nd .lf (some ((OT.l [0,2,3,4,5,1,6,7,8] .nil),[(1,[3,5]),(7,[0,3,5])])) .lf)) none (.nd (.nd .lf (some ((OT.l [0,1,2,3,4,5,6,7,8,9,10,11,12,13] .nil),[(7,[0,1,5]),(9,[0])])) .lf) (some ((OT.l [0,1,2,3,4,5,6,7,8,9,10,11,12] .nil),[(8,[0])])) (.nd .lf (some ((OT.l [0,1,2,3,4,5,6,7,8,9,10] .nil),[(7,[0])])) .lf))) none (.nd .lf none (.nd (.nd .lf (some ((OT.l [0,1,2,3,4,5,6] .nil),[])) .lf) (some ((OT.l [0,1,2,3,4,5,6,7,8,9,10,11,12,13,14] .nil),[(9,[0,1,5]),(10,[0])])) (.nd .lf (some ((OT.l [0,1,2,3,4,5,6] .nil),[])) .lf)))))
def aRT:Tr (OT × List (Nat × List Nat)):=(.nd (.nd .lf none (.nd .lf (some ((OT.l [0,1,2,3,4,5,6,7,8,9,10,11,12] .nil),[])) .lf)) none .lf)
def aR2:Tr (OT × List (Nat × List Nat)):=(.nd (.nd (.nd (.nd (.nd .lf (some ((OT.l [0,1,2,3,4,5,6,7,8,9,10,11,12,13,14] .nil),[])) .lf) none (.nd .lf (some ((OT.l [0,1,2,3,4,5,6,7,8,9,10,11,12,13,14,15,16] .nil),[])) .lf)) none (.nd .lf none (.nd .lf (some ((OT.l [0,1,2,3,4,5,6,7,8,9,10,11,12,13,14,15,16] .nil),[])) .lf))) none (.nd .lf none (.nd (.nd .lf (some ((OT.l [0,1,2,3,4,5,6,7,8,9,10,11,12,13,14,15] .nil),[(8,[6])])) .lf) none .lf))) none (.nd (.nd (.nd .lf (some ((OT.l [0,1,2,3,4,5,6,7,8,9,10,11,12,13,14,15] .nil),[(8,[6])])) .lf) none .lf) none .lf))
def aRZ:Tr (OT × List (Nat × List Nat)):=(.nd (.nd (.nd .lf (some ((OT.l [0,1,2,3,4,5,6,7,8,9,10] .nil),[])) .lf) (some ((OT.l [0,1,2,3,4,5,6,7,8,9] .nil),[])) .lf) none .lf)
def aSv:Tr (OT × List (Nat × List Nat)):=(.nd .lf none (.nd .lf (some ((OT.l [0,1,2,3,4,5,6,7,8,9] .nil),[])) .lf))
def aRI:Tr (OT × List (Nat × List Nat)):=(.nd (.nd .lf none (.nd (.nd .lf (some ((OT.l [0,1,2,3,4,5,6,7,8,9,10,11] .nil),[(10,[3,7,9])])) .lf) none .lf)) none .lf)
def aRx:Tr (OT × List (Nat × List Nat)):=(.nd (.nd .lf (some ((OT.l [0,1,2,3,5,6,7,8,9,4,10,11] .nil),[(4,[8])])) .lf) none .lf)
def aRz:Tr (OT × List (Nat × List Nat)):=(.nd (.nd (.nd .lf (some ((OT.l [0,1,2,3,4,5,6,7,8,9,10,11,12,13,14,15,16,17,18,19,20,21] .nil),[])) .lf) (some ((OT.l [0,1,2,3,4,5,6,7,8,9] .nil),[])) .lf) (some ((OT.l [0,1,2,3,4,5,6,7,8,9,10,11,12,13,14,15,16,17,18,19,20,21,22,23,24,25] .nil),[])) .lf)
def aRl:Tr (OT × List (Nat × List Nat)):=(.nd (.nd (.nd (.nd (.nd .lf (some ((OT.l [0,1,2,3,4,5,6,7,8,9,10,11,12,13,14,15,16,17,18] .nil),[])) .lf) none .lf) none .lf) none .lf) (some ((OT.l [0,1,2,3,4,5,6,7,8,9] .nil),[])) .lf)
def aQc:Tr (OT × List (Nat × List Nat)):=(.nd (.nd (.nd .lf (some ((OT.l [0,1,2,3,4,5,6,7] .nil),[])) .lf) none .lf) none .lf)
def aP9:Tr (OT × List (Nat × List Nat)):=(.nd (.nd (.nd (.nd .lf (some ((OT.l [0,1,2,3,4,6,7,8,5,9,10,11,12,13,14] .nil),[(5,[1,6,8]),(9,[1])])) .lf) (some ((OT.l [0,1,2,3,5,6,7,8,10,11,12,14,15,16,4,9,13,17,18,19,20] .nil),[(4,[5,7,8,12,16]),(9,[12,16]),(13,[16]),(19,[0,2,3,5,7,8,12,16])])) .lf) none .lf) none .lf)
def aQT:Tr (OT × List (Nat × List Nat)):=(.nd (.nd .lf none (.nd .lf (some ((OT.l [0,1,2,4,5,6,8,9,10,3,12,7,11,13,14,15,16,17] .nil),[(3,[6,10]),(7,[10])])) .lf)) none .lf)
def aRb:Tr (OT × List (Nat × List Nat)):=(.nd (.nd (.nd (.nd .lf (some ((OT.l [0,1,2,4,5,6,8,9,10,3,12,7,11,13,14,15,16,17] .nil),[(3,[6,10]),(7,[10])])) .lf) none .lf) (some ((OT.l [0,1,2,4,5,6,8,9,10,11,3,7,12,13,14] .nil),[(3,[6,9,11]),(7,[9,11]),(13,[2,6,9,11])])) (.nd .lf none (.nd .lf (some ((OT.l [0,1,2,3,4,5,6,7,8,9,10] .nil),[(5,[1])])) .lf))) none (.nd .lf none (.nd (.nd (.nd .lf (some ((OT.l [0,1,2,3,4,5,6,7,8] .nil),[(4,[1])])) .lf) none .lf) none .lf)))
def aQy:Tr (OT × List (Nat × List Nat)):=(.nd (.nd .lf none (.nd .lf (some ((OT.l [0,1,2,4,5,6,8,9,10,3,12,7,11,13,14,15,16,17] .nil),[(3,[4,6,8,10]),(7,[8,10])])) .lf)) none .lf)
def aRm:Tr (OT × List (Nat × List Nat)):=(.nd .lf none (.nd .lf none (.nd .lf (some ((OT.l [0,1,2,4,5,6,8,9,10,3,12,7,11,13,14,15,16,17,18,19] .nil),[(3,[4,6,8,10]),(7,[8,10])])) .lf)))
def aQ2:Tr (OT × List (Nat × List Nat)):=(.nd (.nd (.nd .lf none (.nd .lf (some ((OT.l [0,1,2,3,4,5,6,7,8,9,10] .nil),[(5,[1])])) .lf)) (some ((OT.l [0,1,2,4,5,6,8,9,10,12,13,14,15,3,7,11,16,17,18] .nil),[(3,[4,6,8,10,13,15]),(7,[8,10,13,15]),(11,[13,15]),(17,[0,2,4,6,8,10,13,15])])) (.nd .lf (some ((OT.l [0,1,2,4,5,6,8,9,10,12,13,14,3,16,7,11,15,17,18,19,20,21,22,23] .nil),[(3,[4,6,8,10,12,14]),(7,[8,10,12,14]),(11,[12,14])])) .lf)) none .lf)
def aQE:Tr (OT × List (Nat × List Nat)):=(.nd .lf none (.nd .lf none (.nd .lf (some ((OT.l [0,1,2,3,4,5,6,7,8] .nil),[])) .lf)))
def aQX:Tr (OT × List (Nat × List Nat)):=(.nd .lf none (.nd .lf none (.nd .lf (some ((OT.l [0,1,2,3,4,5,6,7,8,9] .nil),[])) .lf)))
def aQ6:Tr (OT × List (Nat × List Nat)):=(.nd .lf none (.nd .lf none (.nd .lf (some ((OT.l [0,1,2,3,4,5,6,7,8] .nil),[])) .lf)))
def aRc:Tr (OT × List (Nat × List Nat)):=(.nd .lf none (.nd .lf none (.nd .lf (some ((OT.l [0,1,2,3,4,5,6,7,8] .nil),[])) .lf)))
def aQi:Tr (OT × List (Nat × List Nat)):=(.nd (.nd (.nd (.nd (.nd .lf (some ((OT.l [0,1,2,3,4,5] .nil),[])) .lf) (some ((OT.l [0,1,2,3,4,5,6,7] .nil),[])) .lf) (some ((OT.l [0,1,2,3,4,5,6] .nil),[])) (.nd .lf (some ((OT.l [0,1,2,3,4,5,6] .nil),[])) .lf)) none (.nd (.nd (.nd .lf (some ((OT.l [0,1,2,3,4,5,6] .nil),[])) .lf) (some ((OT.l [0,1,2,3,4,5,6] .nil),[])) .lf) (some ((OT.l [0,1,2,3,4,5,6,7] .nil),[])) .lf)) none .lf)
def aQu:Tr (OT × List (Nat × List Nat)):=(.nd (.nd (.nd .lf (some ((OT.l [0,1,2,3,4,5,6,7] .nil),[])) .lf) none .lf) none (.nd (.nd .lf (some ((OT.l [0,1,2,3,4,5,6,7,8,9,10,11,12,13] .nil),[(7,[0,1,5]),(9,[0])])) .lf) none .lf))
def aRu:Tr (OT × List (Nat × List Nat)):=(.nd (.nd (.nd .lf (some ((OT.l [0,1,2,3,4,5,6,7,8,9,10,11] .nil),[(10,[3,7,9])])) .lf) (some ((OT.l [0,1,2,3,4,5,6,7,8,9] .nil),[])) .lf) none .lf)
def aRr:Tr (OT × List (Nat × List Nat)):=(.nd (.nd (.nd (.nd .lf (some ((OT.l [0,1,2,3,4,5,6,7] .nil),[(3,[1])])) .lf) none .lf) none .lf) none .lf)
def aQF:Tr (OT × List (Nat × List Nat)):=(.nd (.nd .lf (some ((OT.l [0,2,3,4,5,1,6,7,8] .nil),[(1,[3,5]),(7,[3,5])])) .lf) none .lf)
def aQN:Tr (OT × List (Nat × List Nat)):=(.nd (.nd (.nd .lf none (.nd .lf (some ((OT.l [0,1,2,3,4,5,6] .nil),[])) .lf)) none (.nd (.nd .lf (some ((OT.l [0,1,2,3,4,5] .nil),[(2,[0])])) .lf) none (.nd .lf (some ((OT.l [0,1,2,3,4,5,6,7,8,9,10,11] .nil),[(6,[0,1,4]),(8,[0])])) .lf))) none (.nd (.nd (.nd (.nd .lf (some ((OT.l [0,1,2,3,4,5] .nil),[(2,[0])])) .lf) none .lf) none .lf) none (.nd .lf (some ((OT.l [0,1,2,3,4,5] .nil),[(2,[0])])) .lf)))
def aRd:Tr (OT × List (Nat × List Nat)):=(.nd (.nd .lf (some ((OT.l [0,1,2,3,4,5,6,7,8,9,10,11,12,13,14,15,16,17,18,19,20,21,22,23,24,25,26,27,28,29,30,31,32,33,34,35,36,37,38,39,40,41,42,43,44] .nil),[(1,[6,10,18,22,25,33,37,40])])) .lf) none .lf)
def aP6:Tr (OT × List (Nat × List Nat)):=(.nd (.nd .lf (some ((OT.l [0,1,2,3,4,5,6,7,8,9,10,11,12,13,14,15,16,17,18,19,20,21,22,23,24,25,26,27,28,29,30,31,32,33,34,35,36,37,38,39,40,41,42,43] .nil),[(1,[6,10,18,22,25,32,36,39])])) .lf) none .lf)
def aQJ:Tr (OT × List (Nat × List Nat)):=(.nd (.nd .lf none (.nd (.nd .lf (some ((OT.l [0,1,2,3,4,5,6,7,8,9,10,11,12,13,14,15,16,17] .nil),[])) (.nd .lf (some ((OT.l [0,1,2,3,4,5,6,7] .nil),[(3,[1])])) .lf)) none .lf)) none (.nd (.nd .lf none (.nd (.nd (.nd .lf (some ((OT.l [0,1,2,3,4,5,6,7,8,9,10,11,12,13,14] .nil),[])) .lf) none .lf) none .lf)) none (.nd (.nd (.nd .lf (some ((OT.l [0,1,2,3,4,5,6,7,8,9,10] .nil),[])) .lf) (some ((OT.l [0,1,2,3,4,5,6,7,8,9,10,11,12,13,14,15,16] .nil),[])) .lf) (some ((OT.l [0,1,2,3,4,5,6,7,8,9,10,11,12,13,14,15,16,17] .nil),[])) .lf)))
def aQG:Tr (OT × List (Nat × List Nat)):=(.nd (.nd (.nd (.nd .lf (some ((OT.l [0,1,2,3,4,5,6,7,8,9,10,11,12,13,14] .nil),[])) .lf) none .lf) none .lf) none (.nd (.nd .lf (some ((OT.l [0,1,2,3,4,5,6,7] .nil),[(3,[1])])) .lf) none .lf))
def aRa:Tr (OT × List (Nat × List Nat)):=(.nd (.nd (.nd (.nd .lf (some ((OT.l [0,1,2,3,4,5,6,7,8,9,10,11,12] .nil),[])) .lf) none .lf) none .lf) none .lf)
def aQC:Tr (OT × List (Nat × List Nat)):=(.nd .lf none (.nd (.nd .lf none (.nd (.nd .lf (some ((OT.l [0,1,2,3,4,5,6,7,8,9,10,11,12,13] .nil),[(7,[5])])) .lf) none .lf)) none (.nd (.nd .lf (some ((OT.l [0,1,2,3,4,5,6,7,8,9,10,11,12,13] .nil),[(7,[5])])) .lf) none .lf)))
def aQ9:Tr (OT × List (Nat × List Nat)):=(.nd (.nd (.nd (.nd .lf (some ((OT.l [0,1,2,3,4,5,6,7] .nil),[(3,[1]),(6,[1,2])])) .lf) none .lf) none .lf) none (.nd .lf none (.nd .lf (some ((OT.l [0,1,2,3,4,5] .nil),[(3,[1])])) .lf)))
def aQ1:Tr (OT × List (Nat × List Nat)):=(.nd .lf none (.nd .lf none (.nd (.nd .lf (some ((OT.l [0,1,2,3,4,5,6,7,8,9] .nil),[(5,[1])])) .lf) none .lf)))
def aP3:Tr (OT × List (Nat × List Nat)):=(.nd (.nd (.nd (.nd (.nd (.nd .lf (some ((OT.l [0,1,2,3,4,5,6,7,8,9] .nil),[(5,[1])])) .lf) none .lf) (some ((OT.l [0,1,2,3,4,5,6,7,8,9,10,11,12,13,14] .nil),[])) .lf) (some ((OT.l [0,1,2,3,4,5,6,7,8,9,10,11,12,13,14,15,16,17,18,19,20,21,22,23,24,25,26,27,28,29,30,31,32,33,34,35] .nil),[(1,[7,11,14,16,23,27,30,32])])) .lf) none (.nd (.nd .lf (some ((OT.l [0,1,2,3,4,5,6,7,8,9,10,11,12,13,14,15,16,17] .nil),[(1,[7,11,14])])) .lf) none (.nd (.nd .lf (some ((OT.l [0,1,2,3,4,5,6,7,8,9] .nil),[(5,[1])])) .lf) none (.nd .lf (some ((OT.l [0,1,2,3,4,5,6,7,8,9] .nil),[(5,[1])])) .lf)))) none .lf)
def aP5:Tr (OT × List (Nat × List Nat)):=(.nd (.nd .lf none (.nd .lf (some ((OT.l [0,1,2,3,4,5,7,8,6,9,10] .nil),[(6,[8])])) .lf)) none (.nd .lf none (.nd (.nd (.nd .lf (some ((OT.l [0,1,2,3,5,6,4,7,8] .nil),[(4,[6])])) .lf) none .lf) none .lf)))
def aRB:Tr (OT × List (Nat × List Nat)):=(.nd (.nd (.nd .lf (some ((OT.l [0,1,2,3,4,5,6,7,8,9,10,11,12,13,14] .nil),[(8,[4])])) .lf) none .lf) none .lf)
def aRC:Tr (OT × List (Nat × List Nat)):=(.nd (.nd .lf (some ((OT.l [0,1,2,3,4,5,6,7,8,9,10,11,12,13] .nil),[])) .lf) none .lf)
def aQr:Tr (OT × List (Nat × List Nat)):=(.nd (.nd .lf (some ((OT.l [0,1,2,3,4,5,6,7,8,9,10,11,12,13,14,15,16,17,18,19,20,21,22,23,24,25,26,27,28,29,30,31,32,33] .nil),[])) .lf) none .lf)
def aRt:Tr (OT × List (Nat × List Nat)):=(.nd .lf (some ((OT.l [0,1,2,3,4,5,6,7,8,9,10,11,12,13,14,15,16,17,18,19,20,21,22,23,24,25,26] .nil),[])) .lf)
def aQV:Tr (OT × List (Nat × List Nat)):=(.nd (.nd .lf (some ((OT.l [0,1,2,3,4,5,6,7,8,9,10,11] .nil),[(9,[7])])) .lf) none (.nd .lf (some ((OT.l [0,1,2,3,4,5,6,7,8,9,10] .nil),[])) .lf))
def aQ8:Tr (OT × List (Nat × List Nat)):=(.nd (.nd .lf (some ((OT.l [0,1,2,3,4,5,6,7,8,9,10,11,12,13,14,15,16,17,18,19,20,21,22,23,24,25] .nil),[])) .lf) none (.nd .lf (some ((OT.l [0,1,2,3,4,5,6,7,8,9,10,11,12,13,14,15,16,17] .nil),[])) .lf))
def aQo:Tr (OT × List (Nat × List Nat)):=(.nd (.nd .lf none (.nd .lf (some ((OT.l [0,1,2,3,4,5,6,7,8,9,10,11,12,13,14,15,16,17,18,19,20] .nil),[])) .lf)) none .lf)
def aQ0:Tr (OT × List (Nat × List Nat)):=(.nd (.nd (.nd .lf none (.nd .lf (some ((OT.l [0,1,2,3,4,5,6,7,8,9] .nil),[(6,[1])])) .lf)) none .lf) none (.nd .lf none (.nd .lf (some ((OT.l [0,1,2,4,5,6,7,9,10,11,3,13,8,12,14,15,16,17,18] .nil),[(3,[4,6,7,9,11]),(8,[9,11])])) .lf)))
def aQa:Tr (OT × List (Nat × List Nat)):=(.nd (.nd .lf (some ((OT.l [0,1,3,4,6,7,2,9,5,8,10,11,12,13,14] .nil),[(2,[4,7]),(5,[7])])) .lf) none .lf)
def aRo:Tr (OT × List (Nat × List Nat)):=(.nd .lf none (.nd .lf none (.nd .lf (some ((OT.l [0,1,2,4,5,6,3,8,7,9,10,11] .nil),[(3,[6])])) .lf)))
def aQs:Tr (OT × List (Nat × List Nat)):=(.nd (.nd .lf none (.nd .lf (some ((OT.l [0,1,2,3,4,5,6,7,8,9,10,11,12,13] .nil),[(10,[1,3,5]),(12,[1,3,5,7])])) .lf)) none (.nd (.nd (.nd (.nd .lf (some ((OT.l [0,1,2,3,4,5,6,7,8,9] .nil),[])) .lf) none .lf) none .lf) none .lf))
def aRi:Tr (OT × List (Nat × List Nat)):=(.nd .lf none (.nd (.nd .lf none (.nd .lf (some ((OT.l [0,1,2,3,4,5,6,7,8,9,10] .nil),[])) .lf)) none (.nd .lf (some ((OT.l [0,1,2,3,4,5,6,7,8,9,10] .nil),[])) .lf)))
def aRA:Tr (OT × List (Nat × List Nat)):=(.nd .lf none (.nd .lf none (.nd .lf (some ((OT.l [0,1,2,3,4,5,6,7,8] .nil),[])) .lf)))
def aQZ:Tr (OT × List (Nat × List Nat)):=(.nd .lf none (.nd .lf none (.nd .lf (some ((OT.l [0,1,2,3,4,5,6,7,8] .nil),[])) .lf)))
def aQU:Tr (OT × List (Nat × List Nat)):=(.nd (.nd (.nd .lf none (.nd (.nd .lf (some ((OT.l [0,1,2,3,4,5,6,7] .nil),[(5,[3])])) .lf) none .lf)) none .lf) none .lf)
def aQk:Tr (OT × List (Nat × List Nat)):=(.nd .lf none (.nd .lf none (.nd .lf (some ((OT.l [0,1,2,3,4,5,6] .nil),[])) .lf)))
def aQn:Tr (OT × List (Nat × List Nat)):=(.nd (.nd (.nd (.nd .lf (some ((OT.l [0,1,2,3,4,5,6,7,8,9,10,11,12,13,14,15,16,17,18,19,20,21,22,23,24] .nil),[])) .lf) none .lf) none (.nd .lf (some ((OT.l [0,1,2,3,4,5,6,7,8,9,10,11] .nil),[(9,[7])])) .lf)) none (.nd .lf (some ((OT.l [0,1,2,3,4,5,6,7,8,9] .nil),[])) (.nd (.nd .lf (some ((OT.l [0,1,2,3] .nil),[])) .lf) none .lf)))
def aQb:Tr (OT × List (Nat × List Nat)):=(.nd (.nd (.nd (.nd (.nd .lf (some ((OT.l [0,1,2,3,4,5,6,7,8,9,10,11] .nil),[(6,[4])])) .lf) none .lf) none (.nd .lf (some ((OT.l [0,1,2,3,4,5,6,7,8,9,10,11,12,13,14] .nil),[(8,[4])])) .lf)) (some ((OT.l [0,2,3,4,5,1,6,7,8] .nil),[(1,[3,5]),(7,[3,5])])) .lf) none (.nd (.nd (.nd .lf (some ((OT.l [0,1,2,3,4,5,6,7,8,9,10] .nil),[])) .lf) none .lf) none .lf))
def aQL:Tr (OT × List (Nat × List Nat)):=(.nd .lf none (.nd .lf (some ((OT.l [0,2,3,4,5,1,6,7,8] .nil),[(1,[3,5]),(7,[3,5])])) .lf))
def aQ7:Tr (OT × List (Nat × List Nat)):=(.nd (.nd (.nd .lf (some ((OT.l [0,1,2,3,4,5,6] .nil),[])) .lf) none .lf) none (.nd (.nd .lf (some ((OT.l [0,1,2,3,4,5,6,7,8,9,10,11] .nil),[(6,[0,1,4]),(8,[0])])) .lf) none .lf))
def aQf:Tr (OT × List (Nat × List Nat)):=(.nd (.nd .lf (some ((OT.l [0,1,2,3,4,5,6,7,8,9,10,11,12,13,14,15,16,17,18,19,20,21,22,23,24,25,26,27,28,29] .nil),[(1,[6,10,18,22,25])])) .lf) none .lf)
def aP8:Tr (OT × List (Nat × List Nat)):=(.nd .lf none (.nd (.nd .lf (some ((OT.l [0,1,2,3,4,5,6,7,8,9,10,11] .nil),[])) .lf) none .lf))
def aQm:Tr (OT × List (Nat × List Nat)):=(.nd (.nd (.nd .lf (some ((OT.l [0,1,2,3,4,5,6,7,8,9,10,11,12,13,14,15,16,17,18,19,20,21,22,23] .nil),[])) .lf) (some ((OT.l [0,1,2,3,4,5,6,7,8,9] .nil),[])) .lf) none (.nd .lf (some ((OT.l [0,1,2,3,4,5,6,7,8,9] .nil),[])) .lf))
def aQz:Tr (OT × List (Nat × List Nat)):=(.nd .lf none (.nd .lf none (.nd .lf none (.nd .lf (some ((OT.l [0,1,2,3,4,5,6,7,8,9,10,11,12] .nil),[])) .lf))))
def aQj:Tr (OT × List (Nat × List Nat)):=(.nd .lf none (.nd (.nd .lf (some ((OT.l [0,1,2,3,4,5,6,8] (.pair 7 9)),[])) .lf) none .lf))
def aRn:Tr (OT × List (Nat × List Nat)):=(.nd (.nd (.nd .lf (some ((OT.l [0,1,2,3,4,5,6,7,8,9,10,11,12,13] .nil),[])) .lf) none .lf) none .lf)
def aP4:Tr (OT × List (Nat × List Nat)):=(.nd (.nd .lf none (.nd .lf none (.nd .lf (some ((OT.l [0,1,2,3,4,5] .nil),[(3,[0])])) .lf))) none .lf)
def aQH:Tr (OT × List (Nat × List Nat)):=(.nd (.nd .lf none (.nd .lf (some ((OT.l [0,1,2,3,4,5,6,7,8,9,10,11,12] .nil),[])) .lf)) none .lf)
def aRf:Tr (OT × List (Nat × List Nat)):=(.nd (.nd .lf (some ((OT.l [0,1,2,3,4,5,6,7,8,9] .nil),[])) .lf) (some ((OT.l [0,1,2,3,4,5,6,7,8,9] .nil),[])) .lf)
def aRy:Tr (OT × List (Nat × List Nat)):=(.nd (.nd .lf (some ((OT.l [0,1,2,3,4,5,6,7,8,9] .nil),[])) .lf) none (.nd .lf none (.nd (.nd .lf (some ((OT.l [0,1,2,3,4,5,6,7,8,9,10,11,12,13,14,15,16,17,18] .nil),[])) .lf) none .lf)))
def aQA:Tr (OT × List (Nat × List Nat)):=(.nd (.nd (.nd .lf (some ((OT.l [0,1,2,3,4,5,6,7,8,9] .nil),[])) .lf) none .lf) none .lf)
def aRe:Tr (OT × List (Nat × List Nat)):=(.nd (.nd (.nd .lf none (.nd (.nd .lf (some ((OT.l [0,1,2,3,4,5,6,7] .nil),[(3,[1])])) .lf) (some ((OT.l [0,1,2,3,4,5,6,7,8,9,10] .nil),[])) .lf)) none (.nd (.nd .lf none (.nd .lf (some ((OT.l [0,1,2,3,4,5,6,7,8,9,10,11] .nil),[(6,[4])])) .lf)) none (.nd (.nd .lf (some ((OT.l [0,1,2,3,4,5,6,7,8,9,10] .nil),[])) .lf) none .lf))) none .lf)
def aQW:Tr (OT × List (Nat × List Nat)):=(.nd (.nd (.nd .lf (some ((OT.l [0,1,2,3,4,6,7,5,8,9,11] (.pair 10 12)),[(5,[1])])) .lf) (some ((OT.l [0,1,2,3,4,6,7,5,8,9,11] (.pair 10 12)),[(5,[1])])) .lf) none .lf)
def aQP:Tr (OT × List (Nat × List Nat)):=(.nd .lf (some ((OT.l [0,1,2,3,4] .nil),[(2,[0])])) .lf)
def aP2:Tr (OT × List (Nat × List Nat)):=(.nd (.nd (.nd .lf (some ((OT.l [0,1,2,3,4,5,6] .nil),[])) .lf) none .lf) none .lf)
def aQI:Tr (OT × List (Nat × List Nat)):=(.nd (.nd (.nd .lf (some ((OT.l [0,1,2,3,4,5,6,7,8,9] .nil),[])) .lf) none .lf) none .lf)
def aQ4:Tr (OT × List (Nat × List Nat)):=(.nd (.nd (.nd (.nd .lf (some ((OT.l [0,1,2,3,4,5,6,7,8,9,10,11,12,13,14] .nil),[])) (.nd .lf (some ((OT.l [0,1,2,3,4,5,6,7,8,9,10,11,12,13,14] .nil),[])) .lf)) none .lf) none (.nd (.nd (.nd .lf (some ((OT.l [0,1,2,3,4,5,6,7,8,9,10,11,12,13,14] .nil),[])) .lf) (some ((OT.l [0,1,2,3,4,5,6,7,8,9,10,11,12,13,14] .nil),[])) .lf) none .lf)) none (.nd (.nd (.nd .lf (some ((OT.l [0,1,2,3,4,5,6,7,8,9,10,11,12,13,14] .nil),[])) .lf) none .lf) none (.nd (.nd (.nd .lf (some ((OT.l [0,1,2,3,4,5,6,7,8,9,10,11,12,13,14] .nil),[])) .lf) (some ((OT.l [0,1,2,3,4,5,6,7,8,9,10,11,12,13,14] .nil),[])) .lf) none .lf)))
def aQg:Tr (OT × List (Nat × List Nat)):=(.nd (.nd .lf none (.nd (.nd .lf (some ((OT.l [0,1,2,3,4,5,6,7,8,9,10,11,12,13,14,15,16,17,18,19] .nil),[])) .lf) none .lf)) none (.nd .lf none (.nd (.nd (.nd .lf (some ((OT.l [0,1,2,3,4,5,6,7,8,9,10,11,12,13,14,15,16,17,18,19] .nil),[])) .lf) none .lf) none .lf)))
def aQ3:Tr (OT × List (Nat × List Nat)):=(.nd (.nd .lf none (.nd (.nd .lf (some ((OT.l [0,1,2,3,4,5,6,7,8,9,10,11,12,13,14,15,16,17,18,19] .nil),[])) .lf) none .lf)) none .lf)
def aQq:Tr (OT × List (Nat × List Nat)):=(.nd (.nd .lf (some ((OT.l [0,1,3,2,4,5,6] .nil),[(2,[3])])) .lf) none .lf)
def aQ5:Tr (OT × List (Nat × List Nat)):=(.nd (.nd .lf (some ((OT.l [0,1,3,2,4,5,6] .nil),[(2,[3])])) .lf) none .lf)
def aRs:Tr (OT × List (Nat × List Nat)):=(.nd (.nd (.nd (.nd (.nd (.nd .lf (some ((OT.l [0,1,2,3,4,5,6,7,8,9,10] .nil),[])) .lf) none .lf) (some ((OT.l [0,1,2,3,4,5,6,7,8] .nil),[])) .lf) none .lf) none .lf) none (.nd .lf none (.nd .lf (some ((OT.l [0,1,2,3,4,5,6] .nil),[])) (.nd .lf (some ((OT.l [0,1,2,3,4,5,6,7,8,9,10] .nil),[])) .lf))))
def orT:Tr (Tr (OT × List (Nat × List Nat))):=(.nd (.nd (.nd (.nd (.nd (.nd (.nd (.nd .lf (some aQ2) .lf) none (.nd .lf (some aRt) .lf)) none (.nd .lf (some aRI) .lf)) (some aSo) (.nd (.nd .lf none (.nd (.nd .lf (some aQq) .lf) (some aRi) .lf)) (some aRG) (.nd (.nd .lf (some aP5) .lf) (some aQc) (.nd .lf (some aQj) .lf)))) none (.nd (.nd .lf (some aSn) (.nd (.nd (.nd .lf (some aP2) .lf) (some aQ9) .lf) (some aRx) (.nd .lf (some aP8) .lf))) none (.nd (.nd (.nd (.nd .lf (some aQA) .lf) none .lf) none (.nd .lf (some aQn) .lf)) (some aSg) .lf))) none (.nd (.nd (.nd (.nd (.nd .lf (some aRc) .lf) (some aRR) (.nd .lf (some aQo) .lf)) none (.nd (.nd .lf (some aRa) .lf) none (.nd .lf (some aQ7) .lf))) (some aRL) (.nd (.nd (.nd .lf (some aQu) .lf) (some aR5) .lf) none .lf)) none (.nd (.nd (.nd .lf (some aR6) (.nd .lf (some aRo) .lf)) (some aRE) (.nd .lf none (.nd .lf (some aQz) .lf))) none (.nd (.nd (.nd .lf (some aQN) .lf) (some aRZ) .lf) none (.nd .lf none (.nd .lf (some aP4) .lf)))))) none (.nd (.nd (.nd (.nd (.nd (.nd .lf (some aQX) .lf) (some aRW) .lf) none (.nd (.nd .lf (some aQJ) .lf) none .lf)) (some aR9) (.nd (.nd .lf none (.nd .lf (some aQZ) .lf)) (some aSt) (.nd (.nd .lf (some aRB) .lf) (some aQT) .lf))) none (.nd (.nd (.nd .lf none (.nd .lf (some aQa) .lf)) (some aSa) (.nd (.nd (.nd .lf (some aQI) .lf) none .lf) (some aRl) .lf)) none (.nd .lf none (.nd (.nd (.nd .lf (some aQ3) .lf) none .lf) none (.nd .lf (some aRn) .lf))))) (some or5) (.nd (.nd (.nd .lf none (.nd .lf none (.nd .lf (some aQf) .lf))) none (.nd (.nd (.nd (.nd .lf (some aRf) .lf) (some aRu) .lf) none (.nd .lf (some aQk) .lf)) none (.nd (.nd (.nd .lf (some aQ4) .lf) none .lf) none .lf))) none (.nd (.nd .lf none (.nd (.nd .lf (some aP3) .lf) none .lf)) (some aSw) (.nd (.nd (.nd (.nd .lf (some aRe) .lf) (some aP6) .lf) none .lf) none .lf))))) none (.nd (.nd (.nd (.nd (.nd (.nd (.nd .lf (some aQE) .lf) (some aSy) (.nd .lf (some aQV) .lf)) none (.nd .lf none (.nd .lf (some aQb) .lf))) (some aRY) (.nd (.nd .lf none (.nd (.nd .lf (some aQ5) .lf) (some aRA) .lf)) (some aRQ) (.nd .lf (some aP9) .lf))) none (.nd (.nd (.nd .lf none (.nd .lf (some aQ0) .lf)) none (.nd .lf (some aRz) (.nd .lf (some aQm) .lf))) none (.nd (.nd (.nd .lf (some aRr) .lf) (some aRT) .lf) none (.nd (.nd (.nd .lf (some aQg) .lf) none .lf) none .lf)))) none (.nd (.nd (.nd .lf none (.nd (.nd (.nd .lf (some aQP) .lf) (some aQC) .lf) none .lf)) none (.nd (.nd .lf none (.nd (.nd .lf (some aRs) .lf) none .lf)) (some aSh) (.nd .lf (some aRb) .lf))) none (.nd (.nd (.nd (.nd .lf (some aQi) .lf) none .lf) none (.nd (.nd .lf (some aQ1) .lf) none .lf)) none (.nd (.nd (.nd .lf (some aRd) .lf) none .lf) (some aSb) (.nd (.nd .lf (some aQr) .lf) (some aRm) (.nd .lf (some aQH) .lf)))))) none (.nd (.nd (.nd (.nd (.nd (.nd .lf (some aQ6) .lf) (some aRF) (.nd .lf (some aQ8) .lf)) (some aRV) (.nd (.nd .lf (some aQG) .lf) none (.nd .lf (some aQL) .lf))) (some aR1) (.nd (.nd .lf none (.nd .lf (some aQU) .lf)) none (.nd (.nd .lf (some aRC) .lf) none .lf))) none (.nd (.nd .lf (some aRJ) .lf) none (.nd (.nd (.nd .lf (some aQF) .lf) (some aR2) .lf) (some aRD) (.nd .lf (some aQy) .lf)))) (some or6) (.nd (.nd (.nd .lf (some aR0) .lf) (some aSl) (.nd (.nd (.nd (.nd .lf (some aRy) .lf) none .lf) (some aSj) .lf) (some aRU) .lf)) none (.nd (.nd (.nd .lf none (.nd .lf (some aQs) .lf)) (some aSs) .lf) none (.nd (.nd (.nd (.nd .lf (some aQW) .lf) none .lf) (some aSv) .lf) none .lf))))))
def aAU (f r:Nat):Option (OT × List (Nat × List Nat)):=match orT.get f with
 | some t=>t.get r
 | none=>none
noncomputable def tV (f:FuncId):Option FX:=match prog.funcs[f]? with
 | some fn=>match fn.body with
  | some c=>some ⟨c,fn.ntmps,fn.results.toList,Nat.beq f 38||Nat.beq f 18⟩
  | none=>none
 | none=>none
end Go.AV
