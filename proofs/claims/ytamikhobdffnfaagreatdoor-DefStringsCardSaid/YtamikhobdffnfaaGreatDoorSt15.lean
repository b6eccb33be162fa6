/-
  Of DefStrings.
-/
import Derived.Test.YtamikhobdffnfaaGreatDoorSt14
import Derived.Laws.RangeAny
import Derived.Test.YtamikhobdffnfaaGreatDoorSt10
set_option linter.all false
set_option maxRecDepth 99999
set_option maxHeartbeats 0
namespace Go.AV
open Go Go.Proofs Tryz
theorem wC {x:aB} {i:Nat} {d:UInt8} (hd:x[i]?=some d) (h:d.toNat<128):Utf8.decode ⟨x.toArray⟩ i=(d.toNat,1):=by
 have hi:i<x.length:=(dH.1 hd).1;have hs:i<(ByteArray.mk x.toArray).size:=by simpa [ByteArray.size] using hi
 have e:(ByteArray.mk x.toArray)[i]'hs=d:=by
  exact (dH.1 hd).2
 have:=decode_ascii ⟨x.toArray⟩ i hs (by rw[e];exact h);rw[this,e]
theorem aKA {x:aB} {i:Nat} {d:UInt8} (hd:x[i]?=some d) (h:128≤d.toNat):128≤(Utf8.decode ⟨x.toArray⟩ i).1:=by
 have hi:i<x.length:=(dH.1 hd).1;have hs:i<(ByteArray.mk x.toArray).size:=by simpa [ByteArray.size] using hi
 have e:(ByteArray.mk x.toArray)[i]'hs=d:=by
  exact (dH.1 hd).2
 exact (decode_high ⟨x.toArray⟩ i hs (by rw[e];exact h)).1
theorem aDI (s:St) (x:aB) (KV Kp) (hk:KV s (.bool (kP x))):Den cx 273 [.str x] KV Kp s:=by
 (refine aO func273 [0,2,4,6,7,8,23] ?_;simp only[go_sem,ntmps273,f273]);intro b hb;simp only[go_sem]
 refine Ex.loop (fun i=>[(0,.str x),(6,.ptr b 0)]) (fun i=>s.setO b (.iter x i))
  (fun i=>i≤x.length∧∀ d∈x.take i,iA d=true) (fun i=>x.length-i) 0 ⟨bS _,by simp⟩ ?_ (bW _) ?_
 ·simp only[go_sem]
 ·rintro i ⟨hi,hall⟩;refine cL (V:=[0,2,4,6,7,8,23]) _ _ _ _ ?_;by_cases hlt:i<x.length
  ·obtain ⟨d,hd⟩:∃ d,x[i]?=some d:=⟨_,bK hlt⟩
   have bad:iA d=false→∀ o,DK KV (s.setO b o) (.bool false):=fun ho o=>by
    have:kP x=false:=by
     rw[kP,Bool.and_eq_false_iff];refine .inl (aDE.2 fun hall=>?_);rw[fD] at hall;rw[hall d (dP hd)] at ho;cases ho
    rw[this] at hk;exact aH hk (dM hb)
   by_cases hlow:d.toNat<128
   ·by_cases ho:iA d=true
    ·have ho':=ho;simp only[iA,aZ,cG,oZ,kW] at ho';obtain ⟨o1,o2,o3,o4⟩:=ho';have n3:¬ d.toNat=34:=fun e=>o3 (oG.1 e)
     have n4:¬ d.toNat=92:=fun e=>o4 (oG.1 e)
     have e1:decide ((d.toNat:Int)<32)=false:=fE (by omega);have e2:decide (126<(d.toNat:Int))=false:=fE (by omega);have e3:decide ((d.toNat:Int)=34)=false:=fE (by omega);have e4:decide ((d.toNat:Int)=92)=false:=fE (by omega);simp only[go_sem,hlt,wC hd hlow,e1,e2,e3,e4];refine ⟨i+1,⟨by omega,fun q hq=>?_⟩,by omega,bW _⟩;rw[lQ,hd] at hq;simp only[gX,Option.toList_some,cY] at hq;rcases hq with hq|rfl
     ·exact hall q hq
     ·exact ho
    ·have ho':iA d=false:=by simpa using ho
     have bad:=bad ho';by_cases o1:32≤d.toNat
     ·have e1:decide ((d.toNat:Int)<32)=false:=fE (by omega);by_cases o2:d.toNat≤126
      ·have e2:decide (126<(d.toNat:Int))=false:=fE (by omega);by_cases o3:d.toNat=34
       ·have e3:decide ((d.toNat:Int)=34)=true:=eR (by omega);simp only[go_sem,hlt,wC hd hlow,e1,e2,e3];exact bad _
       ·have e3:decide ((d.toNat:Int)=34)=false:=fE (by omega)
        have o4:d.toNat=92:=by
         have n3:¬ d=34:=fun e=>o3 (by rw[e];rfl)
         simp only[iA,o1,o2,n3,oH,qH,eZ,eX,aDD,cG] at ho';rw[ho'];rfl
        have e4:decide ((d.toNat:Int)=92)=true:=eR (by omega);simp only[go_sem,hlt,wC hd hlow,e1,e2,e3,e4];exact bad _
      ·have e2:decide (126<(d.toNat:Int))=true:=eR (by omega);simp only[go_sem,hlt,wC hd hlow,e1,e2];exact bad _
     ·have e1:decide ((d.toNat:Int)<32)=true:=eR (by omega);simp only[go_sem,hlt,wC hd hlow,e1];exact bad _
   ·have hh:=aKA hd (by omega);have e1:decide (((Utf8.decode ⟨x.toArray⟩ i).1:Int)<32)=false:=fE (by omega);have e2:decide (126<((Utf8.decode ⟨x.toArray⟩ i).1:Int))=true:=eR (by omega);simp only[go_sem,hlt,e1,e2];exact bad (by simp only[iA,show ¬ d.toNat≤126 from by omega,qH,fL,gY]) _
  ·have hix:i=x.length:=by omega
   simp only[go_sem,hlt];refine aH (s2:=s) ?_ (dM hb)
   have:kP x=decide ((x.length:Int)≤200):=by
    rw[kP]
    have:x.all iA=true:=by
     rw[fD];intro d hd;rw[hix,List.take_length] at hall;exact hall d hd
    rw[this,eZ];congr 1;simp;omega
   rwa[this] at hk
theorem aIt (s:St) (x:aB) (c:UInt8) (KV Kp) (hk:KV s (.str (x.dropWhile (jP c)))):Den cx 323 [.str x,.int .u8 c.toNat] KV Kp s:=by
 (refine aO func323 [0,1,4,13] ?_;simp only[go_sem,ntmps323,f323])
 refine Ex.loop (fun w=>[(0,.str w),(1,.int .u8 c.toNat)]) (fun _=>s)
  (fun w=>w.dropWhile (jP c)=x.dropWhile (jP c)) (fun w=>w.length) x rfl ?_ (bW s) ?_
 ·simp only[go_sem]
 ·intro w hw;refine cL (V:=[0,1,4,13]) _ _ _ _ ?_;cases w with
  | nil =>
   simp only[go_sem,show decide ((0:Int)<((0:Nat):Int))=false from rfl];rw[← hw] at hk;exact aY hk
  | cons b r =>
   simp only[go_sem,show decide ((0:Int)<((r.length+1:Nat):Int))=true from eR (by omega)]
   have e:decide (b.toNat=c.toNat)=jP c b:=by
    unfold jP;congr 1;exact propext oG
   simp only[go_sem,e];(refine bA (fun h=>?_) (fun h=>?_))<;>simp only[go_sem,h]
   ·simp only[go_sem,show (1:Int)≤((r.length+1:Nat):Int) from by omega,show Int.toNat 1=1 from rfl];refine ⟨by decide,r,?_,by omega,?_,bW s⟩
    ·rw[← hw,List.dropWhile_cons,if_pos h]
    ·exact gW (by omega)
   ·rw[← hw,List.dropWhile_cons,if_neg (by simp[h])] at hk;exact aY hk
theorem aIC (s:St) (x:aB) (c:UInt8) (KV Kp) (hc:c.toNat<128) (hk:KV s (.str (x.dropWhile (jP c)))):Den cx 314 [.str x,.str [c]] KV Kp s:=by
 (refine aO func314 [0,1,4,5,6,12,21,31] ?_;simp only[go_sem,ntmps314,f314]);cases x with
 | nil =>
  simp only[go_sem];exact aY hk
 | cons b r =>
  simp only[go_sem,show decide (((1:Nat):Int)=1)=true from rfl,show decide ((c.toNat:Int)<128)=true from eR (by omega)];refine aIt _ _ _ _ _ ?_;simp only[go_sem];exact aY hk
theorem aBJ (x:aB) (d:UInt8):dS (x++[d])=dS x * 10+(d.toNat-48):=by
 simp[dS,List.foldl_append]
theorem aFc:∀ (n:Nat) (x:aB),x.length=n→sC x→dS x<10 ^ n
 | 0,x,h,_=>by have:x=[]:=eJ h;subst this;simp[dS]
 | n+1,x,h,hd=>by
  have hne:x≠[]:=by rintro rfl;simp at h
  obtain ⟨y,d,rfl⟩:∃ y d,x=y++[d]:=⟨x.dropLast,x.getLast hne,(List.dropLast_concat_getLast hne).symm⟩
  have ih:=aFc n y (by simpa using h) (fun e he=>hd e (by simp[he]));have:=hd d (by simp);rw[aBJ,Nat.pow_succ];omega
theorem aK1 (s:St) (x:aB) (KV Kp) (hl:1≤x.length) (hl2:x.length≤11) (hd:sC x) (hk:KV s (.tuple [.int .i64 (dS x),.nili])):Den cx 327 [.str x] KV Kp s:=by
 obtain ⟨b,r,rfl⟩:∃ b r,x=b::r:=by
  cases x with
  | nil=>simp at hl
  | cons b r=>exact ⟨b,r,rfl⟩
 have hb:=hd b (by simp);(refine aO func327 [0,2,3,4,5,6,8,9,10,30,39,44,47,48,49,50,56,66] ?_;simp only[go_sem,ntmps327,f327]);have e1:decide ((0:Int)<((r.length+1:Nat):Int))=true:=eR (by omega);have e2:decide (((r.length+1:Nat):Int)<19)=true:=eR (by simp at hl2;omega);have e3:decide ((b.toNat:Int)=45)=false:=fE (by omega);have e4:decide ((b.toNat:Int)=43)=false:=fE (by omega);simp only[go_sem,e1,e2,e3,e4];refine ⟨by unfold maxLen;simp at hl2;omega,?_⟩;have hx:(b::r).length=r.length+1:=rfl;generalize hxx:b::r=x at *
 refine Ex.loop (fun i=>[(5,.str x),(6,.int .i64 (dS (x.take i):Nat)),(47,.list none (x.map fun c=>.int .u8 c.toNat)),(48,.int .i64 ((r.length+1:Nat))),(49,.int .i64 (i:Nat)),(3,.nili)]) (fun _=>s)
  (fun i=>i≤x.length) (fun i=>x.length-i) 0 (bS _) ?_ (bW s) ?_
 ·simp only[go_sem];subst hxx;exact ⟨rfl,rfl,rfl⟩
 ·intro i hi;refine cL (V:=[0,2,3,4,5,6,8,9,10,30,39,44,47,48,49,50,56,66]) _ _ _ _ ?_;simp only[go_sem];(refine bA (fun h=>?_) (fun h=>?_))<;>simp only[go_sem,h]
  ·have hix:i<x.length:=by simp at h;omega
   obtain ⟨d,hdd⟩:∃ d,x[i]?=some d:=⟨_,bK hix⟩
   have hdig:=hd d (dP hdd)
   have f1:IntKind.u8.wrap ((d.toNat:Int)-48)=((d.toNat-48:Nat):Int):=by
    have e0:((d.toNat:Int)-48) % 2 ^ 8=(d.toNat:Int)-48:=by omega
    simp only[IntKind.wrap,IntKind.signed,IntKind.bits,fL,bR,if_false,e0];omega
   have hn:dS (x.take i)<10 ^ 11:=by
    have h1:=aFc (x.take i).length (x.take i) rfl (fun e he=>hd e (nJ he));have h2:(x.take i).length≤11:=by rw[eL];omega
    exact Nat.lt_of_lt_of_le h1 (Nat.pow_le_pow_right (by decide) h2)
   have f2:decide ((9:Int)<((d.toNat-48:Nat):Int))=false:=fE (by omega)
   have f3:IntKind.i64.wrap (((dS (x.take i):Nat):Int) * 10)=((dS (x.take i) * 10:Nat):Int):=by
    rw[fU _ (by omega) (by omega)];omega
   have f4:IntKind.i64.wrap ((d.toNat-48:Nat):Int)=((d.toNat-48:Nat):Int):=fU _ (by omega) (by omega)
   have f5:IntKind.i64.wrap (((dS (x.take i) * 10:Nat):Int)+((d.toNat-48:Nat):Int))=((dS (x.take (i+1)):Nat):Int):=by
    rw[lQ,hdd];show _=((dS (x.take i++[d]):Nat):Int);rw[aBJ,fU _ (by omega) (by omega)];omega
   simp only[go_sem,hdd,hix,f1,f2,f3,f4,f5,cJ i (by omega)];exact ⟨i+1,by omega,by omega,⟨rfl,rfl⟩,bW s⟩
  ·have hix:i=x.length:=by simp at h;omega
   have h0:x[0]?=some b:=by rw[← hxx];rfl
   have hl0:0<x.length:=by omega
   simp only[go_sem,h0,hl0,e3];rw[hix,List.take_length];exact aY hk
theorem aD1 (s:St) (x:aB) (KV Kp) (hl:1≤x.length) (hl2:x.length≤11) (hd:sC x) (hk:KV s (.tuple [.int .i64 (dS x),.nili])):Den cx 315 [.str x] KV Kp s:=by
 (refine aO func315 [0,2,3,4,5,12] ?_;simp only[go_sem,ntmps315,f315]);refine aK1 _ _ _ _ hl hl2 hd ?_;simp only[go_sem];exact aY hk
theorem aJt (s:St) (x:aB) (KV Kp) (hx:x.length≤4294967296) (hk:KV s (.tuple [(mW x).1.enc,.int .i64 (mW x).2.1,.bool (mW x).2.2])):Den cx 302 [.str x] KV Kp s:=by
 (refine aO func302 [0,2,3,4,5,6,28] ?_;simp only[go_sem,ntmps302,f302]);intro b hb;simp only[go_sem,hb];refine aGg _ _ _ (fun c=>eU c.toNat) _ _ hx (fun c KV Kp h=>aDW _ _ _ _ h) ?_;generalize hn:(x.takeWhile fun c=>eU c.toNat).length=n at hk;have hnl:n≤x.length:=by rw[← hn];exact (List.takeWhile_sublist _).length_le
 simp only[go_sem,hnl];refine aIC _ _ 48 _ _ (by decide) ?_;simp only[go_sem];generalize hg:(x.take n).dropWhile (jP 48)=g at hk
 have bad:(10<g.length∨(∃ c,x[n]?=some c∧eM c.toNat=true))→mW x=(⟨0,[],0,0,0⟩,0,false):=by
  intro hh;simp only[mW,hn,hg,if_pos hh]
 have good:¬ (10<g.length∨(∃ c,x[n]?=some c∧eM c.toNat=true))→mW x=(⟨2,[],dS g,0,0⟩,n,decide (dS g≤2147483647)):=by
  intro hh;simp only[mW,hn,hg,if_neg hh]
 have hdg:sC g:=by
  intro d hd;rw[← hg] at hd;have h1:=(List.dropWhile_sublist _).mem hd;rw[← hn] at h1
  have h2:d∈x.takeWhile fun c=>eU c.toNat:=by
   have:=nJ (l:=x) h1
   have e:x.take (x.takeWhile fun c=>eU c.toNat).length=x.takeWhile fun c=>eU c.toNat:=by
    conv=>lhs;arg 2;rw[← List.takeWhile_append_dropWhile (p:=fun c=>eU c.toNat) (l:=x)]
    rw[List.take_left'];rfl
   rw[e] at h1;exact h1
  have h3:=fD.1 (List.all_takeWhile (p:=fun c:UInt8=>eU c.toNat) (l:=x)) d h2;simp only[eU,aZ,cG] at h3;omega
 (refine bA (fun h=>?_) (fun h=>?_))<;>simp only[go_sem,h,hb]
 ·rw[bad (.inl (by simp at h;omega))] at hk;exact aH hk (dM hb)
 ·have hg10:¬ 10<g.length:=by simp at h;omega
  (refine bA (fun h=>?_) (fun h=>?_))<;>simp only[go_sem,h,hb]
  ·have hlt:n<x.length:=by simpa using h
   obtain ⟨c,hc⟩:∃ c,x[n]?=some c:=⟨_,bK hlt⟩
   simp only[go_sem,hc,hlt,hb];refine aBz _ _ _ _ ?_;simp only[go_sem,hb];(refine bA (fun h=>?_) (fun h=>?_))<;>simp only[go_sem,h,hb]
   ·rw[bad (.inr ⟨c,hc,h⟩)] at hk;exact aH hk (dM hb)
   ·have hno:¬ (10<g.length∨(∃ c,x[n]?=some c∧eM c.toNat=true)):=by
     rintro (h1|⟨c',h1,h2⟩)
     ·exact hg10 h1
     ·rw[hc] at h1;cases h1;rw[h] at h2;cases h2
    have hgd:=good hno;rw[hgd] at hk;have m1:(48::g).length≤11:=by simp;omega
    refine ⟨by unfold maxLen;omega,?_⟩
    refine aD1 _ _ _ _ (by simp) m1 (fun d hd=>by
     simp only[eW] at hd;rcases hd with rfl|hd
     ·decide
     ·exact hdg d hd) ?_
    have m2:dS (48::g)=dS g:=rfl;simp only[go_sem,hb,m2];have m3:decide (((dS g:Nat):Int)≤2147483647)=decide (dS g≤2147483647):=by congr 1;simp only[eq_iff_iff];omega
    rw[m3];exact aH hk (dM hb)
  ·have hno:¬ (10<g.length∨(∃ c,x[n]?=some c∧eM c.toNat=true)):=by
    rintro (h1|⟨c',h1,h2⟩)
    ·exact hg10 h1
    ·have:=(dH.1 h1).1;simp at h;omega
   have hgd:=good hno;rw[hgd] at hk;have m1:(48::g).length≤11:=by simp;omega
   refine ⟨by unfold maxLen;omega,?_⟩
   refine aD1 _ _ _ _ (by simp) m1 (fun d hd=>by
    simp only[eW] at hd;rcases hd with rfl|hd
    ·decide
    ·exact hdg d hd) ?_
   have m2:dS (48::g)=dS g:=rfl;simp only[go_sem,hb,m2];have m3:decide (((dS g:Nat):Int)≤2147483647)=decide (dS g≤2147483647):=by congr 1;simp only[eq_iff_iff];omega
   rw[m3];exact aH hk (dM hb)
theorem aIH (s:St) (x:aB) (c:UInt8) (KV Kp) (hk:KV s (.int .i64 (x.count c:Nat))):Den cx 142 [.str x,.str [c]] KV Kp s:=by
 (refine aO func142 [0,1,4,5,6,9,15,24] ?_;simp only[go_sem,ntmps142,f142]);simp only[go_sem,show decide (((1:Nat):Int)=0)=false from rfl,show decide (((1:Nat):Int)=1)=true from rfl];refine aIx _ _ _ _ _ ?_;simp only[go_sem];exact aY hk
theorem aIU (s:St) (l:List aB) (x:aB) (KV Kp) (hk:∀ r:Int,(0≤r↔x∈l)→KV s (.int .i64 r)):Den cx 198 [.list none (l.map .str),.str x] KV Kp s:=by
 refine tZ fun hz1=>?_
 have hlw:=hz1 _ (eK ..);(refine aO func198 [0,1,4,5,7,8,9,16] ?_;simp only[go_sem,ntmps198,f198])
 refine Ex.loop (fun i=>[(0,.list none (l.map .str)),(1,.str x),(7,.int .i64 l.length),(8,.int .i64 (i:Nat))]) (fun _=>s)
  (fun i=>i≤l.length∧∀ j,j<i→l[j]?≠some x) (fun i=>l.length-i) 0 ⟨bS _,fun j hj=>by omega⟩ ?_ (bW s) ?_
 ·simp only[go_sem];rfl
 ·rintro i ⟨hi,hall⟩;refine cL (V:=[0,1,4,5,7,8,9,16]) _ _ _ _ ?_;simp only[go_sem];(refine bA (fun h=>?_) (fun h=>?_))<;>simp only[go_sem,h]
  ·have hix:i<l.length:=by simpa using h
   obtain ⟨a,ha⟩:∃ a,l[i]?=some a:=⟨_,bK hix⟩
   simp only[go_sem,ha,hix];(refine bA (fun h=>?_) (fun h=>?_))<;>simp only[go_sem,h]
   ·have hxa:x=a:=by simpa using h
    subst hxa;have hm:x∈l:=dP ha;exact aY (hk _ ⟨fun _=>hm,fun _=>by omega⟩)
   ·have hxa:¬ x=a:=by simpa using h
    refine ⟨i+1,⟨by omega,fun j hj=>?_⟩,by omega,?_,bW s⟩
    ·by_cases hji:j=i
     ·subst hji;rw[ha];simpa [eq_comm] using hxa
     ·exact hall j (by omega)
    ·simp only[go_sem,hlw.wrap (i:=i) (by simpa using hix)]
  ·have hix:i=l.length:=by simp at h;omega
   have hm:¬ x∈l:=by
    intro hm;obtain ⟨j,hj,e⟩:=fQ hm;exact hall j (by omega) (by rw[bK hj,e])
   exact aY (hk _ ⟨fun h=>absurd h (by decide),fun h=>absurd h hm⟩)
theorem aBo (s:St) (l:List aB) (x:aB) (KV Kp) (hk:KV s (.bool (decide (x∈l)))):Den cx 108 [.list none (l.map .str),.str x] KV Kp s:=by
 (refine aO func108 [0,1,4] ?_;simp only[go_sem,ntmps108,f108]);refine aIU _ _ _ _ _ fun r hr=>?_
 simp only[go_sem];have:decide (0≤r)=decide (x∈l):=by simp only[hr]
 rw[this];exact aY hk
def or5:Tr (OT × List (Nat × List Nat)):=(.nd (.nd .lf none (.nd .lf (some ((OT.l [0,1,2,3,4,5,6,7,8,9,11,10,12,13,14] .nil),[(10,[11])])) .lf)) none .lf)
def or6:Tr (OT × List (Nat × List Nat)):=(.nd (.nd (.nd .lf (some ((OT.l [0,1,3,4,2,5,6,7,8,9,11,12,10,13,14,15,16,17,18,19,20,21,22,23,24] .nil),[(2,[3,4,8,9,11,12,17,18]),(5,[8,9,11,12,17,18]),(10,[11,12,17,18]),(13,[17,18])])) .lf) none .lf) none .lf)
def aPz:Tr (OT × List (Nat × List Nat)):=(.nd (.nd (.nd .lf (some ((OT.l [0,1,2,3] .nil),[(2,[1])])) .lf) none .lf) none .lf)
def aPF:Tr (OT × List (Nat × List Nat)):=(.nd (.nd (.nd .lf (some ((OT.l [0,1,2,3] .nil),[(2,[1])])) .lf) none .lf) none .lf)
def aO5:Tr (OT × List (Nat × List Nat)):=(.nd .lf none (.nd (.nd .lf none (.nd .lf (some ((OT.l [0,1,2,3,4,5,6,7,8,9,10,11,12,13,14,15,16,17,18,19] .nil),[])) .lf)) none (.nd (.nd (.nd .lf (some ((OT.l [0,1,2,3,4,5,6,7,8,9,10,11,12,13,14,15,16,17,18,19] .nil),[])) .lf) none .lf) (some ((OT.l [0,1,2,3,4,5,6,7,8,9,10,11,12,13,14,15,16,17,18,19] .nil),[])) (.nd .lf none (.nd .lf (some ((OT.l [0,1,2,3,4,5,6,7,8,9,10,11,12,13,14,15,16,17,18,19] .nil),[])) .lf)))))
def aPb:Tr (OT × List (Nat × List Nat)):=(.nd (.nd (.nd .lf (some ((OT.l [0,1,2,3] .nil),[(2,[1])])) .lf) none .lf) none (.nd (.nd (.nd .lf (some ((OT.l [0,1,2,3] .nil),[(2,[1])])) .lf) none .lf) none (.nd .lf (some ((OT.l [0,1,2,3,4,5,6,7,8,9] .nil),[])) .lf)))
def aPK:Tr (OT × List (Nat × List Nat)):=(.nd (.nd (.nd .lf (some ((OT.l [0,1,2,3] .nil),[(2,[1])])) .lf) none .lf) none (.nd .lf none (.nd (.nd .lf (some ((OT.l [0,1,2,3,4,5,6] .nil),[(5,[4])])) .lf) none .lf)))
def aPj:Tr (OT × List (Nat × List Nat)):=(.nd (.nd (.nd .lf none (.nd (.nd .lf (some ((OT.l [0,1,2,3,4,5,6,7,9,10,11,12,8,13,14,15,16,17,18] .nil),[(8,[2,10]),(13,[2]),(14,[2])])) .lf) none .lf)) none .lf) none (.nd (.nd (.nd .lf none (.nd .lf (some ((OT.l [0,1,2,6,7,10,11,3,4,5,8,9,12,13,14,15,16] .nil),[(3,[7,11]),(8,[11])])) .lf)) none .lf) none (.nd .lf none (.nd (.nd (.nd .lf (some ((OT.l [0,1,2,3,4,5,6,7,8,9,10,11] .nil),[(6,[2])])) .lf) none .lf) none .lf))))
def aPs:Tr (OT × List (Nat × List Nat)):=(.nd .lf none (.nd (.nd .lf none (.nd .lf (some ((OT.l [0,1,2,3,4,5,6,7,8,9,10,11] .nil),[])) .lf)) none (.nd .lf (some ((OT.l [0,1,2,3,4,5,6,7,8,9,10,11,12,13,14,15,16,17,18,19,20,21,22,23,24,25,26,27,28,29,30,31,32,33] .nil),[(8,[12,14,18,24,26,30]),(19,[24,26,30])])) .lf)))
def aPL:Tr (OT × List (Nat × List Nat)):=(.nd (.nd .lf none (.nd .lf (some ((OT.l [0,1,2,4,5,8,3,6,7] .nil),[(3,[5])])) .lf)) none .lf)
def aPn:Tr (OT × List (Nat × List Nat)):=(.nd (.nd (.nd (.nd .lf (some ((OT.l [0,1,2,3,4,5,6] .nil),[(5,[4])])) .lf) none .lf) none (.nd .lf (some ((OT.l [0,1,2,3,4,5,6,7,8,9] .nil),[])) .lf)) none .lf)
def aPE:Tr (OT × List (Nat × List Nat)):=(.nd (.nd .lf none (.nd (.nd .lf (some ((OT.l [0,1,2,3,4,5,6] .nil),[(5,[4])])) .lf) none .lf)) none (.nd .lf none (.nd .lf (some ((OT.l [0,1,2,3,4,5,6,7,8,9,10,11,12,13] .nil),[(1,[6,10])])) .lf)))
def aO4:Tr (OT × List (Nat × List Nat)):=(.nd (.nd .lf (some ((OT.l [0,1,2,3,4,5,6,7,8,9,10] .nil),[(8,[3,7]),(9,[7])])) .lf) none .lf)
def aPq:Tr (OT × List (Nat × List Nat)):=(.nd (.nd .lf (some ((OT.l [0,1,3,4,5,6,2,7,8,9] .nil),[(2,[4,6])])) .lf) none .lf)
def aPM:Tr (OT × List (Nat × List Nat)):=(.nd (.nd (.nd .lf (some ((OT.l [0,1,2,3,4,5,6,7,8,9] .nil),[])) .lf) none .lf) none .lf)
def aPe:Tr (OT × List (Nat × List Nat)):=(.nd .lf none (.nd .lf (some ((OT.l [0,1,2,3,4,5,6,7,8,9,10,11,12] .nil),[])) .lf))
def aPA:Tr (OT × List (Nat × List Nat)):=(.nd .lf none (.nd .lf none (.nd .lf (some ((OT.l [0,1,2,3,4,5,6,7,8,9] .nil),[])) .lf)))
def aPx:Tr (OT × List (Nat × List Nat)):=(.nd .lf none (.nd (.nd .lf (some ((OT.l [0,1,2,4,5,8,3,6,7] .nil),[(3,[5])])) .lf) none .lf))
def aPU:Tr (OT × List (Nat × List Nat)):=(.nd (.nd (.nd (.nd .lf (some ((OT.l [0,1,2,4,5,8,3,6,7] .nil),[(3,[5])])) .lf) none .lf) none (.nd .lf (some ((OT.l [0,1,2,3,4,5,7,8,6,9,10] .nil),[(6,[8])])) .lf)) none (.nd .lf none (.nd (.nd (.nd .lf (some ((OT.l [0,1,2,3,5,6,4,7,8] .nil),[(4,[6])])) .lf) none .lf) none .lf)))
def aPB:Tr (OT × List (Nat × List Nat)):=(.nd (.nd (.nd .lf none (.nd (.nd .lf (some ((OT.l [0,1,4,5,6,7,8,9,2,3,10,11,12,13] .nil),[(2,[5,7])])) .lf) none .lf)) none (.nd (.nd (.nd .lf (some ((OT.l [0,1,2,3,4,5,6,7,8] .nil),[(5,[1])])) .lf) none .lf) none .lf)) none (.nd .lf none (.nd (.nd .lf none (.nd .lf (some ((OT.l [0,1,2,3,4,5,8,9,10,11,12,13,6,7,14,15,16,17] .nil),[(6,[9,13])])) .lf)) none .lf)))
def aPQ:Tr (OT × List (Nat × List Nat)):=(.nd (.nd .lf (some ((OT.l [0,1,2,3,4,5,6,7,8,9,10,11] .nil),[(9,[1,4])])) .lf) none .lf)
def aPv:Tr (OT × List (Nat × List Nat)):=(.nd .lf none (.nd .lf none (.nd (.nd .lf none (.nd .lf (some ((OT.l [0,1,2,3,4,7,8,5,6,9,10,11] .nil),[(5,[1,8]),(9,[1])])) .lf)) none .lf)))
def aO7:Tr (OT × List (Nat × List Nat)):=(.nd .lf none (.nd .lf none (.nd .lf (some ((OT.l [0,1,2,3,4,5,6,7,8,9] .nil),[])) .lf)))
def aPT:Tr (OT × List (Nat × List Nat)):=(.nd (.nd (.nd (.nd .lf (some ((OT.l [0,1,2,3,4,6,7,8,10,11,12,14,15,16,17,5,9,13,18,19,20,21,22] .nil),[(5,[1,6,8,10,12,15,17]),(9,[1,10,12,15,17]),(13,[1,15,17])])) .lf) (some ((OT.l [0,1,2,4,5,6,7,9,10,11,13,14,15,17,18,19,21,22,23,25,26,27,3,8,12,16,20,24,28,29,30,31] .nil),[(3,[5,6,9,11,13,15,17,19,21,23,25,27]),(8,[9,11,13,15,17,19,21,23,25,27]),(12,[13,15,17,19,21,23,25,27]),(16,[17,19,21,23,25,27]),(20,[21,23,25,27]),(24,[25,27]),(30,[0,2,5,6,9,11,13,15,17,19,21,23,25,27])])) .lf) none .lf) none (.nd (.nd .lf none (.nd .lf (some ((OT.l [0,1,2,3,4,5,6,7,8] .nil),[(4,[1])])) .lf)) none .lf))
def aPf:Tr (OT × List (Nat × List Nat)):=(.nd (.nd (.nd (.nd .lf (some ((OT.l [0,1,2,3,4,5,7,8,9,6,10,11,12,13,14,15,16] .nil),[(6,[2,7,9]),(10,[2])])) .lf) (some ((OT.l [0,1,2,3,5,6,7,8,10,11,12,13,15,16,17,18,4,9,14,19,20,21,22] .nil),[(4,[5,8,10,13,15,18]),(9,[10,13,15,18]),(14,[15,18])])) .lf) none .lf) none (.nd (.nd .lf none (.nd .lf (some ((OT.l [0,1,2,4,5,6,8,9,10,3,12,7,11,13,14,15,16,17] .nil),[(3,[4,6,8,10]),(7,[8,10])])) .lf)) (some ((OT.l [0,1,2,4,5,6,8,9,10,12,13,14,16,17,18,20,21,22,3,7,11,15,19,23,24,25,26] .nil),[(3,[4,6,8,10,12,14,16,18,20,22]),(7,[8,10,12,14,16,18,20,22]),(11,[12,14,16,18,20,22]),(15,[16,18,20,22]),(19,[20,22]),(25,[0,2,4,6,8,10,12,14,16,18,20,22])])) (.nd (.nd (.nd .lf (some ((OT.l [0,1,2,3,4,5,6,7,8] .nil),[(4,[1])])) .lf) none .lf) none .lf)))
def aPC:Tr (OT × List (Nat × List Nat)):=(.nd .lf none (.nd .lf none (.nd .lf (some ((OT.l [0,1,2,3,4,5,6,7,8,9,10] .nil),[])) .lf)))
def aPl:Tr (OT × List (Nat × List Nat)):=(.nd .lf none (.nd .lf none (.nd .lf (some ((OT.l [0,1,2,3,4,5,6,7,8,9,10,11,12,13,14,15,16,17,18,19,20,21,22,23,24,25,26,27,28,29,30,31,32,33,34,35,36,37] .nil),[])) .lf)))
def aPa:Tr (OT × List (Nat × List Nat)):=(.nd (.nd (.nd .lf none (.nd (.nd .lf (some ((OT.l [0,1,2,3,4,5,6,7,8,9,10] .nil),[])) .lf) none .lf)) none (.nd .lf none (.nd .lf (some ((OT.l [0,1,2,3,4,5,6,7,8,9,10,11,12,13] .nil),[])) .lf))) none .lf)
def aPD:Tr (OT × List (Nat × List Nat)):=(.nd (.nd .lf none (.nd (.nd .lf (some ((OT.l [0,1,2,3,4,5] .nil),[])) .lf) none .lf)) none .lf)
def aPG:Tr (OT × List (Nat × List Nat)):=(.nd (.nd (.nd .lf (some ((OT.l [0,1,2] .nil),[])) .lf) none (.nd .lf (some ((OT.l [0,1,2,4,3,5,6] .nil),[(3,[4])])) .lf)) none .lf)
def aPS:Tr (OT × List (Nat × List Nat)):=(.nd (.nd (.nd (.nd .lf (some ((OT.l [0,1,2,3,4,5,6,7] .nil),[])) .lf) none (.nd (.nd .lf (some ((OT.l [0,1,2,3,4,5,6,7,8,9,10,11,12,13] .nil),[(7,[0,1,5]),(9,[0])])) .lf) none .lf)) none .lf) none (.nd (.nd (.nd (.nd (.nd .lf (some ((OT.l [0,1,2,3,4,5,6,7,8,9,10,11,12] .nil),[(7,[0,1,4]),(9,[0])])) .lf) (some ((OT.l [0,1,2,3,4,5,6,7,8,9,10,11,12,13,14] .nil),[])) .lf) none (.nd .lf (some ((OT.l [0,2,3,4,5,1,6,7,8] .nil),[(1,[3,5]),(7,[0,3,5])])) .lf)) none (.nd (.nd .lf (some ((OT.l [0,1,2,3,4,5,6,7,8,9,10,11,12,13] .nil),[(7,[0,1,5]),(9,[0])])) .lf) (some ((OT.l [0,1,2,3,4,5,6,7,8,9,10,11,12] .nil),[(8,[0])])) (.nd .lf (some ((OT.l [0,1,2,3,4,5,6,7,8,9,10] .nil),[(7,[0])])) .lf))) none (.nd .lf none (.nd (.nd .lf (some ((OT.l [0,1,2,3,4,5,6] .nil),[])) .lf) (some ((OT.l [0,1,2,3,4,5,6,7,8,9,10,11,12,13,14] .nil),[(9,[0,1,5]),(10,[0])])) (.nd .lf (some ((OT.l [0,1,2,3,4,5,6] .nil),[])) .lf)))))
def aPN:Tr (OT × List (Nat × List Nat)):=(.nd (.nd .lf none (.nd .lf (some ((OT.l [0,1,2,3,4,5,6,7,8,9,10,11,12] .nil),[])) .lf)) none .lf)
def aPr:Tr (OT × List (Nat × List Nat)):=(.nd (.nd (.nd (.nd (.nd .lf (some ((OT.l [0,1,2,3,4,5,6,7,8,9,10,11,12,13,14] .nil),[])) .lf) none (.nd .lf (some ((OT.l [0,1,2,3,4,5,6,7,8,9,10,11,12,13,14,15,16] .nil),[])) .lf)) none (.nd .lf none (.nd .lf (some ((OT.l [0,1,2,3,4,5,6,7,8,9,10,11,12,13,14,15,16] .nil),[])) .lf))) none (.nd .lf none (.nd (.nd .lf (some ((OT.l [0,1,2,3,4,5,6,7,8,9,10,11,12,13,14,15] .nil),[(8,[6])])) .lf) none .lf))) none (.nd (.nd (.nd .lf (some ((OT.l [0,1,2,3,4,5,6,7,8,9,10,11,12,13,14,15] .nil),[(8,[6])])) .lf) none .lf) none .lf))
def aO8:Tr (OT × List (Nat × List Nat)):=(.nd (.nd (.nd .lf (some ((OT.l [0,1,2,3,4,5,6,7,8,9,10] .nil),[])) .lf) (some ((OT.l [0,1,2,3,4,5,6,7,8,9] .nil),[])) .lf) none .lf)
def aPH:Tr (OT × List (Nat × List Nat)):=(.nd .lf none (.nd .lf (some ((OT.l [0,1,2,3,4,5,6,7,8,9] .nil),[])) .lf))
def aPk:Tr (OT × List (Nat × List Nat)):=(.nd (.nd .lf none (.nd (.nd .lf (some ((OT.l [0,1,2,3,4,5,6,7,8,9,10,11] .nil),[(10,[3,7,9])])) .lf) none .lf)) none .lf)
def aNP:Tr (OT × List (Nat × List Nat)):=(.nd (.nd .lf (some ((OT.l [0,1,2,3,5,6,7,8,9,4,10,11] .nil),[(4,[8])])) .lf) none .lf)
def aNH:Tr (OT × List (Nat × List Nat)):=(.nd (.nd (.nd .lf (some ((OT.l [0,1,2,3,4,5,6,7,8,9,10,11,12,13,14,15,16,17,18,19,20,21] .nil),[])) .lf) (some ((OT.l [0,1,2,3,4,5,6,7,8,9] .nil),[])) .lf) (some ((OT.l [0,1,2,3,4,5,6,7,8,9,10,11,12,13,14,15,16,17,18,19,20,21,22,23,24,25] .nil),[])) .lf)
def aOW:Tr (OT × List (Nat × List Nat)):=(.nd (.nd (.nd (.nd (.nd .lf (some ((OT.l [0,1,2,3,4,5,6,7,8,9,10,11,12,13,14,15,16,17,18] .nil),[])) .lf) none .lf) none .lf) none .lf) (some ((OT.l [0,1,2,3,4,5,6,7,8,9] .nil),[])) .lf)
def aOE:Tr (OT × List (Nat × List Nat)):=(.nd (.nd (.nd .lf (some ((OT.l [0,1,2,3,4,5,6,7] .nil),[])) .lf) none .lf) none .lf)
def aNI:Tr (OT × List (Nat × List Nat)):=(.nd (.nd (.nd (.nd .lf (some ((OT.l [0,1,2,3,4,6,7,8,5,9,10,11,12,13,14] .nil),[(5,[1,6,8]),(9,[1])])) .lf) (some ((OT.l [0,1,2,3,5,6,7,8,10,11,12,14,15,16,4,9,13,17,18,19,20] .nil),[(4,[5,7,8,12,16]),(9,[12,16]),(13,[16]),(19,[0,2,3,5,7,8,12,16])])) .lf) none .lf) none .lf)
def aOH:Tr (OT × List (Nat × List Nat)):=(.nd (.nd .lf none (.nd .lf (some ((OT.l [0,1,2,4,5,6,8,9,10,3,12,7,11,13,14,15,16,17] .nil),[(3,[6,10]),(7,[10])])) .lf)) none .lf)
def aOO:Tr (OT × List (Nat × List Nat)):=(.nd (.nd (.nd (.nd .lf (some ((OT.l [0,1,2,4,5,6,8,9,10,3,12,7,11,13,14,15,16,17] .nil),[(3,[6,10]),(7,[10])])) .lf) none .lf) (some ((OT.l [0,1,2,4,5,6,8,9,10,11,3,7,12,13,14] .nil),[(3,[6,9,11]),(7,[9,11]),(13,[2,6,9,11])])) (.nd .lf none (.nd .lf (some ((OT.l [0,1,2,3,4,5,6,7,8,9,10] .nil),[(5,[1])])) .lf))) none (.nd .lf none (.nd (.nd (.nd .lf (some ((OT.l [0,1,2,3,4,5,6,7,8] .nil),[(4,[1])])) .lf) none .lf) none .lf)))
def aOT:Tr (OT × List (Nat × List Nat)):=(.nd (.nd .lf none (.nd .lf (some ((OT.l [0,1,2,4,5,6,8,9,10,3,12,7,11,13,14,15,16,17] .nil),[(3,[4,6,8,10]),(7,[8,10])])) .lf)) none .lf)
def aOZ:Tr (OT × List (Nat × List Nat)):=(.nd .lf none (.nd .lf none (.nd .lf (some ((OT.l [0,1,2,4,5,6,8,9,10,3,12,7,11,13,14,15,16,17,18,19] .nil),[(3,[4,6,8,10]),(7,[8,10])])) .lf)))
def aOQ:Tr (OT × List (Nat × List Nat)):=(.nd (.nd (.nd .lf none (.nd .lf (some ((OT.l [0,1,2,3,4,5,6,7,8,9,10] .nil),[(5,[1])])) .lf)) (some ((OT.l [0,1,2,4,5,6,8,9,10,12,13,14,15,3,7,11,16,17,18] .nil),[(3,[4,6,8,10,13,15]),(7,[8,10,13,15]),(11,[13,15]),(17,[0,2,4,6,8,10,13,15])])) (.nd .lf (some ((OT.l [0,1,2,4,5,6,8,9,10,12,13,14,3,16,7,11,15,17,18,19,20,21,22,23] .nil),[(3,[4,6,8,10,12,14]),(7,[8,10,12,14]),(11,[12,14])])) .lf)) none .lf)
def aNV:Tr (OT × List (Nat × List Nat)):=(.nd .lf none (.nd .lf none (.nd .lf (some ((OT.l [0,1,2,3,4,5,6,7,8] .nil),[])) .lf)))
def aNB:Tr (OT × List (Nat × List Nat)):=(.nd .lf none (.nd .lf none (.nd .lf (some ((OT.l [0,1,2,3,4,5,6,7,8,9] .nil),[])) .lf)))
def aN4:Tr (OT × List (Nat × List Nat)):=(.nd .lf none (.nd .lf none (.nd .lf (some ((OT.l [0,1,2,3,4,5,6,7,8] .nil),[])) .lf)))
def aOu:Tr (OT × List (Nat × List Nat)):=(.nd .lf none (.nd .lf none (.nd .lf (some ((OT.l [0,1,2,3,4,5,6,7,8] .nil),[])) .lf)))
def aOI:Tr (OT × List (Nat × List Nat)):=(.nd (.nd (.nd (.nd (.nd .lf (some ((OT.l [0,1,2,3,4,5] .nil),[])) .lf) (some ((OT.l [0,1,2,3,4,5,6,7] .nil),[])) .lf) (some ((OT.l [0,1,2,3,4,5,6] .nil),[])) (.nd .lf (some ((OT.l [0,1,2,3,4,5,6] .nil),[])) .lf)) none (.nd (.nd (.nd .lf (some ((OT.l [0,1,2,3,4,5,6] .nil),[])) .lf) (some ((OT.l [0,1,2,3,4,5,6] .nil),[])) .lf) (some ((OT.l [0,1,2,3,4,5,6,7] .nil),[])) .lf)) none .lf)
def aOP:Tr (OT × List (Nat × List Nat)):=(.nd (.nd (.nd .lf (some ((OT.l [0,1,2,3,4,5,6,7] .nil),[])) .lf) none .lf) none (.nd (.nd .lf (some ((OT.l [0,1,2,3,4,5,6,7,8,9,10,11,12,13] .nil),[(7,[0,1,5]),(9,[0])])) .lf) none .lf))
def aNu:Tr (OT × List (Nat × List Nat)):=(.nd (.nd (.nd .lf (some ((OT.l [0,1,2,3,4,5,6,7,8,9,10,11] .nil),[(10,[3,7,9])])) .lf) (some ((OT.l [0,1,2,3,4,5,6,7,8,9] .nil),[])) .lf) none .lf)
def aOp:Tr (OT × List (Nat × List Nat)):=(.nd (.nd (.nd (.nd .lf (some ((OT.l [0,1,2,3,4,5,6,7] .nil),[(3,[1])])) .lf) none .lf) none .lf) none .lf)
def aOm:Tr (OT × List (Nat × List Nat)):=(.nd (.nd .lf (some ((OT.l [0,2,3,4,5,1,6,7,8] .nil),[(1,[3,5]),(7,[3,5])])) .lf) none .lf)
def aNX:Tr (OT × List (Nat × List Nat)):=(.nd (.nd (.nd .lf none (.nd .lf (some ((OT.l [0,1,2,3,4,5,6] .nil),[])) .lf)) none (.nd (.nd .lf (some ((OT.l [0,1,2,3,4,5] .nil),[(2,[0])])) .lf) none (.nd .lf (some ((OT.l [0,1,2,3,4,5,6,7,8,9,10,11] .nil),[(6,[0,1,4]),(8,[0])])) .lf))) none (.nd (.nd (.nd (.nd .lf (some ((OT.l [0,1,2,3,4,5] .nil),[(2,[0])])) .lf) none .lf) none .lf) none (.nd .lf (some ((OT.l [0,1,2,3,4,5] .nil),[(2,[0])])) .lf)))
def aNS:Tr (OT × List (Nat × List Nat)):=(.nd (.nd .lf (some ((OT.l [0,1,2,3,4,5,6,7,8,9,10,11,12,13,14,15,16,17,18,19,20,21,22,23,24,25,26,27,28,29,30,31,32,33,34,35,36,37,38,39,40,41,42,43,44] .nil),[(1,[6,10,18,22,25,33,37,40])])) .lf) none .lf)
def aOx:Tr (OT × List (Nat × List Nat)):=(.nd (.nd .lf (some ((OT.l [0,1,2,3,4,5,6,7,8,9,10,11,12,13,14,15,16,17,18,19,20,21,22,23,24,25,26,27,28,29,30,31,32,33,34,35,36,37,38,39,40,41,42,43] .nil),[(1,[6,10,18,22,25,32,36,39])])) .lf) none .lf)
def aOF:Tr (OT × List (Nat × List Nat)):=(.nd (.nd .lf none (.nd (.nd .lf (some ((OT.l [0,1,2,3,4,5,6,7,8,9,10,11,12,13,14,15,16,17] .nil),[])) (.nd .lf (some ((OT.l [0,1,2,3,4,5,6,7] .nil),[(3,[1])])) .lf)) none .lf)) none (.nd (.nd .lf none (.nd (.nd (.nd .lf (some ((OT.l [0,1,2,3,4,5,6,7,8,9,10,11,12,13,14] .nil),[])) .lf) none .lf) none .lf)) none (.nd (.nd (.nd .lf (some ((OT.l [0,1,2,3,4,5,6,7,8,9,10] .nil),[])) .lf) (some ((OT.l [0,1,2,3,4,5,6,7,8,9,10,11,12,13,14,15,16] .nil),[])) .lf) (some ((OT.l [0,1,2,3,4,5,6,7,8,9,10,11,12,13,14,15,16,17] .nil),[])) .lf)))
def aOs:Tr (OT × List (Nat × List Nat)):=(.nd (.nd (.nd (.nd .lf (some ((OT.l [0,1,2,3,4,5,6,7,8,9,10,11,12,13,14] .nil),[])) .lf) none .lf) none .lf) none (.nd (.nd .lf (some ((OT.l [0,1,2,3,4,5,6,7] .nil),[(3,[1])])) .lf) none .lf))
def aN9:Tr (OT × List (Nat × List Nat)):=(.nd (.nd (.nd (.nd .lf (some ((OT.l [0,1,2,3,4,5,6,7,8,9,10,11,12] .nil),[])) .lf) none .lf) none .lf) none .lf)
def aNC:Tr (OT × List (Nat × List Nat)):=(.nd .lf none (.nd (.nd .lf none (.nd (.nd .lf (some ((OT.l [0,1,2,3,4,5,6,7,8,9,10,11,12,13] .nil),[(7,[5])])) .lf) none .lf)) none (.nd (.nd .lf (some ((OT.l [0,1,2,3,4,5,6,7,8,9,10,11,12,13] .nil),[(7,[5])])) .lf) none .lf)))
def aN0:Tr (OT × List (Nat × List Nat)):=(.nd (.nd (.nd (.nd .lf (some ((OT.l [0,1,2,3,4,5,6,7] .nil),[(3,[1]),(6,[1,2])])) .lf) none .lf) none .lf) none (.nd .lf none (.nd .lf (some ((OT.l [0,1,2,3,4,5] .nil),[(3,[1])])) .lf)))
def aNx:Tr (OT × List (Nat × List Nat)):=(.nd .lf none (.nd .lf none (.nd (.nd .lf (some ((OT.l [0,1,2,3,4,5,6,7,8,9] .nil),[(5,[1])])) .lf) none .lf)))
def aNG:Tr (OT × List (Nat × List Nat)):=(.nd (.nd (.nd (.nd (.nd (.nd .lf (some ((OT.l [0,1,2,3,4,5,6,7,8,9] .nil),[(5,[1])])) .lf) none .lf) (some ((OT.l [0,1,2,3,4,5,6,7,8,9,10,11,12,13,14] .nil),[])) .lf) (some ((OT.l [0,1,2,3,4,5,6,7,8,9,10,11,12,13,14,15,16,17,18,19,20,21,22,23,24,25,26,27,28,29,30,31,32,33,34,35] .nil),[(1,[7,11,14,16,23,27,30,32])])) .lf) none (.nd (.nd .lf (some ((OT.l [0,1,2,3,4,5,6,7,8,9,10,11,12,13,14,15,16,17] .nil),[(1,[7,11,14])])) .lf) none (.nd (.nd .lf (some ((OT.l [0,1,2,3,4,5,6,7,8,9] .nil),[(5,[1])])) .lf) none (.nd .lf (some ((OT.l [0,1,2,3,4,5,6,7,8,9] .nil),[(5,[1])])) .lf)))) none .lf)
def aNA:Tr (OT × List (Nat × List Nat)):=(.nd (.nd .lf none (.nd .lf (some ((OT.l [0,1,2,3,4,5,7,8,6,9,10] .nil),[(6,[8])])) .lf)) none (.nd .lf none (.nd (.nd (.nd .lf (some ((OT.l [0,1,2,3,5,6,4,7,8] .nil),[(4,[6])])) .lf) none .lf) none .lf)))
def aNv:Tr (OT × List (Nat × List Nat)):=(.nd (.nd (.nd .lf (some ((OT.l [0,1,2,3,4,5,6,7,8,9,10,11,12,13,14] .nil),[(8,[4])])) .lf) none .lf) none .lf)
def aOg:Tr (OT × List (Nat × List Nat)):=(.nd (.nd .lf (some ((OT.l [0,1,2,3,4,5,6,7,8,9,10,11,12,13] .nil),[])) .lf) none .lf)
def aOi:Tr (OT × List (Nat × List Nat)):=(.nd (.nd .lf (some ((OT.l [0,1,2,3,4,5,6,7,8,9,10,11,12,13,14,15,16,17,18,19,20,21,22,23,24,25,26,27,28,29,30,31,32,33] .nil),[])) .lf) none .lf)
def aOS:Tr (OT × List (Nat × List Nat)):=(.nd .lf (some ((OT.l [0,1,2,3,4,5,6,7,8,9,10,11,12,13,14,15,16,17,18,19,20,21,22,23,24,25,26] .nil),[])) .lf)
def aNU:Tr (OT × List (Nat × List Nat)):=(.nd (.nd .lf (some ((OT.l [0,1,2,3,4,5,6,7,8,9,10,11] .nil),[(9,[7])])) .lf) none (.nd .lf (some ((OT.l [0,1,2,3,4,5,6,7,8,9,10] .nil),[])) .lf))
def aN7:Tr (OT × List (Nat × List Nat)):=(.nd (.nd .lf (some ((OT.l [0,1,2,3,4,5,6,7,8,9,10,11,12,13,14,15,16,17,18,19,20,21,22,23,24,25] .nil),[])) .lf) none (.nd .lf (some ((OT.l [0,1,2,3,4,5,6,7,8,9,10,11,12,13,14,15,16,17] .nil),[])) .lf))
def aOL:Tr (OT × List (Nat × List Nat)):=(.nd (.nd .lf none (.nd .lf (some ((OT.l [0,1,2,3,4,5,6,7,8,9,10,11,12,13,14,15,16,17,18,19,20] .nil),[])) .lf)) none .lf)
def aNw:Tr (OT × List (Nat × List Nat)):=(.nd (.nd (.nd .lf none (.nd .lf (some ((OT.l [0,1,2,3,4,5,6,7,8,9] .nil),[(6,[1])])) .lf)) none .lf) none (.nd .lf none (.nd .lf (some ((OT.l [0,1,2,4,5,6,7,9,10,11,3,13,8,12,14,15,16,17,18] .nil),[(3,[4,6,7,9,11]),(8,[9,11])])) .lf)))
def aNZ:Tr (OT × List (Nat × List Nat)):=(.nd (.nd .lf (some ((OT.l [0,1,3,4,6,7,2,9,5,8,10,11,12,13,14] .nil),[(2,[4,7]),(5,[7])])) .lf) none .lf)
def aOj:Tr (OT × List (Nat × List Nat)):=(.nd .lf none (.nd .lf none (.nd .lf (some ((OT.l [0,1,2,4,5,6,3,8,7,9,10,11] .nil),[(3,[6])])) .lf)))
def aNL:Tr (OT × List (Nat × List Nat)):=(.nd (.nd .lf none (.nd .lf (some ((OT.l [0,1,2,3,4,5,6,7,8,9,10,11,12,13] .nil),[(10,[1,3,5]),(12,[1,3,5,7])])) .lf)) none (.nd (.nd (.nd (.nd .lf (some ((OT.l [0,1,2,3,4,5,6,7,8,9] .nil),[])) .lf) none .lf) none .lf) none .lf))
def aN1:Tr (OT × List (Nat × List Nat)):=(.nd .lf none (.nd (.nd .lf none (.nd .lf (some ((OT.l [0,1,2,3,4,5,6,7,8,9,10] .nil),[])) .lf)) none (.nd .lf (some ((OT.l [0,1,2,3,4,5,6,7,8,9,10] .nil),[])) .lf)))
def aN3:Tr (OT × List (Nat × List Nat)):=(.nd .lf none (.nd .lf none (.nd .lf (some ((OT.l [0,1,2,3,4,5,6,7,8] .nil),[])) .lf)))
def aNQ:Tr (OT × List (Nat × List Nat)):=(.nd .lf none (.nd .lf none (.nd .lf (some ((OT.l [0,1,2,3,4,5,6,7,8] .nil),[])) .lf)))
def aOn:Tr (OT × List (Nat × List Nat)):=(.nd (.nd (.nd .lf none (.nd (.nd .lf (some ((OT.l [0,1,2,3,4,5,6,7] .nil),[(5,[3])])) .lf) none .lf)) none .lf) none .lf)
def aOA:Tr (OT × List (Nat × List Nat)):=(.nd .lf none (.nd .lf none (.nd .lf (some ((OT.l [0,1,2,3,4,5,6] .nil),[])) .lf)))
def aO1:Tr (OT × List (Nat × List Nat)):=(.nd (.nd (.nd (.nd .lf (some ((OT.l [0,1,2,3,4,5,6,7,8,9,10,11,12,13,14,15,16,17,18,19,20,21,22,23,24] .nil),[])) .lf) none .lf) none (.nd .lf (some ((OT.l [0,1,2,3,4,5,6,7,8,9,10,11] .nil),[(9,[7])])) .lf)) none (.nd .lf (some ((OT.l [0,1,2,3,4,5,6,7,8,9] .nil),[])) (.nd (.nd .lf (some ((OT.l [0,1,2,3] .nil),[])) .lf) none .lf)))
def aNJ:Tr (OT × List (Nat × List Nat)):=(.nd (.nd (.nd (.nd (.nd .lf (some ((OT.l [0,1,2,3,4,5,6,7,8,9,10,11] .nil),[(6,[4])])) .lf) none .lf) none (.nd .lf (some ((OT.l [0,1,2,3,4,5,6,7,8,9,10,11,12,13,14] .nil),[(8,[4])])) .lf)) (some ((OT.l [0,2,3,4,5,1,6,7,8] .nil),[(1,[3,5]),(7,[3,5])])) .lf) none (.nd (.nd (.nd .lf (some ((OT.l [0,1,2,3,4,5,6,7,8,9,10] .nil),[])) .lf) none .lf) none .lf))
def aOG:Tr (OT × List (Nat × List Nat)):=(.nd .lf none (.nd .lf (some ((OT.l [0,2,3,4,5,1,6,7,8] .nil),[(1,[3,5]),(7,[3,5])])) .lf))
def aOM:Tr (OT × List (Nat × List Nat)):=(.nd (.nd (.nd .lf (some ((OT.l [0,1,2,3,4,5,6] .nil),[])) .lf) none .lf) none (.nd (.nd .lf (some ((OT.l [0,1,2,3,4,5,6,7,8,9,10,11] .nil),[(6,[0,1,4]),(8,[0])])) .lf) none .lf))
def aN6:Tr (OT × List (Nat × List Nat)):=(.nd (.nd .lf (some ((OT.l [0,1,2,3,4,5,6,7,8,9,10,11,12,13,14,15,16,17,18,19,20,21,22,23,24,25,26,27,28,29] .nil),[(1,[6,10,18,22,25])])) .lf) none .lf)
def aNK:Tr (OT × List (Nat × List Nat)):=(.nd .lf none (.nd (.nd .lf (some ((OT.l [0,1,2,3,4,5,6,7,8,9,10,11] .nil),[])) .lf) none .lf))
def aN8:Tr (OT × List (Nat × List Nat)):=(.nd (.nd (.nd .lf (some ((OT.l [0,1,2,3,4,5,6,7,8,9,10,11,12,13,14,15,16,17,18,19,20,21,22,23] .nil),[])) .lf) (some ((OT.l [0,1,2,3,4,5,6,7,8,9] .nil),[])) .lf) none (.nd .lf (some ((OT.l [0,1,2,3,4,5,6,7,8,9] .nil),[])) .lf))
def aOv:Tr (OT × List (Nat × List Nat)):=(.nd .lf none (.nd .lf none (.nd .lf none (.nd .lf (some ((OT.l [0,1,2,3,4,5,6,7,8,9,10,11,12] .nil),[])) .lf))))
def aNR:Tr (OT × List (Nat × List Nat)):=(.nd .lf none (.nd (.nd .lf (some ((OT.l [0,1,2,3,4,5,6,8] (.pair 7 9)),[])) .lf) none .lf))
def aOf:Tr (OT × List (Nat × List Nat)):=(.nd (.nd (.nd .lf (some ((OT.l [0,1,2,3,4,5,6,7,8,9,10,11,12,13] .nil),[])) .lf) none .lf) none .lf)
def aND:Tr (OT × List (Nat × List Nat)):=(.nd (.nd .lf none (.nd .lf none (.nd .lf (some ((OT.l [0,1,2,3,4,5] .nil),[(3,[0])])) .lf))) none .lf)
def aNY:Tr (OT × List (Nat × List Nat)):=(.nd (.nd .lf none (.nd .lf (some ((OT.l [0,1,2,3,4,5,6,7,8,9,10,11,12] .nil),[])) .lf)) none .lf)
def aOz:Tr (OT × List (Nat × List Nat)):=(.nd (.nd .lf (some ((OT.l [0,1,2,3,4,5,6,7,8,9] .nil),[])) .lf) (some ((OT.l [0,1,2,3,4,5,6,7,8,9] .nil),[])) .lf)
def aOK:Tr (OT × List (Nat × List Nat)):=(.nd (.nd .lf (some ((OT.l [0,1,2,3,4,5,6,7,8,9] .nil),[])) .lf) none (.nd .lf none (.nd (.nd .lf (some ((OT.l [0,1,2,3,4,5,6,7,8,9,10,11,12,13,14,15,16,17,18] .nil),[])) .lf) none .lf)))
def aN2:Tr (OT × List (Nat × List Nat)):=(.nd (.nd (.nd .lf (some ((OT.l [0,1,2,3,4,5,6,7,8,9] .nil),[])) .lf) none .lf) none .lf)
def aOU:Tr (OT × List (Nat × List Nat)):=(.nd (.nd (.nd .lf none (.nd (.nd .lf (some ((OT.l [0,1,2,3,4,5,6,7] .nil),[(3,[1])])) .lf) (some ((OT.l [0,1,2,3,4,5,6,7,8,9,10] .nil),[])) .lf)) none (.nd (.nd .lf none (.nd .lf (some ((OT.l [0,1,2,3,4,5,6,7,8,9,10,11] .nil),[(6,[4])])) .lf)) none (.nd (.nd .lf (some ((OT.l [0,1,2,3,4,5,6,7,8,9,10] .nil),[])) .lf) none .lf))) none .lf)
def aO2:Tr (OT × List (Nat × List Nat)):=(.nd (.nd (.nd .lf (some ((OT.l [0,1,2,3,4,6,7,5,8,9,11] (.pair 10 12)),[(5,[1])])) .lf) (some ((OT.l [0,1,2,3,4,6,7,5,8,9,11] (.pair 10 12)),[(5,[1])])) .lf) none .lf)
def aOV:Tr (OT × List (Nat × List Nat)):=(.nd .lf (some ((OT.l [0,1,2,3,4] .nil),[(2,[0])])) .lf)
def aOb:Tr (OT × List (Nat × List Nat)):=(.nd (.nd (.nd .lf (some ((OT.l [0,1,2,3,4,5,6] .nil),[])) .lf) none .lf) none .lf)
def aNz:Tr (OT × List (Nat × List Nat)):=(.nd (.nd (.nd .lf (some ((OT.l [0,1,2,3,4,5,6,7,8,9] .nil),[])) .lf) none .lf) none .lf)
def aO0:Tr (OT × List (Nat × List Nat)):=(.nd (.nd (.nd (.nd .lf (some ((OT.l [0,1,2,3,4,5,6,7,8,9,10,11,12,13,14] .nil),[])) (.nd .lf (some ((OT.l [0,1,2,3,4,5,6,7,8,9,10,11,12,13,14] .nil),[])) .lf)) none .lf) none (.nd (.nd (.nd .lf (some ((OT.l [0,1,2,3,4,5,6,7,8,9,10,11,12,13,14] .nil),[])) .lf) (some ((OT.l [0,1,2,3,4,5,6,7,8,9,10,11,12,13,14] .nil),[])) .lf) none .lf)) none (.nd (.nd (.nd .lf (some ((OT.l [0,1,2,3,4,5,6,7,8,9,10,11,12,13,14] .nil),[])) .lf) none .lf) none (.nd (.nd (.nd .lf (some ((OT.l [0,1,2,3,4,5,6,7,8,9,10,11,12,13,14] .nil),[])) .lf) (some ((OT.l [0,1,2,3,4,5,6,7,8,9,10,11,12,13,14] .nil),[])) .lf) none .lf)))
def aOt:Tr (OT × List (Nat × List Nat)):=(.nd (.nd .lf none (.nd (.nd .lf (some ((OT.l [0,1,2,3,4,5,6,7,8,9,10,11,12,13,14,15,16,17,18,19] .nil),[])) .lf) none .lf)) none (.nd .lf none (.nd (.nd (.nd .lf (some ((OT.l [0,1,2,3,4,5,6,7,8,9,10,11,12,13,14,15,16,17,18,19] .nil),[])) .lf) none .lf) none .lf)))
def aOl:Tr (OT × List (Nat × List Nat)):=(.nd (.nd .lf none (.nd (.nd .lf (some ((OT.l [0,1,2,3,4,5,6,7,8,9,10,11,12,13,14,15,16,17,18,19] .nil),[])) .lf) none .lf)) none .lf)
def aOk:Tr (OT × List (Nat × List Nat)):=(.nd (.nd .lf (some ((OT.l [0,1,3,2,4,5,6] .nil),[(2,[3])])) .lf) none .lf)
def aOX:Tr (OT × List (Nat × List Nat)):=(.nd (.nd .lf (some ((OT.l [0,1,3,2,4,5,6] .nil),[(2,[3])])) .lf) none .lf)
def aNN:Tr (OT × List (Nat × List Nat)):=(.nd (.nd (.nd (.nd (.nd (.nd .lf (some ((OT.l [0,1,2,3,4,5,6,7,8,9,10] .nil),[])) .lf) none .lf) (some ((OT.l [0,1,2,3,4,5,6,7,8] .nil),[])) .lf) none .lf) none .lf) none (.nd .lf none (.nd .lf (some ((OT.l [0,1,2,3,4,5,6] .nil),[])) (.nd .lf (some ((OT.l [0,1,2,3,4,5,6,7,8,9,10] .nil),[])) .lf))))
def orT:Tr (Tr (OT × List (Nat × List Nat))):=(.nd (.nd (.nd (.nd (.nd (.nd (.nd (.nd .lf (some aOQ) .lf) none (.nd .lf (some aOS) .lf)) none (.nd .lf (some aPk) .lf)) (some aPz) (.nd (.nd .lf none (.nd (.nd .lf (some aOk) .lf) (some aN1) .lf)) (some aPA) (.nd (.nd .lf (some aNA) .lf) (some aOE) (.nd .lf (some aNR) .lf)))) none (.nd (.nd .lf (some aPE) (.nd (.nd (.nd .lf (some aOb) .lf) (some aN0) .lf) (some aNP) (.nd .lf (some aNK) .lf))) none (.nd (.nd (.nd (.nd .lf (some aN2) .lf) none .lf) none (.nd .lf (some aO1) .lf)) (some aPv) .lf))) none (.nd (.nd (.nd (.nd (.nd .lf (some aOu) .lf) (some aPa) (.nd .lf (some aOL) .lf)) none (.nd (.nd .lf (some aN9) .lf) none (.nd .lf (some aOM) .lf))) (some aPK) (.nd (.nd (.nd .lf (some aOP) .lf) (some aPG) .lf) none .lf)) none (.nd (.nd (.nd .lf (some aPD) (.nd .lf (some aOj) .lf)) (some aPM) (.nd .lf none (.nd .lf (some aOv) .lf))) none (.nd (.nd (.nd .lf (some aNX) .lf) (some aO8) .lf) none (.nd .lf none (.nd .lf (some aND) .lf)))))) none (.nd (.nd (.nd (.nd (.nd (.nd .lf (some aNB) .lf) (some aPC) .lf) none (.nd (.nd .lf (some aOF) .lf) none .lf)) (some aO5) (.nd (.nd .lf none (.nd .lf (some aNQ) .lf)) (some aPU) (.nd (.nd .lf (some aNv) .lf) (some aOH) .lf))) none (.nd (.nd (.nd .lf none (.nd .lf (some aNZ) .lf)) (some aO4) (.nd (.nd (.nd .lf (some aNz) .lf) none .lf) (some aOW) .lf)) none (.nd .lf none (.nd (.nd (.nd .lf (some aOl) .lf) none .lf) none (.nd .lf (some aOf) .lf))))) (some or5) (.nd (.nd (.nd .lf none (.nd .lf none (.nd .lf (some aN6) .lf))) none (.nd (.nd (.nd (.nd .lf (some aOz) .lf) (some aNu) .lf) none (.nd .lf (some aOA) .lf)) none (.nd (.nd (.nd .lf (some aO0) .lf) none .lf) none .lf))) none (.nd (.nd .lf none (.nd (.nd .lf (some aNG) .lf) none .lf)) (some aPs) (.nd (.nd (.nd (.nd .lf (some aOU) .lf) (some aOx) .lf) none .lf) none .lf))))) none (.nd (.nd (.nd (.nd (.nd (.nd (.nd .lf (some aNV) .lf) (some aPf) (.nd .lf (some aNU) .lf)) none (.nd .lf none (.nd .lf (some aNJ) .lf))) (some aPF) (.nd (.nd .lf none (.nd (.nd .lf (some aOX) .lf) (some aN3) .lf)) (some aPx) (.nd .lf (some aNI) .lf))) none (.nd (.nd (.nd .lf none (.nd .lf (some aNw) .lf)) none (.nd .lf (some aNH) (.nd .lf (some aN8) .lf))) none (.nd (.nd (.nd .lf (some aOp) .lf) (some aPN) .lf) none (.nd (.nd (.nd .lf (some aOt) .lf) none .lf) none .lf)))) none (.nd (.nd (.nd .lf none (.nd (.nd (.nd .lf (some aOV) .lf) (some aNC) .lf) none .lf)) none (.nd (.nd .lf none (.nd (.nd .lf (some aNN) .lf) none .lf)) (some aPB) (.nd .lf (some aOO) .lf))) none (.nd (.nd (.nd (.nd .lf (some aOI) .lf) none .lf) none (.nd (.nd .lf (some aNx) .lf) none .lf)) none (.nd (.nd (.nd .lf (some aNS) .lf) none .lf) (some aPT) (.nd (.nd .lf (some aOi) .lf) (some aOZ) (.nd .lf (some aNY) .lf)))))) none (.nd (.nd (.nd (.nd (.nd (.nd .lf (some aN4) .lf) (some aPl) (.nd .lf (some aN7) .lf)) (some aPL) (.nd (.nd .lf (some aOs) .lf) none (.nd .lf (some aOG) .lf))) (some aPb) (.nd (.nd .lf none (.nd .lf (some aOn) .lf)) none (.nd (.nd .lf (some aOg) .lf) none .lf))) none (.nd (.nd .lf (some aPq) .lf) none (.nd (.nd (.nd .lf (some aOm) .lf) (some aPr) .lf) (some aO7) (.nd .lf (some aOT) .lf)))) (some or6) (.nd (.nd (.nd .lf (some aPn) .lf) (some aPj) (.nd (.nd (.nd (.nd .lf (some aOK) .lf) none .lf) (some aPS) .lf) (some aPQ) .lf)) none (.nd (.nd (.nd .lf none (.nd .lf (some aNL) .lf)) (some aPe) .lf) none (.nd (.nd (.nd (.nd .lf (some aO2) .lf) none .lf) (some aPH) .lf) none .lf))))))
def xJ (f r:Nat):Option (OT × List (Nat × List Nat)):=match orT.get f with
 | some t=>t.get r
 | none=>none
noncomputable def pW (f:FuncId):Option FX:=match prog.funcs[f]? with
 | some fn=>match fn.body with
  | some c=>some ⟨c,fn.ntmps,fn.results.toList,Nat.beq f 38||Nat.beq f 18⟩
  | none=>none
 | none=>none
theorem aPd:cx.tt 36=some ⟨.struct [(0,1,false),(1,1,false),(2,1,false),(3,1,false)],4,40,[.int .i64 0,.str [],.int .i64 0,.int .i64 0]⟩:=rfl
noncomputable def dL:Cx:={ cx with det:=true }
theorem zS (t:TypeId):dL.tt t=cx.tt t:=rfl
theorem aAd:dL.P=prog:=rfl
noncomputable def pZ:Code:=match f40.body with
 | some (.seq _ c)=>c
 | _=>.skip
theorem aNO (s:St):Ex dL 14 pZ (fun x _ s'=>x=.normal∧s'=s) [(5,.nili)] s:=by
 refine cL (V:=[0,2,3,4,5,6,7,8,9,10,11,12,13]) _ _ _ _ ?_;simp only[pZ,f40];simp only[go_sem,List.map,Nat.reduceLT,Nat.reduceEqDiff,Nat.reduceBEq,Nat.reduceAdd,Nat.reduceLeDiff,Nat.reduceMul,reduceIte,fM,lC,List.elem,oH,qH,dW,eX,reduceCtorEq,bG,aD,aG,iJ,List.getElem?_cons_succ,fF,Nat.add_zero,bP,bO,oF,nK,List.take_succ_cons,List.take_zero,List.drop_succ_cons,List.take_nil,Nat.succ_eq_add_one,oI,Int.toNat_zero,Nat.sub_zero,Nat.zero_lt_succ,iF,eZ,gY,fL,zS]
theorem aLr (s:St) (t:TypeId) (cs:List A) (KV:St→A→Prop):sM dL s t cs KV=KV (s.newO (.cells t cs)) (.ptr s.lim 0):=rfl
theorem aOY (s:St) (b:Nat) (x0 x1 x2 x3 y0 y1 y2 y3:A) (hb:s.getO b=some (.cells 36 [y0,y1,y2,y3])) (hl:s.getO s.lim=none) (h0:x0.one=true) (h1:x1.one=true) (h2:x2.one=true) (h3:x3.one=true) :
  Ex dL 14 pZ (fun x _ s'=>x=.normal∧s'.ge ((s.newO (.cells 36 [x0,x1,x2,x3])).setO b (.cells 36 [x0,x1,x2,x3]))∧s'.lim=s.lim+1) [(0,.ptr b 0),(5,.iface 36 (.agg [x0,x1,x2,x3]))] s:=by
 have hne:¬ s.lim=b:=by rintro rfl;rw[hb] at hl;cases hl
 refine cL (V:=[0,2,3,4,5,6,7,8,9,10,11,12,13]) _ _ _ _ ?_;simp only[pZ,f40];simp only[go_sem,List.map,Nat.reduceLT,Nat.reduceEqDiff,Nat.reduceBEq,Nat.reduceAdd,Nat.reduceLeDiff,Nat.reduceMul,reduceIte,fM,lC,List.elem,oH,qH,dW,eX,reduceCtorEq,bG,aD,aG,iJ,List.getElem?_cons_succ,fF,Nat.add_zero,bP,bO,oF,nK,List.take_succ_cons,List.take_zero,List.drop_succ_cons,List.take_nil,Nat.succ_eq_add_one,oI,Int.toNat_zero,Nat.sub_zero,Nat.zero_lt_succ,iF,eZ,gY,fL,zS,h0,h1,h2,h3];rw[aLr];simp only[go_sem,List.map,Nat.reduceLT,Nat.reduceEqDiff,Nat.reduceBEq,Nat.reduceAdd,Nat.reduceLeDiff,Nat.reduceMul,reduceIte,fM,lC,List.elem,oH,qH,dW,eX,reduceCtorEq,bG,aD,aG,iJ,List.getElem?_cons_succ,fF,Nat.add_zero,bP,bO,oF,nK,List.take_succ_cons,List.take_zero,List.drop_succ_cons,List.take_nil,Nat.succ_eq_add_one,oI,Int.toNat_zero,Nat.sub_zero,Nat.zero_lt_succ,iF,eZ,gY,fL,zS,h0,h1,h2,h3,sZ,hne,hb,↓reduceIte];have ho:(x0.one&&(x1.one&&(x2.one&&x3.one)))=true:=by rw[h0,h1,h2,h3];rfl
 refine ⟨ho,ho,?_⟩;refine ⟨⟨fun c o hc=>?_,fun u n hu=>hu,fun _ hx=>hx⟩,rfl⟩;rw[aE,sZ] at hc;rw[aE,aE,sZ];by_cases e1:b=c
 ·simpa only[e1,↓reduceIte] using hc
 ·simp only[e1,↓reduceIte] at hc ⊢;by_cases e2:s.lim=c
  ·simpa only[e2,↓reduceIte] using hc
  ·simpa only[e2,↓reduceIte] using hc
theorem wT : f40.body = some (.seq (.region 0 #[⟨some 5,.call ⟨.builtin .recover,#[],#[]⟩,20,"parse.go:505",#[],none⟩] false) pZ) := rfl
theorem aAg (a:Act) (w:World):(results f40 a.tmps).run dL.P w=.ok (.tuple #[]) w:=by
 have e0:results f40 a.tmps=(do let vs ← (#[]:Array ResultVar).mapM (pQ a.tmps);pure (if h:vs.size=1 then vs[0] else .tuple vs)):=rfl;rw[e0];simp
theorem zV {P:Program} {Q:Exit→Act→List Frame→World→Prop} {a:Act} {cs:List Frame} {w:World}
  (h : match recoverD cs with
   | some (v,cs')=>Q .normal (a.put (some 5) v) cs' w
   | none=>Q .normal (a.put (some 5) .nilIface) cs w) :
  (Code.region 0 #[⟨some 5,.call ⟨.builtin .recover,#[],#[]⟩,20,"parse.go:505",#[],none⟩] false).wpS P Q a cs w := by
 refine wpS_region ?_;have hr : List.range (#[(⟨some 5,.call ⟨.builtin .recover,#[],#[]⟩,20,"parse.go:505",#[],none⟩ : Oper)]).size = [0] := rfl;rw [hr];unfold wpOpsS;have ho : (#[(⟨some 5,.call ⟨.builtin .recover,#[],#[]⟩,20,"parse.go:505",#[],none⟩ : Oper)])[0]? = some ⟨some 5,.call ⟨.builtin .recover,#[],#[]⟩,20,"parse.go:505",#[],none⟩ := rfl;rw [ho];simp only;rw [if_pos (by simp [Region.wanted])];have hx : (execOp a.eval ⟨some 5,.call ⟨.builtin .recover,#[],#[]⟩,20,"parse.go:505",#[],none⟩).run P w = .ok .recover w := rfl;rw [hx];simp only;cases hrec : recoverD cs with
 | none=>rw[hrec] at h;simp only;unfold wpOpsS;exact h
 | some x=>obtain ⟨v,cs'⟩:=x;rw[hrec] at h;simp only;unfold wpOpsS;exact h
theorem aG7 {g:Gh} (vals:Array Value) (hv:vals.size=1):EnvOk g 14 [] (vals++Array.replicate (f40.ntmps-vals.size) undef) :=
 .nil (by rw[hv];simp[hv,f40])
theorem aKF:Catch dL 40 36 where
 quiet:=by
  intro F g s w p hR;refine callsD_of_wpS (fn:=f40) func40 wT fun c₀ cs hu=>?_
  refine wpS_seq (zV ?_);have hrec:recoverD (c₀::cs)=none:=by simp[recoverD,hu]
  rw[hrec];refine wpS_of_wp ?_;have hE:=(aG7 (g:=g) #[p] rfl).put (a:=⟨_,[]⟩) (d:=5) (x:=.nili) (v:=.nilIface) (by decide) .nili;refine iK (fun ex a' w' hp=>?_) (aNO s F g w _ hR hE);obtain ⟨g',e',s',x,h1,h2,h3,h4,h5,rfl,rfl⟩:=hp;cases ex<;>try exact h5.elim
  refine ⟨h4,.returning,by rw[← hu],_,aAg a' w',⟨_,rfl⟩,rfl,g',h1,h2⟩
 loud:=by
  intro F g s w b k cs fs v hR hbk hb hv hl hti;obtain ⟨ti,hti,hsz⟩:=hti
  have h4:fs.length=4:=by
   rw[zS,aPd] at hti;cases hti;exact hsz.symm
  obtain ⟨x0,x1,x2,x3,rfl⟩:∃ x0 x1 x2 x3,fs=[x0,x1,x2,x3]:=by
   match fs,h4 with
   | [x0,x1,x2,x3],_=>exact ⟨x0,x1,x2,x3,rfl⟩
  obtain ⟨y0,y1,y2,y3,rfl⟩:∃ x0 x1 x2 x3,cs=[x0,x1,x2,x3]:=by
   match cs,hl with
   | [x0,x1,x2,x3],_=>exact ⟨x0,x1,x2,x3,rfl⟩
  obtain ⟨vs,hv1,hv2,hone⟩:=hv.agg_inv;refine callsD_of_wpS (fn:=f40) func40 wT fun c₀ cs hu=>?_
  refine wpS_seq (zV ?_);have hrec:recoverD (c₀::cs)=some (.iface 36 v,{ c₀ with mode:=.panicking [{ v:=.iface 36 v,recovered:=true }] }::cs):=by simp[recoverD,hu]
  rw[hrec];refine wpS_of_wp ?_
  have hE0:EnvOk g 14 [(0,.ptr b 0)] (#[Value.pointer (some ⟨k,0,none⟩)]++Array.replicate (f40.ntmps-(#[Value.pointer (some ⟨k,0,none⟩)]).size) undef):=by
   refine ⟨by simp[f40],fun t a ha=>?_⟩;simp only[Env.get] at ha;split at ha
   ·rename_i ht;subst ht;cases ha;exact ⟨_,rfl,.ptr b 0 k hbk⟩
   ·cases ha
  have hE:=hE0.put (a:=⟨_,[]⟩) (d:=5) (x:=.iface 36 (.agg [x0,x1,x2,x3])) (v:=.iface 36 v) (by decide) (.iface 36 _ v hv);have hlim:s.getO s.lim=none:=hR.free (hR.dtm rfl s.lim (bG _)).1;refine iK (fun ex a' w' hp=>?_) (aOY s b x0 x1 x2 x3 y0 y1 y2 y3 hb hlim (hone x0 (by simp)) (hone x1 (by simp)) (hone x2 (by simp)) (hone x3 (by simp)) F g w _ hR hE);obtain ⟨g',e',s',x,h1,h2,h3,h4,h5,rfl,h6,h7⟩:=hp;cases ex<;>try exact h5.elim
  refine ⟨h4,.panicking [{ v:=.iface 36 v,recovered:=true }],rfl,_,aAg a' w',⟨_,rfl⟩,rfl,g',h1,h2.weaken h6 (fun _=>by rw[h7];exact bG _)⟩
end Go.AV
