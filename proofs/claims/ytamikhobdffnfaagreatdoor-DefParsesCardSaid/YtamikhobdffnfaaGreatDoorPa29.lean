/-
  Of DefParses.
-/
import Derived.Test.YtamikhobdffnfaaGreatDoorPa28
import Derived.Test.YtamikhobdffnfaaGreatDoorPa25
set_option linter.all false
set_option maxRecDepth 99999
set_option maxHeartbeats 0
namespace Go.AV
open Go Go.Proofs Tryz
section
section
variable {s:St} {KV Kp:St→A→Prop} {r:Nat} {w:aD} {i l c:Nat} {sg:A} {tk:Option Nat} {acc:List Tok}
theorem aO9 (x:aD):x.foldl oN 0≤2147483648:=by rw[aAp];omega
theorem aKL (hi:i<w.length) (hn:tk=none→acc=[]) (hf:∀ u,tk=some u→s.getT u=none) (hacc:acc.length≤4294967280) (hx:w.length≤4294967280)
  (hl:l≤i+1) (hc:c≤i+1) (hk:Cut1 KV s r w i l c sg tk acc (mU (w.drop i))):Den cx 194 [.ptr r 0] KV Kp (fI s r w i l c sg tk acc Fault.none):=by
 have hr:=aBT (s:=s) (r:=r) (w:=w) (i:=i) (l:=l) (c:=c) (sg:=sg) (tk:=tk) (acc:=acc);generalize hY:fI s r w i l c sg tk acc Fault.none=Y at hr ⊢;(refine aZ func194 [0,2,3,29,61] ?_;simp only[go_sem,ntmps194,f194])
 refine Ex.loop (ι:=Nat) (fun k=>[(0,.ptr r 0),(2,.int .i64 ((((w.drop i).take k).foldl oN 0:Nat):Int)),(3,.int .i64 k)]) (fun _=>Y)
  (fun k=>i+k≤w.length∧((w.drop i).takeWhile fun c=>fB c.toNat).length=k+((w.drop (i+k)).takeWhile fun c=>fB c.toNat).length) (fun k=>w.length-(i+k)) 0 ⟨by omega,by simp⟩ ?_ (bA _) ?_
 ·simp only[go_sem,hr];exact ⟨rfl,rfl⟩
 rintro k ⟨hk1,hk2⟩;refine bV (V:=[0,2,3,29,61]) _ _ _ _ ?_;have ek:IntKind.i64.wrap ((i:Int)+(k:Int))=((i+k:Nat):Int):=by rw[eX _ (by omega) (by omega)];omega
 have ek1:IntKind.i64.wrap ((k:Int)+1)=((k+1:Nat):Int):=bP k (by omega)
 have aAo:0<((w.drop (i+k)).takeWhile fun c=>dU c.toNat).length→∃ c,(w.drop i)[k]?=some c∧dU c.toNat=true:=by
  intro h;rw[lE];cases hdr:w.drop (i+k) with
  | nil=>rw[hdr] at h;simp at h
  | cons d v =>
   rw[hdr] at h
   have hd:w[i+k]?=some d:=by
    have:=congrArg (·[0]?) hdr;simpa using this
   refine ⟨d,hd,?_⟩;cases hp:dU (d.toNat:Int) with
   | true=>rfl
   | false=>rw[sG (p:=fun c:UInt8=>dU c.toNat) (by simp only[hp];decide)] at h;simp at h
 have part_pos:∀ {c:UInt8},(w.drop i)[k]?=some c→dU c.toNat=true→0<((w.drop (i+k)).takeWhile fun c=>dU c.toNat).length:=by
  intro c h1 h2;rw[lE] at h1;have hlt:=(eT.1 h1).1;rw[lU hlt,(eT.1 h1).2,sF (p:=fun c:UInt8=>dU c.toNat) h2];simp
 by_cases hlt:i+k<w.length
 ·have d1:decide (i+k<w.length)=true:=fC hlt;obtain ⟨d,v,hdr⟩:∃ d v,w.drop (i+k)=d::v:=⟨_,_,lU hlt⟩
  have hd:w[i+k]?=some d:=by
   have:=congrArg (·[0]?) hdr;simpa using this
  have hdr2:w.drop (i+(k+1))=v:=by
   rw[show i+(k+1)=i+k+1 from rfl,← kS,hdr];rfl
  (refine aP (OT.r 0 26) [] ?_;simp only[go_sem,hr,ek,d1,hd,hlt]);refine aBc _ _ _ _ ?_;simp only[go_sem,hr];cases ho:fB (d.toNat:Int) with
  | true =>
   have hdg:48≤d.toNat∧d.toNat≤57:=by
    simp only[fB,bT,eC] at ho;omega
   have hcl:=aO9 ((w.drop i).take k)
   have u1:IntKind.u8.wrap ((d.toNat:Int)-48)=((d.toNat-48:Nat):Int):=by
    have:((d.toNat:Int)-48)=((d.toNat-48:Nat):Int):=by omega
    rw[this];generalize d.toNat-48=z at *;simp[IntKind.wrap,IntKind.signed,IntKind.bits];omega
   have u2:IntKind.i64.wrap ((d.toNat-48:Nat):Int)=((d.toNat-48:Nat):Int):=eX _ (by omega) (by omega);have u3:IntKind.i64.wrap (10 * ((((w.drop i).take k).foldl oN 0:Nat):Int))=((10 * ((w.drop i).take k).foldl oN 0:Nat):Int):=by rw[eX _ (by omega) (by omega)];omega
   have u4:IntKind.i64.wrap (((10 * ((w.drop i).take k).foldl oN 0:Nat):Int)+((d.toNat-48:Nat):Int))=((10 * ((w.drop i).take k).foldl oN 0+(d.toNat-48):Nat):Int):=by rw[eX _ (by omega) (by omega)];omega
   simp only[go_sem,hr,ek,ek1];(refine aP (OT.r 0 18) [] ?_;simp only[go_sem,hr,ek,hd,hlt,u1,u2,u3,u4]);simp only[go_sem,hr,ek1];refine ⟨k+1,⟨by omega,?_⟩,by omega,⟨?_,rfl⟩,bA _⟩
   ·rw[hk2,hdr,sF (p:=fun c:UInt8=>fB c.toNat) ho,aF,hdr2];omega
   ·have et:List.take (k+1) (w.drop i)=(w.drop i).take k++[d]:=by rw[sJ,lE,hd];rfl
    rw[et,List.foldl_append];simp only[List.foldl_cons,List.foldl_nil,oN];split<;>omega
  | false =>
   have hm:((w.drop i).takeWhile fun c=>fB c.toNat).length=k:=by
    rw[hk2,hdr,sG (p:=fun c:UInt8=>fB c.toNat) (by simp only[ho];decide)];rfl
   simp only[go_sem,hr,ho]
   have eN:decide ((2147483647:Int)<(((((w.drop i).take k).foldl oN 0:Nat):Int)))=decide (2147483647<eK ((w.drop i).take k)):=by
    rw[aAp];congr 1;apply propext;omega
   cases hb:decide (2147483647<eK ((w.drop i).take k)) with
   | true =>
    simp only[go_sem,hr,eN,hb];rw[← hY];refine sT hf hx hi ?_;simp only[go_sem,hr];exact aO (Cut1.bad (aB4 _ (.inl (by rw[hm];exact zU hb))) hk)
   | false =>
    simp only[go_sem,hr,eN,hb,ek];refine aDW (i+k) gH hx hk1 ?_;simp only[go_sem,hr];by_cases hp:0<((w.drop (i+k)).takeWhile fun c=>dU c.toNat).length
    ·have d5:decide ((0:Int)<(((w.drop (i+k)).takeWhile fun c=>dU c.toNat).length:Int))=true:=fC (by omega);simp only[go_sem,hr,d5];rw[← hY];refine sT hf hx hi ?_;simp only[go_sem,hr];refine aO (Cut1.bad (aB4 _ (.inr ?_)) hk);rw[hm];exact aAo hp
    ·have d5:decide ((0:Int)<(((w.drop (i+k)).takeWhile fun c=>dU c.toNat).length:Int))=false:=eL (by omega);simp only[go_sem,hr,d5];rw[← hY];have hnum:=aIR (w.drop i) (by rw[hm];rintro (h|⟨c,h1,h2⟩);exact absurd h (of_decide_eq_false hb);exact hp (part_pos h1 h2)) (aHn _);rw[hnum,hm] at hk
     have eM:((w.drop i).take k).foldl oN 0=eK ((w.drop i).take k):=by
      have:=of_decide_eq_false hb;rw[aAp];omega
     rw[eM];refine aAa ⟨2,[],eK ((w.drop i).take k),0,0⟩ k tk acc hn hf hacc hx hk1 hl hc ?_;intro u hu;simp only[go_sem,hr];exact aO (hk u hu)
 ·have d1:decide (i+k<w.length)=false:=eL hlt
  have hm:((w.drop i).takeWhile fun c=>fB c.toNat).length=k:=by
   have:i+k=w.length:=by omega
   rw[hk2,this,wX];rfl
  (refine aP (OT.r 0 26) [] ?_;simp only[go_sem,hr,ek,d1])
  have eN:decide ((2147483647:Int)<(((((w.drop i).take k).foldl oN 0:Nat):Int)))=decide (2147483647<eK ((w.drop i).take k)):=by
   rw[aAp];congr 1;apply propext;omega
  cases hb:decide (2147483647<eK ((w.drop i).take k)) with
  | true =>
   simp only[go_sem,hr,eN,hb];rw[← hY];refine sT hf hx hi ?_;simp only[go_sem,hr];exact aO (Cut1.bad (aB4 _ (.inl (by rw[hm];exact zU hb))) hk)
  | false =>
   simp only[go_sem,hr,eN,hb,ek];refine aDW (i+k) gH hx hk1 ?_;simp only[go_sem,hr];by_cases hp:0<((w.drop (i+k)).takeWhile fun c=>dU c.toNat).length
   ·have d5:decide ((0:Int)<(((w.drop (i+k)).takeWhile fun c=>dU c.toNat).length:Int))=true:=fC (by omega);simp only[go_sem,hr,d5];rw[← hY];refine sT hf hx hi ?_;simp only[go_sem,hr];refine aO (Cut1.bad (aB4 _ (.inr ?_)) hk);rw[hm];exact aAo hp
   ·have d5:decide ((0:Int)<(((w.drop (i+k)).takeWhile fun c=>dU c.toNat).length:Int))=false:=eL (by omega);simp only[go_sem,hr,d5];rw[← hY];have hnum:=aIR (w.drop i) (by rw[hm];rintro (h|⟨c,h1,h2⟩);exact absurd h (of_decide_eq_false hb);exact hp (part_pos h1 h2)) (aHn _);rw[hnum,hm] at hk
    have eM:((w.drop i).take k).foldl oN 0=eK ((w.drop i).take k):=by
     have:=of_decide_eq_false hb;rw[aAp];omega
    rw[eM];refine aAa ⟨2,[],eK ((w.drop i).take k),0,0⟩ k tk acc hn hf hacc hx hk1 hl hc ?_;intro u hu;simp only[go_sem,hr];exact aO (hk u hu)
theorem Cut1.mono {KV':St→A→Prop} (h:∀ s,KV s (.tuple [])→KV' s (.tuple [])):∀ {x:Tok × Nat × Bool},Cut1 KV s r w i l c sg tk acc x→Cut1 KV' s r w i l c sg tk acc x
 | (_,_,true),hk=>fun u hu=>h _ (hk u hu)
 | (_,_,false),hk=>h _ hk
def fQ:List aD:=dX++[[39],[95]]
theorem aN3 (b:UInt8) (v:aD):fY (b::v) fQ 0=if fY (b::v) dX 0=0∧(b=39∨b=95) then 1 else fY (b::v) dX 0:=by
 have h1:∀ x:UInt8,kE (b::v) [x]=decide (b=x):=fun x=>by simp[kE]
 unfold fQ;rw[show dX++[[39],[95]]=(dX++[[39]])++[[95]] by simp,aAc,aAc];simp only[h1,aF,aH,eC,gU];generalize fY (b::v) dX 0=n;rcases Nat.eq_zero_or_pos n with rfl|hp
 ·by_cases h39:b=39
  ·simp[h39]
  ·by_cases h95:b=95
   ·simp[h95]
   ·simp[h39,h95]
 ·simp[show ¬ n<1 by omega,show ¬ n=0 by omega]
theorem aIS (b:UInt8):gZ [b]=gJ b.toNat:=by
 simp only[gZ,List.all_cons,List.all_nil,fK,aF,aH];cases h:gJ (b.toNat:Int) with
 | false=>simp
 | true=>simp[dU,h]
theorem aK8 (tk2:Option Nat) (hi:i<w.length) (hn:tk=none→acc=[]) (hf:∀ u,tk=some u→s.getT u=none) (hacc:acc.length≤4294967280) (hx:w.length≤4294967280)
  (hl:l≤i+1) (hc:c≤i+1) (hk:Cut1 KV s r w i l c (.list tk2 (fQ.map .str)) tk acc (hC (w.drop i) dX true)):Den cx 105 [.ptr r 0] KV Kp (fI s r w i l c (.list tk2 (fQ.map .str)) tk acc Fault.none):=by
 have hr:=aBT (s:=s) (r:=r) (w:=w) (i:=i) (l:=l) (c:=c) (sg:=.list tk2 (fQ.map .str)) (tk:=tk) (acc:=acc);obtain ⟨b,v,hw⟩:∃ b v,w.drop i=b::v:=⟨_,_,lU hi⟩
 have hb:w[i]?=some b:=by
  have:=congrArg (·[0]?) hw;simpa using this
 have hwl:(b::v).length=w.length-i:=by rw[← hw,cP]
 generalize hY:fI s r w i l c (.list tk2 (fQ.map .str)) tk acc Fault.none=Y at hr ⊢;(refine aZ func105 [0,2,3,4,6,19,20,21,22,34,38,47,57,79,84] ?_;simp only[go_sem,ntmps105,f105]);(refine aP (OT.r 0 10) [] ?_;simp only[go_sem,hr,hb,hi]);refine aDA _ _ _ _ ?_;simp only[go_sem,hr];cases hL:gJ (b.toNat:Int) with
 | true =>
  simp only[go_sem,hr];refine aDW i gH hx (Nat.le_of_lt hi) ?_;simp only[go_sem,hr]
  have htok:hC (w.drop i) dX true=(⟨1,(w.drop i).take ((w.drop i).takeWhile fun c=>dU c.toNat).length,0,0,0⟩,((w.drop i).takeWhile fun c=>dU c.toNat).length,decide (((w.drop i).takeWhile fun c=>dU c.toNat).length≤40)):=by
   rw[hw];simp only[hC];rw[if_pos (by rw[aIS,hL])]
  rw[htok] at hk;have hle:=yR (fun c=>dU c.toNat) (w.drop i);rw[cP] at hle;generalize hm:((w.drop i).takeWhile fun c=>dU c.toNat).length=m at hk hle ⊢;have d40:decide ((40:Int)<(m:Int))=!decide (m≤40):=by rw[← decide_not];congr 1;apply propext;omega
  have em:IntKind.i64.wrap ((i:Int)+(m:Int))=((i+m:Nat):Int):=by rw[eX _ (by omega) (by omega)];omega
  cases h40:decide (m≤40) with
  | false =>
   rw[h40] at hk;simp only[go_sem,hr,d40,h40];rw[← hY];refine sT hf hx hi ?_;simp only[go_sem,hr];exact aO hk
  | true =>
   rw[h40] at hk;simp only[go_sem,hr,d40,h40];(refine aP (OT.r 0 19) [] ?_;simp only[go_sem,hr,em]);refine ⟨⟨by omega,by omega⟩,?_⟩;rw[show i+m-i=m by omega,← hY];refine aAa ⟨1,(w.drop i).take m,0,0,0⟩ m tk acc hn hf hacc hx (by omega) hl hc ?_;intro u hu;simp only[go_sem,hr];exact aO (hk u hu)
 | false =>
  have hNm:¬ gZ [b]=true:=by rw[aIS,hL];decide
  simp only[go_sem,hr];refine aBc _ _ _ _ ?_;simp only[go_sem,hr];cases hD:fB (b.toNat:Int) with
  | true =>
   have htok:hC (w.drop i) dX true=mU (w.drop i):=by
    rw[hw];simp only[hC];rw[if_neg hNm,if_pos hD]
   rw[htok] at hk;simp only[go_sem,hr];rw[← hY];refine aKL hi hn hf hacc hx hl hc (Cut1.mono (fun s' h=>?_) hk);simp only[go_sem,hr];exact aO h
  | false =>
   have n34:decide ((b.toNat:Int)=34)=decide (b=34):=by
    congr 1;apply propext;exact ⟨fun h=>nE.1 (by show b.toNat=34;omega),fun h=>by rw[h];rfl⟩
   by_cases h34:b=34
   ·have d34:decide (b=34)=true:=fC h34;simp only[go_sem,hr,n34,d34];rw[← hY];refine aLx v (by rw[hw,h34]) hn hf hacc hx hl hc dX true (Cut1.mono (fun s' h=>?_) hk);simp only[go_sem,hr];exact aO h
   have d34:decide (b=34)=false:=eL h34;simp only[go_sem,hr,n34,d34]
   have htok:hC (w.drop i) dX true=(⟨4,(w.drop i).take (fY (w.drop i) fQ 0),0,0,0⟩,fY (w.drop i) fQ 0,decide (0<fY (w.drop i) fQ 0)):=by
    rw[hw];simp only[hC];rw[if_neg hNm,if_neg (by rw[hD];decide),if_neg h34,aN3];simp only[hH]
   rw[htok] at hk
   have hsl:∀ j,fY (w.drop i) (fQ.take j) 0≤w.length-i:=fun j=>by
    have:=aBs (w.drop i) (fQ.take j) 0 (bS _);rw[cP] at this;exact this
   refine Ex.loop (ι:=Nat) (fun j=>[(0,.ptr r 0),(4,.str ((w.drop i).take (fY (w.drop i) (fQ.take j) 0))),(19,.list tk2 (fQ.map .str)),(20,.int .i64 20),(21,.int .i64 j)]) (fun _=>Y)
    (fun j=>j≤20) (fun j=>20-j) 0 (bS _) ?_ (bA _) ?_
   ·simp only[go_sem,hr];exact ⟨rfl,rfl,rfl⟩
   rintro j hj;refine bV (V:=[0,2,3,4,6,19,20,21,22,34,38,47,57,79,84]) _ _ _ _ ?_
   have hbl:((w.drop i).take (fY (w.drop i) (fQ.take j) 0)).length=fY (w.drop i) (fQ.take j) 0:=by
    have:=hsl j;rw[eY,cP];omega
   have ej:IntKind.i64.wrap ((j:Int)+1)=((j+1:Nat):Int):=bP j (by omega);simp only[go_sem,hr];by_cases hlt:j<20
   ·have d1:decide ((j:Int)<20)=true:=fC (by omega);have hj2:j<fQ.length:=hlt;obtain ⟨x,hxj⟩:∃ x,fQ[j]?=some x:=⟨_,cH hj2⟩
    have hx40:x.length≤2:=by
     have hm:=fJ hxj;have:∀ y∈fQ,y.length≤2:=by decide
     exact this x hm
    have hst:fY (w.drop i) (fQ.take (j+1)) 0=if fY (w.drop i) (fQ.take j) 0<x.length∧kE (w.drop i) x=true then x.length else fY (w.drop i) (fQ.take j) 0:=by
     rw[sJ,hxj];exact aAc _ _ _ _
    generalize hn0:fY (w.drop i) (fQ.take j) 0=n at hbl hst ⊢;simp only[go_sem,hr,d1,hxj,hj2,hbl];by_cases hnx:n<x.length
    ·have d2:decide (n<x.length)=true:=fC hnx;simp only[go_sem,hr,d2];refine aFX x gH hx (Nat.le_of_lt hi) (by omega) ?_;simp only[go_sem,hr];cases hP:kE (w.drop i) x with
     | true =>
      rw[if_pos ⟨hnx,hP⟩] at hst;simp only[go_sem,hr,ej];refine ⟨j+1,by omega,by omega,⟨?_,rfl⟩,bA _⟩;rw[hst];simp only[kE,bT,eC] at hP;exact hP.2.symm
     | false =>
      rw[if_neg (by rw[hP];simp)] at hst;simp only[go_sem,hr,ej];exact ⟨j+1,by omega,by omega,⟨by rw[hst],rfl⟩,bA _⟩
    ·have d2:decide (n<x.length)=false:=eL hnx;rw[if_neg (fun h=>hnx h.1)] at hst;simp only[go_sem,hr,d2,ej];exact ⟨j+1,by omega,by omega,⟨by rw[hst],rfl⟩,bA _⟩
   ·have d1:decide ((j:Int)<20)=false:=eL (by omega);obtain rfl:j=20:=by omega
    rw[show fQ.take 20=fQ from rfl] at hbl ⊢;have hsl2:=hsl 20;rw[show fQ.take 20=fQ from rfl] at hsl2;generalize fY (w.drop i) fQ 0=n at hbl hk hsl2 ⊢;simp only[go_sem,hr,d1];by_cases hz:n=0
    ·have d3:decide (List.take n (w.drop i)=[])=true:=fC (by rw[hz];rfl);simp only[go_sem,hr,d3];rw[← hY];refine sT hf hx hi ?_;simp only[go_sem,hr];rw[show decide (0<n)=false from eL (by omega)] at hk;exact aO hk
    ·have d3:decide (List.take n (w.drop i)=[])=false:=eL (fun e=>by rw[e] at hbl;exact hz hbl.symm);simp only[go_sem,hr,d3,hbl];rw[← hY];rw[show decide (0<n)=true from fC (by omega)] at hk;refine aAa ⟨4,(w.drop i).take n,0,0,0⟩ n tk acc hn hf hacc hx (by omega) hl hc ?_;intro u hu;simp only[go_sem,hr];exact aO (hk u hu)
end
end
section
section
variable {s:St} {KV Kp:St→A→Prop} {r:Nat} {w:aD} {i l c:Nat} {sg:A} {tk:Option Nat} {acc:List Tok} {f:Fault}
theorem aHr:(fI s r w i l c sg tk acc f).getO r=some (lT w i l c sg (gv tk (acc.map Tok.enc)) f):=by
 unfold fI;rw[aT,aJ,if_pos rfl]
theorem aOu (i' l' c':Nat):((fI s r w i l c sg tk acc f).setO r (lT w i' l' c' sg (gv tk (acc.map Tok.enc)) f)).ge (fI s r w i' l' c' sg tk acc f):=by
 unfold fI;cases tk with
 | none =>
  refine ⟨fun d x hx=>?_,fun u m hm=>hm,fun x hx=>hx⟩;simp only[gs] at hx ⊢;rw[aJ] at hx ⊢;split
  ·rename_i e;rw[if_pos e] at hx;exact hx
  ·rename_i e;rw[if_neg e] at hx;rw[aJ,if_neg e];exact hx
 | some u =>
  refine ⟨fun d x hx=>?_,fun u m hm=>hm,fun x hx=>hx⟩;simp only[gs] at hx ⊢;rw[gE,aJ] at hx;rw[aJ,gE,aJ];split
  ·rename_i e;rw[if_pos e] at hx;exact hx
  ·rename_i e;rw[if_neg e] at hx;exact hx
theorem aEJ (hx:w.length≤4294967280) (hi:i≤w.length) (hl:l≤i+1) (hc:c≤i+1)
  (hk:KV (fI s r w (i+dD (w.drop i)) (bY (l,c) ((w.drop i).take (dD (w.drop i)))).1 (bY (l,c) ((w.drop i).take (dD (w.drop i)))).2 sg tk acc f) (.tuple [])) :
  Den cx 104 [.ptr r 0] KV Kp (fI s r w i l c sg tk acc f):=by
 refine Den.drop ?_;refine aLz aHr hx hi hl hc ?_;exact aM hk (aOu _ _ _)
theorem aHd {q:Nat} (h:¬ r=q):(fI s r w i l c sg tk acc f).getO q=s.getO q:=by
 unfold fI;rw[aT,aJ,if_neg h]
end
section
variable {s:St} {KV Kp:St→A→Prop}
theorem aMs (x:aD) (tk2:Option Nat) (hx:x.length≤4294967280)
  (hk:if 20000<x.length then KV s (.tuple [.list none [],Fault.enc ⟨3,[],0,0⟩]) else (iH dX true x).out KV s) :
  Den cx 75 [.str x,.list tk2 (fQ.map .str)] KV Kp s:=by
 (refine aZ func75 [0,1,4,5,6,9,31,41] ?_;simp only[go_sem,ntmps75,f75]);(intro b1 hb1;try simp only[aB,aT,aV,ne_eq] at hb1);simp only[go_sem,hb1];have d0:decide ((20000:Int)<((x.length:Nat):Int))=decide (20000<x.length):=by congr 1;apply propext;omega
 by_cases h20:20000<x.length
 ·rw[if_pos h20] at hk;have d1:decide (20000<x.length)=true:=fC h20;simp only[go_sem,hb1,d0,d1];exact DK.mk hk (fL hb1) (A.le.tuple ⟨A.le.nil,aK _,trivial⟩)
 rw[if_neg h20] at hk;have d1:decide (20000<x.length)=false:=eL h20;simp only[go_sem,hb1,d0,d1];(intro b2 hb2;try simp only[aB,aT,aV,ne_eq] at hb2);simp only[go_sem,hb1,hb2];have hb0:=sW x.length x;change dD x≤x.length at hb0;have hge1:(s.setO b1 (.cells 36 [.int .i64 0,.str [],.int .i64 0,.int .i64 0])).ge s:=fL hb1;have hS0:(s.setO b1 (.cells 36 [.int .i64 0,.str [],.int .i64 0,.int .i64 0])).getO b1=some (.cells 36 [.int .i64 0,.str [],.int .i64 0,.int .i64 0]):=by rw[aJ,if_pos rfl]
 have hST:∀ u,(s.setO b1 (.cells 36 [.int .i64 0,.str [],.int .i64 0,.int .i64 0])).getT u=s.getT u:=fun u=>rfl
 have hS2:(s.setO b1 (.cells 36 [.int .i64 0,.str [],.int .i64 0,.int .i64 0])).getO b2=none:=by rw[aJ,if_neg hb2.1.1];exact hb2.2
 have hne:¬ b1=b2∧¬ b2=b1:=hb2.1;have hb2:s.getO b2=none:=hb2.2;generalize (s.setO b1 (.cells 36 [.int .i64 0,.str [],.int .i64 0,.int .i64 0]))=S at hge1 hS0 hST hS2 ⊢;change Den cx 104 [.ptr b2 0] _ _ (fI S b2 x 0 1 1 (.list tk2 (fQ.map .str)) none [] Fault.none);refine aEJ hx (bS _) (by omega) (by omega) ?_;simp only[go_sem,hb1,hb2]
 refine Ex.loop (ι:=Nat × (Nat × Nat) × List Tok × Option Nat × Fault) (fun z=>[(0,.str x),(4,.nils),(5,.ptr b1 0),(6,.ptr b2 0)])
  (fun z=>fI S b2 x z.1 z.2.1.1 z.2.1.2 (.list tk2 (fQ.map .str)) z.2.2.2.1 z.2.2.1 z.2.2.2.2)
  (fun z => z.1 ≤ x.length ∧ z.2.1.1 ≤ z.1 + 1 ∧ z.2.1.2 ≤ z.1 + 1 ∧ (z.2.2.2.1 = none → z.2.2.1 = []) ∧ (∀ t,z.2.2.2.1 = some t → S.getT t = none) ∧ z.2.2.1.length ≤ z.1 ∧
   ((z.2.2.2.2=Fault.none∧∃ f,x.length-z.1≤f∧iH dX true x=oM dX true f (x.drop z.1) z.2.1 z.2.2.1)∨(z.2.2.2.2.code=10∧iH dX true x=.bad z.2.2.2.2))) (fun z=>if z.2.2.2.2.code=10 then 0 else x.length+1-z.1)
  (dD x,bY (1,1) (x.take (dD x)),[],none,Fault.none) ?_ ?_ ?_ ?_
 ·have:=nM (x.take (dD x)) (1,1) 0 (by omega) (by omega);rw[eY] at this;exact ⟨hb0,by simp only;omega,by simp only;omega,fun _=>rfl,fun t h=>(by cases h),bS _,.inl ⟨rfl,x.length,by simp only;omega,rfl⟩⟩
 ·simp only[go_sem,hb1,hb2]
  try rfl
 ·simp only[rL,gU]
  try exact bA _
 rintro ⟨a,⟨l,c⟩,acc,tk,F⟩ ⟨ha,hl,hc,hn,hf,hla,hF⟩;simp only at ha hl hc hn hf hla hF;refine bV (V:=[0,1,4,5,6,9,31,41]) _ _ _ _ ?_
 have fin:∀ (a l c:Nat) (tk:Option Nat) (acc:List Tok) (F:Fault) (o:Ob),(∀ t,tk=some t→S.getT t=none)→((fI S b2 x a l c (.list tk2 (fQ.map .str)) tk acc F).setO b1 o).ge s:=by
  intro a l c tk acc F o hf;refine ⟨fun d y hy=>?_,fun u m hm=>?_,fun y hy=>?_⟩
  ·have n1:¬ b1=d:=by rintro rfl;rw[hb1] at hy;cases hy
   have n2:¬ b2=d:=by rintro rfl;rw[hb2] at hy;cases hy
   rw[aJ,if_neg n1,aHd n2];exact hge1.ob d y hy
  ·have h1:=hge1.tk u m hm;unfold fI;cases tk with
   | none=>exact h1
   | some t =>
    have n1:¬ t=u:=by rintro rfl;rw[hf t rfl] at h1;cases h1
    simp only[gs];show (St.setT _ t _).getT u=some m;rw[cO,if_neg n1];exact h1
  ·have h1:=hge1.ls y hy;unfold fI;cases tk<;>exact h1
 have hrr:∀ a l c tk acc F,(fI S b2 x a l c (.list tk2 (fQ.map .str)) tk acc F).getO b2=some (lT x a l c (.list tk2 (fQ.map .str)) (gv tk (acc.map Tok.enc)) F):=fun _ _ _ _ _ _=>aHr
 have hr1:∀ a l c tk acc F,(fI S b2 x a l c (.list tk2 (fQ.map .str)) tk acc F).getO b1=some (.cells 36 [.int .i64 0,.str [],.int .i64 0,.int .i64 0]):=fun _ _ _ _ _ _=>by rw[aHd hne.2];exact hS0
 simp only[go_sem,hrr,hr1,hne];by_cases hlt:a<x.length
 ·have d2:decide (a<x.length)=true:=fC hlt;rcases hF with ⟨rfl,f,hff,hlex⟩|⟨hF1,hF2⟩
  ·have d3:decide (Fault.none.code=0)=true:=rfl;simp only[go_sem,hrr,hr1,hne,d2,d3];obtain ⟨b,v,hw⟩:∃ b v,x.drop a=b::v:=⟨_,_,lU hlt⟩
   obtain ⟨f,rfl⟩:∃ f',f=f'+1:=⟨f-1,by omega⟩
   refine aK8 tk2 hlt hn hf (by omega) hx hl hc ?_;rw[hw] at hlex ⊢;simp only[oM] at hlex;have hwl:x.length-a=(b::v).length:=by rw[← hw,cP]
   rcases htok:hC (b::v) dX true with ⟨⟨tkd,ttx,tn,tl,tc⟩,n,ok⟩
   rw[htok] at hlex;cases ok with
   | false =>
    simp only at hlex;simp only[Cut1];simp only[go_sem,hrr,hr1,hne];have hbk:dD (x.drop a)≤(x.drop a).length:=sW _ _;rw[cP] at hbk;refine aEJ hx ha hl hc ?_;simp only[go_sem,hrr,hr1,hne];have hal:=nM ((x.drop a).take (dD (x.drop a))) (l,c) a hl hc;rw[eY,cP,wY hbk] at hal;refine ⟨(a+dD (x.drop a),bY (l,c) ((x.drop a).take (dD (x.drop a))),acc,tk,⟨10,(x.drop a).take 1,l,c⟩),⟨?_,?_,?_,hn,hf,?_,.inr ⟨rfl,?_⟩⟩,?_,?_⟩
    ·simp only;omega
    ·simp only;omega
    ·simp only;omega
    ·simp only;omega
    ·rw[hlex,hw];rfl
    ·simp only[reduceIte];have nz:¬ Fault.none.code=10:=by decide
     simp only[nz,if_false];omega
    ·exact bA _
   | true =>
    simp only at hlex;obtain ⟨hn1,hn2⟩:=aBE htok;simp only[Cut1];intro u hu;simp only[go_sem,hrr,hr1,hne];have hal:=nM ((b::v).take n) (l,c) a hl hc;rw[eY,wY hn2] at hal;have hdd:x.drop (a+n)=(b::v).drop n:=by rw[← kS,hw]
    have hblk:=sW ((b::v).drop n).length ((b::v).drop n);change dD ((b::v).drop n)≤_ at hblk;rw[cP] at hblk;rw[hw];refine aEJ hx (by omega) (by omega) (by omega) ?_;simp only[go_sem,hrr,hr1,hne];rw[hdd];have hal2:=nM (((b::v).drop n).take (dD ((b::v).drop n))) (bY (l,c) ((b::v).take n)) (a+n) (by omega) (by omega);rw[eY,cP,wY hblk] at hal2;refine ⟨(a+n+dD ((b::v).drop n),bY (bY (l,c) ((b::v).take n)) (((b::v).drop n).take (dD ((b::v).drop n))),acc++[⟨tkd,ttx,tn,l,c⟩],some u,Fault.none),⟨?_,?_,?_,?_,?_,?_,.inl ⟨rfl,f,?_,?_⟩⟩,?_,?_⟩
    ·simp only;omega
    ·simp only;omega
    ·simp only;omega
    ·intro h;cases h
    ·intro y hy;cases hy;exact hu
    ·simp only[aR,aF,aH];omega
    ·simp only;omega
    ·simp only[hlex];congr 1;rw[← kS,hdd]
    ·have nz:¬ Fault.none.code=10:=by decide
     simp only[nz,if_false];omega
    ·exact bA _
  ·have d3:decide (F.code=0)=false:=eL (by omega);simp only[go_sem,hrr,hr1,hne,d2,d3];(refine aP (OT.r 0 6) [] ?_;simp only[go_sem,hrr,hr1,hne,d2,d3]);rw[hF2] at hk;refine DK.mk hk ?_ (A.le.tuple ⟨A.le.nil,aK _,trivial⟩);exact fin _ _ _ _ _ _ _ hf
 ·have d2:decide (a<x.length)=false:=eL hlt;rcases hF with ⟨rfl,f,hff,hlex⟩|⟨hF1,hF2⟩
  ·have d3:decide (Fault.none.code=0)=true:=rfl;simp only[go_sem,hrr,hr1,hne,d2,d3]
   have hlx:iH dX true x=.ok acc:=by
    rw[hlex,vE (by omega)];cases f<;>rfl
   rw[hlx] at hk;refine DK.mk hk ?_ (A.le.tuple ⟨fN tk _ (fun e=>by rw[hn e];rfl),aK _,trivial⟩);exact fin _ _ _ _ _ _ _ hf
  ·have d3:decide (F.code=0)=false:=eL (by omega);simp only[go_sem,hrr,hr1,hne,d2,d3];(refine aP (OT.r 0 6) [] ?_;simp only[go_sem,hrr,hr1,hne,d2,d3]);rw[hF2] at hk;refine DK.mk hk ?_ (A.le.tuple ⟨A.le.nil,aK _,trivial⟩);exact fin _ _ _ _ _ _ _ hf
end
end
section
section
variable {s:St} {KV Kp:St→A→Prop}
theorem aL0 (hk:∀ t,s.getT t=none→KV (s.setT t (18,9)) (.list (some t) (dX.map .str))):Den cx 76 [] KV Kp s:=by
 (refine zJ func76 [0] ?_;simp only[go_sem,ntmps76,f76]);exact .inr fun k h=>aO (hk k h)
def aFe (KV:St→A→Prop) (x:aD) (s:St):Prop:=if 20000<x.length then KV s (.tuple [.list none [],Fault.enc ⟨3,[],0,0⟩]) else (iH dX true x).out KV s
theorem aMm (x:aD) (hx:x.length≤4294967280) (hk:aFe KV x s):Den cx 31 [.str x] KV Kp s:=by
 unfold aFe at hk;(refine zJ func31 [0,2,3] ?_;simp only[go_sem,ntmps31,f31]);(intro b1 hb1;try simp only[aB,aT,aV,ne_eq] at hb1);simp only[go_sem,hb1];refine oE ?_;refine aL0 fun t ht=>?_
 simp only[go_sem,hb1];refine .inl ⟨by decide,fun y hy=>?_,rfl,fun y hy=>?_,by decide,?_⟩
 ·simp only[iR,List.mem_nil_iff,oA] at hy;rcases hy with rfl|rfl<;>rfl
 ·simp only[bW] at hy;obtain ⟨z,_,rfl⟩:=hy;rfl
 refine oE ?_;refine aMs (tk2:=some t) x hx ?_;have fin:∀ o,(((s.setO b1 o).setT t (18,9)).setT t (dX.length+2,9)).ge s:=fun o=>mT (aBI ht (aBI ht (sX hb1 (vN _ _ _))))
 by_cases h20:20000<x.length
 ·rw[if_pos h20] at hk ⊢;simp only[go_sem,hb1];exact DK.mk hk (fin _) (aK _)
 ·rw[if_neg h20] at hk ⊢;cases hlx:iH dX true x with
  | ok l =>
   rw[hlx] at hk;simp only[Lx.out] at hk ⊢;simp only[go_sem,hb1];exact DK.mk hk (fin _) (aK _)
  | bad f =>
   rw[hlx] at hk;simp only[Lx.out] at hk ⊢;simp only[go_sem,hb1];exact DK.mk hk (fin _) (aK _)
end
end
section
theorem aGP (fin:Fault):∀ (f:Nat) (acc:List aD) (w:List Tok) (n:Nat),
  (dH fin [44] (fun acc w n=>(dS fin w n).bind fun a w n=>.ok (acc++[a]) w n) f acc w n).to (fun l w' _=>l.length+w'.length≤acc.length+w.length) (fun _=>True)
 | 0,acc,w,n=>trivial
 | f+1,acc,w,n=>by
  rw[dH,bL,bL];cases w with
  | nil=>trivial
  | cons t w =>
   simp only[dS];split
   ·simp only[bU];split
    ·refine aW (aGP fin f _ w.tail n) (fun l w' _ h=>?_) (fun _ h=>h);simp only[aR,aF,aH,List.length_tail] at h ⊢;omega
    ·simp only[bU,aR,aF,aH];omega
   ·trivial
section
variable {T:List Tok} {fin:Fault} {d:Dfn} {o:DOwn} {first:Tok} {i n:Nat} {s:St} {r:Nat} {KV Kp:St→A→Prop}
theorem aNB (hT:TOk T) (hi:i≤T.length) (hQ:ItQ s d o i) (hn:n≤2000)
  (hk : (wC false fin d (T.drop i) n).to (fun d' w n' => ∀ j o',i + 1 ≤ j → j ≤ T.length → T.drop j = w → n' ≤ 2000 → ItQ s d' o' j → KV (lD T fin first r s d' o' j n') (.tuple []))
   (fun f=>∀ s1 x,s1.gx s r→s1.getO r=some x→Kp s1 (.iface 36 f.enc))):Den cx 86 [.ptr r 0] KV Kp (lD T fin first r s d o i n):=by
 have hlenT:=hT.len;have hown:=hQ.own;have hfr:=hown.free;have L0:=hQ.len (o.so,d.sig.sorts.length,9) (by simp[aN]);have L1:=hQ.len (o.be,d.sig.below.length,104) (by simp[aN]);have L2:=hQ.len (o.op,d.sig.ops.length,73) (by simp[aN]);have L3:=hQ.len (o.fu,d.sig.funs.length,73) (by simp[aN]);have L4:=hQ.len (o.va,d.sig.values.length,9) (by simp[aN]);have L5:=hQ.len (o.eq,d.eqs.length,80) (by simp[aN]);have L8:=hQ.len (o.ru,d.rules.length,84) (by simp[aN]);simp only at L0 L1 L2 L3 L4 L5 L8;have G1:iP (gv o.be (d.sig.below.map Below.enc))=some (.int .i64 (d.sig.below.map Below.enc).length):=gV (by rw[aI];exact mR hown (k:=1) rfl);have G2:iP (gv o.op (d.sig.ops.map Opr.enc))=some (.int .i64 (d.sig.ops.map Opr.enc).length):=gV (by rw[aI];exact mR hown (k:=2) rfl);have G3:iP (gv o.fu (d.sig.funs.map Opr.enc))=some (.int .i64 (d.sig.funs.map Opr.enc).length):=gV (by rw[aI];exact mR hown (k:=3) rfl);have G5:iP (gv o.eq (d.eqs.map Eqn.enc))=some (.int .i64 (d.eqs.map Eqn.enc).length):=gV (by rw[aI];exact mR hown (k:=5) rfl);have G8:iP (gv o.ru (d.rules.map Rul.enc))=some (.int .i64 (d.rules.map Rul.enc).length):=gV (by rw[aI];exact mR hown (k:=8) rfl);(refine aZ func86 [0,1,2,3,4,5,14,20,59,76,107,134,177] ?_;simp only[go_sem,ntmps86,f86]);unfold lD;(intro b1 hb1;try simp only[aB,aT,aV,ne_eq] at hb1);simp only[go_sem,aB,hb1];refine kB (d:=aE d o) (T:=T) (fin:=fin) (first:=first) (i:=i) (n:=n) gH hi ?_;cases hw:T.drop i with
 | nil=>rw[hw] at hk;exact aO (hk _ (bC T fin (aE d o) first i n) aQ gH)
 | cons t w =>
  obtain ⟨g1,g2,g3,g4⟩:=lI hw;have wAT:∀ x:aD,bI x (T.drop i)=dC t x:=fun x=>by rw[hw];rfl
  rw[hw] at hk;simp only[wC,bL] at hk;simp only[go_sem,aB,hb1];(intro b2 hb2;try simp only[aB,aT,aV,ne_eq] at hb2);simp only[go_sem,aB,hb1,hb2];(intro b3 hb3;try simp only[aB,aT,aV,ne_eq] at hb3);simp only[go_sem,aB,hb1,hb2,hb3];refine iZ (d:=aE d o) (T:=T) (fin:=fin) (first:=first) (i:=i) (n:=n) _ gH hi hT ?_;rw[wAT];cases c1:dC t [115,111,114,116];rotate_left
  ·rw[if_pos c1,bL,← g3] at hk;simp only;simp only[go_sem,aB,hb1,hb2,hb3];have hs0b1:(cY (((s.setO b1 (.cells 74 [.ptr r 0])).setO b2 (.cells 60 t.cs)).setO b3 (.cells 191 [.ptr r 6])) ((aN d o).set 0 (none,0,9))).getO b1=some (.cells 74 [.ptr r 0]):=by simp only[aB,aJ,hb3,hb2,if_false,if_true]
   have hs0b3:(cY (((s.setO b1 (.cells 74 [.ptr r 0])).setO b2 (.cells 60 t.cs)).setO b3 (.cells 191 [.ptr r 6])) ((aN d o).set 0 (none,0,9))).getO b3=some (.cells 191 [.ptr r 6]):=by simp only[aB,aJ,if_true]
   have hfr0:∀ a,a∈(aN d o).set 0 (none,0,9)→∀ u,a.1=some u→s.getT u=none:=fun a ha u hu=>by
    rcases wS ha with ha|rfl
    ·exact hfr a ha u hu
    ·cases hu
   have hg0:(cY (((s.setO b1 (.cells 74 [.ptr r 0])).setO b2 (.cells 60 t.cs)).setO b3 (.cells 191 [.ptr r 6])) ((aN d o).set 0 (none,0,9))).gx s r:=by
    refine aE8 hfr0 ?_;exact aQ
   refine dE (s':=oO T fin (aE d o) first r (cY (((s.setO b1 (.cells 74 [.ptr r 0])).setO b2 (.cells 60 t.cs)).setO b3 (.cells 191 [.ptr r 6])) ((aN d o).set 0 (none,0,9))) d.sig.sorts o.so (i+1) n) ?_ (aDE (fin:=fin) (σ:=List aD) (α:=Unit) (X:=Option Nat) (r:=r) (fun _=>.bool true) (fun _=>rfl) (fun _=>rfl) hT
    (fun s' acc tk i n=>oO T fin (aE d o) first r s' acc tk i n) (fun s' acc tk i=>GrQ b1 b3 r s' acc tk i) (fun acc w n=>((mB fin 40 acc.length w n fun w n=>dS fin w n).bind fun a w n=>.ok (acc++[a]) w n).bind fun a w n=>.ok (a,()) w n) 147 [] [.ptr b1 0,.ptr b3 0]
    (fun s' a x i n=>⟨_,first,by unfold oO;rw[aT,aJ,if_pos rfl],by unfold oO;rw[aB5,lZ];exact bA _⟩) (fun s' a x i n t v h ht=>?_) (fun s' a x i n t v u ht h=>?_) (fun s' a x i n t v ht h=>⟨h.dropT,aGt ht⟩)
    (fun s' a x i h=>⟨by have:=h.len;omega,h.h1,h.h3,h.ne,h.nil,h.free⟩) (fun s' a x i n h=>gX (eQ (fF _ _)) h.free)
    (fun s' a x i n KV' Kp' h hi' hn' hk'=>aMZ hT b1 b3 a x h hi' hn' ?_)
    d.sig.sorts o.so (i+1) n ?_ g2 hn ?_)
   ·refine St.ge.trans (b:=cY ((((s.setO b1 (.cells 74 [.ptr r 0])).setO b2 (.cells 60 t.cs)).setO b3 (.cells 191 [.ptr r 6])).setO r (bC T fin (aE d o) first (i+1) n)) (aN d o)) (cR aL) ?_;unfold oO;rw[kL];exact aHk hown (k:=0) (o:=(o.so,d.sig.sorts.length,9)) rfl 0 9
   ·have hx:=aH4 h ht;exact ⟨hx.2,h.setT hx.1,aEU hx.1⟩
   ·have hx:=h.unT;exact ⟨by show (gs _ _ _ _).getT t=_;rw[eZ,if_neg hx.1];show (s'.setT t v).getT t=_;rw[cO,if_pos rfl],h.dropT.setT hx.1,aHO hx.1⟩
   ·rw[bL,bL] at hk';exact aW hk' (fun a w n h2 j y hj hjT hw hn hy=>h2 j y (by omega) hjT hw hn hy) (fun _ h=>h)
   ·refine ⟨by omega,hs0b1,hs0b3,⟨hb1.1.2,hb3.2.2.1.2⟩,fun e=>gR (hown.nil (o.so,d.sig.sorts.length,9) (by simp[aN]) e),fun u hu=>(by refine aIM hown (k:=0) (o:=(o.so,d.sig.sorts.length,9)) rfl 0 9 ?_ hu;exact fun _=>rfl)⟩
   refine aW (aBF _ _ _ _ _ [] _ _ _ _ hk) (fun c w4 m4 hk4 j y hj hjT hw4 hm4 hy=>?_) (fun f h s1 x hg hr1=>aO (h _ _ (hg.trans hg0) hr1));obtain ⟨l,ul⟩:=c;simp only at hk4 hy ⊢;subst hw4;rw[bU] at hk4;have hown2:OwnOk s ((aN d o).set 0 (y,l.length,9)):=by refine aHG hown (k:=0) (by simp[aN]) 0 9 9 ?_ hy.free (fun e=>by rw[hy.nil e];rfl);exact fun _=>rfl
   unfold oO;simp only[go_sem,aB,hb1,hb2,hb3];refine dE (aHS (l:=aN d o) (k:=0) (by simp[aN]) hown2 0 9) ?_;have hfrW:=hown2.free;refine fH (d:=aE { d with sig:={ d.sig with sorts:=l } } { o with so:=y }) (T:=T) (fin:=fin) (first:=first) (i:=j) (n:=m4) _ gH hjT hT (aW hk4 (fun _ w9 m9 hk9 hlt9 hw9 hm9=>?_) (fun f h=>dG aQ h));subst m9;rw[bU] at hk9;simp only[go_sem,aB,hb1,hb2,hb3];have hk10:=hk9 (j+1) { o with so:=y } (by omega) hlt9 hw9 hm4 (ItQ.set (k:=0) (a:=(y,l.length,9)) hQ (by simp[aN]) hown2 (by omega) (by have:=hy.len;simp only;omega));refine aM hk10 ?_;unfold lD;rw[show aN { d with sig:={ d.sig with sorts:=l } } { o with so:=y }=(aN d o).set 0 (y,l.length,9) by simp[aN]];refine cR ?_;simp only[aE,cL,cM,bK,bQ];exact aL
  rw[if_neg (by simp[c1])] at hk;simp only;simp only[go_sem,aB,hb1,hb2,hb3];refine nN (d:=aE d o) (T:=T) (fin:=fin) (first:=first) (i:=i) (n:=n) _ gH hi ?_;rw[wAT];simp only[go_sem,aB,hb1,hb2,hb3];cases c2:dC t [115,117,98,115,111,114,116];rotate_left
  ·rw[if_pos c2,xR,eH] at hk;simp only[go_sem,aB,hb1,hb2,hb3];(refine aP (OT.r 0 8) [] ?_;simp only[go_sem,aB,hb1,hb2,hb3,G1]);refine mP (d:=aE d o) (T:=T) (fin:=fin) (first:=first) (i:=i) (n:=n) _ _ gH hi ?_;by_cases hm:200≤d.sig.below.length
   ·rw[if_pos hm] at hk;rw[if_pos (by (try simp only[aI]);omega),hw];exact dG aQ hk
   rw[if_neg hm,bL,← g3] at hk;rw[if_neg (by (try simp only[aI]);omega)];simp only[go_sem,aB,hb1,hb2,hb3,bP i (by omega)];refine iC (d:=aE d o) (T:=T) (fin:=fin) (first:=first) (i:=i+1) (n:=n) gH g2 hT (aW hk (fun x w2 m2 hk2 hlt2 hw2 hm2=>?_) (fun f h=>dG aQ h));subst m2;rw[← hw2,bL] at hk2;simp only[go_sem,aB,hb1,hb2,hb3];(intro b4 hb4;try simp only[aB,aT,aV,ne_eq] at hb4);simp only[go_sem,aB,hb1,hb2,hb3,hb4];refine fH (d:=aE d o) (T:=T) (fin:=fin) (first:=first) (i:=i+1+1) (n:=n) _ gH hlt2 hT (aW hk2 (fun _ w3 m3 hk3 hlt3 hw3 hm3=>?_) (fun f h=>dG aQ h));subst m3;rw[← hw3,bL] at hk3;simp only[go_sem,aB,hb1,hb2,hb3,hb4];refine iC (d:=aE d o) (T:=T) (fin:=fin) (first:=first) (i:=i+1+1+1) (n:=n) gH hlt3 hT (aW hk3 (fun y w4 m4 hk4 hlt4 hw4 hm4=>?_) (fun f h=>dG aQ h));subst m4;rw[← hw4,bU] at hk4;simp only[go_sem,aB,hb1,hb2,hb3,hb4];(refine aP (OT.r 0 13) [(8,[0])] ?_;simp only[go_sem,aB,hb1,hb2,hb3,hb4])
   (try simp only[go_sem,aB,hb1,hb2,hb3,hb4])
   refine ⟨by decide,fun y hy=>by simp only[cE] at hy;subst hy;rfl,cW rfl rfl (by rw[aI];refine fV hown (k:=1) (o:=(o.be,d.sig.below.length,104)) rfl ?_;exact fun _=>rfl) (fun y hy=>?_) (by simp only[aI,aF,aH];omega) (fun u hu=>?_)⟩
   ·simp only[bW] at hy;obtain ⟨q,_,rfl⟩:=hy;rfl
   have hown2:=fX hown (k:=1) (o:=(o.be,d.sig.below.length,104)) rfl hu (fun _=>rfl) (d.sig.below.length+1);simp only[go_sem,aB,hb1,hb2,hb3,hb4];refine dE (fW hown (k:=1) (o:=(o.be,d.sig.below.length,104)) rfl hown2 (fun _=>rfl)) ?_;have hfrW:=hown2.free;refine fH (d:={ aE d o with below:=.list (some u) (d.sig.below.map Below.enc++[Below.enc ⟨x,y⟩]) }) (T:=T) (fin:=fin) (first:=first) (i:=i+1+1+1+1) (n:=n) _ gH hlt4 hT (aW hk4 (fun _ w9 m9 hk9 hlt9 hw9 hm9=>?_) (fun f h=>dG aQ h));subst m9;rw[bU] at hk9;simp only[go_sem,aB,hb1,hb2,hb3,hb4];have hk10:=hk9 (i+1+1+1+1+1) { o with be:=some u } (by omega) hlt9 hw9 hn (ItQ.set (k:=1) (a:=(some u,d.sig.below.length+1,104)) hQ (by simp[aN]) hown2 (by omega) (by simp only;omega));refine aM hk10 ?_;unfold lD;rw[show aN { d with sig:={ d.sig with below:=d.sig.below++[⟨x,y⟩] } } { o with be:=some u }=(aN d o).set 1 (some u,d.sig.below.length+1,104) by simp[aN]];refine cR ?_;simp only[aE,cL,cM,bK,bQ];exact aL
  rw[if_neg (by simp[c2])] at hk;simp only[go_sem,aB,hb1,hb2,hb3];refine iZ (d:=aE d o) (T:=T) (fin:=fin) (first:=first) (i:=i) (n:=n) _ gH hi hT ?_;rw[wAT];cases c3:dC t [118,97,108,117,101];rotate_left
  ·rw[if_pos c3,bL,← g3] at hk;simp only;simp only[go_sem,aB,hb1,hb2,hb3];(refine aP (OT.r 0 15) [(9,[0,1,5]),(10,[0])] ?_;simp only[go_sem,aB,hb1,hb2,hb3])
   refine dE (lY gH) (aKR (fin:=fin) (d:=aE d o) (fi:=first) (fun x:aD=>A.str x) (fun _=>rfl) (fun _=>rfl) hT (fun _=>True) (fun _ _ _=>Iff.rfl) (dS fin) 85 [.ptr r 0] []
    (aCy (fun _ _ h=>h) (fun s' i' n' KV' Kp' hr' _ hi' hn' hk'=>iC hr' hi' hT (aW hk' (fun _ _ _ h h1 h2 h3=>by subst h3;exact h (i'+1) (by omega) h1 h2 hn') (fun _ h=>h)))) (i+1) n trivial g2 hn ?_)
   refine aW (aD9 hk (aGP _ _ _ _ _)) (fun l w3 m3 hk3 j3 hj3 hjT3 hw3 hm3=>?_) (fun f h s1 o hg hr1=>aO (h _ o (hg.trans aQ) hr1));obtain ⟨hl,hk3⟩:=hk3;subst hw3;simp only[aH,cP] at hl;rw[bU] at hk3;simp only[go_sem,aB,hb1,hb2,hb3];refine ⟨by decide,fun y hy=>by simp only[bW] at hy;obtain ⟨q,_,rfl⟩:=hy;rfl,cW rfl rfl (by rw[aI];refine fV hown (k:=4) (o:=(o.va,d.sig.values.length,9)) rfl ?_;exact fun _=>rfl) (fun y hy=>?_) (by simp only[aI];omega) (fun u hu=>?_)⟩
   ·simp only[bW] at hy;obtain ⟨q,_,rfl⟩:=hy;rfl
   have hown2:=fX hown (k:=4) (o:=(o.va,d.sig.values.length,9)) rfl hu (fun _=>rfl) (d.sig.values.length+l.length);simp only[go_sem,aB,hb1,hb2,hb3,aI];refine dE (fW hown (k:=4) (o:=(o.va,d.sig.values.length,9)) rfl hown2 (fun _=>rfl)) ?_;have hfrW:=hown2.free;refine fH (d:={ aE d o with values:=.list (some u) (d.sig.values.map A.str++l.map A.str) }) (T:=T) (fin:=fin) (first:=first) (i:=j3) (n:=m3) _ gH hjT3 hT (aW hk3 (fun _ w9 m9 hk9 hlt9 hw9 hm9=>?_) (fun f h=>dG aQ h));subst m9;rw[bU] at hk9;simp only[go_sem,aB,hb1,hb2,hb3];have hk10:=hk9 (j3+1) { o with va:=some u } (by omega) hlt9 hw9 hm3 (ItQ.set (k:=4) (a:=(some u,d.sig.values.length+l.length,9)) hQ (by simp[aN]) hown2 (by omega) (by simp only;omega));refine aM hk10 ?_;unfold lD;rw[show aN { d with sig:={ d.sig with values:=d.sig.values++l } } { o with va:=some u }=(aN d o).set 4 (some u,d.sig.values.length+l.length,9) by simp[aN]];refine cR ?_;simp only[aE,cL,cM,bK,bQ];exact aL
  rw[if_neg (by simp[c3])] at hk;simp only;simp only[go_sem,aB,hb1,hb2,hb3];refine nN (d:=aE d o) (T:=T) (fin:=fin) (first:=first) (i:=i) (n:=n) _ gH hi ?_;rw[wAT];simp only[go_sem,aB,hb1,hb2,hb3];cases c4:dC t [111,112];rotate_left
  ·rw[if_pos (.inl c4),xR,eH] at hk;simp only[go_sem,aB,hb1,hb2,hb3,c4];have ht4:t.text=[111,112]:=by have:=c4;simp[dC] at this;exact this.2
   have d4:decide (t.text=[111,112])=true:=by rw[ht4];rfl
   (refine aP (OT.r 0 15) [] ?_;simp only[go_sem,aB,hb1,hb2,hb3,G2,G3,eX ((d.sig.ops.length:Int)+(d.sig.funs.length:Int)) (by omega) (by omega)]);refine mP (d:=aE d o) (T:=T) (fin:=fin) (first:=first) (i:=i) (n:=n) _ _ gH hi ?_;by_cases hm:200≤d.sig.ops.length+d.sig.funs.length
   ·rw[if_pos hm] at hk;rw[if_pos (by (try simp only[aI]);omega),hw];exact dG aQ hk
   rw[if_neg hm,if_pos ht4,bL,← g3] at hk;rw[if_neg (by (try simp only[aI]);omega)];simp only[go_sem,aB,hb1,hb2,hb3,bP i (by omega),d4];(refine aP (OT.r 0 14) [(7,[0,1,5]),(9,[0])] ?_;simp only[go_sem,aB,hb1,hb2,hb3]);refine aPl (d:=aE d o) (T:=T) (fin:=fin) (first:=first) (i:=i+1) (n:=n) hT gH g2 hn (aW hk (fun x w2 m2 hk2 j hj hjT hw2 hm2=>?_) (fun f h=>dG aQ h));subst hw2;rw[bU] at hk2;simp only[go_sem,aB,hb1,hb2,hb3];refine ⟨by decide,fun y hy=>by simp only[cE] at hy;subst hy;rfl,cW rfl rfl (by rw[aI];refine fV hown (k:=2) (o:=(o.op,d.sig.ops.length,73)) rfl ?_;exact fun _=>rfl) (fun y hy=>?_) (by simp only[aI,aF,aH];omega) (fun u hu=>?_)⟩
   ·simp only[bW] at hy;obtain ⟨q,_,rfl⟩:=hy;rfl
   have hown2:=fX hown (k:=2) (o:=(o.op,d.sig.ops.length,73)) rfl hu (fun _=>rfl) (d.sig.ops.length+1);simp only[go_sem,aB,hb1,hb2,hb3];refine dE (fW hown (k:=2) (o:=(o.op,d.sig.ops.length,73)) rfl hown2 (fun _=>rfl)) ?_;have hfrW:=hown2.free;refine fH (d:={ aE d o with ops:=.list (some u) (d.sig.ops.map Opr.enc++[Opr.enc x]) }) (T:=T) (fin:=fin) (first:=first) (i:=j) (n:=m2) _ gH hjT hT (aW hk2 (fun _ w9 m9 hk9 hlt9 hw9 hm9=>?_) (fun f h=>dG aQ h));subst m9;rw[bU] at hk9;simp only[go_sem,aB,hb1,hb2,hb3];have hk10:=hk9 (j+1) { o with op:=some u } (by omega) hlt9 hw9 hm2 (ItQ.set (k:=2) (a:=(some u,d.sig.ops.length+1,73)) hQ (by simp[aN]) hown2 (by omega) (by simp only;omega));refine aM hk10 ?_;unfold lD;rw[show aN { d with sig:={ d.sig with ops:=d.sig.ops++[x] } } { o with op:=some u }=(aN d o).set 2 (some u,d.sig.ops.length+1,73) by simp[aN]];refine cR ?_;simp only[aE,cL,cM,bK,bQ];exact aL
  simp only[go_sem,aB,hb1,hb2,hb3,c4];refine nN (d:=aE d o) (T:=T) (fin:=fin) (first:=first) (i:=i) (n:=n) _ gH hi ?_;rw[wAT];simp only[go_sem,aB,hb1,hb2,hb3];cases c5:dC t [102,117,110];rotate_left
  ·rw[if_pos (.inr c5),xR,eH] at hk;simp only[go_sem,aB,hb1,hb2,hb3,c5];have ht4:¬ t.text=[111,112]:=by have:=c5;simp[dC] at this;rw[this.2];decide
   have d4:decide (t.text=[111,112])=false:=by simpa using ht4
   (refine aP (OT.r 0 15) [] ?_;simp only[go_sem,aB,hb1,hb2,hb3,G2,G3,eX ((d.sig.ops.length:Int)+(d.sig.funs.length:Int)) (by omega) (by omega)]);refine mP (d:=aE d o) (T:=T) (fin:=fin) (first:=first) (i:=i) (n:=n) _ _ gH hi ?_;by_cases hm:200≤d.sig.ops.length+d.sig.funs.length
   ·rw[if_pos hm] at hk;rw[if_pos (by (try simp only[aI]);omega),hw];exact dG aQ hk
   rw[if_neg hm,if_neg ht4,bL,← g3] at hk;rw[if_neg (by (try simp only[aI]);omega)];simp only[go_sem,aB,hb1,hb2,hb3,bP i (by omega),d4];(refine aP (OT.r 0 14) [(7,[0,1,5]),(9,[0])] ?_;simp only[go_sem,aB,hb1,hb2,hb3]);refine aO3 (d:=aE d o) (T:=T) (fin:=fin) (first:=first) (i:=i+1) (n:=n) hT gH g2 hn (aW hk (fun x w2 m2 hk2 j hj hjT hw2 hm2=>?_) (fun f h=>dG aQ h));subst hw2;rw[bU] at hk2;simp only[go_sem,aB,hb1,hb2,hb3];refine ⟨by decide,fun y hy=>by simp only[cE] at hy;subst hy;rfl,cW rfl rfl (by rw[aI];refine fV hown (k:=3) (o:=(o.fu,d.sig.funs.length,73)) rfl ?_;exact fun _=>rfl) (fun y hy=>?_) (by simp only[aI,aF,aH];omega) (fun u hu=>?_)⟩
   ·simp only[bW] at hy;obtain ⟨q,_,rfl⟩:=hy;rfl
   have hown2:=fX hown (k:=3) (o:=(o.fu,d.sig.funs.length,73)) rfl hu (fun _=>rfl) (d.sig.funs.length+1);simp only[go_sem,aB,hb1,hb2,hb3];refine dE (fW hown (k:=3) (o:=(o.fu,d.sig.funs.length,73)) rfl hown2 (fun _=>rfl)) ?_;have hfrW:=hown2.free;refine fH (d:={ aE d o with funs:=.list (some u) (d.sig.funs.map Opr.enc++[Opr.enc x]) }) (T:=T) (fin:=fin) (first:=first) (i:=j) (n:=m2) _ gH hjT hT (aW hk2 (fun _ w9 m9 hk9 hlt9 hw9 hm9=>?_) (fun f h=>dG aQ h));subst m9;rw[bU] at hk9;simp only[go_sem,aB,hb1,hb2,hb3];have hk10:=hk9 (j+1) { o with fu:=some u } (by omega) hlt9 hw9 hm2 (ItQ.set (k:=3) (a:=(some u,d.sig.funs.length+1,73)) hQ (by simp[aN]) hown2 (by omega) (by simp only;omega));refine aM hk10 ?_;unfold lD;rw[show aN { d with sig:={ d.sig with funs:=d.sig.funs++[x] } } { o with fu:=some u }=(aN d o).set 3 (some u,d.sig.funs.length+1,73) by simp[aN]];refine cR ?_;simp only[aE,cL,cM,bK,bQ];exact aL
  rw[if_neg (by simp[c4,c5])] at hk;simp only[go_sem,aB,hb1,hb2,hb3,c5];refine nN (d:=aE d o) (T:=T) (fin:=fin) (first:=first) (i:=i) (n:=n) _ gH hi ?_;rw[wAT];simp only[go_sem,aB,hb1,hb2,hb3];cases c6:dC t [108,101,116];rotate_left
  ·rw[if_pos c6,xR,eH] at hk;simp only[go_sem,aB,hb1,hb2,hb3,c6];(refine aP (OT.r 0 7) [] ?_;simp only[go_sem,aB,hb1,hb2,hb3,G5]);refine mP (d:=aE d o) (T:=T) (fin:=fin) (first:=first) (i:=i) (n:=n) _ _ gH hi ?_;by_cases hm:300≤d.eqs.length
   ·rw[if_pos hm] at hk;rw[if_pos (by (try simp only[aI]);omega),hw];exact dG aQ hk
   rw[if_neg hm,bL,← g3] at hk;rw[if_neg (by (try simp only[aI]);omega)];simp only[go_sem,aB,hb1,hb2,hb3,bP i (by omega)];(refine aP (OT.l [0,2,3,4,5,1,6,7,8] .nil) [(1,[3,5]),(7,[0,3,5])] ?_;simp only[go_sem,aB,hb1,hb2,hb3]);refine rP (d:=aE d o) (T:=T) (fin:=fin) (first:=first) (i:=i+1) (n:=n) hT gH g2 hn (aW hk (fun x w2 m2 hk2 j2 hj2 hjT2 hw2 hm2=>?_) (fun f h=>dG aQ h));subst hw2;rw[bL] at hk2;simp only[go_sem,aB,hb1,hb2,hb3,bO];(intro b5 hb5;try simp only[aB,aT,aV,ne_eq] at hb5);simp only[go_sem,aB,hb1,hb2,hb3,hb5];refine fH (d:=aE d o) (T:=T) (fin:=fin) (first:=first) (i:=j2) (n:=m2) _ gH hjT2 hT (aW hk2 (fun _ w3 m3 hk3 hlt3 hw3 hm3=>?_) (fun f h=>dG aQ h));subst m3;rw[← hw3,bL] at hk3;simp only[go_sem,aB,hb1,hb2,hb3,hb5];refine rP (d:=aE d o) (T:=T) (fin:=fin) (first:=first) (i:=j2+1) (n:=m2) hT gH hlt3 hm2 (aW hk3 (fun y w4 m4 hk4 j4 hj4 hjT4 hw4 hm4=>?_) (fun f h=>dG aQ h));subst hw4;rw[bL] at hk4;simp only[go_sem,aB,hb1,hb2,hb3,hb5,bO];refine aHq (d:=aE d o) (T:=T) (fin:=fin) (first:=first) (i:=j4) (n:=m4) hT gH hjT4 hm4 (aW hk4 (fun z w5 m5 hk5 j5 hj5 hjT5 hw5 hm5=>?_) (fun f h=>dG aQ h));subst hw5;rw[bU] at hk5;simp only[go_sem,aB,hb1,hb2,hb3,hb5];(refine aP (OT.r 0 11) [(7,[0])] ?_;simp only[go_sem,aB,hb1,hb2,hb3,hb5])
   (try simp only[go_sem,aB,hb1,hb2,hb3,hb5])
   refine ⟨by decide,fun y hy=>by simp only[cE] at hy;subst hy;rfl,cW rfl rfl (by rw[aI];refine fV hown (k:=5) (o:=(o.eq,d.eqs.length,80)) rfl ?_;exact fun _=>rfl) (fun y hy=>?_) (by simp only[aI,aF,aH];omega) (fun u hu=>?_)⟩
   ·simp only[bW] at hy;obtain ⟨q,_,rfl⟩:=hy;rfl
   have hown2:=fX hown (k:=5) (o:=(o.eq,d.eqs.length,80)) rfl hu (fun _=>rfl) (d.eqs.length+1);simp only[go_sem,aB,hb1,hb2,hb3,hb5];refine dE (fW hown (k:=5) (o:=(o.eq,d.eqs.length,80)) rfl hown2 (fun _=>rfl)) ?_;have hfrW:=hown2.free;refine fH (d:={ aE d o with eqs:=.list (some u) (d.eqs.map Eqn.enc++[Eqn.enc ⟨x,y,z,t.line,t.col⟩]) }) (T:=T) (fin:=fin) (first:=first) (i:=j5) (n:=m5) _ gH hjT5 hT (aW hk5 (fun _ w9 m9 hk9 hlt9 hw9 hm9=>?_) (fun f h=>dG aQ h));subst m9;rw[bU] at hk9;simp only[go_sem,aB,hb1,hb2,hb3,hb5];have hk10:=hk9 (j5+1) { o with eq:=some u } (by omega) hlt9 hw9 hm5 (ItQ.set (k:=5) (a:=(some u,d.eqs.length+1,80)) hQ (by simp[aN]) hown2 (by omega) (by simp only;omega));refine aM hk10 ?_;unfold lD;rw[show aN { d with eqs:=d.eqs++[⟨x,y,z,t.line,t.col⟩] } { o with eq:=some u }=(aN d o).set 5 (some u,d.eqs.length+1,80) by simp[aN]];refine cR ?_;simp only[aE,cL,cM,bK,bQ];exact aL
  rw[if_neg (by simp[c6])] at hk;simp only[go_sem,aB,hb1,hb2,hb3,c6];refine nN (d:=aE d o) (T:=T) (fin:=fin) (first:=first) (i:=i) (n:=n) _ gH hi ?_;rw[wAT];simp only[go_sem,aB,hb1,hb2,hb3];cases c7:dC t [114,117,108,101];rotate_left
  ·rw[if_pos c7,xR,eH] at hk;simp only[go_sem,aB,hb1,hb2,hb3,c7];(refine aP (OT.r 0 7) [] ?_;simp only[go_sem,aB,hb1,hb2,hb3,G8]);refine mP (d:=aE d o) (T:=T) (fin:=fin) (first:=first) (i:=i) (n:=n) _ _ gH hi ?_;by_cases hm:300≤d.rules.length
   ·rw[if_pos hm] at hk;rw[if_pos (by (try simp only[aI]);omega),hw];exact dG aQ hk
   rw[if_neg hm,bL,← g3] at hk;rw[if_neg (by (try simp only[aI]);omega)];simp only[go_sem,aB,hb1,hb2,hb3,bP i (by omega)];(refine aP (OT.r 0 13) [(7,[0,1,4]),(9,[0])] ?_;simp only[go_sem,aB,hb1,hb2,hb3]);refine aN6 (d:=aE d o) (T:=T) (fin:=fin) (first:=first) (i:=i+1) (n:=n) hT t gH g2 hn (aW hk (fun x w2 m2 hk2 j hj hjT hw2 hm2=>?_) (fun f h=>dG aQ h));subst hw2;rw[bU] at hk2;simp only[go_sem,aB,hb1,hb2,hb3];refine ⟨by decide,fun y hy=>by simp only[cE] at hy;subst hy;rfl,cW rfl rfl (by rw[aI];refine fV hown (k:=8) (o:=(o.ru,d.rules.length,84)) rfl ?_;exact fun _=>rfl) (fun y hy=>?_) (by simp only[aI,aF,aH];omega) (fun u hu=>?_)⟩
   ·simp only[bW] at hy;obtain ⟨q,_,rfl⟩:=hy;rfl
   have hown2:=fX hown (k:=8) (o:=(o.ru,d.rules.length,84)) rfl hu (fun _=>rfl) (d.rules.length+1);simp only[go_sem,aB,hb1,hb2,hb3];refine dE (fW hown (k:=8) (o:=(o.ru,d.rules.length,84)) rfl hown2 (fun _=>rfl)) ?_;have hfrW:=hown2.free;refine fH (d:={ aE d o with rules:=.list (some u) (d.rules.map Rul.enc++[Rul.enc x]) }) (T:=T) (fin:=fin) (first:=first) (i:=j) (n:=m2) _ gH hjT hT (aW hk2 (fun _ w9 m9 hk9 hlt9 hw9 hm9=>?_) (fun f h=>dG aQ h));subst m9;rw[bU] at hk9;simp only[go_sem,aB,hb1,hb2,hb3];have hk10:=hk9 (j+1) { o with ru:=some u } (by omega) hlt9 hw9 hm2 (ItQ.set (k:=8) (a:=(some u,d.rules.length+1,84)) hQ (by simp[aN]) hown2 (by omega) (by simp only;omega));refine aM hk10 ?_;unfold lD;rw[show aN { d with rules:=d.rules++[x] } { o with ru:=some u }=(aN d o).set 8 (some u,d.rules.length+1,84) by simp[aN]];refine cR ?_;simp only[aE,cL,cM,bK,bQ];exact aL
  rw[if_neg (by simp[c7])] at hk;simp only[go_sem,aB,hb1,hb2,hb3,c7];refine dE (s':=lD T fin first r (((s.setO b1 (.cells 74 [.ptr r 0])).setO b2 (.cells 60 t.cs)).setO b3 (.cells 191 [.ptr r 6])) d o i n) (cR aL) (aMt hT t w hw ⟨hown.to (fun _=>rfl),hQ.len⟩ hn (aW hk (fun d2 w2 m2 hk2 j o2 hj hjT hw2 hm2 hQ2=>?_) (fun f h s1 x hg hr1=>aO (h s1 x (hg.trans aQ) hr1))));subst hw2;have hown2:OwnOk s (aN d2 o2):=hQ2.own.to (fun _=>rfl);unfold lD;simp only[go_sem,aB,hb1,hb2,hb3];have hfrW:=hown2.free;refine fH (d:=aE d2 o2) (T:=T) (fin:=fin) (first:=first) (i:=j) (n:=m2) _ gH hjT hT (aW hk2 (fun _ w9 m9 hk9 hlt9 hw9 hm9=>?_) (fun f h=>dG aQ h));subst m9;rw[bU] at hk9;simp only[go_sem,aB,hb1,hb2,hb3];have hk10:=hk9 (j+1) o2 (by omega) hlt9 hw9 hm2 ⟨hown2,fun a ha=>aU (hQ2.len a ha) (by omega)⟩;refine aM hk10 (cR ?_);simp only[aE];exact aL
end
end
section
theorem aPM (s:St):Ex cx 14 tR (fun x _ s'=>x=.normal∧s'=s) [(5,.nili)] s:=by
 refine bV (V:=[0,2,3,4,5,6,7,8,9,10,11,12,13]) _ _ _ _ ?_;simp only[tR,f40];simp only[go_sem]
theorem aPr (s:St) (b:Nat) (x0 x1 x2 x3 y0 y1 y2 y3:A) (hb:s.getO b=some (.cells 36 [y0,y1,y2,y3])) (h0:x0.one=true) (h1:x1.one=true) (h2:x2.one=true) (h3:x3.one=true) :
  Ex cx 14 tR (fun x _ s'=>x=.normal∧s'.ge (s.setO b (.cells 36 [x0,x1,x2,x3]))) [(0,.ptr b 0),(5,.iface 36 (.agg [x0,x1,x2,x3]))] s:=by
 refine bV (V:=[0,2,3,4,5,6,7,8,9,10,11,12,13]) _ _ _ _ ?_;simp only[tR,f40];simp only[go_sem,h0,h1,h2,h3];intro q hq;have hne:=cF hb hq;simp only[go_sem,h0,h1,h2,h3,hne,hb];have ho:(x0.one&&(x1.one&&(x2.one&&x3.one)))=true:=by rw[h0,h1,h2,h3];rfl
 refine ⟨ho,ho,?_⟩;exact mT (rT (by simp only[aJ,if_true]) (vW (by simp) (sX hq (vN _ _ _))))
structure CatchC (C:Cx) (h:FuncId) (ft:TypeId):Prop where
 quiet:∀ F g s w (p:Value),R C.toCtx F g s w→CallsD C.P h #[p] .returning w fun e u' w'=>(∃ v,e=.returned v)∧u'=.returning∧∃ g',g.le g'∧R C.toCtx F g' s w'
 loud:∀ F g s w (b k:Nat) (cs fs:List A) (v:Value),R C.toCtx F g s w→g.beta b=some k→s.getO b=some (.cells ft cs)→Rz g (.agg fs) v→fs.length=cs.length→fs.length=4 →
  CallsD C.P h #[.pointer (some ⟨k,0,none⟩)] (.panicking [{ v:=.iface ft v,recovered:=false }]) w fun e u' w'=>(∃ v,e=.returned v)∧settle u'=.returning ∧
   ∃ g',g.le g'∧R C.toCtx F g' (s.setO b (.cells ft fs)) w'
theorem aG5:CatchC cx 40 36 where
 quiet:=by
  intro F g s w p hR;refine callsD_of_wpS (fn:=f40) func40 aAF fun c₀ cs hu=>?_
  refine wpS_seq (aCj ?_);have hrec:recoverD (c₀::cs)=none:=by simp[recoverD,hu]
  rw[hrec];refine wpS_of_wp ?_;have hE:=(aJG (g:=g) #[p] rfl).put (a:=⟨_,[]⟩) (d:=5) (x:=.nili) (v:=.nilIface) (by decide) .nili;refine kT (fun ex a' w' hp=>?_) (aPM s F g w _ hR hE);obtain ⟨g',e',s',x,h1,h2,h3,h4,h5,rfl,rfl⟩:=hp;cases ex<;>try exact h5.elim
  refine ⟨h4,.returning,by rw[← hu],_,aCD a' w',⟨_,rfl⟩,rfl,g',h1,h2⟩
 loud:=by
  intro F g s w b k cs fs v hR hbk hb hv hl h4
  obtain ⟨x0,x1,x2,x3,rfl⟩:∃ x0 x1 x2 x3,fs=[x0,x1,x2,x3]:=by
   match fs,h4 with
   | [x0,x1,x2,x3],_=>exact ⟨x0,x1,x2,x3,rfl⟩
  obtain ⟨y0,y1,y2,y3,rfl⟩:∃ x0 x1 x2 x3,cs=[x0,x1,x2,x3]:=by
   match cs,hl with
   | [x0,x1,x2,x3],_=>exact ⟨x0,x1,x2,x3,rfl⟩
  obtain ⟨vs,hv1,hv2,hone⟩:=hv.agg_inv;refine callsD_of_wpS (fn:=f40) func40 aAF fun c₀ cs hu=>?_
  refine wpS_seq (aCj ?_);have hrec:recoverD (c₀::cs)=some (.iface 36 v,{ c₀ with mode:=.panicking [{ v:=.iface 36 v,recovered:=true }] }::cs):=by simp[recoverD,hu]
  rw[hrec];refine wpS_of_wp ?_
  have hE0:EnvOk g 14 [(0,.ptr b 0)] (#[Value.pointer (some ⟨k,0,none⟩)]++Array.replicate (f40.ntmps-(#[Value.pointer (some ⟨k,0,none⟩)]).size) undef):=by
   refine ⟨by simp[f40],fun t a ha=>?_⟩;simp only[Env.get] at ha;split at ha
   ·rename_i ht;subst ht;cases ha;exact ⟨_,rfl,.ptr b 0 k hbk⟩
   ·cases ha
  have hE:=hE0.put (a:=⟨_,[]⟩) (d:=5) (x:=.iface 36 (.agg [x0,x1,x2,x3])) (v:=.iface 36 v) (by decide) (.iface 36 _ v hv);refine kT (fun ex a' w' hp=>?_) (aPr s b x0 x1 x2 x3 y0 y1 y2 y3 hb (hone x0 (by simp)) (hone x1 (by simp)) (hone x2 (by simp)) (hone x3 (by simp)) F g w _ hR hE);obtain ⟨g',e',s',x,h1,h2,h3,h4,h5,rfl,h6⟩:=hp;cases ex<;>try exact h5.elim
  refine ⟨h4,.panicking [{ v:=.iface 36 v,recovered:=true }],rfl,_,aCD a' w',⟨_,rfl⟩,rfl,g',h1,h2.weaken h6 (fun h=>by cases h)⟩
section
variable {C:Cx} {n:Nat} {e:Env} {s:St}
def aI1 (C:Cx) (F:Fr) (g0:Gh) (n:Nat) (h:FuncId) (Q:Option Nat→XK→Env→St→Prop) (ex:Exit) (a:Act) (w:World):Prop :=
 ∃ g' e s x d,g0.le g'∧R C.toCtx F g' s w∧EnvOk g' n e a.tmps∧XRz g' x ex ∧
  (match d with
   | none=>a.defers=[]
   | some b=>∃ k,g'.beta b=some k∧a.defers=[oL h k])∧Q d x e s
def ExD (C:Cx) (n:Nat) (h:FuncId) (c:Code) (Q:Option Nat→XK→Env→St→Prop) (e:Env) (s:St):Prop :=
 ∀ F g w a,R C.toCtx F g s w→EnvOk g n e a.tmps→a.defers=[]→c.wp C.P (aI1 C F g n h Q) a w
def aCJ (R:Env→St→Prop) (Q:Option Nat→XK→Env→St→Prop):XK→Env→St→Prop
 | .normal,e,s=>R e s
 | x,e,s=>Q none x e s
theorem ExD.seq {h:FuncId} {c d:Code} {Q:Option Nat→XK→Env→St→Prop} (hc:Ex C n c (aCJ (ExD C n h d Q) Q) e s):ExD C n h (.seq c d) Q e s:=fun F g w a hR hE hD=>by
 refine wp_seq (kT (fun ex a' w' hq=>?_) (hc F g w a hR hE));obtain ⟨g',e',s',x,h1,h2,h3,h4,h5,h6⟩:=hq;cases ex<;>cases x<;>try exact h5.elim
 ·refine kT (fun ex a2 w2 hq=>?_) (h6 F g' w' a' h2 h3 (by rw[h4];exact hD));obtain ⟨g2,e2,s2,x2,d2,q1,q2⟩:=hq;exact ⟨g2,e2,s2,x2,d2,h1.trans q1,q2⟩
 all_goals exact ⟨g',e',s',_,none,h1,h2,h3,h5,by rw[h4];exact hD,h6⟩
theorem ExD.defer {h:FuncId} {c d:Code} {y:Operand} {b:Nat} {Q:Option Nat→XK→Env→St→Prop} (hc:aAn c=some (h,y)) (hy:eF C e y=some (.ptr b 0)) (hd:Ex C n d (Q (some b)) e s):ExD C n h (.seq c d) Q e s:=fun F g w a hR hE hD=>by
 obtain ⟨id,ops,ats,ty,pos,after,rfl,hops⟩:=aGK hc;obtain ⟨k,hv,hbk⟩:=((hE.oper hR) y _ hy).ptr_inv;refine wp_seq ?_
 have hq:∀ (a':Act),a'.tmps=a.tmps→a'.defers=[oL h k]→d.wp C.P (aI1 C F g n h Q) a' w:=by
  intro a' ht hd';refine kT (fun ex a2 w2 hq=>?_) (hd F g w a' hR (by rw[ht];exact hE));obtain ⟨g',e',s',x,h1,h2,h3,h4,h5,h6⟩:=hq;exact ⟨g',e',s',x,some b,h1,h2,h3,h5,⟨k,h1.beta _ _ hbk,by rw[h4];exact hd'⟩,h6⟩
 refine wp_region_list ?_;rw[hops];unfold wpList;rw[if_pos (by simp[Region.wanted])];left
 have hex:(execOp a.eval ⟨none,.defer ⟨.value (.func h),#[y],ats⟩,ty,pos,after,none⟩).run C.P w=.ok (.defer (oL h k)) w:=by
  have e1:a.eval (.func h)=.func (.func h) #[] #[]:=rfl;simp only[execOp,resolve,e1,Deferred.ofValue,bH,bX,bJ,kJ,bK,bQ,hv,oL];simp
 unfold Oper.wp;rw[hex,Oper.upon_defer];unfold wpList;exact hq _ rfl (by simp[Act.put,hD])
def vB (C:Cx) (rs:List ResultVar) (KV Kp:St→A→Prop):Option Nat→XK→Env→St→Prop
 | none,x,e,s=>lB C rs KV Kp x e s
 | some b,.panic v,e,s=>∃ fs cs,v=.iface 36 (.agg fs)∧s.getO b=some (.cells 36 cs)∧fs.length=cs.length∧fs.length=4∧lB C rs KV Kp .ret e (s.setO b (.cells 36 fs))
 | some b,x,e,s=>lB C rs KV Kp x e s
theorem aF2 {f:FuncId} {fn:Func} {c:Code} {args:List A} {KV Kp:St→A→Prop} (hct:CatchC C 40 36)
  (hent:∀ (k:Nat) (w:World),(invoke (.fn (.func 40) #[]) #[.pointer (some ⟨k,0,none⟩)]).run C.P w=.ok (.enter 40 #[.pointer (some ⟨k,0,none⟩)]) w)
  (hf : C.P.funcs[f]? = some fn) (hb : fn.body = some c) (hname : (fn.name == "runtime.NumGoroutine") = false) (hn : args.length ≤ fn.ntmps)
  (h:ExD C fn.ntmps 40 c (vB C fn.results.toList KV Kp) (lR 0 args) s):Den C f args KV Kp s:=by
 refine aF6 hf hb hname hn fun F g w a hR hE hD=>?_
 refine kT (fun ex a' w' hq=>?_) (h F g w a hR hE hD);obtain ⟨g',e',s',x,d,q1,q2,q3,q4,q7,hq⟩:=hq
 have ret:∀ (g2:Gh) (s2:St) (w2:World) (x:XK),(x=.normal∨x=.ret)→lB C fn.results.toList KV Kp x e' s2→R C.toCtx F g2 s2 w2→g'.le g2 →
   ∃ v,(results fn a'.tmps).run C.P w2=.ok v w2∧∃ g3 a s,g.le g3∧R C.toCtx F g3 s w2∧Rz g3 a v∧KV s a:=by
  intro g2 s2 w2 x hx hk hR2 hle
  have hk':∃ l,mX C e' s2 fn.results.toList=some l∧KV s2 (rC l):=by
   rcases hx with rfl|rfl<;>simp only[lB] at hk<;>split at hk
   ·exact ⟨_,by assumption,hk⟩
   ·exact hk.elim
   ·exact ⟨_,by assumption,hk⟩
   ·exact hk.elim
  obtain ⟨l,hl,hk'⟩:=hk';obtain ⟨vs,r1,r2⟩:=aAr hR2 (q3.mono hle) _ _ hl;refine ⟨_,?_,g2,_,s2,q1.trans hle,hR2,aEL r2,hk'⟩;have e0:results fn a'.tmps=(do let vs ← fn.results.mapM (tI a'.tmps);pure (if h:vs.size=1 then vs[0] else .tuple vs)):=rfl;rw[e0,bH,Array.mapM_eq_mapM_toList,Sem.run_map,r1];rfl
 cases d with
 | none =>
  simp only[vB] at hq;simp only at q7;cases ex<;>cases x<;>try exact q4.elim
  ·obtain ⟨v,r1,g3,aa,ss,r2⟩:=ret g' s' w' .normal (.inl rfl) hq q2 (fU g');simp only[bodyPostD,q7,Leaves];exact ⟨v,r1,g3,aa,ss,r2⟩
  ·exact hq.elim
  ·exact hq.elim
  ·obtain ⟨v,r1,g3,aa,ss,r2⟩:=ret g' s' w' .ret (.inr rfl) hq q2 (fU g');simp only[bodyPostD,q7,Leaves];exact ⟨v,r1,g3,aa,ss,r2⟩
  ·obtain ⟨v,rfl,hrv⟩:=q4;simp only[bodyPostD,q7,Leaves];exact ⟨g',_,v,s',rfl,q1,q2,hrv,hq⟩
 | some b =>
  obtain ⟨k,hbk,hdf⟩:=q7;have hinv:(invoke (oL 40 k).target (oL 40 k).args).run C.P w'=.ok (.enter 40 #[.pointer (some ⟨k,0,none⟩)]) w':=hent k w'
  have quiet:∀ (x:XK),(x=.normal∨x=.ret)→lB C fn.results.toList KV Kp x e' s'→Leaves C.P fn a'.tmps (tG C F g KV Kp) [oL 40 k] .returning w':=by
   intro x hx hq;refine ⟨by simp,_,_,_,_,rfl,hinv,?_⟩;refine fun c cs hc=>?_
   obtain ⟨e,u',w2,fr,⟨⟨v0,rfl⟩,rfl,g2,hle,hR2⟩,hcm⟩:=hct.quiet F g' s' w' (.pointer (some ⟨k,0,none⟩)) q2 c cs hc;obtain ⟨v,r1,r2⟩:=ret g2 s' w2 x hx hq hR2 hle;exact ⟨.returned v0,.returning,w2,fr,(show Leaves C.P fn a'.tmps (tG C F g KV Kp) [] .returning w2 from ⟨v,r1,r2⟩),hcm⟩
  cases ex<;>cases x<;>try exact q4.elim
  ·simp only[bodyPostD,hdf];exact quiet .normal (.inl rfl) hq
  ·exact hq.elim
  ·exact hq.elim
  ·simp only[bodyPostD,hdf];exact quiet .ret (.inr rfl) hq
  ·obtain ⟨v,rfl,hrv⟩:=q4;obtain ⟨fs,cs,rfl,hbo,hl,h4,hq⟩:=hq;obtain ⟨u,rfl,hru⟩:=hrv.iface_inv;simp only[bodyPostD,hdf];refine ⟨by simp,_,_,_,_,rfl,hinv,?_⟩;refine fun c cs0 hc0=>?_
   obtain ⟨e,u',w2,fr,⟨⟨v0,rfl⟩,hset,g2,hle,hR2⟩,hcm⟩:=hct.loud F g' s' w' b k cs fs u q2 hbk hbo hru hl h4 c cs0 hc0;obtain ⟨v,r1,r2⟩:=ret g2 _ w2 .ret (.inr rfl) hq hR2 hle;exact ⟨.returned v0,u',w2,fr,(show Leaves C.P fn a'.tmps (tG C F g KV Kp) [] (settle u') w2 from by rw[hset];exact ⟨v,r1,r2⟩),hcm⟩
end
end
end Go.AV
