/-
  Of DefStrings.
-/
import Derived.Test.YtamikhobdffnfaaGreatDoorSt19
set_option linter.all false
set_option maxRecDepth 99999
set_option maxHeartbeats 0
namespace Go.AV
open Go Go.Proofs Tryz
structure TokW (N:Nat) (t:Tok):Prop where
 kind:t.kind=1∧(∃ c r,t.text=c::r∧oR c.toNat=true)∨t.kind=2∧t.text=[]∨t.kind=3∨t.kind=4∧(t.text∈cR∨t.text=[39]∨t.text=[95])
 num:0≤t.n∧t.n≤2147483647
 col:0≤t.col∧t.col≤N
 line:0≤t.line∧t.line≤N
 txt:t.text.length≤N
theorem wH:∀ (w:aB) (p:Nat × Nat),(cU p w).1≤p.1+w.length∧(cU p w).2≤p.2+w.length∧(1≤p.2→1≤(cU p w).2)
 | [],p=>⟨bG _,bG _,fun h=>h⟩
 | b::r,(l,c)=>by
  simp only[cU];split
  ·have:=wH r (l+1,1);simp only[aD] at this ⊢;refine ⟨?_,?_,fun h=>this.2.2 (bG _)⟩<;>omega
  ·have:=wH r (l,c+1);simp only[aD] at this ⊢;refine ⟨?_,?_,fun h=>this.2.2 (by omega)⟩<;>omega
theorem aBD (w:aB):∀ (sg:List aB) (n:Nat),jA w sg n=n∨w.take (jA w sg n)∈sg
 | [],n=>.inl rfl
 | x::r,n=>by
  simp only[jA];split
  ·rename_i h;rcases aBD w r x.length with h1|h1
   ·rw[h1];refine .inr (List.mem_cons.2 (.inl ?_));have h2:=h.2;simp only[jW,aZ,cG] at h2;exact h2.2
   ·exact .inr (List.mem_cons.2 (.inr h1))
  ·rcases aBD w r n with h1|h1
   ·exact .inl h1
   ·exact .inr (List.mem_cons.2 (.inr h1))
theorem aLM {c:UInt8} {r:aB} {t:Tok} {n N:Nat} (h:dZ (c::r) cR true=(t,n,true)) (hN:(c::r).length≤N) (l k:Nat) (hl:l≤N) (hk:k≤N):TokW N ⟨t.kind,t.text,t.n,l,k⟩:=by
 have htake:∀ m,((c::r).take m).length≤N:=fun m=>by rw[eL];omega
 have hlen:=aBW h;have hc:(0:Int)≤(k:Int)∧(k:Int)≤N:=⟨by omega,by omega⟩;have hl':(0:Int)≤(l:Int)∧(l:Int)≤N:=⟨by omega,by omega⟩;have h0:(0:Int)≤0∧(0:Int)≤2147483647:=by decide
 simp only[dZ] at h;split at h
 ·rename_i hn;simp only[lR,cG] at h;obtain ⟨rfl,h2,_⟩:=h;refine ⟨.inl ⟨rfl,?_⟩,h0,hc,hl',htake _⟩;have hlet:oR c.toNat=true:=by simp only[cK,aZ] at hn;exact hn.2.1
  obtain ⟨m,hm⟩:∃ m,n=m+1:=⟨n-1,by omega⟩
  rw[hm] at h2;rw[h2];exact ⟨c,r.take m,rfl,hlet⟩
 ·split at h
  ·simp only[mW] at h;split at h
   ·simp only[lR,bR,and_false] at h
   ·simp only[lR,cG] at h;obtain ⟨rfl,_,h3⟩:=h;exact ⟨.inr (.inl ⟨rfl,rfl⟩),⟨Int.natCast_nonneg _,by simp only;omega⟩,hc,hl',bS _⟩
  ·split at h
   ·simp only[lR] at h;obtain ⟨h1,h2,_⟩:=h;generalize (Lib.indexByte r 34+2).toNat-2=m at h1;subst h1;refine ⟨.inr (.inr (.inl rfl)),h0,hc,hl',?_⟩;show (r.take m).length≤N;rw[eL];rw[aD] at hN;omega
   ·simp only[lR,cG] at h;obtain ⟨h1,h2,h3⟩:=h;rw[h2] at h1 h3;subst h1;refine ⟨.inr (.inr (.inr ⟨rfl,?_⟩)),h0,hc,hl',htake n⟩;show (c::r).take n∈cR∨(c::r).take n=[39]∨(c::r).take n=[95];by_cases h4:jA (c::r) cR 0=0∧True∧(c=39∨c=95)
    ·rw[if_pos (by simpa using h4)] at h2;subst h2;rcases h4.2.2 with rfl|rfl
     ·exact .inr (.inl rfl)
     ·exact .inr (.inr rfl)
    ·rw[if_neg (by simpa using h4)] at h2;subst h2;rcases aBD (c::r) cR 0 with h5|h5
     ·omega
     ·exact .inl h5
theorem aGE (N:Nat):∀ (f:Nat) (w:aB) (p:Nat × Nat) (acc:List Tok) (l:List Tok),p.1+w.length≤N→p.2+w.length≤N→acc.length+w.length≤N→(∀ t,t∈acc→TokW N t)→jZ cR true f w p acc=.ok l →
  l.length≤N∧∀ t,t∈l→TokW N t
 | _,[],p,acc,l,h1,h2,h3,ha,h=>by
  simp only[jZ] at h;cases h;exact ⟨by simpa using h3,ha⟩
 | 0,_::_,p,acc,l,h1,h2,h3,ha,h=>by
  simp only[jZ] at h;cases h;exact ⟨by omega,ha⟩
 | f+1,c::r,p,acc,l,h1,h2,h3,ha,h=>by
  simp only[jZ] at h;rcases htok:dZ (c::r) cR true with ⟨t,n,ok⟩
  rw[htok] at h;cases ok with
  | false=>cases h
  | true =>
   simp only at h;obtain ⟨hn1,hn2⟩:=aBW htok;have hb:dC ((c::r).drop n)≤((c::r).drop n).length:=tX _ _;have a1:=wH ((c::r).take n) p;have a2:=wH (((c::r).drop n).take (dC ((c::r).drop n))) (cU p ((c::r).take n));simp only[eL,cH,aD] at a1 a2 hb h1 h2 h3 hn2;refine aGE N f _ _ _ l ?_ ?_ ?_ ?_ h
   ·simp only[cH,aD];omega
   ·simp only[cH,aD];omega
   ·simp only[aK,aD,aG,cH] at h3 ⊢;omega
   ·intro t' ht';rcases gX.1 ht' with h5|h5
    ·exact ha t' h5
    ·simp only[cY] at h5;subst h5;exact aLM htok (by simp only[aD];omega) p.1 p.2 (by omega) (by omega)
theorem aNh {x:aB} {l:List Tok} (h:jG cR true x=.ok l):l.length≤x.length+1∧∀ t,t∈l→TokW (x.length+1) t:=by
 have hb:dC x≤x.length:=tX _ _;have a1:=wH (x.take (dC x)) (1,1);simp only[eL] at a1;refine aGE (x.length+1) _ _ _ _ l ?_ ?_ ?_ (fun t ht=>by cases ht) h
 ·simp only[cH];omega
 ·simp only[cH];omega
 ·simp only[cH,aG];omega
theorem aFK (sg:List aB) (op:Bool):∀ (f:Nat) (w:aB) (p:Nat × Nat) (acc:List Tok) (g:Fault),jZ sg op f w p acc=.bad g→g.code=10
 | _,[],p,acc,g,h=>by simp only[jZ] at h;cases h
 | 0,_::_,p,acc,g,h=>by simp only[jZ] at h;cases h
 | f+1,c::r,p,acc,g,h=>by
  simp only[jZ] at h;rcases htok:dZ (c::r) sg op with ⟨t,n,ok⟩
  rw[htok] at h;cases ok with
  | false=>cases h;rfl
  | true=>exact aFK sg op f _ _ _ g h
theorem aB9 {x:aB} {g:Fault} (h:jG cR true x=.bad g):g.code=10:=aFK _ _ _ _ _ _ _ h
theorem aM8 (c:UInt8) (w:aB):Lib.indexByte (c::w) c=0:=by
 unfold Lib.indexByte;rw[if_pos (by simp)]
theorem aMz {d c:UInt8} (w:aB) (h:¬ d=c):Lib.indexByte (d::w) c=if Lib.indexByte w c=-1 then -1 else Lib.indexByte w c+1:=by
 conv=>lhs;unfold Lib.indexByte
 rw[if_neg (by simpa using h)];simp only[beq_iff_eq]
theorem aFq:∀ (r:aB),r[(r.takeWhile iA).length]?=some 34→Lib.indexByte r 34=((r.takeWhile iA).length:Int)
 | [],h=>by simp at h
 | d::w,h=>by
  by_cases hd:iA d=true
  ·rw[aBi hd,aD,List.getElem?_cons_succ] at h;have ih:=aFq w h;have hne:¬ d=34:=by rintro rfl;revert hd;decide
   rw[aBi hd,aD];rw[aMz w hne];have:0≤Lib.indexByte w 34:=by rw[ih];omega
   split
   ·omega
   ·rw[ih];omega
  ·rw[xP hd,aG,iJ] at h;cases h;rw[xP hd];rw[aM8];rfl
theorem aD5 (p:UInt8→Bool):∀ (r:aB),(r.take (r.takeWhile p).length).all p=true
 | []=>rfl
 | d::w=>by
  by_cases hd:p d=true
  ·rw[aBi hd,aD,List.take_succ_cons,List.all_cons,hd,aD5 p w];rfl
  ·rw[xP hd];rfl
theorem aKH (r:aB) (sg:List aB) (op:Bool) (h:r[(r.takeWhile iA).length]?=some 34∧(r.takeWhile iA).length≤200) :
  dZ (34::r) sg op=(⟨3,r.take (r.takeWhile iA).length,0,0,0⟩,(r.takeWhile iA).length+2,true):=by
 have e:=aFq r h.1;simp only[dZ];rw[if_neg (by decide),if_neg (by decide),if_pos trivial,e];rw[show (((r.takeWhile iA).length:Int)+2).toNat=(r.takeWhile iA).length+2 by omega,Nat.add_sub_cancel]
 have:kP (r.take (r.takeWhile iA).length)=true:=by
  unfold kP;rw[aD5,eZ,eL];exact eR (by omega)
 rw[this,show decide (1<(r.takeWhile iA).length+2)=true from eR (by omega)];rfl
theorem aFA:∀ (x:aB) (a:Nat),a * 10 ^ x.length≤x.foldl (fun n d=>n * 10+(d.toNat-48)) a
 | [],a=>by simp
 | d::x,a=>by
  simp only[List.foldl_cons,aD];refine qG ?_ (aFA x _);rw[Nat.pow_succ,Nat.mul_comm (10 ^ x.length) 10,← Nat.mul_assoc];exact lO _ (by omega)
theorem aB0:∀ (x:aB),dS (x.dropWhile (jP 48))=dS x
 | []=>rfl
 | d::x=>by
  by_cases h:jP 48 d=true
  ·rw[List.dropWhile_cons_of_pos h,aB0 x];have:d=48:=by simpa [jP] using h
   subst this;rfl
  ·rw[List.dropWhile_cons_of_neg h]
theorem aLN (x:aB) (hd:sC x) (hl:10<(x.dropWhile (jP 48)).length):2147483647<dS x:=by
 rw[← aB0];have hsub:∀ c,c∈x.dropWhile (jP 48)→c∈x:=fun c hc=>(List.dropWhile_sublist _).subset hc
 have hh:∀ c r,x.dropWhile (jP 48)=c::r→jP 48 c=false:=by
  intro c r h;have:=List.head?_dropWhile_not (jP 48) x;rw[h] at this;simpa using this
 generalize x.dropWhile (jP 48)=g at hl hsub hh;cases g with
 | nil=>simp at hl
 | cons c r =>
  have h1:=hh c r rfl;have h2:=hd c (hsub c (by simp))
  have h3:¬ c.toNat=48:=fun e=>by
   have:c=48:=oG.1 e;subst this;cases h1
  simp only[dS,List.foldl_cons,Nat.zero_mul,fF];refine Nat.lt_of_lt_of_le ?_ (aFA r _);have h4:10≤r.length:=by simp only[aD] at hl;omega
  have h5:10 ^ 10≤10 ^ r.length:=Nat.pow_le_pow_right (by omega) h4;have h6:1 * 10 ^ r.length≤(c.toNat-48) * 10 ^ r.length:=lO _ (by omega);have h7:(10:Nat) ^ 10=10000000000:=by decide
  omega
theorem aF0 (x:aB) (h:¬ (2147483647<dS (x.take (x.takeWhile fun c=>eU c.toNat).length)∨∃ c,x[(x.takeWhile fun c=>eU c.toNat).length]?=some c∧eM c.toNat=true)) (hd:sC (x.take (x.takeWhile fun c=>eU c.toNat).length)) :
  mW x=(⟨2,[],dS (x.take (x.takeWhile fun c=>eU c.toNat).length),0,0⟩,(x.takeWhile fun c=>eU c.toNat).length,true):=by
 unfold mW;simp only;rw[if_neg (fun h1=>h (h1.elim (fun h2=>.inl (aLN _ hd h2)) .inr)),aB0];rw[show decide (dS (x.take (x.takeWhile fun c=>eU c.toNat).length)≤2147483647)=true from eR (by omega)]
structure TokG (t:Tok):Prop where
 is:(t.kind=1∧t.n=0∧∃ c r,t.text=c::r∧cK [c]=true∧(c::r).all (fun c=>eM c.toNat)=true∧(c::r).length≤40) ∨
  (t.kind=2∧t.text=[]∧0≤t.n∧t.n≤2147483647)∨(t.kind=3∧t.n=0∧kP t.text=true)∨(t.kind=4∧t.n=0∧(t.text∈cR∨t.text=[39]∨t.text=[95]))
def Tok.word (t:Tok):aB:=if t.kind=2 then Lib.itoa t.n else if t.kind=3 then 34::(t.text++[34]) else t.text
theorem aCA {p:UInt8→Bool} {x z:aB} {b:UInt8} (hx:∀ c,c∈x→p c=true) (hb:p b=false):(x++b::z).takeWhile p=x:=by
 rw[List.takeWhile_append_of_pos hx,xP (by simp[hb]),iE]
theorem aLq {c:UInt8} {r z:aB} {b:UInt8} (hc:cK [c]=true) (ha:(c::r).all (fun c=>eM c.toNat)=true) (hl:(c::r).length≤40) (hb:eM b.toNat=false) :
  dZ (c::r++b::z) cR true=(⟨1,c::r,0,0,0⟩,(c::r).length,true):=by
 have htw:(c::(r++b::z)).takeWhile (fun c=>eM c.toNat)=c::r:=aCA (x:=c::r) (fun x hx=>fD.1 ha x hx) hb;show dZ (c::(r++b::z)) cR true=_;simp only[dZ];rw[if_pos hc,htw,show (c::(r++b::z)).take (c::r).length=c::r from List.take_left' (l₁:=c::r) rfl,show decide ((c::r).length≤40)=true from eR hl]
theorem aKG {x z:aB} (hx:kP x=true):dZ (34::(x++[34])++z) cR true=(⟨3,x,0,0,0⟩,(34::(x++[34])).length,true):=by
 simp only[kP,aZ,cG] at hx;have htw:(x++34::z).takeWhile iA=x:=aCA (fun c hc=>fD.1 hx.1 c hc) (by decide)
 have h:=aKH (x++34::z) cR true (by
  rw[htw];exact ⟨by rw[nI (bG _),Nat.sub_self];rfl,hx.2⟩)
 rw[htw,List.take_left' rfl] at h;have e:34::(x++[34])++z=34::(x++34::z):=by simp
 rw[e,h];simp
theorem uL:∀ (m u:Nat),u<m→∃ c r,Lib.decDigits u=c::r∧48≤c.toNat∧c.toNat≤57
 | 0,u,h=>by omega
 | m+1,u,h=>by
  rw[Lib.decDigits];by_cases h0:u<10
  ·rw[dif_pos h0];have:(UInt8.ofNat (48+u)).toNat=48+u:=by rw[UInt8.toNat_ofNat'];omega
   exact ⟨_,[],rfl,by omega,by omega⟩
  ·rw[dif_neg h0];obtain ⟨c,r,e,h1,h2⟩:=uL m (u / 10) (by omega);rw[e];exact ⟨c,r++[UInt8.ofNat (48+u % 10)],rfl,h1,h2⟩
theorem aCF:∀ (m u:Nat),u<m→dS (Lib.decDigits u)=u∧sC (Lib.decDigits u)
 | 0,u,h=>by omega
 | m+1,u,h=>by
  rw[Lib.decDigits];by_cases h0:u<10
  ·rw[dif_pos h0];have e:(UInt8.ofNat (48+u)).toNat=48+u:=by rw[UInt8.toNat_ofNat'];omega
   refine ⟨by simp only[dS,List.foldl_cons,List.foldl_nil];omega,fun d hd=>?_⟩;simp only[cY] at hd;subst hd;omega
  ·rw[dif_neg h0];obtain ⟨h1,h2⟩:=aCF m (u / 10) (by omega);have e:(UInt8.ofNat (48+u % 10)).toNat=48+u % 10:=by rw[UInt8.toNat_ofNat'];omega
   refine ⟨by rw[aBJ,h1];omega,fun d hd=>?_⟩;rcases gX.1 hd with hd|hd
   ·exact h2 d hd
   ·simp only[cY] at hd;subst hd;omega
theorem zL {c:UInt8} (h1:48≤c.toNat) (h2:c.toNat≤57):cK [c]=false∧eU c.toNat=true∧kL c=false∧c≠47∧c≠62:=by
 have k:∀ n:Nat,48≤n→n≤57→cK [UInt8.ofNat n]=false∧eU (UInt8.ofNat n).toNat=true∧kL (UInt8.ofNat n)=false∧UInt8.ofNat n≠47∧UInt8.ofNat n≠62:=by
  intro n g1 g2;have:n=48∨n=49∨n=50∨n=51∨n=52∨n=53∨n=54∨n=55∨n=56∨n=57:=by omega
  rcases this with rfl|rfl|rfl|rfl|rfl|rfl|rfl|rfl|rfl|rfl<;>decide
 have:=k c.toNat h1 h2
 rwa[UInt8.ofNat_toNat] at this
theorem aLE {n:Int} {z:aB} {b:UInt8} (h0:0≤n) (h1:n≤2147483647) (hb:eM b.toNat=false):dZ (Lib.itoa n++b::z) cR true=(⟨2,[],n,0,0⟩,(Lib.itoa n).length,true):=by
 have e:Lib.itoa n=Lib.decDigits n.toNat:=by unfold Lib.itoa;rw[if_neg (by omega)]
 rw[e];obtain ⟨c,r,hcr,hc1,hc2⟩:=uL _ n.toNat (fK _);obtain ⟨hnum,hdig⟩:=aCF _ n.toNat (fK _);obtain ⟨g1,g2,_⟩:=zL hc1 hc2
 have hbd:eU b.toNat=false:=by
  simp only[eM,Bool.or_eq_false_iff] at hb;exact hb.2.1
 have htw:(Lib.decDigits n.toNat++b::z).takeWhile (fun c=>eU c.toNat)=Lib.decDigits n.toNat:=aCA (fun d hd=>by
  have:=hdig d hd;simp only[eU,aZ,cG];omega) hbd
 have hnt:=aF0 (Lib.decDigits n.toNat++b::z) (by
  rw[htw,List.take_left' rfl,hnum];rintro (h|⟨d,hd,hp⟩)
  ·omega
  ·rw[nI (bG _),Nat.sub_self] at hd;cases hd;rw[hb] at hp;cases hp) (by rw[htw,List.take_left' rfl];exact hdig)
 rw[htw,List.take_left' rfl,hnum] at hnt;rw[show ((n.toNat:Nat):Int)=n by omega] at hnt;rw[hcr] at hnt ⊢;show dZ (c::(r++b::z)) cR true=_;simp only[dZ];rw[if_neg (by simp[g1]),if_pos g2];exact hnt
theorem aLm {x z:aB} {b:UInt8} (hx:x∈cR∨x=[39]∨x=[95]) (hb:b≠62):dZ (x++b::z) cR true=(⟨4,x,0,0,0⟩,x.length,true):=by
 have hb':¬ b=62:=hb;have h2:∀ n:Nat,decide (2≤n+1+1)=true:=fun n=>eR (by omega)
 have h1:∀ n:Nat,decide (1≤n+1)=true:=fun n=>eR (by omega)
 simp only[cR,eW,List.mem_nil_iff,jU] at hx;rcases hx with (rfl|rfl|rfl|rfl|rfl|rfl|rfl|rfl|rfl|rfl|rfl|rfl|rfl|rfl|rfl|rfl|rfl|rfl)|rfl|rfl
 all_goals simp[dZ,cK,oR,eU,jA,cR,jW,hb',h1,h2]
theorem aMk:∀ x,x∈cR∨x=[39]∨x=[95]→∃ c r,x=c::r∧kL c=false∧c≠47:=by
 intro x hx;simp only[cR,eW,List.mem_nil_iff,jU] at hx;rcases hx with (rfl|rfl|rfl|rfl|rfl|rfl|rfl|rfl|rfl|rfl|rfl|rfl|rfl|rfl|rfl|rfl|rfl|rfl)|rfl|rfl
 all_goals exact ⟨_,_,rfl,by decide,by decide⟩
theorem aKW {c:UInt8} (h:cK [c]=true):kL c=false∧c≠47:=by
 simp only[cK,oR,aZ,kF,cG] at h;have h3:=h.2.1;refine ⟨?_,fun e=>?_⟩
 ·simp only[kL,Bool.or_eq_false_iff,kW];refine ⟨fun e=>?_,fun e=>?_,fun e=>?_,fun e=>?_⟩<;>(subst e;revert h3;decide)
 ·subst e;revert h3;decide
theorem zH {t:Tok} (h:TokG t):∃ c r,t.word=c::r∧kL c=false∧c≠47:=by
 rcases h.is with ⟨hk,_,c,r,ht,hn,_⟩|⟨hk,_,h0,_⟩|⟨hk,_,_⟩|⟨hk,_,hs⟩
 ·refine ⟨c,r,?_,aKW hn⟩;unfold Tok.word;rw[hk,if_neg (by decide),if_neg (by decide),ht]
 ·obtain ⟨c,r,hcr,hc1,hc2⟩:=uL _ t.n.toNat (fK _);obtain ⟨_,_,g3,g4,_⟩:=zL hc1 hc2;refine ⟨c,r,?_,g3,g4⟩;unfold Tok.word Lib.itoa;rw[hk,if_pos rfl,if_neg (by omega),hcr]
 ·refine ⟨34,t.text++[34],?_,by decide,by decide⟩;unfold Tok.word;rw[hk,if_neg (by decide),if_pos rfl]
 ·obtain ⟨c,r,e,g⟩:=aMk _ hs;refine ⟨c,r,?_,g⟩;unfold Tok.word;rw[hk,if_neg (by decide),if_neg (by decide),e]
def aC5 (x:aB):Prop:=x=[]∨∃ c r,x=c::r∧kL c=false∧c≠47
theorem aCQ {x:aB} (h:aC5 x) (f:Nat):kS f x=0:=by
 rcases h with rfl|⟨c,r,rfl,h1,h2⟩
 ·cases f<;>rfl
 ·cases f with
  | zero=>rfl
  | succ f =>
   have e:jW (c::r) [47,47]=false:=by
    simp only[jW,Bool.and_eq_false_iff,kW];refine .inr fun e=>?_
    cases r with
    | nil=>cases e
    | cons d r=>simp only[aD,aG,fF,Nat.reduceAdd,List.take_succ_cons,List.take_zero,List.cons.injEq] at e;exact h2 e.1
   simp only[kS,h1,e,bR,if_false]
abbrev Pc:=List (Option Tok)
def aM:Pc→aB
 | []=>[]
 | some t::P=>t.word++aM P
 | none::P=>32::aM P
def aU:Pc→List Tok
 | []=>[]
 | some t::P=>t::aU P
 | none::P=>aU P
theorem jV:∀ P Q:Pc,aM (P++Q)=aM P++aM Q
 | [],Q=>rfl
 | some t::P,Q=>by rw[bP,aM,aM,jV P Q,cQ]
 | none::P,Q=>by rw[bP,aM,aM,jV P Q,bP]
theorem mT:∀ P Q:Pc,aU (P++Q)=aU P++aU Q
 | [],Q=>rfl
 | some t::P,Q=>by rw[bP,aU,aU,mT P Q,bP]
 | none::P,Q=>by rw[bP,aU,aU,mT P Q]
def xL:List aB:=[[40],[41],[44],[58],[93],[125]]
def eY:Pc→Prop
 | []=>True
 | some t::P=>TokG t∧(∀ u Q,P=some u::Q→t.kind=1∨t.kind=2→u.kind=4∧u.text∈xL)∧(t.kind=4→t.text=[45]→∀ Q,P≠none::Q)∧eY P
 | none::P=>(∃ t Q,P=some t::Q)∧eY P
theorem aJX {c:UInt8} {r:aB} (hc:cK [c]=true) (ha:(c::r).all (fun c=>eM c.toNat)=true) (hl:(c::r).length≤40) :
  dZ (c::r) cR true=(⟨1,c::r,0,0,0⟩,(c::r).length,true):=by
 have htw:(c::r).takeWhile (fun c=>eM c.toNat)=c::r:=by
  have:=List.takeWhile_append_of_pos (l₁:=c::r) (l₂:=[]) (p:=fun c:UInt8=>eM c.toNat) (fun x hx=>fD.1 ha x hx);simpa using this
 simp only[dZ];rw[if_pos hc,htw,List.take_length,show decide ((c::r).length≤40)=true from eR hl]
theorem aKT {n:Int} (h0:0≤n) (h1:n≤2147483647):dZ (Lib.itoa n) cR true=(⟨2,[],n,0,0⟩,(Lib.itoa n).length,true):=by
 have e:Lib.itoa n=Lib.decDigits n.toNat:=by unfold Lib.itoa;rw[if_neg (by omega)]
 rw[e];obtain ⟨c,r,hcr,hc1,hc2⟩:=uL _ n.toNat (fK _);obtain ⟨hnum,hdig⟩:=aCF _ n.toNat (fK _);obtain ⟨g1,g2,_⟩:=zL hc1 hc2
 have htw:(Lib.decDigits n.toNat).takeWhile (fun c=>eU c.toNat)=Lib.decDigits n.toNat:=by
  have:=List.takeWhile_append_of_pos (l₁:=Lib.decDigits n.toNat) (l₂:=[]) (p:=fun c:UInt8=>eU c.toNat) (fun d hd=>by
   have:=hdig d hd;simp only[eU,aZ,cG];omega)
  simpa using this
 have hnt:=aF0 (Lib.decDigits n.toNat) (by
  rw[htw,List.take_length,hnum];rintro (h|⟨d,hd,hp⟩)
  ·omega
  ·rw[rJ (bG _)] at hd;cases hd) (by rw[htw,List.take_length];exact hdig)
 rw[htw,List.take_length,hnum] at hnt;rw[show ((n.toNat:Nat):Int)=n by omega] at hnt;rw[hcr] at hnt ⊢;simp only[dZ];rw[if_neg (by simp[g1]),if_pos g2];exact hnt
theorem aKj {x:aB} (hx:x∈cR∨x=[39]∨x=[95]):dZ x cR true=(⟨4,x,0,0,0⟩,x.length,true):=by
 simp only[cR,eW,List.mem_nil_iff,jU] at hx;rcases hx with (rfl|rfl|rfl|rfl|rfl|rfl|rfl|rfl|rfl|rfl|rfl|rfl|rfl|rfl|rfl|rfl|rfl|rfl)|rfl|rfl
 all_goals decide
theorem aMj {t:Tok} (h:TokG t) {z:aB} (hz:z=[]∨∃ b z',z=b::z'∧b≠62∧(t.kind=1∨t.kind=2→eM b.toNat=false)):dZ (t.word++z) cR true=(⟨t.kind,t.text,t.n,0,0⟩,t.word.length,true):=by
 rcases h.is with ⟨hk,hn,c,r,ht,hc,ha,hl⟩|⟨hk,ht,h0,h1⟩|⟨hk,hn,hs⟩|⟨hk,hn,hs⟩
 ·have e:t.word=c::r:=by unfold Tok.word;rw[hk,if_neg (by decide),if_neg (by decide),ht]
  rcases hz with rfl|⟨b,z',rfl,_,hb⟩
  ·rw[iE,e,aJX hc ha hl,hk,hn,ht]
  ·rw[e,aLq hc ha hl (hb (.inl hk)),hk,hn,ht]
 ·have e:t.word=Lib.itoa t.n:=by unfold Tok.word;rw[hk,if_pos rfl]
  rcases hz with rfl|⟨b,z',rfl,_,hb⟩
  ·rw[iE,e,aKT h0 h1,hk,ht]
  ·rw[e,aLE h0 h1 (hb (.inr hk)),hk,ht]
 ·have e:t.word=34::(t.text++[34]):=by unfold Tok.word;rw[hk,if_neg (by decide),if_pos rfl]
  rw[e,aKG hs,hk,hn]
 ·have e:t.word=t.text:=by unfold Tok.word;rw[hk,if_neg (by decide),if_neg (by decide)]
  rcases hz with rfl|⟨b,z',rfl,hb,_⟩
  ·rw[iE,e,aKj hs,hk,hn]
  ·rw[e,aLm hs hb,hk,hn]
theorem aC0 {P:Pc} (h:eY P) (hn:∀ Q,P≠none::Q):aC5 (aM P):=by
 cases P with
 | nil=>exact .inl rfl
 | cons o P =>
  cases o with
  | none=>exact absurd rfl (hn P)
  | some t =>
   obtain ⟨c,r,e,h1,h2⟩:=zH h.1;exact .inr ⟨c,_,by rw[aM,e];rfl,h1,h2⟩
theorem aK5 {x:aB} (h:aC5 x):dC (32::x)=1:=by
 unfold dC;show kS (x.length+1) (32::x)=1;simp only[kS];rw[if_pos (by decide),aCQ h]
theorem aLy {t:Tok} (h:TokG t) {c:UInt8} {r:aB} (e:t.word=c::r):c≠62:=by
 rcases h.is with ⟨hk,hn,d,s,ht,hc,ha,hl⟩|⟨hk,ht,h0,h1⟩|⟨hk,hn,hs⟩|⟨hk,hn,hs⟩
 ·have e2:t.word=d::s:=by unfold Tok.word;rw[hk,if_neg (by decide),if_neg (by decide),ht]
  rw[e2] at e;cases e;rintro rfl;revert hc;decide
 ·obtain ⟨d,s,hcr,hc1,hc2⟩:=uL _ t.n.toNat (fK _);obtain ⟨_,_,_,_,g5⟩:=zL hc1 hc2;have e2:t.word=d::s:=by unfold Tok.word Lib.itoa;rw[hk,if_pos rfl,if_neg (by omega),hcr]
  rw[e2] at e;cases e;exact g5
 ·have e2:t.word=34::(t.text++[34]):=by unfold Tok.word;rw[hk,if_neg (by decide),if_pos rfl]
  rw[e2] at e;cases e;decide
 ·have e2:t.word=t.text:=by unfold Tok.word;rw[hk,if_neg (by decide),if_neg (by decide)]
  rw[e2] at e;simp only[cR,eW,List.mem_nil_iff,jU] at hs;rw[e] at hs;rcases hs with (h|h|h|h|h|h|h|h|h|h|h|h|h|h|h|h|h|h)|h|h<;>(cases h;decide)
theorem aKY {t:Tok} (h:t.kind=4∧t.text∈xL) {c:UInt8} {r:aB} (e:t.word=c::r):eM c.toNat=false:=by
 have e2:t.word=t.text:=by unfold Tok.word;rw[h.1,if_neg (by decide),if_neg (by decide)]
 rw[e2] at e;have h2:=h.2;rw[e] at h2;simp only[xL,eW,List.mem_nil_iff,jU] at h2;rcases h2 with h|h|h|h|h|h<;>(cases h;decide)
theorem aMF (f:Nat):∀ (P:Pc) (p:Nat × Nat) (acc:List Tok),eY P→(∀ Q,P≠none::Q)→(aM P).length≤f →
  ∃ T',jZ cR true f (aM P) p acc=.ok (acc++T')∧Mv (aU P) T'∧∀ v z,T'=v::z→v.line=p.1∧v.col=p.2:=by
 induction f with
 | zero =>
  intro P p acc hok hn hf;cases P with
  | nil=>exact ⟨[],by simp only[aM,jZ,iE],.nil,fun v z h=>by cases h⟩
  | cons o P =>
   cases o with
   | none=>exact absurd rfl (hn P)
   | some t =>
    obtain ⟨c,r,e,_⟩:=zH hok.1;rw[aM,e] at hf;simp at hf
 | succ f ih =>
  intro P p acc hok hn hf;cases P with
  | nil=>exact ⟨[],by simp only[aM,jZ,iE],.nil,fun v z h=>by cases h⟩
  | cons o P =>
  cases o with
  | none=>exact absurd rfl (hn P)
  | some t =>
  obtain ⟨ht,hj,hm,hP⟩:=hok;obtain ⟨c,r,e,hc1,hc2⟩:=zH ht
  obtain ⟨P1,bl,h1,h2,h3,h4,h5,h6,h7⟩:∃ (P1:Pc) (bl:aB),eY P1∧(∀ Q,P1≠none::Q)∧aM P=bl++aM P1∧dC (aM P)=bl.length∧aU P=aU P1∧(t.kind=4→t.text=[45]→bl=[]) ∧
    (aM P=[]∨∃ b z',aM P=b::z'∧b≠62∧(t.kind=1∨t.kind=2→eM b.toNat=false)):=by
   cases P with
   | nil=>exact ⟨[],[],trivial,(fun Q h=>by cases h),rfl,rfl,rfl,fun _ _=>rfl,.inl rfl⟩
   | cons o Q =>
    cases o with
    | none =>
     obtain ⟨⟨u,Q',rfl⟩,hQ⟩:=hP;refine ⟨some u::Q',[32],hQ,(fun Q h=>by cases h),rfl,aK5 (aC0 hQ fun Q h=>by cases h),rfl,fun g h=>absurd rfl (hm g h _),.inr ⟨32,_,rfl,by decide,fun _=>by decide⟩⟩
    | some u =>
     obtain ⟨d,s,eu,hd1,hd2⟩:=zH hP.1;refine ⟨some u::Q,[],hP,(fun Q h=>by cases h),rfl,aCQ (aC0 hP fun Q h=>by cases h) _,rfl,fun _ _=>rfl,.inr ⟨d,s++aM Q,by rw[aM,eu];rfl,aLy hP.1 eu,fun hk=>aKY (hj u Q rfl hk) eu⟩⟩
  have htok:=aMj ht h7;have hlen:1≤t.word.length:=by rw[e];simp
  have hfl:(aM P1).length≤f:=by
   rw[aM,aK,h3,aK] at hf;omega
  obtain ⟨T',g1,g2,g3⟩:=ih P1 (cU (cU p t.word) bl) (acc++[⟨t.kind,t.text,t.n,p.1,p.2⟩]) h1 h2 hfl;refine ⟨t.to p.1 p.2::T',?_,.cons (fun v z' hv k1 k2 k3 kt kv=>?_) (h5▸g2),fun v z' hv=>by cases hv;exact ⟨rfl,rfl⟩⟩
  ·rw[aM,e,bP];rw[e,bP] at htok;simp only[jZ];rw[htok];simp only;have d1:(c::(r++aM P)).drop t.word.length=aM P:=by rw[← bP,← e,List.drop_left' rfl]
   have d2:(c::(r++aM P)).take t.word.length=t.word:=by rw[← bP,← e,List.take_left' rfl]
   have d3:(aM P).drop (dC (aM P))=aM P1:=by rw[h4,h3,List.drop_left' rfl]
   have d4:(aM P).take (dC (aM P))=bl:=by rw[h4,h3,List.take_left' rfl]
   rw[← e,d1,d2,d3,d4,g1,cQ];rfl
  ·obtain ⟨q1,q2⟩:=g3 v z' hv
   have h4:t.kind=4:=by
    rcases ht.is with ⟨hk,_⟩|⟨hk,_⟩|⟨hk,_⟩|⟨hk,_⟩
    ·exact absurd hk k1
    ·exact absurd hk k2
    ·exact absurd hk k3
    ·exact hk
   have kt':t.text=[45]:=kt;have ew:t.word=[45]:=by unfold Tok.word;rw[h4,if_neg (by decide),if_neg (by decide)];exact kt'
   rw[h6 h4 kt',ew] at q1 q2;exact ⟨q1,by rw[q2];rfl⟩
theorem aLz {P:Pc} (h:eY P) (hn:∀ Q,P≠none::Q):∃ T',jG cR true (aM P)=.ok T'∧Mv (aU P) T':=by
 unfold jG;rw[show dC (aM P)=0 from aCQ (aC0 h hn) _,sX,List.take_zero];obtain ⟨T',h1,h2,_⟩:=aMF (aM P).length P (cU (1,1) []) [] h hn (bG _);exact ⟨T',by rw[h1,bO],h2⟩
def cE (x:aB):Tok:=⟨1,x,0,0,0⟩
def aT (x:aB):Tok:=⟨4,x,0,0,0⟩
abbrev aAp:aB:=[65,110,121]
abbrev aC7:aB:=[76,105,115,116]
abbrev aDo:aB:=[77,97,112]
abbrev uQ:aB:=[116,114,117,101]
abbrev uF:aB:=[102,97,108,115,101]
def cF (e:Bool):List Tm→Pc
 | []=>[]
 | r::l=>(if e=true then [] else [none])++(some (aT [124])::none::some (cE r.text)::cF e l)
def jH (b:Bool):Pc:=if b=true then [some (aT [44]),none] else []
mutual
def Tm.pc:Tm→Pc
 | .mk k n t s ks rs =>
  if k=1 then (if n<0 then [some (aT [45]),some ⟨2,[],-n,0,1⟩] else [some ⟨2,[],n,0,0⟩])
  else if k=2 then [some (cE (if n=1 then uQ else uF))]
  else if k=3 then [some ⟨3,t,0,0,0⟩]
  else if k=4 then [some (aT [39]),some (cE t)]
  else if k=5 then some (cE t)::some (aT [40])::(bV false ks++[some (aT [41])])
  else if k=6 then (if t=[95]∨t=[36] then [some (aT t)] else [some (cE t),some (aT [58]),some (cE s)])
  else if k=7 then some (aT [91])::(bV false ks++(cF ks.isEmpty rs++[some (aT [93])]))
  else if k=8 then some (aT [123])::(cD false ks++(cF ks.isEmpty rs++[some (aT [125])]))
  else []
def bV:Bool→List Tm→Pc
 | _,[]=>[]
 | b,t::r=>jH b++(t.pc++bV true r)
def cD:Bool→List Tm→Pc
 | _,[]=>[]
 | _,[_]=>[]
 | b,k::v::r=>jH b++(k.pc++(none::some (aT [45,62])::none::(v.pc++cD true r)))
end
theorem pc1 (n:Int) (t s:aB) (ks rs:List Tm):(Tm.mk 1 n t s ks rs).pc=if n<0 then [some (aT [45]),some ⟨2,[],-n,0,1⟩] else [some ⟨2,[],n,0,0⟩]:=by rw[Tm.pc,if_pos rfl]
theorem vF (n:Int) (t s:aB) (ks rs:List Tm):(Tm.mk 2 n t s ks rs).pc=[some (cE (if n=1 then uQ else uF))]:=by rw[Tm.pc,if_neg (by decide),if_pos rfl]
theorem vL (n:Int) (t s:aB) (ks rs:List Tm):(Tm.mk 3 n t s ks rs).pc=[some ⟨3,t,0,0,0⟩]:=by rw[Tm.pc,if_neg (by decide),if_neg (by decide),if_pos rfl]
theorem vD (n:Int) (t s:aB) (ks rs:List Tm):(Tm.mk 4 n t s ks rs).pc=[some (aT [39]),some (cE t)]:=by rw[Tm.pc,if_neg (by decide),if_neg (by decide),if_neg (by decide),if_pos rfl]
theorem vC (n:Int) (t s:aB) (ks rs:List Tm):(Tm.mk 5 n t s ks rs).pc=some (cE t)::some (aT [40])::(bV false ks++[some (aT [41])]):=by rw[Tm.pc,if_neg (by decide),if_neg (by decide),if_neg (by decide),if_neg (by decide),if_pos rfl]
theorem nF (n:Int) (t s:aB) (ks rs:List Tm):(Tm.mk 6 n t s ks rs).pc=if t=[95]∨t=[36] then [some (aT t)] else [some (cE t),some (aT [58]),some (cE s)]:=by rw[Tm.pc,if_neg (by decide),if_neg (by decide),if_neg (by decide),if_neg (by decide),if_neg (by decide),if_pos rfl]
theorem vN (n:Int) (t s:aB) (ks rs:List Tm):(Tm.mk 7 n t s ks rs).pc=some (aT [91])::(bV false ks++(cF ks.isEmpty rs++[some (aT [93])])):=by rw[Tm.pc,if_neg (by decide),if_neg (by decide),if_neg (by decide),if_neg (by decide),if_neg (by decide),if_neg (by decide),if_pos rfl]
theorem vK (n:Int) (t s:aB) (ks rs:List Tm):(Tm.mk 8 n t s ks rs).pc=some (aT [123])::(cD false ks++(cF ks.isEmpty rs++[some (aT [125])])):=by rw[Tm.pc,if_neg (by decide),if_neg (by decide),if_neg (by decide),if_neg (by decide),if_neg (by decide),if_neg (by decide),if_neg (by decide),if_pos rfl]
def Tm.wr (t:Tm):aB:=aM t.pc
def sI (S:aB) (rs:List Tm):Prop:=rs=[]∨∃ x,rs=[.mk 6 0 x S [] []]∧cK x=true∧x ∉ dE
inductive Gd:Tm→Prop
 | int (n:Int) (h1:-2147483647≤n) (h2:n≤2147483647):Gd (.mk 1 n [] [] [] [])
 | bool (n:Int) (h:n=0∨n=1):Gd (.mk 2 n [] [] [] [])
 | text (x:aB) (h:kP x=true):Gd (.mk 3 0 x [] [] [])
 | id (x:aB) (h:nC x=true) (hr:x ∉ dE):Gd (.mk 4 0 x [] [] [])
 | app (x:aB) (ks:List Tm) (h:cK x=true) (hr:x ∉ dE) (hl:ks.length≤8) (hk:∀ y,y∈ks→Gd y):Gd (.mk 5 0 x [] ks [])
 | opn (x:aB) (h:x=[95]∨x=[36]):Gd (.mk 6 0 x aAp [] [])
 | var (x s:aB) (h:cK x=true) (hr:x ∉ dE) (h2:cK s=true) (hr2:s ∉ dE):Gd (.mk 6 0 x s [] [])
 | list (ks rs:List Tm) (hk:∀ y,y∈ks→Gd y) (hr:sI aC7 rs):Gd (.mk 7 0 [] [] ks rs)
 | map (ks rs:List Tm) (he:ks.length % 2=0) (hk:∀ y,y∈ks→Gd y) (hr:sI aDo rs):Gd (.mk 8 0 [] [] ks rs)
theorem tM {x:aB} (h:cK x=true):∃ c r,x=c::r∧cK [c]=true∧(c::r).all (fun c=>eM c.toNat)=true∧(c::r).length≤40:=by
 cases x with
 | nil=>simp[cK] at h
 | cons c r =>
  refine ⟨c,r,rfl,?_⟩;simp only[cK,aZ,cG] at h ⊢;simp only[List.all_cons,aZ] at h ⊢
  grind
theorem aHf {x:aB} (h:cK x=true):TokG (cE x):=by
 obtain ⟨c,r,e,h1,h2,h3⟩:=tM h;exact ⟨.inl ⟨rfl,rfl,c,r,e,h1,h2,h3⟩⟩
theorem aC9 {x:aB} (h:x∈cR∨x=[39]∨x=[95]):TokG (aT x):=⟨.inr (.inr (.inr ⟨rfl,rfl,h⟩))⟩
theorem tU {x:aB} (h:cK x=true):x≠[124]∧x≠[93]∧x≠[125]∧x≠[41]∧x≠[45]∧x≠[95]∧x≠[36]:=by
 refine ⟨?_,?_,?_,?_,?_,?_,?_⟩<;>(rintro rfl;revert h;decide)
structure Hd (u:Tok):Prop where
 g:TokG u
 b:u.begins=true
 n1:dF u [124]=false
 n2:dF u [93]=false
 n3:dF u [125]=false
 n4:dF u [41]=false
theorem wK {x:aB} (h:cK x=true) (hr:x ∉ dE∨x=uQ∨x=uF):Hd (cE x):=by
 obtain ⟨h1,h2,h3,h4,_⟩:=tU h;refine ⟨aHf h,?_,?_,?_,?_,?_⟩
 ·unfold Tok.begins cE;simp only[Int.reduceEq,or_self,if_false,if_true,kF,oZ,kW,cG];rcases hr with h|h|h
  ·exact .inl h
  ·exact .inr (.inl h)
  ·exact .inr (.inr h)
 all_goals simp[dF,cE,h1,h2,h3,h4]
theorem wG {x:aB} (h:x∈[[45],[39],[95],[91],[123],[36]]):Hd (aT x):=by
 simp only[eW,List.mem_nil_iff,jU] at h;rcases h with rfl|rfl|rfl|rfl|rfl|rfl<;>exact ⟨aC9 (by decide),by decide,by decide,by decide,by decide,by decide⟩
theorem Gd.hd {t:Tm} (h:Gd t):∃ u P,t.pc=some u::P∧Hd u:=by
 cases h with
 | int n h1 h2 =>
  rw[pc1];by_cases hn:n<0
  ·rw[if_pos hn];exact ⟨_,_,rfl,wG (by decide)⟩
  ·rw[if_neg hn];exact ⟨_,_,rfl,⟨⟨.inr (.inl ⟨rfl,rfl,by simp only;omega,by simp only;omega⟩)⟩,rfl,rfl,rfl,rfl,rfl⟩⟩
 | bool n h =>
  refine ⟨cE (if n=1 then uQ else uF),[],vF .., wK ?_ ?_⟩
  ·split<;>decide
  ·split
   ·exact .inr (.inl rfl)
   ·exact .inr (.inr rfl)
 | text x h=>exact ⟨⟨3,x,0,0,0⟩,[],vL .., ⟨⟨.inr (.inr (.inl ⟨rfl,rfl,h⟩))⟩,rfl,rfl,rfl,rfl,rfl⟩⟩
 | id x h hr=>exact ⟨_,_,vD ..,wG (by decide)⟩
 | app x ks h hr hl hk=>exact ⟨_,_,vC ..,wK h (.inl hr)⟩
 | opn x h =>
  refine ⟨aT x,[],?_,?_⟩
  ·rw[nF,if_pos h]
  ·rcases h with rfl|rfl<;>exact wG (by decide)
 | var x s h hr h2 hr2 =>
  obtain ⟨_,_,_,_,_,h6,h7⟩:=tU h;refine ⟨cE x,[some (aT [58]),some (cE s)],?_,wK h (.inl hr)⟩
  ·rw[nF,if_neg (by simp[h6,h7])]
 | list ks rs hk hr=>exact ⟨_,_,vN ..,wG (by decide)⟩
 | map ks rs he hk hr=>exact ⟨_,_,vK ..,wG (by decide)⟩
def kA (Q:Pc):Prop:=∀ u Q',Q=some u::Q'→u.kind=4∧u.text∈xL
theorem aGq (Q:Pc):kA (none::Q):=fun u Q' h=>by cases h
theorem sB {x:aB} (h:x∈xL) (Q:Pc):kA (some (aT x)::Q):=fun u Q' e=>by cases e;exact ⟨rfl,h⟩
theorem uB {x:aB} (h:cK x=true) {Q:Pc} (hQ:eY Q) (hs:kA Q):eY (some (cE x)::Q) :=
 ⟨aHf h,fun u Q' e _=>hs u Q' e,fun _ e=>absurd e (tU h).2.2.2.2.1,hQ⟩
theorem lX {x:aB} (h:x∈cR∨x=[39]∨x=[95]) (h5:x≠[45]) {Q:Pc} (hQ:eY Q):eY (some (aT x)::Q) :=
 ⟨aC9 h,(fun u Q' _ k=>by rcases k with k|k<;>cases k),fun _ e=>absurd e h5,hQ⟩
theorem uC {u:Tok} {Q:Pc} (hQ:eY (some u::Q)):eY (none::some u::Q):=⟨⟨u,Q,rfl⟩,hQ⟩
theorem aHs {e:Bool} {S:aB} {rs:List Tm} (h:sI S rs) {Q:Pc} (hQ:eY Q) (hs:kA Q):eY (cF e rs++Q)∧(e=false→kA (cF e rs++Q)):=by
 rcases h with rfl|⟨x,rfl,hx,_⟩
 ·exact ⟨hQ,fun _=>hs⟩
 ·have h1:eY (some (aT [124])::none::some (cE x)::Q):=lX (by decide) (by decide) (uC (uB hx hQ hs));cases e with
  | true=>exact ⟨h1,fun h=>by cases h⟩
  | false=>exact ⟨uC h1,fun _=>aGq _⟩
theorem aHk (l:List Tm) (hl:∀ t,t∈l→Gd t) (ih:∀ t,t∈l→∀ Q,eY Q→kA Q→eY (t.pc++Q)):∀ (b:Bool) (Q:Pc),eY Q→kA Q∨l=[]→eY (bV b l++Q)∧(b=true→kA Q→kA (bV b l++Q)):=by
 induction l with
 | nil=>intro b Q hQ hs;exact ⟨by simpa only[bV,bO] using hQ,fun _ h=>by simpa only[bV,bO] using h⟩
 | cons t r ihl =>
  intro b Q hQ hs;have hs':kA Q:=by rcases hs with h|h;exact h;cases h
  obtain ⟨h1,h2⟩:=ihl (fun t ht=>hl t (eQ _ ht)) (fun t ht=>ih t (eQ _ ht)) true Q hQ (.inl hs');have h3:=ih t (eK ..) _ h1 (h2 rfl hs');obtain ⟨u,P,e,_⟩:=(hl t (eK ..)).hd;cases b with
  | false =>
   refine ⟨?_,fun h=>by cases h⟩;simp only[bV,jH,bR,if_false,bO,cQ];exact h3
  | true =>
   simp only[bV,jH,if_true,cQ,bP,bO];refine ⟨lX (by decide) (by decide) ?_,fun _ _=>sB (by decide) _⟩;rw[e,bP] at h3 ⊢;exact uC h3
theorem aPt:∀ (m:Nat) (l:List Tm),l.length≤m→l.length % 2=0→(∀ t,t∈l→Gd t)→(∀ t,t∈l→∀ Q,eY Q→kA Q→eY (t.pc++Q))→∀ (b:Bool) (Q:Pc),eY Q→kA Q∨l=[]→eY (cD b l++Q)∧(b=true→kA Q→kA (cD b l++Q)):=by
 intro m
 induction m with
 | zero =>
  intro l hm he hl ih b Q hQ hs;obtain rfl:=eJ (by omega:l.length=0);exact ⟨by simpa only[cD,bO] using hQ,fun _ h=>by simpa only[cD,bO] using h⟩
 | succ m ihm =>
  intro l hm he hl ih b Q hQ hs;cases l with
  | nil=>exact ⟨by simpa only[cD,bO] using hQ,fun _ h=>by simpa only[cD,bO] using h⟩
  | cons k l =>
  cases l with
  | nil=>simp at he
  | cons v r =>
  have hs':kA Q:=by rcases hs with h|h;exact h;cases h
  obtain ⟨h1,h2⟩:=ihm r (by simp only[aD] at hm;omega) (by simp only[aD] at he;omega) (fun t ht=>hl t (eQ _ (eQ _ ht))) (fun t ht=>ih t (eQ _ (eQ _ ht))) true Q hQ (.inl hs');have h3:=ih v (eQ _ (eK ..)) _ h1 (h2 rfl hs');obtain ⟨u,P,e,_⟩:=(hl v (eQ _ (eK ..))).hd;obtain ⟨u2,P2,e2,_⟩:=(hl k (eK ..)).hd
  have h4:eY (none::some (aT [45,62])::none::(v.pc++(cD true r++Q))):=by
   refine uC (lX (by decide) (by decide) ?_);rw[e,bP] at h3 ⊢;exact uC h3
  have h5:=ih k (eK ..) _ h4 (aGq _);cases b with
  | false =>
   refine ⟨?_,fun h=>by cases h⟩;simp only[cD,jH,bR,if_false,bO,cQ,bP];exact h5
  | true =>
   simp only[cD,jH,if_true,cQ,bP,bO];refine ⟨lX (by decide) (by decide) ?_,fun _ _=>sB (by decide) _⟩;rw[e2,bP] at h5 ⊢;exact uC h5
theorem Gd.ok {t:Tm} (h:Gd t):∀ Q,eY Q→kA Q→eY (t.pc++Q):=by
 induction h with
 | int n h1 h2 =>
  intro Q hQ hs;rw[pc1];by_cases hn:n<0
  ·rw[if_pos hn];refine ⟨aC9 (by decide),(fun u Q' _ k=>by rcases k with k|k<;>cases k),(fun _ _ Q' e=>by cases e),⟨.inr (.inl ⟨rfl,rfl,by simp only;omega,by simp only;omega⟩)⟩,fun u Q' e _=>hs u Q' e,(fun e=>by cases e),hQ⟩
  ·rw[if_neg hn];exact ⟨⟨.inr (.inl ⟨rfl,rfl,by simp only;omega,by simp only;omega⟩)⟩,fun u Q' e _=>hs u Q' e,(fun e=>by cases e),hQ⟩
 | bool n h =>
  intro Q hQ hs;rw[vF];exact uB (x:=if n=1 then uQ else uF) (by split<;>decide) hQ hs
 | text x h =>
  intro Q hQ hs;rw[vL];exact ⟨⟨.inr (.inr (.inl ⟨rfl,rfl,h⟩))⟩,(fun u Q' _ k=>by rcases k with k|k<;>cases k),(fun e=>by cases e),hQ⟩
 | id x h hr =>
  intro Q hQ hs;have hn:cK x=true:=by simp only[nC,aZ] at h;exact h.1.1.1
  rw[vD];exact lX (x:=[39]) (by decide) (by decide) (uB hn hQ hs)
 | app x ks h hr hl hk ih =>
  intro Q hQ hs;have h1:eY (bV false ks++(some (aT [41])::Q)):=(aHk ks hk ih false _ (lX (by decide) (by decide) hQ) (.inl (sB (by decide) _))).1;have h2:=uB h (lX (x:=[40]) (by decide) (by decide) h1) (sB (by decide) _)
  have e:(Tm.mk 5 0 x [] ks []).pc++Q=some (cE x)::some (aT [40])::(bV false ks++(some (aT [41])::Q)):=by
   rw[vC];simp only[bP,cQ,bO]
  rw[e];exact h2
 | opn x h =>
  intro Q hQ hs
  have e:(Tm.mk 6 0 x aAp [] []).pc=[some (aT x)]:=by
   rw[nF,if_pos h]
  rw[e];rcases h with rfl|rfl<;>exact lX (by decide) (by decide) hQ
 | var x s h hr h2 hr2 =>
  intro Q hQ hs;obtain ⟨_,_,_,_,_,h6,h7⟩:=tU h
  have e:(Tm.mk 6 0 x s [] []).pc=[some (cE x),some (aT [58]),some (cE s)]:=by
   rw[nF,if_neg (by simp[h6,h7])]
  rw[e];exact uB h (lX (by decide) (by decide) (uB h2 hQ hs)) (sB (by decide) _)
 | list ks rs hk hr ih =>
  intro Q hQ hs;obtain ⟨h1,h2⟩:=aHs (e:=ks.isEmpty) hr (lX (x:=[93]) (by decide) (by decide) hQ) (sB (by decide) _);have h3:=(aHk ks hk ih false _ h1 (by cases ks with|nil=>exact .inr rfl|cons a b=>exact .inl (h2 rfl))).1
  have e:(Tm.mk 7 0 [] [] ks rs).pc++Q=some (aT [91])::(bV false ks++(cF ks.isEmpty rs++(some (aT [93])::Q))):=by
   rw[vN];simp only[bP,cQ,bO]
  rw[e];exact lX (by decide) (by decide) h3
 | map ks rs he hk hr ih =>
  intro Q hQ hs;obtain ⟨h1,h2⟩:=aHs (e:=ks.isEmpty) hr (lX (x:=[125]) (by decide) (by decide) hQ) (sB (by decide) _);have h3:=(aPt _ ks (bG _) he hk ih false _ h1 (by cases ks with|nil=>exact .inr rfl|cons a b=>exact .inl (h2 rfl))).1
  have e:(Tm.mk 8 0 [] [] ks rs).pc++Q=some (aT [123])::(cD false ks++(cF ks.isEmpty rs++(some (aT [125])::Q))):=by
   rw[vK];simp only[bP,cQ,bO]
  rw[e];exact lX (by decide) (by decide) h3
theorem iZ {s1 s:St} {e:TypeId} {r u:Nat} {a:aB} (h:s1.gel s [r] [u]):(gU s1 e r u a).gel s [r] [u] :=
 wU (eK ..) (aGv (eK ..) h)
theorem jC {s1 s:St} {e:TypeId} {r u:Nat} {a:aB} (h:s1.gel s [r] [u]):(gU s1 e r u a).ge (gU s e r u a) :=
 mB (pI (by rw[gU,aE,if_pos rfl]) (aCj (by rw[gU,getT_setO,bT,if_pos rfl]) (iZ h)))
theorem aCJ (n:Int):(Tm.mk 1 n [] [] [] []).wr=Lib.itoa n:=by
 unfold Tm.wr;rw[pc1];by_cases h:n<0
 ·rw[if_pos h];simp only[aM,Tok.word,aT];unfold Lib.itoa;rw[if_pos h];have e:n.natAbs=(-n).toNat:=by omega
  simp[e];omega
 ·rw[if_neg h];simp only[aM,Tok.word,if_true,iE]
def WrOk (t:Tm):Prop:=∀ (r:Nat) (tk:Option Nat) (acc:aB) (s:St) (KV Kp:St→A→Prop),Bw s 187 r tk acc→acc.length+t.wr.length≤4294967296 →
  (∀ u,(tk=some u∨tk=none∧s.getT u=none)→KV (gU s 187 r u (acc++t.wr)) (.tuple []))→Den cx 140 [.ptr r 0,.agg t.cs] KV Kp s
theorem Bw.set {s:St} {e:TypeId} {r:Nat} {tk:Option Nat} {acc:aB} (h:Bw s e r tk acc) {p:Nat} (hp:s.getO p=none) (o:Ob):Bw (s.setO p o) e r tk acc :=
 ⟨by rw[aE,if_neg (fun c:p=r=>by rw[c,h.ob] at hp;cases hp)];exact h.ob,fun t ht=>by rw[getT_setO];exact h.own t ht,h.nil⟩
theorem Bw.ge {s:St} {e:TypeId} {r u:Nat} {acc:aB} (h:Bw s e r (some u) acc):s.ge (gU s e r u acc) :=
 mB (pI h.ob (aCj (h.own u rfl) (fS _ _ _)))
theorem bX (s:St) (e:TypeId) (r u:Nat) (a:aB) (q:Nat):(gU s e r u a).getO q=if r=q then some (xK e r (some u) a) else s.getO q:=by
 rw[gU,aE,gV]
theorem aJS (n:Int) (h1:-2147483647≤n) (h2:n≤2147483647):WrOk (.mk 1 n [] [] [] []):=by
 intro r tk acc s KV Kp hb hl hk;rw[aCJ] at hl hk;(refine aO func140 [0,1,3,5,6,15,25,35,44,61,76,84,101] ?_;simp only[go_sem,ntmps140,f140]);(intro p hp;try simp only[aL,ne_eq] at hp);simp only[go_sem,hp,bX,Tm.kind,Tm.n,Tm.text,Tm.sort,Tm.kids,Tm.rest,Int.reduceEq,bD];(refine bF (OT.r 0 7) [] ?_;simp only[go_sem,hp,bX,Tm.kind,Tm.n,Tm.text,Tm.sort,Tm.kids,Tm.rest,Int.reduceEq,bD]);refine aFJ n (by omega) (by omega) _ _ _ ?_;simp only[go_sem,hp,bX,Tm.kind,Tm.n,Tm.text,Tm.sort,Tm.kids,Tm.rest,Int.reduceEq,bD];refine iG 187 r tk acc _ _ _ _ (.inr rfl) (hb.set hp _) hl (fun u hu=>?_);simp only[go_sem,hp,bX,Tm.kind,Tm.n,Tm.text,Tm.sort,Tm.kids,Tm.rest,Int.reduceEq,bD];exact aH (hk u hu) (jC (fN hp (fS _ _ _)))
theorem aJy (n:Int):WrOk (.mk 2 n [] [] [] []):=by
 intro r tk acc s KV Kp hb hl hk
 have e:(Tm.mk 2 n [] [] [] []).wr=(if decide (n=1)=true then [116,114,117,101] else [102,97,108,115,101]):=by
  unfold Tm.wr;rw[vF];simp only[aM,Tok.word,cE,iE,cG];rfl
 rw[e] at hl hk;(refine aO func140 [0,1,3,5,6,15,25,35,44,61,76,84,101] ?_;simp only[go_sem,ntmps140,f140]);(intro p hp;try simp only[aL,ne_eq] at hp);simp only[go_sem,hp,bX,Tm.kind,Tm.n,Tm.text,Tm.sort,Tm.kids,Tm.rest,Int.reduceEq,bD];(refine bF (OT.r 0 8) [] ?_;simp only[go_sem,hp,bX,Tm.kind,Tm.n,Tm.text,Tm.sort,Tm.kids,Tm.rest,Int.reduceEq,bD]);refine aKE _ _ _ _ ?_;simp only[go_sem,hp,bX,Tm.kind,Tm.n,Tm.text,Tm.sort,Tm.kids,Tm.rest,Int.reduceEq,bD];refine iG 187 r tk acc _ _ _ _ (.inr rfl) (hb.set hp _) hl (fun u hu=>?_);simp only[go_sem,hp,bX,Tm.kind,Tm.n,Tm.text,Tm.sort,Tm.kids,Tm.rest,Int.reduceEq,bD];exact aH (hk u hu) (jC (fN hp (fS _ _ _)))
theorem aJp (x:aB) (hx:x.length≤200):WrOk (.mk 3 0 x [] [] []):=by
 intro r tk acc s KV Kp hb hl hk
 have e:(Tm.mk 3 0 x [] [] []).wr=[34]++x++[34]:=by
  unfold Tm.wr;rw[vL];simp[aM,Tok.word]
 rw[e] at hl hk;(refine aO func140 [0,1,3,5,6,15,25,35,44,61,76,84,101] ?_;simp only[go_sem,ntmps140,f140]);(intro p hp;try simp only[aL,ne_eq] at hp);simp only[go_sem,hp,bX,Tm.kind,Tm.n,Tm.text,Tm.sort,Tm.kids,Tm.rest,Int.reduceEq,bD];(refine bF (OT.r 0 8) [] ?_;simp only[go_sem,hp,bX,Tm.kind,Tm.n,Tm.text,Tm.sort,Tm.kids,Tm.rest,Int.reduceEq,bD]);have hm:(200:Nat)+4≤maxLen:=by decide
 refine ⟨by first|omega|(simp only[aD,aG];omega),by first|omega|(simp only[aK,aD,aG];omega),?_⟩;refine iG 187 r tk acc _ _ _ _ (.inr rfl) (hb.set hp _) hl (fun u hu=>?_);simp only[go_sem,hp,bX,Tm.kind,Tm.n,Tm.text,Tm.sort,Tm.kids,Tm.rest,Int.reduceEq,bD];exact aH (hk u hu) (jC (fN hp (fS _ _ _)))
theorem aLa (x:aB) (hx:x.length≤200):WrOk (.mk 4 0 x [] [] []):=by
 intro r tk acc s KV Kp hb hl hk
 have e:(Tm.mk 4 0 x [] [] []).wr=[39]++x:=by
  unfold Tm.wr;rw[vD];simp[aM,Tok.word,aT,cE]
 rw[e] at hl hk;(refine aO func140 [0,1,3,5,6,15,25,35,44,61,76,84,101] ?_;simp only[go_sem,ntmps140,f140]);(intro p hp;try simp only[aL,ne_eq] at hp);simp only[go_sem,hp,bX,Tm.kind,Tm.n,Tm.text,Tm.sort,Tm.kids,Tm.rest,Int.reduceEq,bD];(refine bF (OT.r 0 7) [] ?_;simp only[go_sem,hp,bX,Tm.kind,Tm.n,Tm.text,Tm.sort,Tm.kids,Tm.rest,Int.reduceEq,bD]);have hm:(200:Nat)+4≤maxLen:=by decide
 refine ⟨by first|omega|(simp only[aD,aG];omega),?_⟩;refine iG 187 r tk acc _ _ _ _ (.inr rfl) (hb.set hp _) hl (fun u hu=>?_);simp only[go_sem,hp,bX,Tm.kind,Tm.n,Tm.text,Tm.sort,Tm.kids,Tm.rest,Int.reduceEq,bD];exact aH (hk u hu) (jC (fN hp (fS _ _ _)))
theorem aKm (x:aB) (hx:x=[95]∨x=[36]):WrOk (.mk 6 0 x aAp [] []):=by
 intro r tk acc s KV Kp hb hl hk
 have e:(Tm.mk 6 0 x aAp [] []).wr=x:=by
  unfold Tm.wr;rw[nF,if_pos hx];simp[aM,Tok.word,aT]
 rw[e] at hl hk;(refine aO func140 [0,1,3,5,6,15,25,35,44,61,76,84,101] ?_;simp only[go_sem,ntmps140,f140]);(intro p hp;try simp only[aL,ne_eq] at hp);simp only[go_sem,hp,bX,Tm.kind,Tm.n,Tm.text,Tm.sort,Tm.kids,Tm.rest,Int.reduceEq,bD];(refine bF (OT.r 0 6) [] ?_;simp only[go_sem,hp,bX,Tm.kind,Tm.n,Tm.text,Tm.sort,Tm.kids,Tm.rest,Int.reduceEq,bD]);refine iG 187 r tk acc _ _ _ _ (.inr rfl) (hb.set hp _) hl (fun u hu=>?_);have hp2:=bN hb.ob hp;simp only[go_sem,hp,bX,Tm.kind,Tm.n,Tm.text,Tm.sort,Tm.kids,Tm.rest,Int.reduceEq,bD,hp2];rcases hx with rfl|rfl
 ·(try simp only[go_sem,hp,bX,Tm.kind,Tm.n,Tm.text,Tm.sort,Tm.kids,Tm.rest,Int.reduceEq,bD,hp2])
  exact aH (hk u hu) (jC (fN hp (fS _ _ _)))
 ·have d1:decide (([36]:aB)=[95])=false:=by decide
  simp only[go_sem,hp,bX,Tm.kind,Tm.n,Tm.text,Tm.sort,Tm.kids,Tm.rest,Int.reduceEq,bD,hp2,d1];exact aH (hk u hu) (jC (fN hp (fS _ _ _)))
theorem aKr (x y:aB) (hx:cK x=true) (hy:cK y=true):WrOk (.mk 6 0 x y [] []):=by
 intro r tk acc s KV Kp hb hl hk;obtain ⟨_,_,_,_,_,hx1,hx2⟩:=tU hx
 have e:(Tm.mk 6 0 x y [] []).wr=x++([58]++y):=by
  unfold Tm.wr;rw[nF,if_neg (by simp[hx1,hx2])];simp[aM,Tok.word,aT,cE]
 have ly:y.length≤40:=by obtain ⟨c,r,rfl,_,_,h⟩:=tM hy;exact h
 rw[e] at hl hk;simp only[aK,aD,aG] at hl;have d1:decide (x=[95])=false:=fE hx1;have d2:decide (x=[36])=false:=fE hx2;(refine aO func140 [0,1,3,5,6,15,25,35,44,61,76,84,101] ?_;simp only[go_sem,ntmps140,f140]);(intro p hp;try simp only[aL,ne_eq] at hp);simp only[go_sem,hp,bX,Tm.kind,Tm.n,Tm.text,Tm.sort,Tm.kids,Tm.rest,Int.reduceEq,bD];(refine bF (OT.r 0 6) [] ?_;simp only[go_sem,hp,bX,Tm.kind,Tm.n,Tm.text,Tm.sort,Tm.kids,Tm.rest,Int.reduceEq,bD]);refine iG 187 r tk acc _ _ _ _ (.inr rfl) (hb.set hp _) (by omega) (fun u hu=>?_);have hp2:=bN hb.ob hp;simp only[go_sem,hp,bX,Tm.kind,Tm.n,Tm.text,Tm.sort,Tm.kids,Tm.rest,Int.reduceEq,bD,hp2,d1,d2];(refine bF (OT.r 0 7) [] ?_;simp only[go_sem,hp,bX,Tm.kind,Tm.n,Tm.text,Tm.sort,Tm.kids,Tm.rest,Int.reduceEq,bD,hp2]);have hm:(200:Nat)+4≤maxLen:=by decide
 refine ⟨by first|omega|(simp only[aD,aG];omega),?_⟩;refine iG 187 r (some u) _ _ _ _ _ (.inr rfl) (gO ..) (by simp only[aK,aD,aG];omega) (fun v hv=>?_);obtain rfl:u=v:=by rcases hv with h|⟨h,_⟩<;>cases h;rfl
 simp only[go_sem,hp,bX,Tm.kind,Tm.n,Tm.text,Tm.sort,Tm.kids,Tm.rest,Int.reduceEq,bD,hp2];rw[cQ];exact aH (hk u hu) (jC (iZ (fN hp (fS _ _ _))))
theorem aCm (x:Tm):∀ (l:List Tm) (b:Bool),aM (bV b (l++[x]))=aM (bV b l)++((if b=true∨l≠[] then [44,32] else [])++x.wr)
 | [],b=>by cases b<;>simp[bV,jH,aM,jV,Tm.wr,Tok.word,aT]
 | t::r,b=>by
  simp only[bP,bV,jV];rw[aCm x r true];simp
theorem aK4 {l:List Tm} {i:Nat} {x:Tm} (h:l[i]?=some x):aM (bV false (l.take (i+1)))=aM (bV false (l.take i))++((if 0<i then [44,32] else [])++x.wr):=by
 rw[lQ,h];have e:=aCm x (l.take i) false;rw[show l.take i++(some x).toList=l.take i++[x] from rfl,e];have hi:i<l.length:=(dH.1 h).1;congr 2;by_cases h0:0<i
 ·rw[if_pos h0,if_pos (.inr (fun e=>by rcases List.take_eq_nil_iff.1 e with e|e;exact absurd h0 (by omega);(subst e;simp at hi)))]
 ·obtain rfl:i=0:=by omega
  simp
theorem aKP {l:List Tm} {i:Nat} (hi:i≤l.length):(aM (bV false (l.take i))).length≤(aM (bV false l)).length:=by
 have:∀ (k:Nat) (a b:List Tm),(aM (bV false a)).length≤(aM (bV false (a++b.take k))).length:=by
  intro k
  induction k with
  | zero=>intro a b;simp
  | succ k ih =>
   intro a b;cases b with
   | nil=>simp
   | cons x r =>
    have h1:=ih (a++[x]) r;rw[aCm] at h1;simp only[aK,cQ,bP,bO,List.take_succ_cons] at h1 ⊢;omega
 have h:=this (l.drop i).length (l.take i) (l.drop i)
 rwa[List.take_length,List.take_append_drop] at h
theorem aEh (l:List Tm) (ih:∀ t,t∈l→WrOk t) (r u:Nat) (acc:aB) (s:St) (KV Kp:St→A→Prop) (hb:Bw s 187 r (some u) acc) (hl:acc.length+(aM (bV false l)).length≤4294967296)
    (hk:KV (gU s 187 r u (acc++aM (bV false l))) (.tuple [])):Den cx 212 [.ptr r 0,.list none (l.map Tm.enc)] KV Kp s:=by
  refine tZ fun hz1=>?_
  have hlw:=hz1 _ (eQ _ (eK ..));(refine aO func212 [0,1,4,5,6,7,8,9,14] ?_;simp only[go_sem,ntmps212,f212])
  refine Ex.loop (ι:=Nat) (fun i=>[(0,.ptr r 0),(6,.list none (l.map Tm.enc)),(7,.int .i64 (l.length:Nat)),(8,.int .i64 (i:Nat))])
    (fun i=>gU s 187 r u (acc++aM (bV false (l.take i)))) (fun i=>i≤l.length) (fun i=>l.length-i) 0 (bS _) ?_ ?_ ?_
  · (simp only[go_sem];try exact rfl)
  · simpa [bV,aM] using hb.ge
  · intro i hi
    refine cL (V:=[0,1,4,5,6,7,8,9,14]) _ _ _ _ ?_;simp only[go_sem];(refine bA (fun h=>?_) (fun h=>?_))<;>simp only[go_sem,h]
    · have hix:i<l.length:=by simpa using h
      clear h;obtain ⟨x,hx⟩:∃ a,l[i]?=some a:=⟨_,bK hix⟩
      have hl2:=aKP (l:=l) (i:=i+1) hix;have htk:=aK4 hx;rw[htk] at hl2;simp only[aK] at hl2;have hacc:acc++aM (bV false (l.take (i+1)))=(acc++aM (bV false (l.take i)))++((if 0<i then [44,32] else [])++x.wr):=by rw[htk,cQ]
      have hl3:(acc++aM (bV false (l.take i))).length+((if 0<i then [44,32] else []:aB).length+x.wr.length)≤4294967296:=by rw[aK];omega
      have hxm:x∈l:=dP hx;generalize acc++aM (bV false (l.take i))=B0 at hacc hl3 ⊢;have w1:=hlw.wrap (i:=i) (by simpa using hix);simp only[go_sem,hx,hix];(intro b5 hb5;try simp only[aL,ne_eq] at hb5)
      have hb5':s.getO b5=none:=by
        have:=hb5;rw[bX] at this;split at this
        · cases this
        · exact this
      have d0:decide ((0:Int)<(i:Int))=decide (0<i):=by rw[fY];omega
      cases h0:decide (0<i) with
      | false =>
        rw[if_neg (by simpa using h0),bO] at hacc;rw[if_neg (by simpa using h0)] at hl3;simp only[go_sem,hx,hix,hb5,bX,d0,h0];refine ih x hxm r (some u) B0 _ _ _ ((gO ..).set hb5 _) (by simpa using hl3) (fun v hv=>?_);obtain rfl:u=v:=by rcases hv with h|⟨h,_⟩<;>cases h;rfl
        simp only[go_sem];refine ⟨i+1,hix,by omega,by simp only[go_sem,w1];try rfl,?_⟩;rw[hacc];exact jC (fN hb5' (iZ (fS _ _ _)))
      | true =>
        rw[if_pos (by simpa using h0)] at hacc hl3;simp only[aD,aG] at hl3;simp only[go_sem,hx,hix,hb5,bX,d0,h0];refine iG 187 r (some u) B0 _ _ _ _ (.inr rfl) ((gO ..).set hb5 _) (by simp only[aD,aG];omega) (fun v hv=>?_);obtain rfl:u=v:=by rcases hv with h|⟨h,_⟩<;>cases h;rfl
        have hp2:=bN hb.ob hb5';simp only[go_sem,bX,hp2];refine ih x hxm r (some u) _ _ _ _ (gO ..) (by simp only[aK,aD,aG];omega) (fun v hv=>?_);obtain rfl:u=v:=by rcases hv with h|⟨h,_⟩<;>cases h;rfl
        simp only[go_sem];refine ⟨i+1,hix,by omega,by simp only[go_sem,w1];try rfl,?_⟩;rw[hacc,cQ];exact jC (iZ (fN hb5' (iZ (fS _ _ _))))
    · have hii : i = l.length := by have : ¬ i < l.length := by simpa using h
                                    omega
      subst hii;rw[List.take_length];exact aY hk
end Go.AV
