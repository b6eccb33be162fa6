/-
  Of DefStrings.
-/
import Derived.Test.YtamikhobdffnfaaGreatDoorSt20
set_option linter.all false
set_option maxRecDepth 99999
set_option maxHeartbeats 0
namespace Go.AV
open Go Go.Proofs Tryz
theorem aCk (e:Bool) (x:Tm):∀ l:List Tm,aM (cF e (l++[x]))=aM (cF e l)++((if e=true then [] else [32])++([124,32]++x.text))
 | []=>by cases e<;>simp[cF,aM,aT,cE,Tok.word]
 | y::r=>by
  have:=aCk e x r;simp only[bP,cF,jV,cQ,aM] at this ⊢;rw[this]
theorem aKU {e:Bool} {l:List Tm} {i:Nat} {x:Tm} (h:l[i]?=some x):aM (cF e (l.take (i+1)))=aM (cF e (l.take i))++((if e=true then [] else [32])++([124,32]++x.text)):=by
 rw[lQ,h];exact aCk e x (l.take i)
theorem aLK {e:Bool} {l:List Tm} {i:Nat}:(aM (cF e (l.take i))).length≤(aM (cF e l)).length:=by
 have:∀ (k:Nat) (a b:List Tm),(aM (cF e a)).length≤(aM (cF e (a++b.take k))).length:=by
  intro k
  induction k with
  | zero=>intro a b;simp
  | succ k ih =>
   intro a b;cases b with
   | nil=>simp
   | cons x r =>
    have h1:=ih (a++[x]) r;rw[aCk] at h1;simp only[aK,cQ,bP,bO,List.take_succ_cons] at h1 ⊢;omega
 have h:=this (l.drop i).length (l.take i) (l.drop i)
 rwa[List.take_length,List.take_append_drop] at h
theorem aKM {s:St} {e:TypeId} {r u:Nat} {a:aB} {q:Nat} (h:(gU s e r u a).getO q=none):(¬ r=q∧¬ q=r)∧s.getO q=none:=by
 rw[bX] at h;split at h
 ·cases h
 ·rename_i hn;exact ⟨⟨hn,fun e=>hn e.symm⟩,h⟩
theorem aKs {s:St} {p q:Nat} {o:Ob} (h:(s.setO p o).getO q=none):(¬ p=q∧¬ q=p)∧s.getO q=none:=by
 rw[aE] at h;split at h
 ·cases h
 ·rename_i hn;exact ⟨⟨hn,fun e=>hn e.symm⟩,h⟩
theorem aDY (t:Tm) (r u:Nat) (acc:aB) (s:St) (KV Kp:St→A→Prop) (hb:Bw s 187 r (some u) acc) (hl:acc.length+(aM (cF t.kids.isEmpty t.rest)).length≤4294967296)
    (hk:KV (gU s 187 r u (acc++aM (cF t.kids.isEmpty t.rest))) (.tuple [])):Den cx 213 [.ptr r 0,.agg t.cs] KV Kp s:=by
  refine tZ fun hz1=>?_
  have hza:=hz1 _ (eQ _ (eK ..));have hlw:Rlz (.list none (t.rest.map Tm.enc)):=hza.cell (by simp[Tm.cs])
  have d1:decide ((0:Int)<(t.kids.length:Int))=!t.kids.isEmpty:=by
    cases t.kids with
    | nil=>rfl
    | cons x l=>simp
  generalize t.kids.isEmpty=em at hk hl d1;(refine aO func213 [0,1,3,5,7,8,9,10,16] ?_;simp only[go_sem,ntmps213,f213]);(intro p hp;try simp only[aL,ne_eq] at hp);have hp2:=bN hb.ob hp;simp only[go_sem,hp]
  refine Ex.loop (ι:=Nat) (fun i=>[(0,.ptr r 0),(3,.ptr p 0),(7,.list none (t.rest.map Tm.enc)),(8,.int .i64 (t.rest.length:Nat)),(9,.int .i64 (i:Nat))])
    (fun i=>gU (s.setO p (.cells 43 t.cs)) 187 r u (acc++aM (cF em (t.rest.take i)))) (fun i=>i≤t.rest.length) (fun i=>t.rest.length-i) 0 (bS _) ?_ ?_ ?_
  · (simp only[go_sem];try exact rfl)
  · rw[List.take_zero,show aM (cF em [])=[] from rfl,iE]
    exact (hb.set hp _).ge
  · intro i hi
    refine cL (V:=[0,1,3,5,7,8,9,10,16]) _ _ _ _ ?_;simp only[go_sem];(refine bA (fun h=>?_) (fun h=>?_))<;>simp only[go_sem,h]
    · have hix:i<t.rest.length:=by simpa using h
      clear h;obtain ⟨x,hx⟩:∃ a,t.rest[i]?=some a:=⟨_,bK hix⟩
      have hl2:=aLK (e:=em) (l:=t.rest) (i:=i+1);have htk:=aKU (e:=em) hx;rw[htk] at hl2;simp only[aK,aD,aG] at hl2;have hacc:acc++aM (cF em (t.rest.take (i+1)))=(acc++aM (cF em (t.rest.take i)))++((if em=true then [] else [32])++([124,32]++x.text)):=by rw[htk,cQ]
      have hl3:(acc++aM (cF em (t.rest.take i))).length+((if em=true then [] else [32]:aB).length+(2+x.text.length))≤4294967296:=by rw[aK];omega
      generalize acc++aM (cF em (t.rest.take i))=B0 at hacc hl3 ⊢;have w1:=hlw.wrap (i:=i) (by simpa using hix);simp only[go_sem,hx,hix];(intro b5 hb5;try simp only[aL,ne_eq] at hb5);obtain ⟨n1,f1⟩:=aKM hb5;obtain ⟨n2,f2⟩:=aKs f1;simp only[go_sem,hx,hix,hb5,bX,hp2,n1,n2,d1];cases em with
      | true =>
        simp only[if_true,bO,aG] at hacc hl3;simp only[go_sem,hb5,bX,hp2,n1,n2];(refine bF (OT.r 0 7) [] ?_;simp only[go_sem,hb5,bX,hp2,n1,n2]);have hm:(4294967296:Nat)≤maxLen:=by decide
        refine ⟨by omega,?_⟩;refine iG 187 r (some u) _ _ _ _ _ (.inr rfl) ((gO ..).set hb5 _) (by simp only[aD];omega) (fun v hv=>?_);obtain rfl:u=v:=by rcases hv with h|⟨h,_⟩<;>cases h;rfl
        simp only[go_sem,hb5,bX,hp2,n1,n2];refine ⟨i+1,hix,by omega,by simp only[go_sem,w1];try rfl,?_⟩;rw[hacc];exact jC (fN f1 (iZ (fS _ _ _)))
      | false =>
        simp only[bR,if_false,aD,aG] at hacc hl3;simp only[go_sem,hb5,bX,hp2,n1,n2];refine iG 187 r (some u) B0 _ _ _ _ (.inr rfl) ((gO ..).set hb5 _) (by simp only[aD,aG];omega) (fun v hv=>?_);obtain rfl:u=v:=by rcases hv with h|⟨h,_⟩<;>cases h;rfl
        simp only[go_sem,hb5,bX,hp2,n1,n2];(refine bF (OT.r 0 7) [] ?_;simp only[go_sem,hb5,bX,hp2,n1,n2]);have hm:(4294967296:Nat)≤maxLen:=by decide
        refine ⟨by omega,?_⟩;refine iG 187 r (some u) _ _ _ _ _ (.inr rfl) (gO ..) (by first|omega|(simp only[aK,aD,aG];omega)) (fun v hv=>?_);obtain rfl:u=v:=by rcases hv with h|⟨h,_⟩<;>cases h;rfl
        simp only[go_sem,hb5,bX,hp2,n1,n2];refine ⟨i+1,hix,by omega,by simp only[go_sem,w1];try rfl,?_⟩;rw[hacc,← cQ];exact jC (iZ (fN f1 (iZ (fS _ _ _))))
    · have hii : i = t.rest.length := by have : ¬ i < t.rest.length := by simpa using h
                                         omega
      subst hii;rw[List.take_length];exact aH hk (jC (fN hp (fS _ _ _)))
theorem aFL (k v:Tm):∀ (m:Nat) (l:List Tm) (b:Bool),l.length≤m→l.length % 2=0→aM (cD b (l++[k,v]))=aM (cD b l)++((if b=true∨l≠[] then [44,32] else [])++(k.wr++([32,45,62,32]++v.wr)))
 | _,[],b,_,_=>by cases b<;>simp[cD,jH,aM,jV,Tm.wr,Tok.word,aT]
 | _,[_],b,_,h=>by simp at h
 | 0,x::y::r,b,h,_=>by simp at h
 | m+1,x::y::r,b,h,he=>by
  have:=aFL k v m r true (by simp only[aD] at h;omega) (by simp only[aD] at he;omega);simp only[bP,cD,jV,aM] at this ⊢;rw[this];simp
theorem aFt {l:List Tm} {i:Nat} {x y:Tm} (he:i % 2=0) (hx:l[i]?=some x) (hy:l[i+1]?=some y) :
  aM (cD false (l.take (i+2)))=aM (cD false (l.take i))++((if 0<i then [44,32] else [])++(x.wr++([32,45,62,32]++y.wr))):=by
 have hi:i<l.length:=(dH.1 hx).1;rw[lQ,lQ,hx,hy];have e:=aFL x y (l.take i).length (l.take i) false (bG _) (by rw[eL,aBj (by omega)];exact he);rw[show l.take i++(some x).toList++(some y).toList=l.take i++[x,y] by simp,e];congr 2;by_cases h0:0<i
 ·rw[if_pos h0,if_pos (.inr (fun e=>by rcases List.take_eq_nil_iff.1 e with e|e;exact absurd h0 (by omega);(subst e;simp at hi)))]
 ·obtain rfl:i=0:=by omega
  simp
theorem aFf {l:List Tm}:∀ (n i:Nat),l.length=i+2 * n→i % 2=0→(aM (cD false (l.take i))).length≤(aM (cD false l)).length
 | 0,i,h,_=>by rw[gW (by omega)];exact bG _
 | n+1,i,h,he=>by
  have h1:=aFf (l:=l) n (i+2) (by omega) (by omega);obtain ⟨x,hx⟩:∃ a,l[i]?=some a:=⟨_,bK (by omega)⟩
  obtain ⟨y,hy⟩:∃ a,l[i+1]?=some a:=⟨_,bK (by omega)⟩
  rw[aFt he hx hy] at h1;simp only[aK] at h1;omega
theorem aIf (t:Tm) (ih:∀ x,x∈t.kids→WrOk x) (he:t.kids.length % 2=0) (r:Nat) (tk:Option Nat) (acc:aB) (s:St) (KV Kp:St→A→Prop) (hb:Bw s 187 r tk acc)
    (hl:acc.length+(123::(aM (cD false t.kids)++(aM (cF t.kids.isEmpty t.rest)++[125]))).length≤4294967296)
    (hk:∀ u,(tk=some u∨tk=none∧s.getT u=none)→KV (gU s 187 r u (acc++(123::(aM (cD false t.kids)++(aM (cF t.kids.isEmpty t.rest)++[125]))))) (.tuple [])):Den cx 214 [.ptr r 0,.agg t.cs] KV Kp s:=by
  refine tZ fun hz1=>?_
  have hza:=hz1 _ (eQ _ (eK ..));have hlw:Rlz (.list none (t.kids.map Tm.enc)):=hza.cell (by simp[Tm.cs]);simp only[aK,aD,aG] at hl;(refine aO func214 [0,1,3,4,13,17] ?_;simp only[go_sem,ntmps214,f214]);(intro p hp;try simp only[aL,ne_eq] at hp);have hp2:=bN hb.ob hp;simp only[go_sem,hp];refine iG 187 r tk acc _ _ _ _ (.inr rfl) (hb.set hp _) (by simp only[aD,aG];omega) (fun u hu=>?_);simp only[go_sem,hp,bX,hp2]
  refine Ex.loop (ι:=Nat) (fun i=>[(0,.ptr r 0),(3,.ptr p 0),(4,.int .i64 (i:Nat))])
    (fun i=>gU (s.setO p (.cells 43 t.cs)) 187 r u (acc++123::aM (cD false (t.kids.take i)))) (fun i=>i≤t.kids.length∧i % 2=0) (fun i=>t.kids.length-i) 0 ⟨bS _,rfl⟩ ?_ ?_ ?_
  · (simp only[go_sem];try exact rfl)
  · rw[List.take_zero,show aM (cD false [])=[] from rfl]
    exact bW _
  · rintro i ⟨hi,hev⟩
    refine cL (V:=[0,1,3,4,13,17]) _ _ _ _ ?_;simp only[go_sem,bX,hp2];(refine bA (fun h=>?_) (fun h=>?_))<;>simp only[go_sem,h,bX,hp2]
    · have hix:i<t.kids.length:=by simpa using h
      clear h;have hix1:i+1<t.kids.length:=by omega
      obtain ⟨x,hx⟩:∃ a,t.kids[i]?=some a:=⟨_,bK hix⟩
      obtain ⟨y,hy⟩:∃ a,t.kids[i+1]?=some a:=⟨_,bK hix1⟩
      have hxm:x∈t.kids:=dP hx;have hym:y∈t.kids:=dP hy;have hl2:=aFf (l:=t.kids) ((t.kids.length-(i+2)) / 2) (i+2) (by omega) (by omega);have htk:=aFt hev hx hy;rw[htk] at hl2;simp only[aK,aD,aG] at hl2;have hacc:acc++123::aM (cD false (t.kids.take (i+2)))=(acc++123::aM (cD false (t.kids.take i)))++((if 0<i then [44,32] else [])++(x.wr++([32,45,62,32]++y.wr))):=by rw[htk];simp only[cQ,bP]
      have hl3:(acc++123::aM (cD false (t.kids.take i))).length+((if 0<i then [44,32] else []:aB).length+(x.wr.length+(4+y.wr.length)))≤4294967296:=by
        simp only[aK,aD,aG];omega
      generalize acc++123::aM (cD false (t.kids.take i))=B0 at hacc hl3 ⊢;have hl47:=hlw.len;rw[aS] at hl47;unfold maxLen at hl47;have w1:IntKind.i64.wrap ((i:Int)+1)=((i+1:Nat):Int):=cJ i (by omega);have w2:IntKind.i64.wrap ((i:Int)+2)=((i+2:Nat):Int):=by rw[fU _ (by omega) (by omega)];omega
      have d0:decide ((0:Int)<(i:Int))=decide (0<i):=by rw[fY];omega
      cases h0:decide (0<i) with
      | false =>
        rw[if_neg (by simpa using h0),bO] at hacc;rw[if_neg (by simpa using h0)] at hl3;simp only[aG] at hl3;simp only[go_sem,hx,hix,bX,hp2,d0,h0];refine ih x hxm r (some u) _ _ _ _ (gO ..) (by first|omega|(simp only[aK,aD,aG];omega)) (fun v hv=>?_);obtain rfl:u=v:=by rcases hv with h|⟨h,_⟩<;>cases h;rfl
        simp only[go_sem,hx,hy,hix,hix1,bX,hp2,w1,w2];refine iG 187 r (some u) _ _ _ _ _ (.inr rfl) (gO ..) (by first|omega|(simp only[aK,aD,aG];omega)) (fun v hv=>?_);obtain rfl:u=v:=by rcases hv with h|⟨h,_⟩<;>cases h;rfl
        simp only[go_sem,hx,hy,hix,hix1,bX,hp2,w1,w2];refine ih y hym r (some u) _ _ _ _ (gO ..) (by first|omega|(simp only[aK,aD,aG];omega)) (fun v hv=>?_);obtain rfl:u=v:=by rcases hv with h|⟨h,_⟩<;>cases h;rfl
        (try simp only[go_sem,hx,hy,hix,hix1,bX,hp2,w1,w2])
        refine ⟨i+2,⟨by omega,by omega⟩,by omega,by first|rfl|(simp only[go_sem,w2];try rfl),?_⟩;rw[hacc];simp only[cQ,bP,bO];exact jC (iZ (iZ (iZ (fS _ _ _))))
      | true =>
        rw[if_pos (by simpa using h0)] at hacc hl3;simp only[aD,aG] at hl3;simp only[go_sem,hx,hix,bX,hp2,d0,h0];refine iG 187 r (some u) _ _ _ _ _ (.inr rfl) (gO ..) (by first|omega|(simp only[aK,aD,aG];omega)) (fun v hv=>?_);obtain rfl:u=v:=by rcases hv with h|⟨h,_⟩<;>cases h;rfl
        simp only[go_sem,hx,hy,hix,hix1,bX,hp2,w1,w2];refine ih x hxm r (some u) _ _ _ _ (gO ..) (by first|omega|(simp only[aK,aD,aG];omega)) (fun v hv=>?_);obtain rfl:u=v:=by rcases hv with h|⟨h,_⟩<;>cases h;rfl
        simp only[go_sem,hx,hy,hix,hix1,bX,hp2,w1,w2];refine iG 187 r (some u) _ _ _ _ _ (.inr rfl) (gO ..) (by first|omega|(simp only[aK,aD,aG];omega)) (fun v hv=>?_);obtain rfl:u=v:=by rcases hv with h|⟨h,_⟩<;>cases h;rfl
        simp only[go_sem,hx,hy,hix,hix1,bX,hp2,w1,w2];refine ih y hym r (some u) _ _ _ _ (gO ..) (by first|omega|(simp only[aK,aD,aG];omega)) (fun v hv=>?_);obtain rfl:u=v:=by rcases hv with h|⟨h,_⟩<;>cases h;rfl
        (try simp only[go_sem,hx,hy,hix,hix1,bX,hp2,w1,w2])
        refine ⟨i+2,⟨by omega,by omega⟩,by omega,by first|rfl|(simp only[go_sem,w2];try rfl),?_⟩;rw[hacc];simp only[cQ,bP,bO];exact jC (iZ (iZ (iZ (iZ (fS _ _ _)))))
    · have hii : i = t.kids.length := by have : ¬ i < t.kids.length := by simpa using h
                                         omega
      subst hii;rw[List.take_length];refine aDY t r u _ _ _ _ (gO ..) (by first|omega|(simp only[aK,aD,aG];omega)) ?_;simp only[go_sem,bX,hp2];refine iG 187 r (some u) _ _ _ _ _ (.inr rfl) (gO ..) (by first|omega|(simp only[aK,aD,aG];omega)) (fun v hv=>?_);obtain rfl:u=v:=by rcases hv with h|⟨h,_⟩<;>cases h;rfl
      simp only[go_sem];have hk2:=hk u hu;simp only[cQ,bP,bO] at hk2 ⊢;refine aH hk2 ?_;(refine jC ?_;repeat (first|exact fS _ _ _|refine iZ ?_|refine fN hp ?_))
theorem aKq (x:aB) (ks:List Tm) (hx:x.length≤40) (ih:∀ t,t∈ks→WrOk t):WrOk (.mk 5 0 x [] ks []):=by
 intro r tk acc s KV Kp hb hl hk
 have e:(Tm.mk 5 0 x [] ks []).wr=x++[40]++(aM (bV false ks)++[41]):=by
  unfold Tm.wr;rw[vC];simp[aM,jV,Tok.word,aT,cE]
 rw[e] at hl hk;simp only[aK,aD,aG] at hl;(refine aO func140 [0,1,3,5,6,15,25,35,44,61,76,84,101] ?_;simp only[go_sem,ntmps140,f140]);(intro p hp;try simp only[aL,ne_eq] at hp);have hp2:=bN hb.ob hp;simp only[go_sem,hp,bX,Tm.kind,Tm.n,Tm.text,Tm.sort,Tm.kids,Tm.rest,Int.reduceEq,bD,hp2];(refine bF (OT.r 0 7) [] ?_;simp only[go_sem,hp,bX,Tm.kind,Tm.n,Tm.text,Tm.sort,Tm.kids,Tm.rest,Int.reduceEq,bD,hp2]);have hm:(200:Nat)+4≤maxLen:=by decide
 refine ⟨by first|omega|(simp only[aD,aG];omega),?_⟩;refine iG 187 r tk acc _ _ _ _ (.inr rfl) (hb.set hp _) (by first|omega|(simp only[aK,aD,aG];omega)) (fun u hu=>?_);simp only[go_sem,hp,bX,Tm.kind,Tm.n,Tm.text,Tm.sort,Tm.kids,Tm.rest,Int.reduceEq,bD,hp2];refine aEh ks ih r u _ _ _ _ (gO ..) (by first|omega|(simp only[aK,aD,aG];omega)) ?_;simp only[go_sem,hp,bX,Tm.kind,Tm.n,Tm.text,Tm.sort,Tm.kids,Tm.rest,Int.reduceEq,bD,hp2];refine iG 187 r (some u) _ _ _ _ _ (.inr rfl) (gO ..) (by first|omega|(simp only[aK,aD,aG];omega)) (fun v hv=>?_);obtain rfl:u=v:=by rcases hv with h|⟨h,_⟩<;>cases h;rfl
 simp only[go_sem];have hk2:=hk u hu;simp only[cQ,bP,bO] at hk2 ⊢;refine aH hk2 ?_;(refine jC ?_;repeat (first|exact fS _ _ _|refine iZ ?_|refine fN hp ?_))
theorem aJu (ks rs:List Tm) (ih:∀ t,t∈ks→WrOk t):WrOk (.mk 7 0 [] [] ks rs):=by
 intro r tk acc s KV Kp hb hl hk
 have e:(Tm.mk 7 0 [] [] ks rs).wr=[91]++(aM (bV false ks)++(aM (cF ks.isEmpty rs)++[93])):=by
  unfold Tm.wr;rw[vN];simp[aM,jV,Tok.word,aT,cE]
 rw[e] at hl hk;simp only[aK,aD,aG] at hl;(refine aO func140 [0,1,3,5,6,15,25,35,44,61,76,84,101] ?_;simp only[go_sem,ntmps140,f140]);(intro p hp;try simp only[aL,ne_eq] at hp);have hp2:=bN hb.ob hp;simp only[go_sem,hp,bX,Tm.kind,Tm.n,Tm.text,Tm.sort,Tm.kids,Tm.rest,Int.reduceEq,bD,hp2];refine iG 187 r tk acc _ _ _ _ (.inr rfl) (hb.set hp _) (by first|omega|(simp only[aK,aD,aG];omega)) (fun u hu=>?_);simp only[go_sem,hp,bX,Tm.kind,Tm.n,Tm.text,Tm.sort,Tm.kids,Tm.rest,Int.reduceEq,bD,hp2];refine aEh ks ih r u _ _ _ _ (gO ..) (by first|omega|(simp only[aK,aD,aG];omega)) ?_;simp only[go_sem,hp,bX,Tm.kind,Tm.n,Tm.text,Tm.sort,Tm.kids,Tm.rest,Int.reduceEq,bD,hp2];refine aDY (.mk 7 0 [] [] ks rs) r u _ _ _ _ (gO ..) (by simp only[Tm.kids,Tm.rest,aK,aD,aG];omega) ?_;simp only[go_sem,hp,bX,Tm.kind,Tm.n,Tm.text,Tm.sort,Tm.kids,Tm.rest,Int.reduceEq,bD,hp2];refine iG 187 r (some u) _ _ _ _ _ (.inr rfl) (gO ..) (by first|omega|(simp only[aK,aD,aG];omega)) (fun v hv=>?_);obtain rfl:u=v:=by rcases hv with h|⟨h,_⟩<;>cases h;rfl
 simp only[go_sem];have hk2:=hk u hu;simp only[cQ,bP,bO] at hk2 ⊢;refine aH hk2 ?_;(refine jC ?_;repeat (first|exact fS _ _ _|refine iZ ?_|refine fN hp ?_))
theorem aJ2 (ks rs:List Tm) (he:ks.length % 2=0) (ih:∀ t,t∈ks→WrOk t):WrOk (.mk 8 0 [] [] ks rs):=by
 intro r tk acc s KV Kp hb hl hk
 have e:(Tm.mk 8 0 [] [] ks rs).wr=123::(aM (cD false ks)++(aM (cF ks.isEmpty rs)++[125])):=by
  unfold Tm.wr;rw[vK];simp[aM,jV,Tok.word,aT,cE]
 rw[e] at hl hk;(refine aO func140 [0,1,3,5,6,15,25,35,44,61,76,84,101] ?_;simp only[go_sem,ntmps140,f140]);(intro p hp;try simp only[aL,ne_eq] at hp);have hp2:=bN hb.ob hp;simp only[go_sem,hp,bX,Tm.kind,Tm.n,Tm.text,Tm.sort,Tm.kids,Tm.rest,Int.reduceEq,bD,hp2];refine aIf (.mk 8 0 [] [] ks rs) ih he r tk acc _ _ _ (hb.set hp _) hl (fun u hu=>?_);simp only[go_sem];exact aH (hk u hu) (jC (fN hp (fS _ _ _)))
theorem aJd {t:Tm} (h:Gd t):WrOk t:=by
 induction h with
 | int n h1 h2=>exact aJS n h1 h2
 | bool n h=>exact aJy n
 | text x h=>exact aJp x (by simp only[kP,aZ,cG] at h;exact h.2)
 | id x h hr=>exact aLa x (by
   have h2:cK x=true:=by simp only[nC,aZ] at h;exact h.1.1.1
   obtain ⟨c,r,rfl,_,_,h3⟩:=tM h2;omega)
 | app x ks h hr hl hk ih=>exact aKq x ks (by obtain ⟨c,r,rfl,_,_,h3⟩:=tM h;exact h3) ih
 | opn x h=>exact aKm x h
 | var x s h hr h2 hr2=>exact aKr x s h h2
 | list ks rs hk hr ih=>exact aJu ks rs ih
 | map ks rs he hk hr ih=>exact aJ2 ks rs he ih
theorem aK0 (s:St) (x:aB) (KV Kp) (hx:x.length≤4294967290) (hk:(jG cR true x).out KV s):Den cx 141 [.str x] KV Kp s:=by
 (refine aO func141 [0,2,3] ?_;simp only[go_sem,ntmps141,f141]);(intro q hq;try simp only[aL,ne_eq] at hq);simp only[go_sem,hq];refine aID _ _ _ ?_;simp only[go_sem,uG];(intro r hr;try simp only[aL,ne_eq] at hr);have hq':q≠r:=hr.1.1;simp only[go_sem,hr,hq,hq'];refine aLG _ r x cR _ _ (by rw[aE,if_pos rfl];rfl) hx (by decide) fun o=>?_
 cases hl:jG cR true x with
 | ok l =>
  rw[hl] at hk;simp only[Lx.out] at hk ⊢;simp only[go_sem,hr,hq,hq',Fault.none];exact aH hk (mR hq (mR hr.2 (dM hq)))
 | bad f =>
  rw[hl] at hk;simp only[Lx.out] at hk ⊢;simp only[go_sem,hr,hq,hq'];exact aH hk (mR hq (mR hr.2 (dM hq)))
section
structure Dc where
 name:aB
 sorts:A
 below:A
 ops:A
 funs:A
 values:A
 eqs:A
 once:A
 kind:aB
 many:A
 rules:A
 start:aB
 watch:aB
def Dc.cs (d:Dc):List A:=[.str d.name,d.sorts,d.below,d.ops,d.funs,d.values,d.eqs,d.once,.str d.kind,d.many,d.rules,.str d.start,.str d.watch]
def psC (T:List Tok) (fin:Fault) (d:Dc) (first:Tok) (i n:Nat):List A :=
 .list none (T.map Tok.enc)::.int .i64 i::(fin.cs++(d.cs++(first.cs++[.int .i64 n,.bool false])))
def aN (T:List Tok) (fin:Fault) (d:Dc) (first:Tok) (i n:Nat):Ob:=.cells 91 (psC T fin d first i n)
attribute [go_sem] Dc.cs psC aN
structure TOk (T:List Tok):Prop where
 len:T.length≤4294967290
 num:∀ t,t∈T→0≤t.n∧t.n≤2147483647
 col:∀ t,t∈T→0≤t.col∧t.col≤4294967296
 txt:∀ t,t∈T→t.text.length≤4294967296
def PK {α:Type} (T:List Tok) (i:Nat) (S:Nat→Nat→St) (enc:α→A) (KV:St→A→Prop) (a:α) (w:List Tok) (n:Nat):Prop:=∀ j,i≤j→j≤T.length→T.drop j=w→n≤2000→KV (S j n) (enc a)
def PB (s:St) (r:Nat) (Kp:St→A→Prop) (f:Fault):Prop:=∀ o,Kp (s.setO r o) (.iface 36 f.enc)
theorem iV {T:List Tok} {i:Nat} {t:Tok} {w:List Tok} (h:T.drop i=t::w):T[i]?=some t∧i<T.length∧T.drop (i+1)=w∧t∈T:=by
 have hl:=congrArg List.length h;rw[cH,aD] at hl;have h0:(T.drop i)[0]?=some t:=by rw[h];rfl
 rw[mM,Nat.add_zero] at h0;refine ⟨h0,by omega,?_,dP h0⟩;rw[← pC,h];rfl
section
variable {T:List Tok} {fin:Fault} {d:Dc} {first:Tok} {i n:Nat} {s:St} {r:Nat} {KV Kp:St→A→Prop}
theorem hH (hr:s.getO r=some (aN T fin d first i n)) (hi:i≤T.length)
  (hk:match T.drop i with|t::_=>KV s t.enc|[]=>Kp s (.iface 36 fin.enc)):Den cx 91 [.ptr r 0] KV Kp s:=by
 simp only[go_sem] at hr;(refine aO func91 [0,2,12] ?_;simp only[go_sem,ntmps91,f91]);intro b hb;have hne:=bN hr hb;simp only[go_sem,hb,hne,hr];(refine bF (OT.r 0 10) [] ?_;simp only[go_sem,hr,hne]);(refine bA (fun h=>?_) (fun h=>?_))<;>simp only[go_sem,h,hr,hne]
 ·have he:i=T.length:=by simpa using h
  rw[rI (by omega)] at hk;exact aH hk (dM hb)
 ·have hlt:i<T.length:=by
   have:¬ i=T.length:=by simpa using h
   omega
  rw[xQ hlt] at hk;have ht:T[i]?=some T[i]:=bK hlt;(refine bF (OT.r 0 11) [] ?_;simp only[go_sem,hr,hne,ht,hlt]);exact aH hk (dM hb)
theorem kM (x:aB) (hr:s.getO r=some (aN T fin d first i n)) (hi:i≤T.length)
  (hk:KV s (.bool (isT x (T.drop i)))):Den cx 149 [.ptr r 0,.str x] KV Kp s:=by
 simp only[go_sem] at hr;(refine aO func149 [0,1,4,5,15] ?_;simp only[go_sem,ntmps149,f149]);(refine bF (OT.r 0 10) [] ?_;simp only[go_sem,hr]);(refine bA (fun h=>?_) (fun h=>?_))<;>simp only[go_sem,h,hr]
 ·have he:i=T.length:=by simpa using h
  rw[rI (by omega)] at hk;exact aY hk
 ·have hlt:i<T.length:=by
   have:¬ i=T.length:=by simpa using h
   omega
  rw[xQ hlt] at hk;have ht:T[i]?=some T[i]:=bK hlt;simp only[isT,dF] at hk;(refine bF (OT.r 0 12) [(10,[3,7,9])] ?_;simp only[go_sem,hr,ht,hlt]);intro b hb;have hne:=bN hr hb;simp only[go_sem,hb,hne,hr,ht,hlt]
  (repeat' (first|exact aH hk cN|((refine bA (fun h=>?_) (fun h=>?_))<;>simp only[go_sem,h,hb]<;>(try simp only[h,eZ,fL,iF,gY,kJ,kI,kH,gZ,dW,eX] at hk))))
theorem fR (x:aB) (hr:s.getO r=some (aN T fin d first i n)) (hi:i≤T.length) (hT:TOk T)
  (hk:match isT x (T.drop i) with|true=>KV (s.setO r (aN T fin d first (i+1) n)) (.bool true)|false=>KV s (.bool false)):Den cx 144 [.ptr r 0,.str x] KV Kp s:=by
 (refine aO func144 [0,1,4,8] ?_;simp only[go_sem,ntmps144,f144]);refine kM x hr hi ?_;simp only[go_sem] at hr;have:=hT.len;simp only[go_sem];(refine bA (fun h=>?_) (fun h=>?_))<;>simp only[go_sem,h]
 ·rw[show isT x (T.drop i)=false from by simpa using h] at hk;exact aY hk
 ·rw[show isT x (T.drop i)=true from by simpa using h] at hk;simp only[go_sem,hr,cJ i (by omega)];exact aY hk
theorem iM {x:aB} (h:isT x (T.drop i)=true):i+1≤T.length:=by
 cases hw:T.drop i with
 | nil=>rw[hw] at h;cases h
 | cons t w=>exact (iV hw).2.1
theorem aIL (t:Tok) (h0:0≤t.n) (h1:t.n≤2147483647) (hk:KV s (.str t.name)):Den cx 93 [t.enc] KV Kp s:=by
 unfold Tok.name at hk;simp only[go_sem];(refine aO func93 [0,1,2,5] ?_;simp only[go_sem,ntmps93,f93]);(intro b hb;try simp only[aL,ne_eq] at hb);simp only[go_sem,hb];(refine bA (fun h=>?_) (fun h=>?_))<;>simp only[go_sem,h,hb]
 ·have hk2:t.kind=2:=by simpa using h
  rw[if_pos hk2] at hk;refine aFJ t.n (by omega) (by omega) _ _ _ ?_;simp only[go_sem];exact aH hk (dM hb)
 ·have hk2:¬ t.kind=2:=by simpa using h
  rw[if_neg hk2] at hk;exact aH hk (dM hb)
theorem aBU (t:Tok) (hk:Kp s (.iface 36 (Fault.enc ⟨3,[],t.line,t.col⟩))):Den cx 220 [t.enc] KV Kp s:=by
 simp only[go_sem] at hk;simp only[go_sem];(refine aO func220 [0,1] ?_;simp only[go_sem,ntmps220,f220]);(intro b hb;try simp only[aL,ne_eq] at hb);simp only[go_sem,hb];exact aH hk (dM hb)
theorem lA (code:Int) (hr:s.getO r=some (aN T fin d first i n)) (hi:i≤T.length) (hT:TOk T)
  (hk:Kp s (.iface 36 (dR fin code (T.drop i)).enc)):Den cx 42 [.ptr r 0,.int .i64 code] KV Kp s:=by
 (refine aO func42 [0,1,4] ?_;simp only[go_sem,ntmps42,f42]);refine hH hr hi ?_;cases hw:T.drop i with
 | nil=>rw[hw] at hk;exact aY hk
 | cons t w =>
  rw[hw] at hk;obtain ⟨h1,h2,h3,h4⟩:=iV hw;obtain ⟨h5,h6⟩:=hT.num t h4;simp only[dR] at hk;simp only[go_sem] at hk;simp only[go_sem];(intro b hb;try simp only[aL,ne_eq] at hb);simp only[go_sem,hb];(refine bF (OT.l [0,1,3,4,5,6,2,7,8,9] .nil) [(2,[4,6])] ?_;simp only[go_sem,hb]);refine aIL t h5 h6 ?_;simp only[go_sem,hb];exact aH hk (dM hb)
end
end
section
section
variable {T:List Tok} {fin:Fault} {d:Dc} {first:Tok} {i n:Nat} {s:St} {r:Nat} {KV Kp:St→A→Prop}
theorem PB.here {f:Fault} {o:Ob} (h:PB s r Kp f) (hr:s.getO r=some o):DK Kp s (.iface 36 f.enc):=aH (h o) (oJ hr)
theorem PB.at {f:Fault} {o:Ob} {s1:St} (h:PB s r Kp f) (hg:s1.gx s r) (hr:s1.getO r=some o):DK Kp s1 (.iface 36 f.enc):=aH (h o) (hg.ge hr)
theorem dN (x:aB) (hr:s.getO r=some (aN T fin d first i n)) (hi:i≤T.length) (hT:TOk T)
  (hk:(eA fin x (T.drop i) n).to (fun _ w n'=>i+1≤T.length→T.drop (i+1)=w→n'=n→KV (s.setO r (aN T fin d first (i+1) n)) (.tuple [])) (PB s r Kp)):Den cx 84 [.ptr r 0,.list none [.str x]] KV Kp s:=by
 (refine aO func84 [0,1,5,6,7,8,9,15] ?_;simp only[go_sem,ntmps84,f84])
 refine Ex.loop (fun k:Nat=>[(0,.ptr r 0),(6,.list none [.str x]),(7,.int .i64 1),(8,.int .i64 k)]) (fun k=>match k with|0=>s|_+1=>s.setO r (aN T fin d first (i+1) n))
  (fun k=>k=0∨k=1∧isT x (T.drop i)=true) (fun k=>1-k) 0 (.inl rfl) ?_ (bW _) ?_
 ·simp only[go_sem];exact ⟨rfl,rfl⟩
 ·rintro k (rfl|⟨rfl,hx⟩)
  ·refine cL (V:=[0,1,5,6,7,8,9,15]) _ _ _ _ ?_;simp only[go_sem];refine ⟨by simp,?_⟩;simp only[go_sem];refine fR x hr hi hT ?_;cases hx:isT x (T.drop i) with
   | true =>
    simp only[go_sem];exact ⟨1,.inr rfl,by omega,rfl,bW _⟩
   | false =>
    simp only[go_sem];refine lA 11 hr hi hT ?_;simp only[eA,hx,bR,if_false,cV] at hk;exact hk.here hr
  ·refine cL (V:=[0,1,5,6,7,8,9,15]) _ _ _ _ ?_;simp only[eA,hx,if_true,bB] at hk;simp only[go_sem];exact aY (hk (iM hx) (by simp) trivial)
theorem fA (hr:s.getO r=some (aN T fin d first i n)) (hi:i≤T.length) (hT:TOk T)
  (hk:(dO fin (T.drop i) n).to (fun x w n'=>i+1≤T.length→T.drop (i+1)=w→n'=n→KV (s.setO r (aN T fin d first (i+1) n)) (.str x)) (PB s r Kp)):Den cx 85 [.ptr r 0] KV Kp s:=by
 (refine aO func85 [0,2,3,13] ?_;simp only[go_sem,ntmps85,f85]);refine hH hr hi ?_;cases hw:T.drop i with
 | nil=>rw[hw] at hk;exact PB.here hk hr
 | cons t w =>
  rw[hw] at hk;obtain ⟨h1,h2,h3,h4⟩:=iV hw;have:=hT.len;simp only[dO] at hk;simp only[go_sem];(intro b hb;try simp only[aL,ne_eq] at hb);have hne:=bN hr hb;have hr':(s.setO b (.cells 60 t.cs)).getO r=some (aN T fin d first i n):=by rw[aE,if_neg hne.2];exact hr
  have hr2:=hr;simp only[go_sem] at hr2
  have bad:∀ KV',t.free=false→Den cx 42 [.ptr r 0,.int .i64 11] KV' (DK Kp) (s.setO b (.cells 60 t.cs)):=by
   intro KV' hf;refine lA 11 hr' hi hT ?_;rw[hf] at hk;simp only[bR,if_false,cV] at hk;rw[hw];exact hk.at aF hr'
  have good:t.free=true→KV (s.setO r (aN T fin d first (i+1) n)) (.str t.text):=by
   intro hf;rw[hf] at hk;simp only[if_true,bB] at hk;exact hk h2 h3 trivial
  simp only[go_sem,hb,hne,hr2];(refine bA (fun h=>?_) (fun h=>?_))<;>simp only[go_sem,h,hb,hne,hr2]
  ·refine bad _ ?_;rw[Tok.free,show decide (t.kind=1)=false from by simpa using h];rfl
  ·refine oY _ _ _ _ ?_;simp only[go_sem,hb,hne,hr2];have hk1:decide (t.kind=1)=true:=by simpa using h
   (refine bA (fun h=>?_) (fun h=>?_))<;>simp only[go_sem,h,hb,hne,hr2]
   ·refine bad _ ?_;rw[Tok.free,hk1,h];rfl
   ·have hg:=good (by rw[Tok.free,hk1,h];rfl);simp only[go_sem,cJ i (by omega)];exact aH hg (St.gx.ge aF (by rw[aE,if_pos rfl];rfl))
theorem aFh (hr:s.getO r=some (aN T fin d first i n)) (hn:n≤2000)
  (hk:(mC first (T.drop i) n).to (fun _ w n=>w=T.drop i→n≤2000→KV (s.setO r (aN T fin d first i n)) (.tuple [])) (PB s r Kp)):Den cx 166 [.ptr r 0] KV Kp s:=by
 have hr2:=hr;simp only[go_sem] at hr2;(refine aO func166 [0,13] ?_;simp only[go_sem,ntmps166,f166]);simp only[go_sem,hr2,cJ n (by omega)];(refine bA (fun h=>?_) (fun h=>?_))<;>simp only[go_sem,h,hr2]
 ·refine aBU first ?_
  have hc:2000<n+1:=by have:=h;simp at this;omega
  simp only[mC,hc,if_true,cV] at hk;exact hk.at aF (by rw[aE,if_pos rfl])
 ·have hc:¬ 2000<n+1:=by have:=h;simp at this;omega
  simp only[mC,hc,if_false,bB] at hk;exact aY (hk trivial (by omega))
end
end
section
section
variable {T:List Tok} {fin:Fault} {d:Dc} {first:Tok} {i n:Nat} {s:St} {r:Nat} {KV Kp:St→A→Prop}
theorem aJD (t:Tok) (hk:KV s (.bool t.begins)):Den cx 236 [t.enc] KV Kp s:=by
 simp only[go_sem];(refine aO func236 [0,1,2,4,5,8] ?_;simp only[go_sem,ntmps236,f236]);(intro b hb;try simp only[aL,ne_eq] at hb);simp only[go_sem,hb];(refine bA (fun h=>?_) (fun h=>?_))<;>simp only[go_sem,h,hb]
 ·have h2:t.kind=2:=by simpa using h
  rw[show t.begins=true by simp[Tok.begins,h2]] at hk
  (try simp only[go_sem,hb])
  exact aH hk (dM hb)
 ·have h2:¬ t.kind=2:=by simpa using h
  (try simp only[go_sem,hb])
  (refine bA (fun h=>?_) (fun h=>?_))<;>simp only[go_sem,h,hb]
  ·have h3:t.kind=3:=by simpa using h
   rw[show t.begins=true by simp[Tok.begins,h3]] at hk
   (try simp only[go_sem,hb])
   exact aH hk (dM hb)
  ·have h3:¬ t.kind=3:=by simpa using h
   (try simp only[go_sem,hb])
   (refine bA (fun h=>?_) (fun h=>?_))<;>simp only[go_sem,h,hb]
   ·have h1:t.kind=1:=by simpa using h
    rw[show t.begins=(!decide (t.text∈dE)||(decide (t.text=[116,114,117,101])||decide (t.text=[102,97,108,115,101]))) by simp[Tok.begins,h1]] at hk
    (try simp only[go_sem,hb])
    refine oY _ _ _ _ ?_;simp only[go_sem,hb];cases hr:decide (t.text∈dE)<;>simp only[go_sem,hb]
    ·rw[hr] at hk;exact aH hk (dM hb)
    ·rw[hr] at hk;cases ht:decide (t.text=[116,114,117,101])<;>simp only[go_sem,hb]
     ·rw[ht] at hk;exact aH hk (dM hb)
     ·rw[ht] at hk;exact aH hk (dM hb)
   ·have h1:¬ t.kind=1:=by simpa using h
    rw[show t.begins=decide (t.text∈[[45],[39],[95],[91],[123],[36]]) by simp[Tok.begins,h1,h2,h3]] at hk
    (try simp only[go_sem,hb])
    refine aBo _ [[45],[39],[95],[91],[123],[36]] _ _ _ ?_;simp only[go_sem,hb];exact aH hk (dM hb)
theorem jT (a b:Int) (hr:s.getO r=some (aN T fin d first i n)) (hi:i≤T.length)
  (hk:if b≤a then PB s r Kp (nB fin (T.drop i)) else KV s (.tuple [])):Den cx 148 [.ptr r 0,.int .i64 a,.int .i64 b] KV Kp s:=by
 (refine aO func148 [0,1,2,8] ?_;simp only[go_sem,ntmps148,f148]);(refine bA (fun h=>?_) (fun h=>?_))<;>simp only[go_sem,h]
 ·have hc:b≤a:=by simpa using h
  rw[if_pos hc] at hk;refine hH hr hi ?_;cases hw:T.drop i with
  | nil=>rw[hw] at hk;exact hk.here hr
  | cons t w =>
   rw[hw] at hk;simp only[go_sem];refine aBU t ?_;exact hk.here hr
 ·have hc:¬ b≤a:=by simpa using h
  rw[if_neg hc] at hk;exact aY hk
theorem yC (hr:s.getO r=some (aN T fin d first i n)) (hi:i≤T.length)
  (hk:match T.drop i with|t::_=>KV s (.bool t.begins)|[]=>PB s r Kp fin):Den cx 165 [.ptr r 0] KV Kp s:=by
 have hr2:=hr;simp only[go_sem] at hr2;(refine aO func165 [0,2] ?_;simp only[go_sem,ntmps165,f165]);refine hH hr hi ?_;cases hw:T.drop i with
 | nil=>rw[hw] at hk;exact hk.here hr
 | cons t w =>
  rw[hw] at hk;simp only at hk;simp only[go_sem];refine aJD t ?_;simp only[go_sem];cases hb:t.begins<;>simp only[go_sem,hr2]
  ·rw[hb] at hk;exact aY hk
  ·rw[hb] at hk;exact aY hk
theorem aD7 (most:Int) (hr:s.getO r=some (aN T fin d first i n)) (hi:i≤T.length) (hT:TOk T)
  (hk:(tT fin most (T.drop i) n).to (fun x w n'=>i+1≤T.length→T.drop (i+1)=w→n'=n→KV (s.setO r (aN T fin d first (i+1) n)) (.int .i64 x)) (PB s r Kp)):Den cx 281 [.ptr r 0,.int .i64 most] KV Kp s:=by
 (refine aO func281 [0,1,4,5,10,21] ?_;simp only[go_sem,ntmps281,f281]);refine hH hr hi ?_;cases hw:T.drop i with
 | nil=>rw[hw] at hk;exact PB.here hk hr
 | cons t w =>
  rw[hw] at hk;obtain ⟨h1,h2,h3,h4⟩:=iV hw;have:=hT.len;simp only[tT] at hk;simp only[go_sem];(intro b hb;try simp only[aL,ne_eq] at hb);have hne:=bN hr hb;have hr':(s.setO b (.cells 60 t.cs)).getO r=some (aN T fin d first i n):=by rw[aE,if_neg hne.2];exact hr
  have hr2:=hr;simp only[go_sem] at hr2
  have bad:∀ KV' code,PB s r Kp (dR fin code (t::w))→Den cx 42 [.ptr r 0,.int .i64 code] KV' (DK Kp) (s.setO b (.cells 60 t.cs)):=by
   intro KV' code hf;refine lA code hr' hi hT ?_;rw[hw];exact hf.at aF hr'
  simp only[go_sem,hb,hne,hr2];(refine bA (fun h=>?_) (fun h=>?_))<;>simp only[go_sem,h,hb,hne,hr2]
  ·have h2:¬ t.kind=2:=by simpa using h
   rw[if_neg h2,cV] at hk;exact bad _ _ hk
  ·have h2:t.kind=2:=by simpa using h
   rw[if_pos h2] at hk;have range:(t.n<1∨most<t.n)→PB s r Kp (dR fin 20 (t::w)):=fun hc=>by rw[if_pos hc] at hk;exact hk
   have good:¬ (t.n<1∨most<t.n)→KV (s.setO r (aN T fin d first (i+1) n)) (.int .i64 t.n):=fun hc=>by
    rw[if_neg hc] at hk;exact hk (by omega) h3 rfl
   cases c1:decide (t.n<1)
   ·cases c2:decide (most<t.n)
    ·(try simp only[go_sem,hb,hne,hr2,c1,c2,cJ i (by omega)])
     exact aH (good (by simp at c1 c2;omega)) (St.gx.ge aF (by rw[aE,if_pos rfl];rfl))
    ·(try simp only[go_sem,hb,hne,hr2,c1,c2])
     exact bad _ _ (range (by simp at c1 c2;omega))
   ·(try simp only[go_sem,hb,hne,hr2,c1])
    exact bad _ _ (range (by simp at c1;omega))
end
end
theorem yD {α:Type} (fin:Fault) (sep:aB) (one:List Tok→Nat→Rd α):∀ (f:Nat) (l0 l:List α) (w:List Tok) (n:Nat) (p:List α→List Tok→Nat→Prop) (b:Fault→Prop),
  (bZ fin sep (fun acc w n=>(one w n).bind fun a w n=>.ok (acc++[a]) w n) f (l0++l) w n).to p b →
  (bZ fin sep (fun (c:Unit × List α) w n=>((one w n).bind fun a w n=>Rd.ok ((),a) w n).bind fun q w n=>.ok (q.1,c.2++[q.2]) w n) f ((),l) w n).to (fun c w n=>p (l0++c.2) w n) b
 | 0,l0,l,w,n,p,b,h=>h
 | f+1,l0,l,w,n,p,b,h=>by
  simp only[bZ,aX] at h ⊢;refine aI h (fun a w n h=>?_) (fun _ h=>h);simp only[bB] at h ⊢;split
  ·rename_i e;rw[if_pos e] at h;refine yD fin sep one f l0 (l++[a]) w.tail n p b ?_;rw[← cQ];exact h
  ·rename_i e;rw[if_neg e] at h;rw[bB] at h ⊢;rw[← cQ];exact h
theorem yE {σ:Type} (fin:Fault) (sep:aB) (one:σ→List Tok→Nat→Rd σ):∀ (f:Nat) (a:σ) (l:List Unit) (w:List Tok) (n:Nat) (p:σ→List Tok→Nat→Prop) (b:Fault→Prop),
  (bZ fin sep one f a w n).to p b →
  (bZ fin sep (fun (c:σ × List Unit) w n=>((one c.1 w n).bind fun a w n=>Rd.ok (a,()) w n).bind fun q w n=>.ok (q.1,c.2++[q.2]) w n) f (a,l) w n).to (fun c w n=>p c.1 w n) b
 | 0,a,l,w,n,p,b,h=>h
 | f+1,a,l,w,n,p,b,h=>by
  simp only[bZ,aX] at h ⊢;refine aI h (fun a w n h=>?_) (fun _ h=>h);simp only[bB] at h ⊢;split
  ·rename_i e;rw[if_pos e] at h;exact yE fin sep one f a (l++[()]) w.tail n p b h
  ·rename_i e;rw[if_neg e] at h;exact h
theorem aBp {σ α X:Type} (enc:α→A) (hz:∀ a,(enc a).cells.length=6) (ho:∀ a,dU (enc a).cells=true)
  {T:List Tok} {fin:Fault} {s0:St} {r:Nat} {KV Kp:St→A→Prop} (hT:TOk T)
  (S:St→σ→X→Nat→Nat→St) (Q:St→σ→X→Nat→Prop) (one:σ→List Tok→Nat→Rd (σ × α)) (f:FuncId) (first caps:List A)
  (hr:∀ (s:St) (a:σ) (x:X) (i n:Nat),∃ d fi,(S s a x i n).getO r=some (aN T fin d fi i n)∧((S s a x i n).setO r (aN T fin d fi (i+1) n)).ge (S s a x (i+1) n))
  (h1:∀ (s:St) (a:σ) (x:X) (i n:Nat) (t:Nat) (v:Nat × TypeId),Q s a x i→(S s a x i n).getT t=none→s.getT t=none∧Q (s.setT t v) a x i∧((S s a x i n).setT t v).ge (S (s.setT t v) a x i n))
  (h2:∀ (s:St) (a:σ) (x:X) (i n:Nat) (t:Nat) (v u:Nat × TypeId),s.getT t=none→Q (s.setT t v) a x i→(S (s.setT t v) a x i n).getT t=some v∧Q (s.setT t u) a x i∧((S (s.setT t v) a x i n).setT t u).ge (S (s.setT t u) a x i n))
  (h3:∀ (s:St) (a:σ) (x:X) (i n:Nat) (t:Nat) (v:Nat × TypeId),s.getT t=none→Q (s.setT t v) a x i→Q s a x i∧(S (s.setT t v) a x i n).ge (S s a x i n))
  (hi:∀ (s:St) (a:σ) (x:X) (i:Nat),Q s a x i→Q s a x (i+1))
  (hg:∀ (s:St) (a:σ) (x:X) (i n:Nat),Q s a x i→(S s a x i n).gx s r)
  (hf : ∀ (s : St) (a : σ) (x : X) (i n : Nat) (KV Kp : St → A → Prop),Q s a x i → i ≤ T.length → n ≤ 2000 → (one a (T.drop i) n).to (fun p w n' => ∀ j y,i ≤ j → j ≤ T.length → T.drop j = w → n' ≤ 2000 → Q s p.1 y j → KV (S s p.1 y j n') (enc p.2))
   (fun f=>∀ s1 o,s1.gx s r→s1.getO r=some o→Kp s1 (.iface 36 f.enc))→Den cx f (first++[]++caps) KV Kp (S s a x i n))
  (a0:σ) (x0:X) (i0 n0:Nat) (hQ:Q s0 a0 x0 i0) (hi0:i0≤T.length) (hn0:n0≤2000)
  (hk : (bZ fin [44] (fun (c : σ × List α) w n => (one c.1 w n).bind fun p w n => .ok (p.1,c.2 ++ [p.2]) w n) ((T.drop i0).length + 1) (a0,[]) (T.drop i0) n0).to
   (fun c w n=>∀ j y,i0≤j→j≤T.length→T.drop j=w→n≤2000→Q s0 c.1 y j→KV (S s0 c.1 y j n) (.list none (c.2.map enc)))
   (fun f=>∀ s1 o,s1.gx s0 r→s1.getO r=some o→Kp s1 (.iface 36 f.enc))):Den cx 222 [.ptr r 0,.fn f first caps] KV Kp (S s0 a0 x0 i0 n0):=by
 (refine gBo func222 [0,1,4,5,10] ?_;simp only[go_sem,ntmps222,f222]);have hlenT:=hT.len;rw[show (T.drop i0).length=T.length-i0 by rw[cH]] at hk;simp only[bZ,aX] at hk;refine mX (hf s0 a0 x0 i0 n0 _ _ hQ hi0 hn0 (aI hk (fun p w n' h=>?_) (fun g h=>?_)))
 ·intro j y hj hjT hw hn' hQy;simp only[bB,bO] at h;simp only[go_sem];refine .inr ⟨⟨hz _,ho _⟩,fun t ht=>?_⟩;obtain ⟨g1,g2,g3⟩:=h1 s0 p.1 y j n' t (1,43) hQy ht
  refine Ex.loop (ι:=(σ × X × Nat × Nat) × List α) (fun c=>[(0,.ptr r 0),(1,.fn f first caps),(5,.list (some t) (c.2.map enc))])
   (fun c=>S (s0.setT t (c.2.length,43)) c.1.1 c.1.2.1 c.1.2.2.1 c.1.2.2.2)
   (fun c => Q (s0.setT t (c.2.length,43)) c.1.1 c.1.2.1 c.1.2.2.1 ∧ i0 ≤ c.1.2.2.1 ∧ c.1.2.2.1 ≤ T.length ∧ c.1.2.2.2 ≤ 2000 ∧ c.2.length ≤ c.1.2.2.1 + 1 ∧ ∃ k,T.length - c.1.2.2.1 ≤ k ∧
    (if isT [44] (T.drop c.1.2.2.1) = true then bZ fin [44] (fun (c : σ × List α) w n => (one c.1 w n).bind fun p w n => .ok (p.1,c.2 ++ [p.2]) w n) k (c.1.1,c.2) (T.drop c.1.2.2.1).tail c.1.2.2.2
     else Rd.ok (c.1.1,c.2) (T.drop c.1.2.2.1) c.1.2.2.2).to
      (fun c w n=>∀ j y,i0≤j→j≤T.length→T.drop j=w→n≤2000→Q s0 c.1 y j→KV (S s0 c.1 y j n) (.list none (c.2.map enc)))
      (fun f=>∀ s1 o,s1.gx s0 r→s1.getO r=some o→Kp s1 (.iface 36 f.enc)))
   (fun c=>T.length-c.1.2.2.1) ((p.1,y,j,n'),[p.2]) ?_ ?_ ?_ ?_
  ·refine ⟨g2,hj,hjT,hn',by simp only[aD,aG];omega,T.length-i0,by simp only;omega,?_⟩;simp only[hw];exact h
  ·simp only[go_sem]
  ·exact g3
  ·rintro ⟨⟨a,x,i,n⟩,l⟩ ⟨q1,q2,q3,qn,q4,k,q5,q6⟩;simp only at q1 q2 q3 qn q4 q5 q6;obtain ⟨d,fi,hri,hst⟩:=hr (s0.setT t (l.length,43)) a x i n;refine cL (V:=[0,1,4,5,10]) _ _ _ _ ?_;simp only[go_sem];refine mX (fR _ hri q3 hT ?_);cases hx:isT [44] (T.drop i) with
   | false =>
    rw[hx] at q6;simp only[bR,if_false,bB] at q6;obtain ⟨e1,e2⟩:=h3 s0 a x i n t (l.length,43) g1 q1;simp only[go_sem];exact DK.mk (q6 i x q2 q3 rfl qn e1) e2 (A.le.forget _ _)
   | true =>
    rw[hx] at q6;have hlt:=iM hx;obtain ⟨k,rfl⟩:∃ k',k=k'+1:=⟨k-1,by omega⟩
    simp only[if_true,bZ,aX,bB,jS] at q6;simp only[go_sem];refine mX (eP hst (hf (s0.setT t (l.length,43)) a x (i+1) n _ _ (hi _ _ _ _ q1) hlt qn (aI q6 (fun p w n' h=>?_) (fun g h=>?_))))
    ·intro j y hj hjT hw hn' hQy;obtain ⟨e1,e2,e3⟩:=h2 s0 p.1 y j n' t (l.length,43) (l.length+1,43) g1 hQy;simp only[go_sem];refine .inl ⟨⟨hz _,ho _⟩,by decide,fun q hq=>?_,e1,fun q hq=>?_,by omega,((p.1,y,j,n'),l++[p.2]),⟨?_,by simp only;omega,hjT,hn',?_,k,by simp only;omega,?_⟩,by simp only;omega,?_,?_⟩
     ·simp only[cY] at hq;subst hq;exact hz _
     ·simp only[cO] at hq;obtain ⟨q',_,rfl⟩:=hq;exact hz _
     ·simp only[aK,aD,aG];exact e2
     ·simp only[aK,aD,aG];omega
     ·simp only[hw];exact h
     ·simp only[dQ,bU,bD]
     ·simp only[aK,aD,aG];exact e3
    ·intro s1 o hg1 hr1;simp only[go_sem];exact aY (h s1 o (hg1.dropT g1) hr1)
 ·intro s1 o hg1 hr1;exact aY (h s1 o hg1 hr1)
theorem aDH {α:Type} (enc:α→A) (hz:∀ a,(enc a).cells.length=6) (ho:∀ a,dU (enc a).cells=true)
  {T:List Tok} {fin:Fault} {d:Dc} {fi:Tok} {s0:St} {r:Nat} {KV Kp:St→A→Prop} (hT:TOk T)
  (Q:St→Prop) (hq:∀ (s:St) (t:Nat) (v:Nat × TypeId),Q (s.setT t v)↔Q s) (one:List Tok→Nat→Rd α) (f:FuncId) (first caps:List A)
  (hf : ∀ (s : St) (i n : Nat) (KV Kp : St → A → Prop),Q s → i ≤ T.length → n ≤ 2000 → (one (T.drop i) n).to (fun a w n' => ∀ j,i ≤ j → j ≤ T.length → T.drop j = w → n' ≤ 2000 → KV (s.setO r (aN T fin d fi j n')) (enc a))
   (fun f=>∀ s1 o,s1.gx s r→s1.getO r=some o→Kp s1 (.iface 36 f.enc))→Den cx f (first++[]++caps) KV Kp (s.setO r (aN T fin d fi i n)))
  (i0 n0:Nat) (hQ:Q s0) (hi0:i0≤T.length) (hn0:n0≤2000)
  (hk : (iN fin (fun _ => one) [] (T.drop i0) n0).to
   (fun l w n=>∀ j,i0≤j→j≤T.length→T.drop j=w→n≤2000→KV (s0.setO r (aN T fin d fi j n)) (.list none (l.map enc)))
   (fun f=>∀ s1 o,s1.gx s0 r→s1.getO r=some o→Kp s1 (.iface 36 f.enc))):Den cx 222 [.ptr r 0,.fn f first caps] KV Kp (s0.setO r (aN T fin d fi i0 n0)):=by
 refine aBp (σ:=Unit) (X:=Unit) enc hz ho hT (fun s _ _ i n=>s.setO r (aN T fin d fi i n)) (fun s _ _ _=>Q s) (fun _ w n=>(one w n).bind fun a w n=>.ok ((),a) w n) f first caps
  (fun s _ _ i n=>⟨d,fi,by rw[aE,if_pos rfl],by rw[lU];exact bW _⟩) (fun s _ _ i n t v h ht=>⟨ht,(hq s t v).2 h,bW _⟩)
  (fun s _ _ i n t v u ht h=>⟨?_,(hq s t u).2 ((hq s t v).1 h),?_⟩) (fun s _ _ i n t v ht h=>⟨(hq s t v).1 h,?_⟩) (fun s _ _ i h=>h) (fun s _ _ i n h=>dA (dJ s r)) (fun s _ _ i n KV Kp h hi hn hk=>?_) () () i0 n0 hQ hi0 hn0 ?_
 ·show (s.setT t v).getT t=some v;rw[bT,if_pos rfl]
 ·show (((s.setT t v).setT t u).setO r _).ge ((s.setT t u).setO r _);exact mP (xW s t v u)
 ·exact mP (rO ht)
 ·refine hf s i n KV Kp h hi hn ?_;rw[aX] at hk;refine aI hk (fun a w n' h2 j hj hjT hw hn'=>?_) (fun _ h2=>h2);exact h2 j () hj hjT hw hn' h
 ·have:=yD fin [44] one ((T.drop i0).length+1) [] [] (T.drop i0) n0 _ _ hk;refine aI this (fun c w n h j y hj hjT hw hn' hQ'=>?_) (fun _ h2=>h2);have h':=h j hj hjT hw hn';simpa only[bO] using h'
theorem aIz {σ α X:Type} (enc:α→A) (hz:∀ a,(enc a).cells.length=1) (ho:∀ a,dU (enc a).cells=true)
  {T:List Tok} {fin:Fault} {s0:St} {r:Nat} {KV Kp:St→A→Prop} (hT:TOk T)
  (S:St→σ→X→Nat→Nat→St) (Q:St→σ→X→Nat→Prop) (one:σ→List Tok→Nat→Rd (σ × α)) (f:FuncId) (first caps:List A)
  (hr:∀ (s:St) (a:σ) (x:X) (i n:Nat),∃ d fi,(S s a x i n).getO r=some (aN T fin d fi i n)∧((S s a x i n).setO r (aN T fin d fi (i+1) n)).ge (S s a x (i+1) n))
  (h1:∀ (s:St) (a:σ) (x:X) (i n:Nat) (t:Nat) (v:Nat × TypeId),Q s a x i→(S s a x i n).getT t=none→s.getT t=none∧Q (s.setT t v) a x i∧((S s a x i n).setT t v).ge (S (s.setT t v) a x i n))
  (h2:∀ (s:St) (a:σ) (x:X) (i n:Nat) (t:Nat) (v u:Nat × TypeId),s.getT t=none→Q (s.setT t v) a x i→(S (s.setT t v) a x i n).getT t=some v∧Q (s.setT t u) a x i∧((S (s.setT t v) a x i n).setT t u).ge (S (s.setT t u) a x i n))
  (h3:∀ (s:St) (a:σ) (x:X) (i n:Nat) (t:Nat) (v:Nat × TypeId),s.getT t=none→Q (s.setT t v) a x i→Q s a x i∧(S (s.setT t v) a x i n).ge (S s a x i n))
  (hi:∀ (s:St) (a:σ) (x:X) (i:Nat),Q s a x i→Q s a x (i+1))
  (hg:∀ (s:St) (a:σ) (x:X) (i n:Nat),Q s a x i→(S s a x i n).gx s r)
  (hf : ∀ (s : St) (a : σ) (x : X) (i n : Nat) (KV Kp : St → A → Prop),Q s a x i → i ≤ T.length → n ≤ 2000 → (one a (T.drop i) n).to (fun p w n' => ∀ j y,i ≤ j → j ≤ T.length → T.drop j = w → n' ≤ 2000 → Q s p.1 y j → KV (S s p.1 y j n') (enc p.2))
   (fun f=>∀ s1 o,s1.gx s r→s1.getO r=some o→Kp s1 (.iface 36 f.enc))→Den cx f (first++[]++caps) KV Kp (S s a x i n))
  (a0:σ) (x0:X) (i0 n0:Nat) (hQ:Q s0 a0 x0 i0) (hi0:i0≤T.length) (hn0:n0≤2000)
  (hk : (bZ fin [44] (fun (c : σ × List α) w n => (one c.1 w n).bind fun p w n => .ok (p.1,c.2 ++ [p.2]) w n) ((T.drop i0).length + 1) (a0,[]) (T.drop i0) n0).to
   (fun c w n=>∀ j y,i0≤j→j≤T.length→T.drop j=w→n≤2000→Q s0 c.1 y j→KV (S s0 c.1 y j n) (.list none (c.2.map enc)))
   (fun f=>∀ s1 o,s1.gx s0 r→s1.getO r=some o→Kp s1 (.iface 36 f.enc))):Den cx 150 [.ptr r 0,.fn f first caps] KV Kp (S s0 a0 x0 i0 n0):=by
 (refine gBo func150 [0,1,4,5,10] ?_;simp only[go_sem,ntmps150,f150]);have hlenT:=hT.len;rw[show (T.drop i0).length=T.length-i0 by rw[cH]] at hk;simp only[bZ,aX] at hk;refine mX (hf s0 a0 x0 i0 n0 _ _ hQ hi0 hn0 (aI hk (fun p w n' h=>?_) (fun g h=>?_)))
 ·intro j y hj hjT hw hn' hQy;simp only[bB,bO] at h;simp only[go_sem];refine .inr ⟨⟨hz _,ho _⟩,fun t ht=>?_⟩;obtain ⟨g1,g2,g3⟩:=h1 s0 p.1 y j n' t (1,9) hQy ht
  refine Ex.loop (ι:=(σ × X × Nat × Nat) × List α) (fun c=>[(0,.ptr r 0),(1,.fn f first caps),(5,.list (some t) (c.2.map enc))])
   (fun c=>S (s0.setT t (c.2.length,9)) c.1.1 c.1.2.1 c.1.2.2.1 c.1.2.2.2)
   (fun c => Q (s0.setT t (c.2.length,9)) c.1.1 c.1.2.1 c.1.2.2.1 ∧ i0 ≤ c.1.2.2.1 ∧ c.1.2.2.1 ≤ T.length ∧ c.1.2.2.2 ≤ 2000 ∧ c.2.length ≤ c.1.2.2.1 + 1 ∧ ∃ k,T.length - c.1.2.2.1 ≤ k ∧
    (if isT [44] (T.drop c.1.2.2.1) = true then bZ fin [44] (fun (c : σ × List α) w n => (one c.1 w n).bind fun p w n => .ok (p.1,c.2 ++ [p.2]) w n) k (c.1.1,c.2) (T.drop c.1.2.2.1).tail c.1.2.2.2
     else Rd.ok (c.1.1,c.2) (T.drop c.1.2.2.1) c.1.2.2.2).to
      (fun c w n=>∀ j y,i0≤j→j≤T.length→T.drop j=w→n≤2000→Q s0 c.1 y j→KV (S s0 c.1 y j n) (.list none (c.2.map enc)))
      (fun f=>∀ s1 o,s1.gx s0 r→s1.getO r=some o→Kp s1 (.iface 36 f.enc)))
   (fun c=>T.length-c.1.2.2.1) ((p.1,y,j,n'),[p.2]) ?_ ?_ ?_ ?_
  ·refine ⟨g2,hj,hjT,hn',by simp only[aD,aG];omega,T.length-i0,by simp only;omega,?_⟩;simp only[hw];exact h
  ·simp only[go_sem]
  ·exact g3
  ·rintro ⟨⟨a,x,i,n⟩,l⟩ ⟨q1,q2,q3,qn,q4,k,q5,q6⟩;simp only at q1 q2 q3 qn q4 q5 q6;obtain ⟨d,fi,hri,hst⟩:=hr (s0.setT t (l.length,9)) a x i n;refine cL (V:=[0,1,4,5,10]) _ _ _ _ ?_;simp only[go_sem];refine mX (fR _ hri q3 hT ?_);cases hx:isT [44] (T.drop i) with
   | false =>
    rw[hx] at q6;simp only[bR,if_false,bB] at q6;obtain ⟨e1,e2⟩:=h3 s0 a x i n t (l.length,9) g1 q1;simp only[go_sem];exact DK.mk (q6 i x q2 q3 rfl qn e1) e2 (A.le.forget _ _)
   | true =>
    rw[hx] at q6;have hlt:=iM hx;obtain ⟨k,rfl⟩:∃ k',k=k'+1:=⟨k-1,by omega⟩
    simp only[if_true,bZ,aX,bB,jS] at q6;simp only[go_sem];refine mX (eP hst (hf (s0.setT t (l.length,9)) a x (i+1) n _ _ (hi _ _ _ _ q1) hlt qn (aI q6 (fun p w n' h=>?_) (fun g h=>?_))))
    ·intro j y hj hjT hw hn' hQy;obtain ⟨e1,e2,e3⟩:=h2 s0 p.1 y j n' t (l.length,9) (l.length+1,9) g1 hQy;simp only[go_sem];refine .inl ⟨⟨hz _,ho _⟩,by decide,fun q hq=>?_,e1,fun q hq=>?_,by omega,((p.1,y,j,n'),l++[p.2]),⟨?_,by simp only;omega,hjT,hn',?_,k,by simp only;omega,?_⟩,by simp only;omega,?_,?_⟩
     ·simp only[cY] at hq;subst hq;exact hz _
     ·simp only[cO] at hq;obtain ⟨q',_,rfl⟩:=hq;exact hz _
     ·simp only[aK,aD,aG];exact e2
     ·simp only[aK,aD,aG];omega
     ·simp only[hw];exact h
     ·simp only[dQ,bU,bD]
     ·simp only[aK,aD,aG];exact e3
    ·intro s1 o hg1 hr1;simp only[go_sem];exact aY (h s1 o (hg1.dropT g1) hr1)
 ·intro s1 o hg1 hr1;exact aY (h s1 o hg1 hr1)
theorem aIl {α:Type} (enc:α→A) (hz:∀ a,(enc a).cells.length=1) (ho:∀ a,dU (enc a).cells=true)
  {T:List Tok} {fin:Fault} {d:Dc} {fi:Tok} {s0:St} {r:Nat} {KV Kp:St→A→Prop} (hT:TOk T)
  (Q:St→Prop) (hq:∀ (s:St) (t:Nat) (v:Nat × TypeId),Q (s.setT t v)↔Q s) (one:List Tok→Nat→Rd α) (f:FuncId) (first caps:List A)
  (hf : ∀ (s : St) (i n : Nat) (KV Kp : St → A → Prop),Q s → i ≤ T.length → n ≤ 2000 → (one (T.drop i) n).to (fun a w n' => ∀ j,i ≤ j → j ≤ T.length → T.drop j = w → n' ≤ 2000 → KV (s.setO r (aN T fin d fi j n')) (enc a))
   (fun f=>∀ s1 o,s1.gx s r→s1.getO r=some o→Kp s1 (.iface 36 f.enc))→Den cx f (first++[]++caps) KV Kp (s.setO r (aN T fin d fi i n)))
  (i0 n0:Nat) (hQ:Q s0) (hi0:i0≤T.length) (hn0:n0≤2000)
  (hk : (iN fin (fun _ => one) [] (T.drop i0) n0).to
   (fun l w n=>∀ j,i0≤j→j≤T.length→T.drop j=w→n≤2000→KV (s0.setO r (aN T fin d fi j n)) (.list none (l.map enc)))
   (fun f=>∀ s1 o,s1.gx s0 r→s1.getO r=some o→Kp s1 (.iface 36 f.enc))):Den cx 150 [.ptr r 0,.fn f first caps] KV Kp (s0.setO r (aN T fin d fi i0 n0)):=by
 refine aIz (σ:=Unit) (X:=Unit) enc hz ho hT (fun s _ _ i n=>s.setO r (aN T fin d fi i n)) (fun s _ _ _=>Q s) (fun _ w n=>(one w n).bind fun a w n=>.ok ((),a) w n) f first caps
  (fun s _ _ i n=>⟨d,fi,by rw[aE,if_pos rfl],by rw[lU];exact bW _⟩) (fun s _ _ i n t v h ht=>⟨ht,(hq s t v).2 h,bW _⟩)
  (fun s _ _ i n t v u ht h=>⟨?_,(hq s t u).2 ((hq s t v).1 h),?_⟩) (fun s _ _ i n t v ht h=>⟨(hq s t v).1 h,?_⟩) (fun s _ _ i h=>h) (fun s _ _ i n h=>dA (dJ s r)) (fun s _ _ i n KV Kp h hi hn hk=>?_) () () i0 n0 hQ hi0 hn0 ?_
 ·show (s.setT t v).getT t=some v;rw[bT,if_pos rfl]
 ·show (((s.setT t v).setT t u).setO r _).ge ((s.setT t u).setO r _);exact mP (xW s t v u)
 ·exact mP (rO ht)
 ·refine hf s i n KV Kp h hi hn ?_;rw[aX] at hk;refine aI hk (fun a w n' h2 j hj hjT hw hn'=>?_) (fun _ h2=>h2);exact h2 j () hj hjT hw hn' h
 ·have:=yD fin [44] one ((T.drop i0).length+1) [] [] (T.drop i0) n0 _ _ hk;refine aI this (fun c w n h j y hj hjT hw hn' hQ'=>?_) (fun _ h2=>h2);have h':=h j hj hjT hw hn';simpa only[bO] using h'
theorem aBr {σ α X:Type} (enc:α→A) (hz:∀ a,(enc a).cells.length=1) (ho:∀ a,dU (enc a).cells=true)
  {T:List Tok} {fin:Fault} {s0:St} {r:Nat} {KV Kp:St→A→Prop} (hT:TOk T)
  (S:St→σ→X→Nat→Nat→St) (Q:St→σ→X→Nat→Prop) (one:σ→List Tok→Nat→Rd (σ × α)) (f:FuncId) (first caps:List A)
  (hr:∀ (s:St) (a:σ) (x:X) (i n:Nat),∃ d fi,(S s a x i n).getO r=some (aN T fin d fi i n)∧((S s a x i n).setO r (aN T fin d fi (i+1) n)).ge (S s a x (i+1) n))
  (h1:∀ (s:St) (a:σ) (x:X) (i n:Nat) (t:Nat) (v:Nat × TypeId),Q s a x i→(S s a x i n).getT t=none→s.getT t=none∧Q (s.setT t v) a x i∧((S s a x i n).setT t v).ge (S (s.setT t v) a x i n))
  (h2:∀ (s:St) (a:σ) (x:X) (i n:Nat) (t:Nat) (v u:Nat × TypeId),s.getT t=none→Q (s.setT t v) a x i→(S (s.setT t v) a x i n).getT t=some v∧Q (s.setT t u) a x i∧((S (s.setT t v) a x i n).setT t u).ge (S (s.setT t u) a x i n))
  (h3:∀ (s:St) (a:σ) (x:X) (i n:Nat) (t:Nat) (v:Nat × TypeId),s.getT t=none→Q (s.setT t v) a x i→Q s a x i∧(S (s.setT t v) a x i n).ge (S s a x i n))
  (hi:∀ (s:St) (a:σ) (x:X) (i:Nat),Q s a x i→Q s a x (i+1))
  (hg:∀ (s:St) (a:σ) (x:X) (i n:Nat),Q s a x i→(S s a x i n).gx s r)
  (hf : ∀ (s : St) (a : σ) (x : X) (i n : Nat) (KV Kp : St → A → Prop),Q s a x i → i ≤ T.length → n ≤ 2000 → (one a (T.drop i) n).to (fun p w n' => ∀ j y,i ≤ j → j ≤ T.length → T.drop j = w → n' ≤ 2000 → Q s p.1 y j → KV (S s p.1 y j n') (enc p.2))
   (fun f=>∀ s1 o,s1.gx s r→s1.getO r=some o→Kp s1 (.iface 36 f.enc))→Den cx f (first++[]++caps) KV Kp (S s a x i n))
  (a0:σ) (x0:X) (i0 n0:Nat) (hQ:Q s0 a0 x0 i0) (hi0:i0≤T.length) (hn0:n0≤2000)
  (hk : (bZ fin [44] (fun (c : σ × List α) w n => (one c.1 w n).bind fun p w n => .ok (p.1,c.2 ++ [p.2]) w n) ((T.drop i0).length + 1) (a0,[]) (T.drop i0) n0).to
   (fun c w n=>∀ j y,i0≤j→j≤T.length→T.drop j=w→n≤2000→Q s0 c.1 y j→KV (S s0 c.1 y j n) (.list none (c.2.map enc)))
   (fun f=>∀ s1 o,s1.gx s0 r→s1.getO r=some o→Kp s1 (.iface 36 f.enc))):Den cx 146 [.ptr r 0,.fn f first caps] KV Kp (S s0 a0 x0 i0 n0):=by
 (refine gBo func146 [0,1,4,5,10] ?_;simp only[go_sem,ntmps146,f146]);have hlenT:=hT.len;rw[show (T.drop i0).length=T.length-i0 by rw[cH]] at hk;simp only[bZ,aX] at hk;refine mX (hf s0 a0 x0 i0 n0 _ _ hQ hi0 hn0 (aI hk (fun p w n' h=>?_) (fun g h=>?_)))
 ·intro j y hj hjT hw hn' hQy;simp only[bB,bO] at h;simp only[go_sem];refine .inr ⟨⟨hz _,ho _⟩,fun t ht=>?_⟩;obtain ⟨g1,g2,g3⟩:=h1 s0 p.1 y j n' t (1,4) hQy ht
  refine Ex.loop (ι:=(σ × X × Nat × Nat) × List α) (fun c=>[(0,.ptr r 0),(1,.fn f first caps),(5,.list (some t) (c.2.map enc))])
   (fun c=>S (s0.setT t (c.2.length,4)) c.1.1 c.1.2.1 c.1.2.2.1 c.1.2.2.2)
   (fun c => Q (s0.setT t (c.2.length,4)) c.1.1 c.1.2.1 c.1.2.2.1 ∧ i0 ≤ c.1.2.2.1 ∧ c.1.2.2.1 ≤ T.length ∧ c.1.2.2.2 ≤ 2000 ∧ c.2.length ≤ c.1.2.2.1 + 1 ∧ ∃ k,T.length - c.1.2.2.1 ≤ k ∧
    (if isT [44] (T.drop c.1.2.2.1) = true then bZ fin [44] (fun (c : σ × List α) w n => (one c.1 w n).bind fun p w n => .ok (p.1,c.2 ++ [p.2]) w n) k (c.1.1,c.2) (T.drop c.1.2.2.1).tail c.1.2.2.2
     else Rd.ok (c.1.1,c.2) (T.drop c.1.2.2.1) c.1.2.2.2).to
      (fun c w n=>∀ j y,i0≤j→j≤T.length→T.drop j=w→n≤2000→Q s0 c.1 y j→KV (S s0 c.1 y j n) (.list none (c.2.map enc)))
      (fun f=>∀ s1 o,s1.gx s0 r→s1.getO r=some o→Kp s1 (.iface 36 f.enc)))
   (fun c=>T.length-c.1.2.2.1) ((p.1,y,j,n'),[p.2]) ?_ ?_ ?_ ?_
  ·refine ⟨g2,hj,hjT,hn',by simp only[aD,aG];omega,T.length-i0,by simp only;omega,?_⟩;simp only[hw];exact h
  ·simp only[go_sem]
  ·exact g3
  ·rintro ⟨⟨a,x,i,n⟩,l⟩ ⟨q1,q2,q3,qn,q4,k,q5,q6⟩;simp only at q1 q2 q3 qn q4 q5 q6;obtain ⟨d,fi,hri,hst⟩:=hr (s0.setT t (l.length,4)) a x i n;refine cL (V:=[0,1,4,5,10]) _ _ _ _ ?_;simp only[go_sem];refine mX (fR _ hri q3 hT ?_);cases hx:isT [44] (T.drop i) with
   | false =>
    rw[hx] at q6;simp only[bR,if_false,bB] at q6;obtain ⟨e1,e2⟩:=h3 s0 a x i n t (l.length,4) g1 q1;simp only[go_sem];exact DK.mk (q6 i x q2 q3 rfl qn e1) e2 (A.le.forget _ _)
   | true =>
    rw[hx] at q6;have hlt:=iM hx;obtain ⟨k,rfl⟩:∃ k',k=k'+1:=⟨k-1,by omega⟩
    simp only[if_true,bZ,aX,bB,jS] at q6;simp only[go_sem];refine mX (eP hst (hf (s0.setT t (l.length,4)) a x (i+1) n _ _ (hi _ _ _ _ q1) hlt qn (aI q6 (fun p w n' h=>?_) (fun g h=>?_))))
    ·intro j y hj hjT hw hn' hQy;obtain ⟨e1,e2,e3⟩:=h2 s0 p.1 y j n' t (l.length,4) (l.length+1,4) g1 hQy;simp only[go_sem];refine .inl ⟨⟨hz _,ho _⟩,by decide,fun q hq=>?_,e1,fun q hq=>?_,by omega,((p.1,y,j,n'),l++[p.2]),⟨?_,by simp only;omega,hjT,hn',?_,k,by simp only;omega,?_⟩,by simp only;omega,?_,?_⟩
     ·simp only[cY] at hq;subst hq;exact hz _
     ·simp only[cO] at hq;obtain ⟨q',_,rfl⟩:=hq;exact hz _
     ·simp only[aK,aD,aG];exact e2
     ·simp only[aK,aD,aG];omega
     ·simp only[hw];exact h
     ·simp only[dQ,bU,bD]
     ·simp only[aK,aD,aG];exact e3
    ·intro s1 o hg1 hr1;simp only[go_sem];exact aY (h s1 o (hg1.dropT g1) hr1)
 ·intro s1 o hg1 hr1;exact aY (h s1 o hg1 hr1)
theorem aIF {σ α X:Type} (enc:α→A) (hz:∀ a,(enc a).cells.length=1) (ho:∀ a,dU (enc a).cells=true)
  {T:List Tok} {fin:Fault} {s0:St} {r:Nat} {KV Kp:St→A→Prop} (hT:TOk T)
  (S:St→σ→X→Nat→Nat→St) (Q:St→σ→X→Nat→Prop) (one:σ→List Tok→Nat→Rd (σ × α)) (f:FuncId) (first caps:List A)
  (hr:∀ (s:St) (a:σ) (x:X) (i n:Nat),∃ d fi,(S s a x i n).getO r=some (aN T fin d fi i n)∧((S s a x i n).setO r (aN T fin d fi (i+1) n)).ge (S s a x (i+1) n))
  (h1:∀ (s:St) (a:σ) (x:X) (i n:Nat) (t:Nat) (v:Nat × TypeId),Q s a x i→(S s a x i n).getT t=none→s.getT t=none∧Q (s.setT t v) a x i∧((S s a x i n).setT t v).ge (S (s.setT t v) a x i n))
  (h2:∀ (s:St) (a:σ) (x:X) (i n:Nat) (t:Nat) (v u:Nat × TypeId),s.getT t=none→Q (s.setT t v) a x i→(S (s.setT t v) a x i n).getT t=some v∧Q (s.setT t u) a x i∧((S (s.setT t v) a x i n).setT t u).ge (S (s.setT t u) a x i n))
  (h3:∀ (s:St) (a:σ) (x:X) (i n:Nat) (t:Nat) (v:Nat × TypeId),s.getT t=none→Q (s.setT t v) a x i→Q s a x i∧(S (s.setT t v) a x i n).ge (S s a x i n))
  (hi:∀ (s:St) (a:σ) (x:X) (i:Nat),Q s a x i→Q s a x (i+1))
  (hg:∀ (s:St) (a:σ) (x:X) (i n:Nat),Q s a x i→(S s a x i n).gx s r)
  (hf : ∀ (s : St) (a : σ) (x : X) (i n : Nat) (KV Kp : St → A → Prop),Q s a x i → i ≤ T.length → n ≤ 2000 → (one a (T.drop i) n).to (fun p w n' => ∀ j y,i ≤ j → j ≤ T.length → T.drop j = w → n' ≤ 2000 → Q s p.1 y j → KV (S s p.1 y j n') (enc p.2))
   (fun f=>∀ s1 o,s1.gx s r→s1.getO r=some o→Kp s1 (.iface 36 f.enc))→Den cx f (first++[]++caps) KV Kp (S s a x i n))
  (a0:σ) (x0:X) (i0 n0:Nat) (hQ:Q s0 a0 x0 i0) (hi0:i0≤T.length) (hn0:n0≤2000)
  (hk : (bZ fin [44] (fun (c : σ × List α) w n => (one c.1 w n).bind fun p w n => .ok (p.1,c.2 ++ [p.2]) w n) ((T.drop i0).length + 1) (a0,[]) (T.drop i0) n0).to
   (fun c w n=>∀ j y,i0≤j→j≤T.length→T.drop j=w→n≤2000→Q s0 c.1 y j→KV (S s0 c.1 y j n) (.list none (c.2.map enc)))
   (fun f=>∀ s1 o,s1.gx s0 r→s1.getO r=some o→Kp s1 (.iface 36 f.enc))):Den cx 282 [.ptr r 0,.fn f first caps] KV Kp (S s0 a0 x0 i0 n0):=by
 (refine gBo func282 [0,1,4,5,10] ?_;simp only[go_sem,ntmps282,f282]);have hlenT:=hT.len;rw[show (T.drop i0).length=T.length-i0 by rw[cH]] at hk;simp only[bZ,aX] at hk;refine mX (hf s0 a0 x0 i0 n0 _ _ hQ hi0 hn0 (aI hk (fun p w n' h=>?_) (fun g h=>?_)))
 ·intro j y hj hjT hw hn' hQy;simp only[bB,bO] at h;simp only[go_sem];refine .inr ⟨⟨hz _,ho _⟩,fun t ht=>?_⟩;obtain ⟨g1,g2,g3⟩:=h1 s0 p.1 y j n' t (1,3) hQy ht
  refine Ex.loop (ι:=(σ × X × Nat × Nat) × List α) (fun c=>[(0,.ptr r 0),(1,.fn f first caps),(5,.list (some t) (c.2.map enc))])
   (fun c=>S (s0.setT t (c.2.length,3)) c.1.1 c.1.2.1 c.1.2.2.1 c.1.2.2.2)
   (fun c => Q (s0.setT t (c.2.length,3)) c.1.1 c.1.2.1 c.1.2.2.1 ∧ i0 ≤ c.1.2.2.1 ∧ c.1.2.2.1 ≤ T.length ∧ c.1.2.2.2 ≤ 2000 ∧ c.2.length ≤ c.1.2.2.1 + 1 ∧ ∃ k,T.length - c.1.2.2.1 ≤ k ∧
    (if isT [44] (T.drop c.1.2.2.1) = true then bZ fin [44] (fun (c : σ × List α) w n => (one c.1 w n).bind fun p w n => .ok (p.1,c.2 ++ [p.2]) w n) k (c.1.1,c.2) (T.drop c.1.2.2.1).tail c.1.2.2.2
     else Rd.ok (c.1.1,c.2) (T.drop c.1.2.2.1) c.1.2.2.2).to
      (fun c w n=>∀ j y,i0≤j→j≤T.length→T.drop j=w→n≤2000→Q s0 c.1 y j→KV (S s0 c.1 y j n) (.list none (c.2.map enc)))
      (fun f=>∀ s1 o,s1.gx s0 r→s1.getO r=some o→Kp s1 (.iface 36 f.enc)))
   (fun c=>T.length-c.1.2.2.1) ((p.1,y,j,n'),[p.2]) ?_ ?_ ?_ ?_
  ·refine ⟨g2,hj,hjT,hn',by simp only[aD,aG];omega,T.length-i0,by simp only;omega,?_⟩;simp only[hw];exact h
  ·simp only[go_sem]
  ·exact g3
  ·rintro ⟨⟨a,x,i,n⟩,l⟩ ⟨q1,q2,q3,qn,q4,k,q5,q6⟩;simp only at q1 q2 q3 qn q4 q5 q6;obtain ⟨d,fi,hri,hst⟩:=hr (s0.setT t (l.length,3)) a x i n;refine cL (V:=[0,1,4,5,10]) _ _ _ _ ?_;simp only[go_sem];refine mX (fR _ hri q3 hT ?_);cases hx:isT [44] (T.drop i) with
   | false =>
    rw[hx] at q6;simp only[bR,if_false,bB] at q6;obtain ⟨e1,e2⟩:=h3 s0 a x i n t (l.length,3) g1 q1;simp only[go_sem];exact DK.mk (q6 i x q2 q3 rfl qn e1) e2 (A.le.forget _ _)
   | true =>
    rw[hx] at q6;have hlt:=iM hx;obtain ⟨k,rfl⟩:∃ k',k=k'+1:=⟨k-1,by omega⟩
    simp only[if_true,bZ,aX,bB,jS] at q6;simp only[go_sem];refine mX (eP hst (hf (s0.setT t (l.length,3)) a x (i+1) n _ _ (hi _ _ _ _ q1) hlt qn (aI q6 (fun p w n' h=>?_) (fun g h=>?_))))
    ·intro j y hj hjT hw hn' hQy;obtain ⟨e1,e2,e3⟩:=h2 s0 p.1 y j n' t (l.length,3) (l.length+1,3) g1 hQy;simp only[go_sem];refine .inl ⟨⟨hz _,ho _⟩,by decide,fun q hq=>?_,e1,fun q hq=>?_,by omega,((p.1,y,j,n'),l++[p.2]),⟨?_,by simp only;omega,hjT,hn',?_,k,by simp only;omega,?_⟩,by simp only;omega,?_,?_⟩
     ·simp only[cY] at hq;subst hq;exact hz _
     ·simp only[cO] at hq;obtain ⟨q',_,rfl⟩:=hq;exact hz _
     ·simp only[aK,aD,aG];exact e2
     ·simp only[aK,aD,aG];omega
     ·simp only[hw];exact h
     ·simp only[dQ,bU,bD]
     ·simp only[aK,aD,aG];exact e3
    ·intro s1 o hg1 hr1;simp only[go_sem];exact aY (h s1 o (hg1.dropT g1) hr1)
 ·intro s1 o hg1 hr1;exact aY (h s1 o hg1 hr1)
theorem aIj {α:Type} (enc:α→A) (hz:∀ a,(enc a).cells.length=1) (ho:∀ a,dU (enc a).cells=true)
  {T:List Tok} {fin:Fault} {d:Dc} {fi:Tok} {s0:St} {r:Nat} {KV Kp:St→A→Prop} (hT:TOk T)
  (Q:St→Prop) (hq:∀ (s:St) (t:Nat) (v:Nat × TypeId),Q (s.setT t v)↔Q s) (one:List Tok→Nat→Rd α) (f:FuncId) (first caps:List A)
  (hf : ∀ (s : St) (i n : Nat) (KV Kp : St → A → Prop),Q s → i ≤ T.length → n ≤ 2000 → (one (T.drop i) n).to (fun a w n' => ∀ j,i ≤ j → j ≤ T.length → T.drop j = w → n' ≤ 2000 → KV (s.setO r (aN T fin d fi j n')) (enc a))
   (fun f=>∀ s1 o,s1.gx s r→s1.getO r=some o→Kp s1 (.iface 36 f.enc))→Den cx f (first++[]++caps) KV Kp (s.setO r (aN T fin d fi i n)))
  (i0 n0:Nat) (hQ:Q s0) (hi0:i0≤T.length) (hn0:n0≤2000)
  (hk : (iN fin (fun _ => one) [] (T.drop i0) n0).to
   (fun l w n=>∀ j,i0≤j→j≤T.length→T.drop j=w→n≤2000→KV (s0.setO r (aN T fin d fi j n)) (.list none (l.map enc)))
   (fun f=>∀ s1 o,s1.gx s0 r→s1.getO r=some o→Kp s1 (.iface 36 f.enc))):Den cx 282 [.ptr r 0,.fn f first caps] KV Kp (s0.setO r (aN T fin d fi i0 n0)):=by
 refine aIF (σ:=Unit) (X:=Unit) enc hz ho hT (fun s _ _ i n=>s.setO r (aN T fin d fi i n)) (fun s _ _ _=>Q s) (fun _ w n=>(one w n).bind fun a w n=>.ok ((),a) w n) f first caps
  (fun s _ _ i n=>⟨d,fi,by rw[aE,if_pos rfl],by rw[lU];exact bW _⟩) (fun s _ _ i n t v h ht=>⟨ht,(hq s t v).2 h,bW _⟩)
  (fun s _ _ i n t v u ht h=>⟨?_,(hq s t u).2 ((hq s t v).1 h),?_⟩) (fun s _ _ i n t v ht h=>⟨(hq s t v).1 h,?_⟩) (fun s _ _ i h=>h) (fun s _ _ i n h=>dA (dJ s r)) (fun s _ _ i n KV Kp h hi hn hk=>?_) () () i0 n0 hQ hi0 hn0 ?_
 ·show (s.setT t v).getT t=some v;rw[bT,if_pos rfl]
 ·show (((s.setT t v).setT t u).setO r _).ge ((s.setT t u).setO r _);exact mP (xW s t v u)
 ·exact mP (rO ht)
 ·refine hf s i n KV Kp h hi hn ?_;rw[aX] at hk;refine aI hk (fun a w n' h2 j hj hjT hw hn'=>?_) (fun _ h2=>h2);exact h2 j () hj hjT hw hn' h
 ·have:=yD fin [44] one ((T.drop i0).length+1) [] [] (T.drop i0) n0 _ _ hk;refine aI this (fun c w n h j y hj hjT hw hn' hQ'=>?_) (fun _ h2=>h2);have h':=h j hj hjT hw hn';simpa only[bO] using h'
theorem aAn {α:Type} {enc:α→A} {T:List Tok} {fin:Fault} {d:Dc} {fi:Tok} {r:Nat} {Q:St→Prop} {one:List Tok→Nat→Rd α} {f:FuncId} {args:List A} (hQr:∀ (s:St) (o:Ob),Q s→Q (s.setO r o))
  (h:∀ (s:St) (i n:Nat) (KV Kp:St→A→Prop),s.getO r=some (aN T fin d fi i n)→Q s→i≤T.length→n≤2000→(one (T.drop i) n).to (PK T i (fun j m=>s.setO r (aN T fin d fi j m)) enc KV) (PB s r Kp)→Den cx f args KV Kp s) :
  ∀ (s:St) (i n:Nat) (KV Kp:St→A→Prop),Q s→i≤T.length→n≤2000→(one (T.drop i) n).to (fun a w n'=>∀ j,i≤j→j≤T.length→T.drop j=w→n'≤2000→KV (s.setO r (aN T fin d fi j n')) (enc a))
   (fun f=>∀ s1 o,s1.gx s r→s1.getO r=some o→Kp s1 (.iface 36 f.enc))→Den cx f args KV Kp (s.setO r (aN T fin d fi i n)):=by
 intro s i n KV Kp hQ hi hn hk;refine h (s.setO r _) i n KV Kp (by rw[aE,if_pos rfl]) (hQr s _ hQ) hi hn (aI hk (fun a w m h j hj hjT hw hm=>?_) (fun f h o=>?_))
 ·simp only[lU];exact h j hj hjT hw hm
 ·exact h _ o (dA (dA (dJ s r))) (by rw[aE,if_pos rfl])
section
theorem aFM (s:St) (x:aB) (KV Kp) (hk:KV s (.bool (nC x))):Den cx 240 [.str x] KV Kp s:=by
 (refine aO func240 [0,2] ?_;simp only[go_sem,ntmps240,f240]);refine vT _ _ _ _ ?_;simp only[go_sem];cases hn:cK x with
 | false =>
  simp only[go_sem];rw[show nC x=false by simp[nC,hn]] at hk;exact aY hk
 | true =>
  cases x with
  | nil=>simp[cK] at hn
  | cons c r =>
   have e97:decide ((97:Int)≤(c.toNat:Int))=decide (97≤c.toNat):=by rw[fY];omega
   have e122:decide ((c.toNat:Int)≤122)=decide (c.toNat≤122):=by rw[fY];omega
   rw[show nC (c::r)=((decide (97≤c.toNat)&&decide (c.toNat≤122))&&!decide (c::r=[116,114,117,101])&&!decide (c::r=[102,97,108,115,101])) by simp[nC,hn]] at hk;cases h1:decide (97≤c.toNat)<;>cases h2:decide (c.toNat≤122)<;>cases h3:decide (c::r=[116,114,117,101])<;>cases h4:decide (c::r=[102,97,108,115,101])<;>simp only[go_sem,e97,e122,h1,h2,h3,h4]
   all_goals (rw[h1,h2,h3,h4] at hk;exact aY hk)
section
variable {T:List Tok} {fin:Fault} {d:Dc} {first:Tok} {i n:Nat} {s:St} {r:Nat} {KV Kp:St→A→Prop}
theorem PB.mk {s1:St} {f:Fault} (hg:s1.gx s r) (h:PB s r Kp f):PB s1 r (DK Kp) f:=fun o=>h.at (dA hg) (by rw[aE,if_pos rfl])
theorem tO (deep:Nat) (sort:aB) (hr:s.getO r=some (aN T fin d first i n)) (hi:i≤T.length) (hT:TOk T) (hn:n≤2000)
  (hk:(nV fin first (decide (deep=60)) sort (T.drop i) n).to (PK T i (fun j m=>s.setO r (aN T fin d first j m)) (fun l=>.list none (l.map Tm.enc)) KV) (PB s r Kp)) :
  Den cx 242 [.ptr r 0,.int .i64 deep,.str sort] KV Kp s:=by
 (refine aO func242 [0,1,2,6,7,8,11,17] ?_;simp only[go_sem,ntmps242,f242]);refine fR _ hr hi hT ?_;cases hx:isT [124] (T.drop i) with
 | false =>
  simp only[nV,hx,bR,if_false,bB] at hk;simp only[go_sem];exact DK.mk (hk i (bG _) hi rfl hn) (oJ hr) A.le.nil
 | true =>
  have hlt:=iM hx;simp only[nV,hx,if_true,jS] at hk;simp only[go_sem];have hr1:(s.setO r (aN T fin d first (i+1) n)).getO r=some (aN T fin d first (i+1) n):=by rw[aE,if_pos rfl]
  refine hH hr1 hlt ?_;cases hw:T.drop (i+1) with
  | nil=>rw[hw] at hk;exact PB.at hk aF hr1
  | cons t w =>
   rw[hw] at hk;obtain ⟨h1,h2,h3,h4⟩:=iV hw;simp only at hk;simp only[go_sem];(intro b hb;try simp only[aL,ne_eq] at hb);have hr2:((s.setO r (aN T fin d first (i+1) n)).setO b (.cells 60 t.cs)).getO r=some (aN T fin d first (i+1) n):=by rw[aE,if_neg (Ne.symm hb.1.1),hr1]
   simp only[go_sem,hb];refine fA hr2 (Nat.le_of_lt h2) hT ?_;rw[hw];simp only[dO];cases hf:t.free with
   | false =>
    rw[hf] at hk;simp only[bR,if_false,cV] at hk ⊢;exact PB.mk aF hk
   | true =>
    rw[hf] at hk;simp only[if_true,bB] at hk ⊢;intro hle hw2 _;simp only[go_sem];have ed:decide ((deep:Int)=60)=decide (deep=60):=by rw[fY];omega
    simp only[go_sem,ed];cases hd:decide (deep=60) with
    | true =>
     rw[hd] at hk;simp only[if_true,cV] at hk;simp only[go_sem,hb];exact PB.at (f:=⟨19,t.text,t.line,t.col⟩) hk aF (by rw[aE,if_pos rfl]<;>rfl)
    | false =>
     rw[hd] at hk;simp only[bR,if_false,aX] at hk;simp only[go_sem,hb];refine aFh (T:=T) (fin:=fin) (d:=d) (first:=first) (i:=i+1+1) (n:=n) (by rw[aE,if_pos rfl]<;>rfl) hn ?_;rw[hw2];refine aI hk (fun _ w2 n2 h=>?_) (fun f h=>PB.mk aF h);intro e1 e2;subst e1;simp only[bB] at h;simp only[go_sem];refine DK.mk (h (i+1+1) (by omega) hle hw2 e2) (St.gx.ge aF (by rw[aE,if_pos rfl]<;>rfl)) ?_;exact A.le.list ⟨by simp only[List.map,bY,A.cells,rA,Tm.cs];exact ⟨⟨bM _,rfl⟩,⟨bM _,rfl⟩,⟨bM _,rfl⟩,⟨bM _,rfl⟩,⟨A.le.nil,rfl⟩,⟨A.le.nil,rfl⟩,trivial⟩,trivial⟩
end
end
end Go.AV
