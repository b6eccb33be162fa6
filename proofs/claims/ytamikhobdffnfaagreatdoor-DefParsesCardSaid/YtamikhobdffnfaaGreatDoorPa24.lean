/-
  Of DefParses.
-/
import Derived.Test.YtamikhobdffnfaaGreatDoorPa23
set_option linter.all false
set_option maxRecDepth 99999
set_option maxHeartbeats 0
namespace Go.AV
open Go Go.Proofs Tryz
section
def nv (es:List A):A:=match es with
 | []=>.nils
 | x::l=>.list none (x::l)
@[go_sem] theorem aNy (es:List A):(nv es).cells=[nv es]:=by cases es<;>rfl
@[go_sem] theorem aAI (es:List A):(nv es).one=true:=by cases es<;>rfl
@[go_sem] theorem aPF (s:St) (es:List A):iG s (nv es)=nv es:=by cases es<;>rfl
@[go_sem] theorem aTO (es:List A):iP (nv es)=some (.int .i64 es.length):=by cases es<;>rfl
theorem aQO {es:List A} (h:es≠[]):.list none es=nv es:=by
 cases es with
 | nil=>exact absurd rfl h
 | cons x l=>rfl
theorem aCp (es:List A):A.le (nv es) (.list none es):=by
 cases es with
 | nil=>exact A.le.nil
 | cons x l=>exact aK _
def oQ (o:Opr) (aA pA:A):List A:=[.str o.name,aA,.str o.sort,pA,.int .i64 o.prec,.int .i64 o.assoc,nv (o.strict.map (.int .i64))]
attribute [go_sem] oQ
theorem aHI {α:Type} (fin:Fault) (sep:aD) (one:List α→List Tok→Nat→Rd α):∀ (f:Nat) (a:List α) (w:List Tok) (n:Nat) (p:List α→List Tok→Nat→Prop) (b:Fault→Prop),
  (dH fin sep (fun acc w n=>(one acc w n).bind fun a w n=>.ok (acc++[a]) w n) f a w n).to p b →
  (dH fin sep (fun acc w n=>(one acc w n).bind fun a w n=>.ok (acc++[a]) w n) f a w n).to (fun l w n=>l≠[]∧p l w n) b
 | 0,a,w,n,p,b,h=>h
 | f+1,a,w,n,p,b,h=>by
  simp only[dH,bL] at h ⊢;refine aW h (fun x w n h=>?_) (fun _ h=>h);simp only[bU] at h ⊢;split
  ·rename_i e;rw[if_pos e] at h;exact aHI fin sep one f (a++[x]) w.tail n p b h
  ·rename_i e;rw[if_neg e] at h;exact ⟨by simp,h⟩
section
variable {T:List Tok} {fin:Fault} {d:Dc} {first:Tok} {i n:Nat} {s:St} {r:Nat} {KV Kp:St→A→Prop}
theorem aFl {s1:St} {L M:List Nat} {f:Fault} (hr:r∈L) (hg:s1.gel s L M) (h:∀ s1 o,s1.gel s L M→s1.getO r=some o→Kp s1 (.iface 36 f.enc)):PB s1 r (DK Kp) f :=
 fun o=>aO (h _ o (vW hr hg) (by rw[aJ,if_pos rfl]))
theorem aLV (hT:TOk T) (b2:Nat) (hr:s.getO r=some (bC T fin d first i n)) (h2:s.getO b2=some (.cells 74 [.ptr r 0])) (hi:i≤T.length)
  (hk:(nL fin 8 (T.drop i) n).to (fun x w n'=>i+1≤T.length→T.drop (i+1)=w→n'=n→KV (s.setO r (bC T fin d first (i+1) n)) (.int .i64 x)) (PB s r Kp)):Den cx 283 [.ptr b2 0] KV Kp s:=by
 (refine aZ func283 [0,1] ?_;simp only[go_sem,ntmps283,Tryz.f283]);simp only[go_sem,h2];refine aGa 8 hr hi hT (aW hk (fun x w m h a b c=>?_) (fun f h=>PB.mk (fF _ _) h));simp only[go_sem];exact aO (h a b c)
theorem aG4 (hT:TOk T) (b:Nat) (aA pA:A) (ha:aA.one=true) (hp:pA.one=true) (o:Opr) (k:Nat) (hr:s.getO r=some (bC T fin d first i n)) (hb:s.getO b=some (.cells 73 (oQ o aA pA))) (hne:b≠r) (hi:i≤T.length) (hn:n≤2000) (hik:T.length-i<k)
  (hk : (pH fin k o (T.drop i) n).to (fun o' w n' => ∀ j,i ≤ j → j ≤ T.length → T.drop j = w → n' ≤ 2000 → KV ((s.setO b (.cells 73 (oQ o' aA pA))).setO r (bC T fin d first j n')) (.tuple []))
   (fun f=>∀ s1 x,s1.gel s [b,r] []→s1.getO r=some x→Kp s1 (.iface 36 f.enc))):Den cx 221 [.ptr r 0,.ptr b 0] KV Kp s:=by
 have hlenT:=hT.len;(refine aZ func221 [0,1,2,4,7,11,14,21,63,74,87,94,99] ?_;simp only[go_sem,ntmps221,f221]);(intro b2 hb2;try simp only[aV,aT,ne_eq] at hb2);have e2:=cF hr (by first|exact hb2|exact hb2.2|exact hb2.2.2|exact hb2.2.2.2|exact hb2.2.2.2.2|exact hb2.2.2.2.2.2|exact hb2.2.2.2.2.2.2);have e2b:=cF hb hb2;have hneS:=hne.symm;simp only[go_sem,hb2,e2,hne,hne.symm,e2b,ha,hp]
 refine Ex.loop (ι:=Opr × Nat × Nat × Nat) (fun c=>[(0,.ptr r 0),(1,.ptr b 0),(2,.ptr b2 0)]) (fun c=>((s.setO b2 (.cells 74 [.ptr r 0])).setO b (.cells 73 (oQ c.1 aA pA))).setO r (bC T fin d first c.2.1 c.2.2.1))
  (fun c => i ≤ c.2.1 ∧ c.2.1 ≤ T.length ∧ c.2.2.1 ≤ 2000 ∧ T.length - c.2.1 < c.2.2.2 ∧ (pH fin c.2.2.2 c.1 (T.drop c.2.1) c.2.2.1).to (fun o' w n' => ∀ j,i ≤ j → j ≤ T.length → T.drop j = w → n' ≤ 2000 → KV ((s.setO b (.cells 73 (oQ o' aA pA))).setO r (bC T fin d first j n')) (.tuple []))
   (fun f=>∀ s1 x,s1.gel s [b,r] []→s1.getO r=some x→Kp s1 (.iface 36 f.enc)))
  (fun c=>T.length-c.2.1) (o,i,n,k) ?_ ?_ ?_ ?_
 ·exact ⟨bE _,hi,hn,hik,hk⟩
 ·simp only[go_sem,hb2,e2,hne,hne.symm,e2b,ha,hp]
 ·refine mT (rT ?_ (rT ?_ (vN _ _ _)))
  ·rw[aJ,if_neg e2.2];exact hr
  ·rw[aJ,if_neg e2b.2];exact hb
 ·rintro ⟨o,i2,n,k⟩ ⟨hi1,hi2,hn,hk3,hk4⟩;simp only at hi1 hi2 hn hk3 hk4;obtain ⟨k,rfl⟩:∃ k',k=k'+1:=⟨k-1,by omega⟩
  have hbr:r∈[b,r]:=by simp
  refine bV (V:=[0,1,2,4,7,11,14,21,63,74,87,94,99]) _ _ _ _ ?_;simp only[go_sem,hb2,e2,hne,hne.symm,e2b,ha,hp];refine nN (T:=T) (fin:=fin) (d:=d) (first:=first) (i:=i2) (n:=n) _ gH hi2 ?_;rw[pH.eq_def] at hk4;simp only at hk4;cases hx:bI [46] (T.drop i2) with
  | true =>
   rw[if_pos hx,bU] at hk4;simp only[go_sem,hb2,e2,hne,hne.symm,e2b,ha,hp];exact aM (hk4 i2 hi1 hi2 rfl hn) aL
  | false =>
   rw[if_neg (by rw[hx];simp)] at hk4;simp only[go_sem,hb2,e2,hne,hne.symm,e2b,ha,hp];refine kB (T:=T) (fin:=fin) (d:=d) (first:=first) (i:=i2) (n:=n) gH hi2 ?_;cases hw:T.drop i2 with
   | nil=>rw[hw] at hk4;exact aO (hk4 _ (bC T fin d first i2 n) kQ gH)
   | cons t w =>
    obtain ⟨g1,g2,g3,g4⟩:=lI hw;rw[hw] at hk4;simp only at hk4;simp only[go_sem,hb2,e2,hne,hne.symm,e2b,ha,hp];(intro b4 hb4;try simp only[aV,ne_eq] at hb4);simp only[go_sem,hb2,e2,hne,hne.symm,e2b,ha,hp,hb4]
    have bad:∀ (KV':St→A→Prop) (c:Int) (s1:St),s1.gel s [b,r] []→s1.getO r=some (bC T fin d first i2 n)→(∀ s1 x,s1.gel s [b,r] []→s1.getO r=some x→Kp s1 (.iface 36 (eG fin c (t::w)).enc))→Den cx 42 [.ptr r 0,.int .i64 c] KV' (DK Kp) s1:=by
     intro KV' c s1 hg1 hr1 hf;refine nZ c hr1 hi2 hT ?_;rw[hw];exact aO (hf _ _ hg1 hr1)
    by_cases x1:t.text=[112,114,101,99]
    ·have d1:decide (t.text=[112,114,101,99])=true:=by rw[x1];rfl
     have d2:decide (t.text=[108,101,102,116])=false:=by rw[x1];rfl
     have d3:decide (t.text=[114,105,103,104,116])=false:=by rw[x1];rfl
     have d4:decide (t.text=[115,116,114,105,99,116])=false:=by rw[x1];rfl
     simp only[go_sem,hb2,e2,hne,hne.symm,e2b,ha,hp,hb4,d1,d2,d3,d4];cases c1:decide (t.kind=1)
     ·rw[if_pos (by simpa using c1),eH] at hk4;simp only[go_sem,hb2,e2,hne,hne.symm,e2b,ha,hp,hb4,c1];exact bad _ _ _ kQ gH hk4
     rw[if_neg (by simpa using c1),if_pos x1] at hk4;simp only[go_sem,hb2,e2,hne,hne.symm,e2b,ha,hp,hb4,c1,d1,d2,d3,d4];cases c2:decide (0<o.prec)
     ·rw[if_neg (by simpa using c2),bL,← g3] at hk4;simp only[go_sem,hb2,e2,hne,hne.symm,e2b,ha,hp,hb4,c1,c2,d1,d2,d3,d4,bP i2 (by omega)];refine aGa (T:=T) (fin:=fin) (d:=d) (first:=first) (i:=i2+1) (n:=n) 20 gH g2 hT (aW hk4 (fun x w m hk5 hlt hw hm=>?_) (fun f h=>aFl hbr kQ h));subst m;rw[← hw] at hk5;simp only[go_sem,hb2,e2,hne,hne.symm,e2b,ha,hp,hb4];refine ⟨({ o with prec:=x },i2+1+1,n,k),⟨by simp only;omega,by simp only;omega,hn,by simp only;omega,hk5⟩,by simp only;omega,aL⟩
     ·rw[if_pos (by simpa using c2),eH] at hk4;simp only[go_sem,hb2,e2,hne,hne.symm,e2b,ha,hp,hb4,c1,c2,d1,d2,d3,d4];exact bad _ _ _ kQ gH hk4
    by_cases x2:t.text=[108,101,102,116]
    ·have d1:decide (t.text=[112,114,101,99])=false:=by rw[x2];rfl
     have d2:decide (t.text=[108,101,102,116])=true:=by rw[x2];rfl
     have d3:decide (t.text=[114,105,103,104,116])=false:=by rw[x2];rfl
     have d4:decide (t.text=[115,116,114,105,99,116])=false:=by rw[x2];rfl
     simp only[go_sem,hb2,e2,hne,hne.symm,e2b,ha,hp,hb4,d1,d2,d3,d4];cases c1:decide (t.kind=1)
     ·rw[if_pos (by simpa using c1),eH] at hk4;simp only[go_sem,hb2,e2,hne,hne.symm,e2b,ha,hp,hb4,c1];exact bad _ _ _ kQ gH hk4
     rw[if_neg (by simpa using c1),if_neg x1,if_pos x2] at hk4;simp only[go_sem,hb2,e2,hne,hne.symm,e2b,ha,hp,hb4,c1,d1,d2,d3,d4];cases c2:decide (o.assoc=0)
     ·rw[if_neg (by simpa using c2),eH] at hk4;simp only[go_sem,hb2,e2,hne,hne.symm,e2b,ha,hp,hb4,c1,c2,d1,d2,d3,d4];exact bad _ _ _ kQ gH hk4
     ·rw[if_pos (by simpa using c2),← g3] at hk4;simp only[go_sem,hb2,e2,hne,hne.symm,e2b,ha,hp,hb4,c1,c2,d1,d2,d3,d4,bP i2 (by omega)];refine ⟨({ o with assoc:=1 },i2+1,n,k),⟨by simp only;omega,by simp only;omega,hn,by simp only;omega,hk4⟩,by simp only;omega,aL⟩
    by_cases x3:t.text=[114,105,103,104,116]
    ·have d1:decide (t.text=[112,114,101,99])=false:=by rw[x3];rfl
     have d2:decide (t.text=[108,101,102,116])=false:=by rw[x3];rfl
     have d3:decide (t.text=[114,105,103,104,116])=true:=by rw[x3];rfl
     have d4:decide (t.text=[115,116,114,105,99,116])=false:=by rw[x3];rfl
     simp only[go_sem,hb2,e2,hne,hne.symm,e2b,ha,hp,hb4,d1,d2,d3,d4];cases c1:decide (t.kind=1)
     ·rw[if_pos (by simpa using c1),eH] at hk4;simp only[go_sem,hb2,e2,hne,hne.symm,e2b,ha,hp,hb4,c1];exact bad _ _ _ kQ gH hk4
     rw[if_neg (by simpa using c1),if_neg x1,if_neg x2,if_pos x3] at hk4;simp only[go_sem,hb2,e2,hne,hne.symm,e2b,ha,hp,hb4,c1,d1,d2,d3,d4];cases c2:decide (o.assoc=0)
     ·rw[if_neg (by simpa using c2),eH] at hk4;simp only[go_sem,hb2,e2,hne,hne.symm,e2b,ha,hp,hb4,c1,c2,d1,d2,d3,d4];exact bad _ _ _ kQ gH hk4
     ·rw[if_pos (by simpa using c2),← g3] at hk4;simp only[go_sem,hb2,e2,hne,hne.symm,e2b,ha,hp,hb4,c1,c2,d1,d2,d3,d4,bP i2 (by omega)];refine ⟨({ o with assoc:=2 },i2+1,n,k),⟨by simp only;omega,by simp only;omega,hn,by simp only;omega,hk4⟩,by simp only;omega,aL⟩
    by_cases x4:t.text=[115,116,114,105,99,116]
    ·have d1:decide (t.text=[112,114,101,99])=false:=by rw[x4];rfl
     have d2:decide (t.text=[108,101,102,116])=false:=by rw[x4];rfl
     have d3:decide (t.text=[114,105,103,104,116])=false:=by rw[x4];rfl
     have d4:decide (t.text=[115,116,114,105,99,116])=true:=by rw[x4];rfl
     simp only[go_sem,hb2,e2,hne,hne.symm,e2b,ha,hp,hb4,d1,d2,d3,d4];cases c1:decide (t.kind=1)
     ·rw[if_pos (by simpa using c1),eH] at hk4;simp only[go_sem,hb2,e2,hne,hne.symm,e2b,ha,hp,hb4,c1];exact bad _ _ _ kQ gH hk4
     rw[if_neg (by simpa using c1),if_neg x1,if_neg x2,if_neg x3,if_pos x4] at hk4;simp only[go_sem,hb2,e2,hne,hne.symm,e2b,ha,hp,hb4,c1,d1,d2,d3,d4];cases c2:decide ((0:Int)<(o.strict.length:Int));rotate_left
     ·rw[if_pos (by simpa using c2),eH] at hk4;simp only[go_sem,hb2,e2,hne,hne.symm,e2b,ha,hp,hb4,c1,c2,d1,d2,d3,d4];exact bad _ _ _ kQ gH hk4
     rw[if_neg (by simpa using c2),bL,← g3] at hk4;simp only[go_sem,hb2,e2,hne,hne.symm,e2b,ha,hp,hb4,c1,c2,d1,d2,d3,d4,bP i2 (by omega)];refine fH (T:=T) (fin:=fin) (d:=d) (first:=first) (i:=i2+1) (n:=n) _ gH g2 hT (aW hk4 (fun _ w m hk5 hlt5 hw hm=>?_) (fun f h=>aFl hbr kQ h));subst m;rw[← hw,bL] at hk5;simp only[go_sem,hb2,e2,hne,hne.symm,e2b,ha,hp,hb4]
     refine dE (lY gH) (aKO (fin:=fin) (d:=d) (fi:=first) (fun x:Int=>A.int .i64 x) (fun _=>rfl) (fun _=>rfl) hT (fun s'=>s'.getO b2=some (.cells 74 [.ptr r 0])) (fun _ _ _=>Iff.rfl)
      (nL fin 8) 283 [] [.ptr b2 0] (aCy (fun s' x hq => by rw [aJ,if_neg e2.1]; exact hq)
       (fun s' i' n' KV' Kp' hr' hq' hi' hn' hk'=>aLV hT b2 hr' hq' hi' (aW hk' (fun _ _ _ h h1 h2 h3=>by subst h3;exact h (i'+1) (by omega) h1 h2 hn') (fun _ h=>h)))) (i2+1+1) n ?_ hlt5 hn ?_)
     ·exact gH
     refine aW (aHI _ _ _ _ _ _ _ _ _ hk5) (fun l w m hk6 j hj hjT hw hm=>?_) (fun f h s1 x hg hr1=>aO (h _ _ ((aHx hg hbr).trans kQ) hr1));obtain ⟨hl,hk6⟩:=hk6;subst hw;rw[bL] at hk6
     obtain ⟨x0,l0,rfl⟩:∃ x0 l0,l=x0::l0:=by
      cases l with
      | nil=>exact absurd rfl hl
      | cons a b=>exact ⟨a,b,rfl⟩
     simp only[go_sem,hb2,e2,hne,hne.symm,e2b,ha,hp,hb4];refine fH (T:=T) (fin:=fin) (d:=d) (first:=first) (i:=j) (n:=m) _ gH hjT hT (aW hk6 (fun _ w m' hk7 hlt7 hw hm'=>?_) (fun f h=>aFl hbr kQ h));subst m';rw[← hw] at hk7;simp only[go_sem,hb2,e2,hne,hne.symm,e2b,ha,hp,hb4];refine ⟨({ o with strict:=x0::l0 },j+1,m,k),⟨by simp only;omega,by simp only;omega,hm,by simp only;omega,hk7⟩,by simp only;omega,aL⟩
    ·have d1:decide (t.text=[112,114,101,99])=false:=by simpa using x1
     have d2:decide (t.text=[108,101,102,116])=false:=by simpa using x2
     have d3:decide (t.text=[114,105,103,104,116])=false:=by simpa using x3
     have d4:decide (t.text=[115,116,114,105,99,116])=false:=by simpa using x4
     rw[if_neg x1,if_neg x2,if_neg x3,if_neg x4,ite_self,eH] at hk4;simp only[go_sem,hb2,e2,hne,hne.symm,e2b,ha,hp,hb4,d1,d2,d3,d4];exact bad _ _ _ kQ gH hk4
end
end
section
section
variable {T:List Tok} {fin:Fault} {d:Dc} {first:Tok} {i n:Nat} {s:St} {r:Nat} {KV Kp:St→A→Prop}
theorem aBt {α:Type} {r:Rd α} {p:α→List Tok→Nat→Prop} {b:Fault→Prop} (h:∀ a w n,p a w n) (hb:∀ f,b f):r.to p b:=by
 cases r with
 | ok a w n=>exact h a w n
 | bad f=>exact hb f
theorem aD9 {α:Type} {r:Rd α} {p q:α→List Tok→Nat→Prop} {b:Fault→Prop} (h:r.to p b) (hq:r.to q (fun _=>True)):r.to (fun a w n=>q a w n∧p a w n) b:=by
 cases r with
 | ok a w n=>exact ⟨hq,h⟩
 | bad f=>exact h
theorem aDR (fin:Fault):∀ (k:Nat) (o:Opr) (w:List Tok) (n:Nat),(pH fin k o w n).to (fun o' _ _=>o'.name=o.name∧o'.args=o.args∧o'.sort=o.sort∧o'.pieces=o.pieces) (fun _=>True)
 | 0,o,w,n=>trivial
 | k+1,o,w,n=>by
  have ih:=fun (o':Opr) w n=>aDR fin k o' w n
  rw[pH.eq_def];simp only;split
  ·exact ⟨rfl,rfl,rfl,rfl⟩
  ·cases w with
   | nil=>trivial
   | cons t w =>
    simp only[xR,bL,eH]
    repeat' split
    all_goals first|trivial|exact ih _ _ _|exact aBt (fun a w n=>ih { o with prec:=a } w n) (fun _=>trivial)|exact aBt (fun _ w n=>aBt (fun l w n=>aBt (fun _ w n=>ih { o with strict:=l } w n) (fun _=>trivial)) (fun _=>trivial)) (fun _=>trivial)
def zK (T:List Tok) (fin:Fault) (d:Dc) (first:Tok) (b r:Nat) (x:aD) (s:St) (ta tp:Option Nat) (ar:List aD) (ps:List Piece) (i n:Nat):St :=
 gs (gs ((s.setO b (.cells 73 [.str x,gv ta (ar.map .str),.str [],gv tp (ps.map Piece.enc),.int .i64 0,.int .i64 0,.nils])).setO r (bC T fin d first i n)) ta ar.length 9) tp ps.length 143
theorem aPl (hT:TOk T) (hr:s.getO r=some (bC T fin d first i n)) (hi:i≤T.length) (hn:n≤2000)
  (hk:(zP fin (T.drop i) n).to (PK T i (fun j m=>s.setO r (bC T fin d first j m)) Opr.enc KV) (PB s r Kp)):Den cx 151 [.ptr r 0] KV Kp s:=by
 have hlenT:=hT.len;simp only[zP,bL] at hk;(refine aZ func151 [0,2,3,4,5,14,29,39,76] ?_;simp only[go_sem,ntmps151,f151]);(intro b2 hb2;try simp only[aV,aT,ne_eq] at hb2);have e2:=cF hr (by first|exact hb2|exact hb2.2|exact hb2.2.2|exact hb2.2.2.2|exact hb2.2.2.2.2|exact hb2.2.2.2.2.2|exact hb2.2.2.2.2.2.2);simp only[go_sem,hb2,e2];(refine iC (T:=T) (fin:=fin) (d:=d) (first:=first) (i:=i) (n:=n) gH hi hT (aW hk (fun x1 w1 m1 hk1 hlt1 hw1 hm1=>?_) (fun f h=>PB.mk aQ h));subst m1;rw[← hw1] at hk1);simp only[go_sem,hb2,e2];(intro b3 hb3;try simp only[aV,aT,ne_eq] at hb3);have e3:=cF hr (by first|exact hb3|exact hb3.2|exact hb3.2.2|exact hb3.2.2.2|exact hb3.2.2.2.2|exact hb3.2.2.2.2.2|exact hb3.2.2.2.2.2.2);simp only[go_sem,hb2,e2,hb3,e3];(refine fH (T:=T) (fin:=fin) (d:=d) (first:=first) (i:=i+1) (n:=n) _ gH hlt1 hT (aW hk1 (fun _ w2 m2 hk2 hlt2 hw2 hm2=>?_) (fun f h=>PB.mk aQ h));subst m2;rw[← hw2] at hk2);simp only[go_sem,hb2,e2,hb3,e3];rw[show (T.drop (i+1+1)).length=T.length-(i+1+1) by rw[cP]] at hk2
 refine Ex.loop (ι:=(Option Nat × Option Nat) × (List aD × List Piece × Bool) × Nat) (fun c=>[(0,.ptr r 0),(2,.ptr b2 0),(3,.ptr b3 0),(4,.bool c.2.1.2.2)])
  (fun c=>zK T fin d first b3 r x1 (s.setO b2 (.cells 73 [.str [],.nils,.str [],.nils,.int .i64 0,.int .i64 0,.nils])) c.1.1 c.1.2 c.2.1.1 c.2.1.2.1 c.2.2 n)
  (fun c => (c.1.1 = none → c.2.1.1 = []) ∧ (c.1.2 = none → c.2.1.2.1 = []) ∧ (∀ t,c.1.1 = some t → s.getT t = none) ∧ (∀ t,c.1.2 = some t → s.getT t = none ∧ c.1.1 ≠ some t) ∧ i + 1 + 1 ≤ c.2.2 ∧ c.2.2 ≤ T.length ∧ c.2.1.1.length ≤ c.2.2 ∧ c.2.1.2.1.length ≤ c.2.2 ∧ ∃ k,T.length - c.2.2 < k ∧
   (uL fin k c.2.1.2.1 c.2.1.1 c.2.1.2.2 (T.drop c.2.2) n).to (fun p w n=>(dS fin w n).to (fun y w n=>(pH fin (w.length+1) ⟨x1,p.2.1,y,if p.2.2=true then p.1 else [],0,0,[]⟩ w n).to (PK T i (fun j m=>s.setO r (bC T fin d first j m)) Opr.enc KV) (PB s r Kp)) (PB s r Kp)) (PB s r Kp))
  (fun c=>T.length-c.2.2) ((none,none),([],[],false),i+1+1) ?_ ?_ ?_ ?_
 ·exact ⟨fun _=>rfl,fun _=>rfl,fun t e=>(by cases e),fun t e=>(by cases e),bE _,hlt2,bS _,bS _,_,iU _,hk2⟩
 ·simp only[go_sem,hb2,e2,hb3,e3]
 ·exact aL
 ·rintro ⟨⟨ta,tp⟩,⟨ar,ps,tx⟩,i2⟩ ⟨hnila,hnilp,hfa,hfp,hi1,hi2,has,hps,k,hk3,hk4⟩;simp only at hnila hnilp hfa hfp hi1 hi2 has hps hk3 hk4;obtain ⟨k,rfl⟩:∃ k',k=k'+1:=⟨k-1,by omega⟩
  have hfp1:∀ t,tp=some t→s.getT t=none:=fun t e=>(hfp t e).1
  have hgp:lS (zK T fin d first b3 r x1 (s.setO b2 (.cells 73 [.str [],.nils,.str [],.nils,.int .i64 0,.int .i64 0,.nils])) ta tp ar ps i2 n) tp (ps.map Piece.enc).length 143:=by rw[aI];exact fA fun e=>by rw[hnilp e];rfl
  have hga:lS (zK T fin d first b3 r x1 (s.setO b2 (.cells 73 [.str [],.nils,.str [],.nils,.int .i64 0,.int .i64 0,.nils])) ta tp ar ps i2 n) ta (ar.map A.str).length 9:=by
   rw[aI];cases ta with
   | none=>rw[hnila rfl];rfl
   | some t =>
    show (gs _ _ _ _).getT t=_;rw[eZ,if_neg (fun e=>(hfp t e).2 rfl),eZ,if_pos rfl]
  refine bV (V:=[0,2,3,4,5,14,29,39,76]) _ _ _ _ ?_;unfold zK;simp only[go_sem,hb2,e2,hb3,e3];refine iZ (T:=T) (fin:=fin) (d:=d) (first:=first) (i:=i2) (n:=n) _ gH hi2 hT ?_;rw[uL.eq_def] at hk4;simp only at hk4;cases hx:bI [45,62] (T.drop i2) with
  | true =>
   rw[if_pos hx,bU,mO] at hk4;have hlt:=kY hx
   have hle:∀ (o:Opr),o.name=x1→o.args=ar→o.pieces=(if tx=true then ps else [])→A.le (.agg (oQ o (gv ta (ar.map A.str)) (if tx=true then gv tp (ps.map Piece.enc) else .nils))) o.enc:=fun o e1 e2 e3=>by
    subst e1 e2;refine A.le.agg ⟨⟨aK _,rfl⟩,⟨fN _ _ (fun e=>by rw[hnila e];rfl),rfl⟩,⟨aK _,rfl⟩,⟨?_,rfl⟩,⟨aK _,rfl⟩,⟨aK _,rfl⟩,⟨aCp _,rfl⟩,trivial⟩;rw[e3];cases tx
    ·exact A.le.nil
    ·exact fN _ _ (fun e=>by rw[hnilp e];rfl)
   simp only[go_sem,hb2,e2,hb3,e3];cases tx
   ·simp only[go_sem,hb2,e2,hb3,e3];(refine iC (T:=T) (fin:=fin) (d:=d) (first:=first) (i:=i2+1) (n:=n) gH hlt hT (aW hk4 (fun x5 w5 m5 hk5 hlt5 hw5 hm5=>?_) (fun f h=>PB.mk aQ h));subst m5;rw[← hw5] at hk5);simp only[go_sem,hb2,e2,hb3,e3];refine aG4 hT b3 (gv ta (ar.map A.str)) .nils (lM _ _) rfl ⟨x1,ar,x5,[],0,0,[]⟩ ((List.drop (i2+1+1) T).length+1) (T:=T) (fin:=fin) (d:=d) (first:=first) (i:=i2+1+1) (n:=n) gH gH hb3.1.2 hlt5 hn (by rw[cP];omega) (aW (aD9 hk5 (aDR _ _ _ _ _)) (fun o' w m h j hj hjT hw hm=>?_) (fun f h s1 x hg hr1=>?_))
    ·obtain ⟨⟨q1,q2,q3,q4⟩,h⟩:=h;have hk:=h j (by omega) hjT hw hm;simp only[go_sem,hb2,e2,hb3,e3];refine ⟨by cases ta<;>cases o'.strict<;>rfl,?_⟩;refine DK.mk hk aL ?_;have:=hle o' q1 q2 q4;simp only[go_sem] at this;exact this
    ·exact aM (h x) (mT (rT hr1 (aH2 hb3.2.2 (hg.trans kQ))))
   ·simp only[go_sem,hb2,e2,hb3,e3];(refine iC (T:=T) (fin:=fin) (d:=d) (first:=first) (i:=i2+1) (n:=n) gH hlt hT (aW hk4 (fun x5 w5 m5 hk5 hlt5 hw5 hm5=>?_) (fun f h=>PB.mk aQ h));subst m5;rw[← hw5] at hk5);simp only[go_sem,hb2,e2,hb3,e3];refine aG4 hT b3 (gv ta (ar.map A.str)) (gv tp (ps.map Piece.enc)) (lM _ _) (lM _ _) ⟨x1,ar,x5,ps,0,0,[]⟩ ((List.drop (i2+1+1) T).length+1) (T:=T) (fin:=fin) (d:=d) (first:=first) (i:=i2+1+1) (n:=n) gH gH hb3.1.2 hlt5 hn (by rw[cP];omega) (aW (aD9 hk5 (aDR _ _ _ _ _)) (fun o' w m h j hj hjT hw hm=>?_) (fun f h s1 x hg hr1=>?_))
    ·obtain ⟨⟨q1,q2,q3,q4⟩,h⟩:=h;have hk:=h j (by omega) hjT hw hm;simp only[go_sem,hb2,e2,hb3,e3];refine ⟨by cases ta<;>cases tp<;>cases o'.strict<;>rfl,?_⟩;refine DK.mk hk aL ?_;have:=hle o' q1 q2 q4;simp only[go_sem] at this;exact this
    ·exact aM (h x) (mT (rT hr1 (aH2 hb3.2.2 (hg.trans kQ))))
  | false =>
   rw[if_neg (by rw[hx];simp)] at hk4;simp only[go_sem,hb2,e2,hb3,e3];refine kB (T:=T) (fin:=fin) (d:=d) (first:=first) (i:=i2) (n:=n) gH hi2 ?_;cases hw:T.drop i2 with
   | nil=>rw[hw] at hk4;exact hk4.at aQ gH
   | cons t w =>
    obtain ⟨g1,g2,g3,g4⟩:=lI hw;rw[hw] at hk4;simp only at hk4;simp only[go_sem,hb2,e2,hb3,e3];(intro b4 hb4;try simp only[aV,aT,ne_eq] at hb4);have e4:=cF hr (by first|exact hb4|exact hb4.2|exact hb4.2.2|exact hb4.2.2.2|exact hb4.2.2.2.2|exact hb4.2.2.2.2.2|exact hb4.2.2.2.2.2.2);simp only[go_sem,hb2,e2,hb3,e3,hb4,e4];cases c3:decide (t.kind=3);rotate_left
    ·
     have k3:t.kind=3:=by simpa using c3
     rw[if_pos (.inl k3),if_pos k3] at hk4;simp only[go_sem,hb2,e2,hb3,e3,hb4,e4,c3,gV hgp];refine mP (T:=T) (fin:=fin) (d:=d) (first:=first) (i:=i2) (n:=n) _ _ gH hi2 ?_;by_cases h20:20≤ps.length
     ·rw[if_pos h20,eH] at hk4;rw[if_pos (by omega),hw];exact PB.mk aQ hk4
     rw[if_neg h20,← g3] at hk4;rw[if_neg (by omega)];simp only[go_sem,hb2,e2,hb3,e3,hb4,e4,c3];refine ⟨by decide,fun y hy=>by simp only[cE] at hy;subst hy;rfl,cW rfl rfl (by rw[aI];exact fA fun e=>by rw[hnilp e];rfl) (fun y hy=>?_) (by simp only[aI,aF,aH];omega) (fun u hu=>?_)⟩
     ·simp only[bW] at hy;obtain ⟨q,_,rfl⟩:=hy;rfl
     have hfu:s.getT u=none∧ta≠some u:=by
      rcases hu with e|⟨e,hu⟩
      ·exact hfp u e
      ·rw[e] at hu;have hu:(gs (gs _ ta _ _) none _ _).getT u=none:=hu;rw[eZ,if_neg (by simp),eZ] at hu;split at hu
       ·cases hu
       ·rename_i e2;exact ⟨hu,e2⟩
     have hnu:=hfu.2;rw[gY hu];simp only[go_sem,hb2,e2,hb3,e3,hb4,e4,bP i2 (by omega)];refine ⟨((ta,some u),(ar,ps++[⟨t.text,[]⟩],true),i2+1),⟨hnila,fun e=>(by cases e),hfa,fun t' e=>by cases e;exact hfu,by simp only;omega,by simp only;omega,by simp only;omega,by simp only[aR,aF,aH];omega,k,by simp only;omega,hk4⟩,by simp only;omega,?_⟩;simp only[zK,cL,cM,bK,bQ,aR,aF,aH,aI];exact ⟨trivial,aL⟩
    have k3:¬ t.kind=3:=by simpa using c3
    cases c1:decide (t.kind=1)
    ·rw[if_neg (by simp[k3,Tok.free,c1]),eH] at hk4;simp only[go_sem,hb2,e2,hb3,e3,hb4,e4,c3,c1];refine nZ (T:=T) (fin:=fin) (d:=d) (first:=first) (i:=i2) (n:=n) 11 gH hi2 hT ?_;rw[hw];exact PB.at hk4 aQ gH
    simp only[go_sem,hb2,e2,hb3,e3,hb4,e4,c3,c1];refine sI _ _ _ _ ?_;simp only[go_sem,hb2,e2,hb3,e3,hb4,e4];cases c2:decide (t.text∈jL);rotate_left
    ·rw[if_neg (by simp[k3,Tok.free,c2]),eH] at hk4;simp only[go_sem,hb2,e2,hb3,e3,hb4,e4,c2];refine nZ (T:=T) (fin:=fin) (d:=d) (first:=first) (i:=i2) (n:=n) 11 gH hi2 hT ?_;rw[hw];exact PB.at hk4 aQ gH
    rw[if_pos (.inr (by simp[Tok.free,c1,c2])),if_neg k3] at hk4;simp only[go_sem,hb2,e2,hb3,e3,hb4,e4,c2,gV hgp];refine mP (T:=T) (fin:=fin) (d:=d) (first:=first) (i:=i2) (n:=n) _ _ gH hi2 ?_;by_cases h20:20≤ps.length
    ·rw[if_pos h20,eH] at hk4;rw[if_pos (by omega),hw];exact PB.mk aQ hk4
    rw[if_neg h20] at hk4;rw[if_neg (by omega)];simp only[go_sem,hb2,e2,hb3,e3,hb4,e4,c3,gV hga];refine mP (T:=T) (fin:=fin) (d:=d) (first:=first) (i:=i2) (n:=n) _ _ gH hi2 ?_;by_cases h8:8≤ar.length
    ·rw[if_pos h8,eH] at hk4;rw[if_pos (by omega),hw];exact PB.mk aQ hk4
    rw[if_neg h8,← g3] at hk4;rw[if_neg (by omega)];simp only[go_sem,hb2,e2,hb3,e3,hb4,e4,c3];refine ⟨by decide,fun y hy=>by simp only[cE] at hy;subst hy;rfl,cW rfl rfl (by rw[aI];exact fA fun e=>by rw[hnilp e];rfl) (fun y hy=>?_) (by simp only[aI,aF,aH];omega) (fun u hu=>?_)⟩
    ·simp only[bW] at hy;obtain ⟨q,_,rfl⟩:=hy;rfl
    have hfu:s.getT u=none∧ta≠some u:=by
     rcases hu with e|⟨e,hu⟩
     ·exact hfp u e
     ·rw[e] at hu;have hu:(gs (gs _ ta _ _) none _ _).getT u=none:=hu;rw[eZ,if_neg (by simp),eZ] at hu;split at hu
      ·cases hu
      ·rename_i e2;exact ⟨hu,e2⟩
    have hnu:=hfu.2;rw[gY hu];simp only[go_sem,hb2,e2,hb3,e3,hb4,e4];refine ⟨by decide,fun y hy=>by simp only[cE] at hy;subst hy;rfl,cW rfl rfl ?_ (fun y hy=>?_) (by simp only[aI,aF,aH];omega) (fun v hv=>?_)⟩
    ·rw[aI];cases ta with
     | none=>rw[hnila rfl];rfl
     | some t =>
      show St.getT _ t=_;rw[cO,if_neg (fun e=>hnu (by rw[e])),eZ,if_pos rfl]
    ·simp only[bW] at hy;obtain ⟨q,_,rfl⟩:=hy;rfl
    have hfv:s.getT v=none∧¬ v=u:=by
     rcases hv with e|⟨e,hv⟩
     ·exact ⟨hfa v e,fun e2=>hnu (by rw[e,e2])⟩
     ·subst e;rw[cO] at hv;split at hv
      ·cases hv
      ·rename_i e2;exact ⟨hv,fun e3=>e2 e3.symm⟩
    simp only[go_sem,hb2,e2,hb3,e3,hb4,e4,bP i2 (by omega)];refine ⟨((some v,some u),(ar++[t.text],ps++[⟨[],t.text⟩],tx),i2+1),⟨fun e=>(by cases e),fun e=>(by cases e),fun t' e=>by cases e;exact hfv.1,fun t' e=>by cases e;exact ⟨hfu.1,fun e=>hfv.2 (by cases e;rfl)⟩,by simp only;omega,by simp only;omega,by simp only[aR,aF,aH];omega,by simp only[aR,aF,aH];omega,k,by simp only;omega,hk4⟩,by simp only;omega,?_⟩;simp only[zK,cL,cM,bK,bQ,aR,aF,aH,aI];have hvu:=hfv.2;refine ⟨trivial,mT (uE ?_ (uE ?_ kQ))⟩
    ·rintro _ ⟨⟩;simp only[cO,hvu,if_false,reduceIte,gU]
    ·rintro _ ⟨⟩;simp only[cO,reduceIte,gU]
end
end
section
def kW (p:Part):A:=.agg (.str p.cell::.str p.at_::(p.left.cs++[nv (p.right.map Tm.enc),.int .i64 p.line,.int .i64 p.col]))
def iQ (x:Rul) (tp tn td:Option Nat):Ob:=.cells 84 [.str x.name,gv tp (x.parts.map kW),.nils,gv tn (x.new.map Fresh.enc),gv td (x.drop.map .str),.int .i64 x.line,.int .i64 x.col]
def bZ (x:Rul) (tp tn td:Option Nat):List eR:=[(tp,x.parts.length,86),(tn,x.new.length,141),(td,x.drop.length,9)]
def gM (T:List Tok) (fin:Fault) (d:Dc) (first:Tok) (b r:Nat) (s:St) (x:Rul) (tp tn td:Option Nat) (i n:Nat):St:=cY ((s.setO b (iQ x tp tn td)).setO r (bC T fin d first i n)) (bZ x tp tn td)
structure RulQ (b r:Nat) (s:St) (x:Rul) (tp tn td:Option Nat) (i:Nat):Prop where
 own:OwnOk s (bZ x tp tn td)
 hb:s.getO b=none
 ne:b≠r
 l1:x.parts.length≤i
 l2:x.new.length≤i
 l3:x.drop.length≤i
section
variable {T:List Tok} {fin:Fault} {d:Dc} {first:Tok} {i n:Nat} {s:St} {r:Nat} {KV Kp:St→A→Prop}
theorem aAk (hT:TOk T) (b:Nat) (x:Rul) (tp tn td:Option Nat) (hQ:RulQ b r s x tp tn td i) (hi:i≤T.length) (hn:n≤2000)
  (hk : (tH false fin x (T.drop i) n).to (fun x' w n' => ∀ j tp' tn' td',i + 1 ≤ j → j ≤ T.length → T.drop j = w → n' ≤ 2000 → RulQ b r s x' tp' tn' td' j → KV (gM T fin d first b r s x' tp' tn' td' j n') (.tuple []))
   (fun f=>∀ s1 o,s1.gx s r→s1.getO r=some o→Kp s1 (.iface 36 f.enc))):Den cx 224 [.ptr r 0,.ptr b 0] KV Kp (gM T fin d first b r s x tp tn td i n):=by
 obtain ⟨hown,hb,hne,l1,l2,l3⟩:=hQ;have hlenT:=hT.len;have hfr:=hown.free;(refine aZ func224 [0,1,4,5,16,27,42,65] ?_;simp only[go_sem,ntmps224,f224]);unfold gM iQ;have hneS:=hne.symm;simp only[go_sem,aB,hne,hne.symm];refine kB (T:=T) (fin:=fin) (d:=d) (first:=first) (i:=i) (n:=n) gH hi ?_;cases hw:T.drop i with
 | nil=>rw[hw] at hk;exact aO (hk _ (bC T fin d first i n) aQ gH)
 | cons t w =>
  obtain ⟨g1,g2,g3,g4⟩:=lI hw;rw[hw] at hk;simp only[tH] at hk;simp only[go_sem,aB,hne,hne.symm];(intro b4 hb4;try simp only[aB,aT,aV,ne_eq] at hb4);simp only[go_sem,aB,hne,hne.symm,hb4];refine iZ (T:=T) (fin:=fin) (d:=d) (first:=first) (i:=i) (n:=n) _ gH hi hT ?_;rw[hw];cases c1:dC t [110,101,119] with
  | true =>
   rw[if_pos c1,bL,← g3] at hk;simp only[bI,c1];simp only[go_sem,aB,hne,hne.symm,hb4];refine fH (T:=T) (fin:=fin) (d:=d) (first:=first) (i:=i+1) (n:=n) _ gH g2 hT (aW hk (fun _ w2 m2 hk2 hlt2 hw2 hm2=>?_) (fun f h=>dG aQ h));subst m2;rw[← hw2,bL] at hk2;simp only[go_sem,aB,hne,hne.symm,hb4];(refine aP (OT.r 0 15) [(8,[4])] ?_;simp only[go_sem,aB,hne,hne.symm,hb4])
   refine dE (lY gH) (aFU (fin:=fin) (d:=d) (fi:=first) Tm.enc Tm.hz Tm.ho hT (fun _=>True) (fun _ _ _=>Iff.rfl) (gI false fin) 41 [.ptr r 0] []
    (aCy (fun _ _ h=>h) (fun s' i' n' KV' Kp' hr' _ hi' hn' hk'=>rP hT hr' hi' hn' (aW hk' (fun _ _ _ h j hj=>h j (by omega)) (fun _ h=>h)))) (i+1+1) n trivial hlt2 hn ?_)
   refine aW hk2 (fun l w3 m3 hk3 j3 hj3 hjT3 hw3 hm3=>?_) (fun f h s1 o hg hr1=>aO (h _ o (hg.trans aQ) hr1));subst hw3;rw[bL] at hk3;simp only[go_sem,aB,hne,hne.symm,hb4];refine ⟨by decide,fun y hy=>by simp only[cE] at hy;subst hy;rfl,cW rfl rfl (by rw[aI];refine fV hown (k:=1) (o:=(tn,x.new.length,141)) rfl ?_;exact fun _=>rfl) (fun y hy=>?_) (by simp only[aI,aF,aH];omega) (fun u hu=>?_)⟩
   ·simp only[bW] at hy;obtain ⟨q,_,rfl⟩:=hy;rfl
   have hown2:=fX hown (k:=1) (o:=(tn,x.new.length,141)) rfl hu (fun _=>rfl) (x.new.length+1);simp only[go_sem,aB,hne,hne.symm,hb4];refine dE (fW hown (k:=1) (o:=(tn,x.new.length,141)) rfl hown2 (fun _=>rfl)) ?_;have hown3:OwnOk s (bZ { x with new:=x.new++[⟨l⟩] } tp (some u) td):=by simpa only[bZ,aR,aF,aH,lF,lV] using hown2
   rw[show (bZ x tp tn td).set 1 (some u,x.new.length+1,(tn,x.new.length,141).snd.snd)=bZ { x with new:=x.new++[⟨l⟩] } tp (some u) td by simp[bZ]];have hfr3:=hown3.free;refine fH (T:=T) (fin:=fin) (d:=d) (first:=first) (i:=j3) (n:=m3) _ gH hjT3 hT (aW hk3 (fun _ w4 m4 hk4 hlt4 hw4 hm4=>?_) (fun f h=>dG aQ h));subst m4;rw[bU] at hk4;simp only[go_sem,aB,hne,hne.symm,hb4];have hk5:=hk4 (j3+1) tp (some u) td (by omega) hlt4 hw4 hm3 ⟨hown3,hb,hne,by simp only;omega,by simp only[aR,aF,aH];omega,by simp only;omega⟩;refine aM hk5 ?_;unfold gM;refine cR ?_;simp only[iQ,cL,cM,bK,bQ,kW,nv,Tm.cs,jZ,gQ,bO];exact aL
  | false =>
   rw[if_neg (by simp[c1])] at hk;simp only[bI,c1];simp only[go_sem,aB,hne,hne.symm,hb4];refine iZ (T:=T) (fin:=fin) (d:=d) (first:=first) (i:=i) (n:=n) _ gH hi hT ?_;rw[hw];cases c2:dC t [100,114,111,112] with
   | true =>
    rw[if_pos c2,bL,← g3] at hk;simp only[bI,c2];simp only[go_sem,aB,hne,hne.symm,hb4];refine fH (T:=T) (fin:=fin) (d:=d) (first:=first) (i:=i+1) (n:=n) _ gH g2 hT (aW hk (fun _ w2 m2 hk2 hlt2 hw2 hm2=>?_) (fun f h=>dG aQ h));subst m2;rw[← hw2,bL] at hk2;simp only[go_sem,aB,hne,hne.symm,hb4];(refine aP (OT.r 0 12) [(6,[4])] ?_;simp only[go_sem,aB,hne,hne.symm,hb4]);refine iC (T:=T) (fin:=fin) (d:=d) (first:=first) (i:=i+1+1) (n:=n) gH hlt2 hT (aW hk2 (fun y w3 m3 hk3 hlt3 hw3 hm3=>?_) (fun f h=>dG aQ h));subst m3;rw[bU] at hk3;simp only[go_sem,aB,hne,hne.symm,hb4];refine ⟨by decide,fun y hy=>by simp only[cE] at hy;subst hy;rfl,cW rfl rfl (by rw[aI];refine fV hown (k:=2) (o:=(td,x.drop.length,9)) rfl ?_;exact fun _=>rfl) (fun y hy=>?_) (by simp only[aI,aF,aH];omega) (fun u hu=>?_)⟩
    ·simp only[bW] at hy;obtain ⟨q,_,rfl⟩:=hy;rfl
    have hown2:=fX hown (k:=2) (o:=(td,x.drop.length,9)) rfl hu (fun _=>rfl) (x.drop.length+1);have hown3:OwnOk s (bZ { x with drop:=x.drop++[y] } tp tn (some u)):=by simpa only[bZ,aR,aF,aH,lF,lV] using hown2
    simp only[go_sem,aB,hne,hne.symm,hb4];have hk5:=hk3 (i+1+1+1) tp tn (some u) (by omega) hlt3 hw3 hn ⟨hown3,hb,hne,by simp only;omega,by simp only;omega,by simp only[aR,aF,aH];omega⟩;refine aM hk5 (St.ge.trans (fW hown (k:=2) (o:=(td,x.drop.length,9)) rfl hown2 (fun _=>rfl)) ?_);unfold gM;rw[show (bZ x tp tn td).set 2 (some u,x.drop.length+1,(td,x.drop.length,9).snd.snd)=bZ { x with drop:=x.drop++[y] } tp tn (some u) by simp[bZ]];refine cR ?_;simp only[iQ,cL,cM,bK,bQ,kW,nv,Tm.cs,jZ,gQ,bO];exact aL
   | false =>
    rw[if_neg (by simp[c2]),bL,← hw] at hk;simp only[bI,c2];simp only[go_sem,aB,hne,hne.symm,hb4];(refine aP (OT.l [0,2,3,4,5,1,6,7,8] .nil) [(1,[3,5]),(7,[3,5])] ?_;simp only[go_sem,aB,hne,hne.symm,hb4]);refine iC (T:=T) (fin:=fin) (d:=d) (first:=first) (i:=i) (n:=n) gH hi hT (aW hk (fun y w3 m3 hk3 hlt3 hw3 hm3=>?_) (fun f h=>dG aQ h));subst m3;rw[← hw3] at hk3;simp only[go_sem,aB,hne,hne.symm,hb4];(intro b5 hb5;try simp only[aB,aT,aV,ne_eq] at hb5);simp only[go_sem,aB,hne,hne.symm,hb4,hb5];refine iZ (T:=T) (fin:=fin) (d:=d) (first:=first) (i:=i+1) (n:=n) _ gH hlt3 hT ?_;rw[bL] at hk3;cases c3:bI [64] (T.drop (i+1)) with
    | true =>
     rw[if_pos c3,mO] at hk3;have hlt4:=kY c3;simp only[go_sem,aB,hne,hne.symm,hb4,hb5];refine iC (T:=T) (fin:=fin) (d:=d) (first:=first) (i:=i+1+1) (n:=n) gH hlt4 hT (aW hk3 (fun y2 w4 m4 hk4 hlt4 hw4 hm4=>?_) (fun f h=>dG aQ h));subst m4;rw[← hw4] at hk4;simp only[go_sem,aB,hne,hne.symm,hb4,hb5];rw[bL] at hk4;refine fH (T:=T) (fin:=fin) (d:=d) (first:=first) (i:=i+1+1+1) (n:=n) _ gH hlt4 hT (aW hk4 (fun _ w5 m5 hk5 hlt5 hw5 hm5=>?_) (fun f h=>dG aQ h));subst m5;rw[← hw5,bL] at hk5;simp only[go_sem,aB,hne,hne.symm,hb4,hb5];refine rP (T:=T) (fin:=fin) (d:=d) (first:=first) (i:=i+1+1+1+1) (n:=n) hT gH hlt5 hn (aW hk5 (fun l6 w6 m6 hk6 j6 hj6 hjT6 hw6 hm6=>?_) (fun f h=>dG aQ h));rw[← hw6,bL] at hk6;simp only[go_sem,aB,hne,hne.symm,hb4,hb5,bO];refine iZ (T:=T) (fin:=fin) (d:=d) (first:=first) (i:=j6) (n:=m6) _ gH hjT6 hT ?_;cases c4:bI [61,62] (T.drop j6) with
     | true =>
      rw[if_pos c4,mO,bL] at hk6;have hlt7:=kY c4;simp only[go_sem,aB,hne,hne.symm,hb4,hb5];refine rP (T:=T) (fin:=fin) (d:=d) (first:=first) (i:=j6+1) (n:=m6) hT gH hlt7 hm6 (aW hk6 (fun l8 w8 m8 hk8 j8 hj8 hjT8 hw8 hm8=>?_) (fun f h=>dG aQ h));rw[bU,← hw8,bU] at hk8;simp only[go_sem,aB,hne,hne.symm,hb4,hb5,bO];(refine aP (OT.r 0 11) [] ?_;simp only[go_sem,aB,hne,hne.symm,hb4,hb5])
      (try simp only[go_sem,aB,hne,hne.symm,hb4,hb5])
      refine ⟨by decide,fun y hy=>by simp only[cE] at hy;subst hy;rfl,cW rfl rfl (by rw[aI];refine fV hown (k:=0) (o:=(tp,x.parts.length,86)) rfl ?_;exact fun _=>rfl) (fun y hy=>?_) (by simp only[aI,aF,aH];omega) (fun u hu=>?_)⟩
      ·simp only[bW] at hy;obtain ⟨q,_,rfl⟩:=hy;rfl
      have hown2:=fX hown (k:=0) (o:=(tp,x.parts.length,86)) rfl hu (fun _=>rfl) (x.parts.length+1);have hown3:OwnOk s (bZ { x with parts:=x.parts++[⟨y,y2,l6,[l8],t.line,t.col⟩] } (some u) tn td):=by simpa only[bZ,aR,aF,aH,lF,lV] using hown2
      simp only[go_sem,aB,hne,hne.symm,hb4,hb5];have hk5:=hk8 (j8) (some u) tn td (by omega) hjT8 rfl hm8 ⟨hown3,hb,hne,by simp only[aR,aF,aH];omega,by simp only;omega,by simp only;omega⟩;refine aM hk5 (St.ge.trans (fW hown (k:=0) (o:=(tp,x.parts.length,86)) rfl hown2 (fun _=>rfl)) ?_);unfold gM;rw[show (bZ x tp tn td).set 0 (some u,x.parts.length+1,(tp,x.parts.length,86).snd.snd)=bZ { x with parts:=x.parts++[⟨y,y2,l6,[l8],t.line,t.col⟩] } (some u) tn td by simp[bZ]];refine cR ?_;simp only[iQ,cL,cM,bK,bQ,kW,nv,Tm.cs,jZ,gQ,bO];exact aL
     | false =>
      rw[if_neg (by simp[c4]),bU,bU] at hk6;simp only[go_sem,aB,hne,hne.symm,hb4,hb5];(refine aP (OT.r 0 11) [] ?_;simp only[go_sem,aB,hne,hne.symm,hb4,hb5])
      (try simp only[go_sem,aB,hne,hne.symm,hb4,hb5])
      refine ⟨by decide,fun y hy=>by simp only[cE] at hy;subst hy;rfl,cW rfl rfl (by rw[aI];refine fV hown (k:=0) (o:=(tp,x.parts.length,86)) rfl ?_;exact fun _=>rfl) (fun y hy=>?_) (by simp only[aI,aF,aH];omega) (fun u hu=>?_)⟩
      ·simp only[bW] at hy;obtain ⟨q,_,rfl⟩:=hy;rfl
      have hown2:=fX hown (k:=0) (o:=(tp,x.parts.length,86)) rfl hu (fun _=>rfl) (x.parts.length+1);have hown3:OwnOk s (bZ { x with parts:=x.parts++[⟨y,y2,l6,[],t.line,t.col⟩] } (some u) tn td):=by simpa only[bZ,aR,aF,aH,lF,lV] using hown2
      simp only[go_sem,aB,hne,hne.symm,hb4,hb5];have hk5:=hk6 (j6) (some u) tn td (by omega) hjT6 rfl hm6 ⟨hown3,hb,hne,by simp only[aR,aF,aH];omega,by simp only;omega,by simp only;omega⟩;refine aM hk5 (St.ge.trans (fW hown (k:=0) (o:=(tp,x.parts.length,86)) rfl hown2 (fun _=>rfl)) ?_);unfold gM;rw[show (bZ x tp tn td).set 0 (some u,x.parts.length+1,(tp,x.parts.length,86).snd.snd)=bZ { x with parts:=x.parts++[⟨y,y2,l6,[],t.line,t.col⟩] } (some u) tn td by simp[bZ]];refine cR ?_;simp only[iQ,cL,cM,bK,bQ,kW,nv,Tm.cs,jZ,gQ,bO];exact aL
    | false =>
     rw[if_neg (by simp[c3]),bU] at hk3;simp only[go_sem,aB,hne,hne.symm,hb4,hb5];rw[bL] at hk3;refine fH (T:=T) (fin:=fin) (d:=d) (first:=first) (i:=i+1) (n:=n) _ gH hlt3 hT (aW hk3 (fun _ w5 m5 hk5 hlt5 hw5 hm5=>?_) (fun f h=>dG aQ h));subst m5;rw[← hw5,bL] at hk5;simp only[go_sem,aB,hne,hne.symm,hb4,hb5];refine rP (T:=T) (fin:=fin) (d:=d) (first:=first) (i:=i+1+1) (n:=n) hT gH hlt5 hn (aW hk5 (fun l6 w6 m6 hk6 j6 hj6 hjT6 hw6 hm6=>?_) (fun f h=>dG aQ h));rw[← hw6,bL] at hk6;simp only[go_sem,aB,hne,hne.symm,hb4,hb5,bO];refine iZ (T:=T) (fin:=fin) (d:=d) (first:=first) (i:=j6) (n:=m6) _ gH hjT6 hT ?_;cases c4:bI [61,62] (T.drop j6) with
     | true =>
      rw[if_pos c4,mO,bL] at hk6;have hlt7:=kY c4;simp only[go_sem,aB,hne,hne.symm,hb4,hb5];refine rP (T:=T) (fin:=fin) (d:=d) (first:=first) (i:=j6+1) (n:=m6) hT gH hlt7 hm6 (aW hk6 (fun l8 w8 m8 hk8 j8 hj8 hjT8 hw8 hm8=>?_) (fun f h=>dG aQ h));rw[bU,← hw8,bU] at hk8;simp only[go_sem,aB,hne,hne.symm,hb4,hb5,bO];(refine aP (OT.r 0 11) [] ?_;simp only[go_sem,aB,hne,hne.symm,hb4,hb5])
      (try simp only[go_sem,aB,hne,hne.symm,hb4,hb5])
      refine ⟨by decide,fun y hy=>by simp only[cE] at hy;subst hy;rfl,cW rfl rfl (by rw[aI];refine fV hown (k:=0) (o:=(tp,x.parts.length,86)) rfl ?_;exact fun _=>rfl) (fun y hy=>?_) (by simp only[aI,aF,aH];omega) (fun u hu=>?_)⟩
      ·simp only[bW] at hy;obtain ⟨q,_,rfl⟩:=hy;rfl
      have hown2:=fX hown (k:=0) (o:=(tp,x.parts.length,86)) rfl hu (fun _=>rfl) (x.parts.length+1);have hown3:OwnOk s (bZ { x with parts:=x.parts++[⟨y,[],l6,[l8],t.line,t.col⟩] } (some u) tn td):=by simpa only[bZ,aR,aF,aH,lF,lV] using hown2
      simp only[go_sem,aB,hne,hne.symm,hb4,hb5];have hk5:=hk8 (j8) (some u) tn td (by omega) hjT8 rfl hm8 ⟨hown3,hb,hne,by simp only[aR,aF,aH];omega,by simp only;omega,by simp only;omega⟩;refine aM hk5 (St.ge.trans (fW hown (k:=0) (o:=(tp,x.parts.length,86)) rfl hown2 (fun _=>rfl)) ?_);unfold gM;rw[show (bZ x tp tn td).set 0 (some u,x.parts.length+1,(tp,x.parts.length,86).snd.snd)=bZ { x with parts:=x.parts++[⟨y,[],l6,[l8],t.line,t.col⟩] } (some u) tn td by simp[bZ]];refine cR ?_;simp only[iQ,cL,cM,bK,bQ,kW,nv,Tm.cs,jZ,gQ,bO];exact aL
     | false =>
      rw[if_neg (by simp[c4]),bU,bU] at hk6;simp only[go_sem,aB,hne,hne.symm,hb4,hb5];(refine aP (OT.r 0 11) [] ?_;simp only[go_sem,aB,hne,hne.symm,hb4,hb5])
      (try simp only[go_sem,aB,hne,hne.symm,hb4,hb5])
      refine ⟨by decide,fun y hy=>by simp only[cE] at hy;subst hy;rfl,cW rfl rfl (by rw[aI];refine fV hown (k:=0) (o:=(tp,x.parts.length,86)) rfl ?_;exact fun _=>rfl) (fun y hy=>?_) (by simp only[aI,aF,aH];omega) (fun u hu=>?_)⟩
      ·simp only[bW] at hy;obtain ⟨q,_,rfl⟩:=hy;rfl
      have hown2:=fX hown (k:=0) (o:=(tp,x.parts.length,86)) rfl hu (fun _=>rfl) (x.parts.length+1);have hown3:OwnOk s (bZ { x with parts:=x.parts++[⟨y,[],l6,[],t.line,t.col⟩] } (some u) tn td):=by simpa only[bZ,aR,aF,aH,lF,lV] using hown2
      simp only[go_sem,aB,hne,hne.symm,hb4,hb5];have hk5:=hk6 (j6) (some u) tn td (by omega) hjT6 rfl hm6 ⟨hown3,hb,hne,by simp only[aR,aF,aH];omega,by simp only;omega,by simp only;omega⟩;refine aM hk5 (St.ge.trans (fW hown (k:=0) (o:=(tp,x.parts.length,86)) rfl hown2 (fun _=>rfl)) ?_);unfold gM;rw[show (bZ x tp tn td).set 0 (some u,x.parts.length+1,(tp,x.parts.length,86).snd.snd)=bZ { x with parts:=x.parts++[⟨y,[],l6,[],t.line,t.col⟩] } (some u) tn td by simp[bZ]];refine cR ?_;simp only[iQ,cL,cM,bK,bQ,kW,nv,Tm.cs,jZ,gQ,bO];exact aL
end
end
section
section
variable {T:List Tok} {fin:Fault} {d:Dc} {first:Tok} {i n:Nat} {s:St} {r:Nat} {KV Kp:St→A→Prop}
theorem aFi (tk:Option Nat) {es fs:List A} (h:tk=none→es=[]) (hl:zF es fs):A.le (gv tk es) (.list none fs):=by
 cases tk with
 | none =>
  rw[h rfl] at hl;have:fs=[]:=gR (by rw[← aEn hl];rfl);rw[this];exact A.le.nil
 | some t=>exact fun g v hv=>(A.le.list hl) g v ((A.le.forget t es) g v hv)
theorem aDL (ps:List Part):zF (ps.map kW) (ps.map Part.enc):=by
 induction ps with
 | nil=>trivial
 | cons p ps ih =>
  refine ⟨?_,ih⟩;simp only[kW,Part.enc,Part.cs,A.cells,Tm.cs,jZ,gQ];exact ⟨⟨aK _,rfl⟩,⟨aK _,rfl⟩,⟨aK _,rfl⟩,⟨aK _,rfl⟩,⟨aK _,rfl⟩,⟨aK _,rfl⟩,⟨aK _,rfl⟩,⟨aK _,rfl⟩,⟨aCp _,rfl⟩,⟨aK _,rfl⟩,⟨aK _,rfl⟩,trivial⟩
theorem aN6 (hT:TOk T) (t:Tok) (hr:s.getO r=some (bC T fin d first i n)) (hi:i≤T.length) (hn:n≤2000)
  (hk:(aCm false fin t.line t.col (T.drop i) n).to (PK T i (fun j m=>s.setO r (bC T fin d first j m)) Rul.enc KV) (PB s r Kp)):Den cx 154 [.ptr r 0,t.enc] KV Kp s:=by
 have hlenT:=hT.len;simp only[aCm,bL] at hk;simp only[go_sem];(refine aZ func154 [0,1,3,4,5,6,7,8,19,42] ?_;simp only[go_sem,ntmps154,f154]);(intro b3 hb3;try simp only[aV,aT,ne_eq] at hb3);have e3:=cF hr (by first|exact hb3|exact hb3.2|exact hb3.2.2|exact hb3.2.2.2|exact hb3.2.2.2.2|exact hb3.2.2.2.2.2|exact hb3.2.2.2.2.2.2);simp only[go_sem,hb3,e3];(intro b4 hb4;try simp only[aV,aT,ne_eq] at hb4);have e4:=cF hr (by first|exact hb4|exact hb4.2|exact hb4.2.2|exact hb4.2.2.2|exact hb4.2.2.2.2|exact hb4.2.2.2.2.2|exact hb4.2.2.2.2.2.2);simp only[go_sem,hb3,e3,hb4,e4];(refine aP (OT.l [0,2,3,4,5,1,6,7,8] .nil) [(1,[3,5]),(7,[3,5])] ?_;simp only[go_sem,hb3,e3,hb4,e4]);(refine iC (T:=T) (fin:=fin) (d:=d) (first:=first) (i:=i) (n:=n) gH hi hT (aW hk (fun x1 w1 m1 hk1 hlt1 hw1 hm1=>?_) (fun f h=>PB.mk aQ h));subst m1;rw[← hw1] at hk1);simp only[go_sem,hb3,e3,hb4,e4];(intro b5 hb5;try simp only[aV,aT,ne_eq] at hb5);have e5:=cF hr (by first|exact hb5|exact hb5.2|exact hb5.2.2|exact hb5.2.2.2|exact hb5.2.2.2.2|exact hb5.2.2.2.2.2|exact hb5.2.2.2.2.2.2);simp only[go_sem,hb3,e3,hb4,e4,hb5,e5];(refine fH (T:=T) (fin:=fin) (d:=d) (first:=first) (i:=i+1) (n:=n) _ gH hlt1 hT (aW hk1 (fun _ w2 m2 hk2 hlt2 hw2 hm2=>?_) (fun f h=>PB.mk aQ h));subst m2;rw[← hw2] at hk2);simp only[go_sem,hb3,e3,hb4,e4,hb5,e5];rw[show (T.drop (i+1+1)).length=T.length-(i+1+1) by rw[cP]] at hk2
 have h5:((s.setO b3 (.cells 60 t.cs)).setO b4 (.cells 84 [.str [],.nils,.nils,.nils,.nils,.int .i64 0,.int .i64 0])).getO b5=none:=by
  rw[aJ,if_neg hb5.2.1.1,aJ,if_neg hb5.2.2.1.1];exact hb5.2.2.2
 generalize hs2:(s.setO b3 (.cells 60 t.cs)).setO b4 (.cells 84 [.str [],.nils,.nils,.nils,.nils,.int .i64 0,.int .i64 0])=s2 at h5
 have hs2O:∀ b o,s.getO b=some o→s2.getO b=some o:=fun b o h=>by
  subst hs2;rw[aJ,if_neg (fun e=>by subst e;rw[hb4.2] at h;cases h),aJ,if_neg (fun e=>by subst e;rw[hb3] at h;cases h)];exact h
 have hs2g:s2.ge s:=⟨hs2O,fun u m hm=>by subst hs2;exact hm,fun x hx=>by subst hs2;exact hx⟩;have hg2:∀ s1:St,s1.gx s2 r→s1.gx s r:=fun s1 h=>⟨fun c hc x hx=>h.ob c hc x (hs2O c x hx),fun u m hm=>h.tk u m (by subst hs2;exact hm),fun x hx=>h.ls x (by subst hs2;exact hx)⟩
 have h24:s2.getO b4=some (.cells 84 [.str [],.nils,.nils,.nils,.nils,.int .i64 0,.int .i64 0]):=by subst hs2;rw[aJ,if_pos rfl]
 have PBk:∀ (s1:St) (f:Fault),s1.gx s2 r→PB s r Kp f→PB s1 r (DK Kp) f:=fun s1 f hg h o=>h.at (eQ (hg2 _ hg)) (by rw[aJ,if_pos rfl])
 refine Ex.loop (ι:=(Rul × Option Nat × Option Nat × Option Nat) × Nat × Bool × Nat × Nat) (fun c=>[(0,.ptr r 0),(3,.ptr b3 0),(4,.ptr b4 0),(5,.ptr b5 0),(6,.int .i64 c.2.1),(7,.bool c.2.2.1)])
  (fun c=>gM T fin d first b5 r s2 c.1.1 c.1.2.1 c.1.2.2.1 c.1.2.2.2 c.2.2.2.1 c.2.2.2.2)
  (fun c => RulQ b5 r s2 c.1.1 c.1.2.1 c.1.2.2.1 c.1.2.2.2 c.2.2.2.1 ∧ c.2.1 ≤ c.2.2.2.1 ∧ i + 1 + 1 ≤ c.2.2.2.1 ∧ c.2.2.2.1 ≤ T.length ∧ c.2.2.2.2 ≤ 2000 ∧
   (match c.2.2.1 with
    | true=>∃ k,T.length-c.2.2.2.1<k∧(dH fin [59] (yM false fin) k (c.1.1,c.2.1) (T.drop c.2.2.2.1) c.2.2.2.2).to (fun a w n=>(qR false fin w n).to (fun l w n=>PK T i (fun j m=>s.setO r (bC T fin d first j m)) Rul.enc KV { a.1 with cond:=l } w n) (PB s r Kp)) (PB s r Kp)
    | false=>(qR false fin (T.drop c.2.2.2.1) c.2.2.2.2).to (fun l w n=>PK T i (fun j m=>s.setO r (bC T fin d first j m)) Rul.enc KV { c.1.1 with cond:=l } w n) (PB s r Kp)))
  (fun c=>T.length-c.2.2.2.1) ((⟨x1,[],[],[],[],t.line,t.col⟩,none,none,none),0,true,i+1+1,n) ?_ ?_ ?_ ?_
 ·refine ⟨⟨⟨?_,?_,?_⟩,h5,hb5.1.2,bS _,bS _,bS _⟩,bS _,bE _,hlt2,hn,_,iU _,hk2⟩
  ·intro o ho u hu;simp only[bZ,iR,qH,oA] at ho;rcases ho with rfl|rfl|rfl<;>cases hu
  ·intro o ho _;simp only[bZ,iR,qH,oA] at ho;rcases ho with rfl|rfl|rfl<;>rfl
  ·intro i j a b u hi hj ha hb;have:=fJ hi;simp only[bZ,iR,qH,oA] at this;rcases this with rfl|rfl|rfl<;>cases ha
 ·simp only[go_sem,hb3,e3,hb4,e4,hb5,e5];rfl
 ·show St.ge _ ((s2.setO b5 _).setO r _);subst hs2;exact aL
 ·rintro ⟨⟨x,tp,tn,td⟩,cnt,more,i2,n2⟩ ⟨hQ,hcnt,hi1,hi2,hn2,hk3⟩;simp only at hQ hcnt hi1 hi2 hn2 hk3;have hQ0:=hQ;obtain ⟨hown,hb,hne,l1,l2,l3⟩:=hQ;have hfr:=hown.free;have n45:=hb5.2.1.1;have n54:=hb5.2.1.2;refine bV (V:=[0,1,3,4,5,6,7,8,19,42]) _ _ _ _ ?_;cases more with
  | false =>
   simp only at hk3;unfold gM iQ;have hneS:=hne.symm;simp only[go_sem,aB,hne,hne.symm,h24,e4,n45,n54];refine aHq (T:=T) (fin:=fin) (d:=d) (first:=first) (i:=i2) (n:=n2) hT gH hi2 hn2 (aW hk3 (fun l w m hk4 j hj hjT hw hm=>?_) (fun f h=>PBk _ _ aQ h));simp only[go_sem,aB,hne,hne.symm,h24,e4,n45,n54];refine ⟨by cases tp<;>cases tn<;>cases td<;>rfl,?_⟩;refine DK.mk (hk4 j (by omega) hjT hw hm) (aBQ aL (fun o ho u hu=>by have:=hfr o ho u hu;subst hs2;exact this)) ?_;simp only[Rul.enc,Rul.cs];have z1:tp=none→x.parts=[]:=fun e=>gR (hown.nil (tp,x.parts.length,86) (by simp[bZ]) e)
   have z2:tn=none→x.new=[]:=fun e=>gR (hown.nil (tn,x.new.length,141) (by simp[bZ]) e)
   have z3:td=none→x.drop=[]:=fun e=>gR (hown.nil (td,x.drop.length,9) (by simp[bZ]) e)
   exact A.le.agg ⟨⟨aK _,rfl⟩,⟨aFi tp (fun e=>by rw[z1 e];rfl) (aDL _),rfl⟩,⟨aK _,rfl⟩,⟨fN tn _ (fun e=>by rw[z2 e];rfl),rfl⟩,⟨fN td _ (fun e=>by rw[z3 e];rfl),rfl⟩,⟨aK _,rfl⟩,⟨aK _,rfl⟩,trivial⟩
  | true =>
   obtain ⟨k,hk3,hk4⟩:=hk3;obtain ⟨k,rfl⟩:∃ k',k=k'+1:=⟨k-1,by omega⟩
   rw[dH,bL] at hk4;have hneS:=hne.symm;simp only[go_sem,aB,hne,hne.symm,h24,e4,n45,n54];refine kB (T:=T) (fin:=fin) (d:=d) (first:=first) (i:=i2) (n:=n2) (by unfold gM;rw[aB,aJ,if_pos rfl]) hi2 ?_;cases hw:T.drop i2 with
   | nil =>
    rw[hw] at hk4;exact hk4.at (hg2 (gM T fin d first b5 r s2 x tp tn td i2 n2) (by unfold gM;exact aQ)) (o:=bC T fin d first i2 n2) (by unfold gM;rw[aB,aJ,if_pos rfl])
   | cons t2 w =>
    obtain ⟨g1,g2,g3,g4⟩:=lI hw;rw[hw] at hk4;simp only[yM] at hk4;simp only[go_sem,aB,hne,hne.symm,h24,e4,n45,n54];intro b8 hb8
    have hpart:((t2.kind=1∧(¬ t2.text∈jL∨t2.text=[110,101,119]∨t2.text=[100,114,111,112]))→¬ 20≤cnt)→(tH false fin x (T.drop i2) n2).to (fun x' w n=>(if bI [59] w=true then dH fin [59] (yM false fin) k (x',cnt+1) w.tail n else Rd.ok (x',cnt+1) w n).to
      (fun a w n=>(qR false fin w n).to (fun l w n=>PK T i (fun j m=>s.setO r (bC T fin d first j m)) Rul.enc KV { a.1 with cond:=l } w n) (PB s r Kp)) (PB s r Kp)) (PB s r Kp):=fun h=>by
     rw[hw];rw[if_neg (fun hc=>h hc.1 hc.2),bL] at hk4;exact hk4
    simp only[go_sem,aB,hne,hne.symm,h24,e4,n45,n54];cases c1:decide (t2.kind=1)
    ·have hk5:=hpart (fun hc=>by have:=hc.1;simp[this] at c1);simp only[go_sem,aB,hne,hne.symm,h24,e4,n45,n54,c1];refine dE (fL hb8) ?_;refine aAk hT b5 x tp tn td hQ0 hi2 hn2 (aW hk5 (fun x' w1 m1 hk6 j tp' tn' td' hj hjT hw1 hm1 hQ'=>?_) (fun f h s1 o hg hr1=>h.at (hg2 _ hg) hr1));subst hw1;simp only[go_sem,aB,hne,hne.symm,h24,e4,n45,n54,bP cnt (by omega)];refine iZ (T:=T) (fin:=fin) (d:=d) (first:=first) (i:=j) (n:=m1) _ (by unfold gM;rw[aB,aJ,if_pos rfl]) hjT hT ?_;cases c9:bI [59] (T.drop j) with
     | true =>
      rw[if_pos c9,mO] at hk6;have hlt9:=kY c9;simp only[go_sem,aB,hne,hne.symm,h24,e4,n45,n54];refine ⟨((x',tp',tn',td'),cnt+1,true,j+1,m1),⟨⟨hQ'.own,hQ'.hb,hQ'.ne,by have:=hQ'.l1;simp only;omega,by have:=hQ'.l2;simp only;omega,by have:=hQ'.l3;simp only;omega⟩,by simp only;omega,by simp only;omega,hlt9,hm1,k,by simp only;omega,hk6⟩,by simp only;omega,?_⟩;refine ⟨⟨rfl,rfl⟩,?_⟩;unfold gM;rw[kL,lZ];exact bA _
     | false =>
      rw[if_neg (by simp[c9]),bU] at hk6;simp only[go_sem,aB,hne,hne.symm,h24,e4,n45,n54];refine ⟨((x',tp',tn',td'),cnt+1,false,j,m1),⟨hQ',by simp only;omega,by simp only;omega,hjT,hm1,hk6⟩,by simp only;omega,?_⟩;exact ⟨⟨rfl,rfl⟩,bA _⟩
    simp only[go_sem,aB,hne,hne.symm,h24,e4,n45,n54,c1];refine sI _ _ _ _ ?_;simp only[go_sem,aB,hne,hne.symm,h24,e4,n45,n54];cases c2:decide (t2.text∈jL)
    ·simp only[go_sem,aB,hne,hne.symm,h24,e4,n45,n54,c2];refine dE (fL hb8) ?_;refine mP (T:=T) (fin:=fin) (d:=d) (first:=first) (i:=i2) (n:=n2) _ _ (by unfold gM;rw[aB,aJ,if_pos rfl]) hi2 ?_;by_cases h20:20≤cnt
     ·rw[if_pos ⟨⟨by simpa using c1,.inl (by simpa using c2)⟩,h20⟩,eH] at hk4;rw[if_pos (by omega),hw];exact PBk _ _ (by unfold gM;exact aQ) hk4
     rw[if_neg (by omega)];have hk5:=hpart (fun _=>h20);simp only[go_sem,aB,hne,hne.symm,h24,e4,n45,n54];refine aAk hT b5 x tp tn td hQ0 hi2 hn2 (aW hk5 (fun x' w1 m1 hk6 j tp' tn' td' hj hjT hw1 hm1 hQ'=>?_) (fun f h s1 o hg hr1=>h.at (hg2 _ hg) hr1));subst hw1;simp only[go_sem,aB,hne,hne.symm,h24,e4,n45,n54,bP cnt (by omega)];refine iZ (T:=T) (fin:=fin) (d:=d) (first:=first) (i:=j) (n:=m1) _ (by unfold gM;rw[aB,aJ,if_pos rfl]) hjT hT ?_;cases c9:bI [59] (T.drop j) with
     | true =>
      rw[if_pos c9,mO] at hk6;have hlt9:=kY c9;simp only[go_sem,aB,hne,hne.symm,h24,e4,n45,n54];refine ⟨((x',tp',tn',td'),cnt+1,true,j+1,m1),⟨⟨hQ'.own,hQ'.hb,hQ'.ne,by have:=hQ'.l1;simp only;omega,by have:=hQ'.l2;simp only;omega,by have:=hQ'.l3;simp only;omega⟩,by simp only;omega,by simp only;omega,hlt9,hm1,k,by simp only;omega,hk6⟩,by simp only;omega,?_⟩;refine ⟨⟨rfl,rfl⟩,?_⟩;unfold gM;rw[kL,lZ];exact bA _
     | false =>
      rw[if_neg (by simp[c9]),bU] at hk6;simp only[go_sem,aB,hne,hne.symm,h24,e4,n45,n54];refine ⟨((x',tp',tn',td'),cnt+1,false,j,m1),⟨hQ',by simp only;omega,by simp only;omega,hjT,hm1,hk6⟩,by simp only;omega,?_⟩;exact ⟨⟨rfl,rfl⟩,bA _⟩
    simp only[go_sem,aB,hne,hne.symm,h24,e4,n45,n54,c2];cases c3:decide (t2.text=[110,101,119]);rotate_left
    ·simp only[go_sem,aB,hne,hne.symm,h24,e4,n45,n54,c3];refine dE (fL hb8) ?_;refine mP (T:=T) (fin:=fin) (d:=d) (first:=first) (i:=i2) (n:=n2) _ _ (by unfold gM;rw[aB,aJ,if_pos rfl]) hi2 ?_;by_cases h20:20≤cnt
     ·rw[if_pos ⟨⟨by simpa using c1,.inr (.inl (by simpa using c3))⟩,h20⟩,eH] at hk4;rw[if_pos (by omega),hw];exact PBk _ _ (by unfold gM;exact aQ) hk4
     rw[if_neg (by omega)];have hk5:=hpart (fun _=>h20);simp only[go_sem,aB,hne,hne.symm,h24,e4,n45,n54];refine aAk hT b5 x tp tn td hQ0 hi2 hn2 (aW hk5 (fun x' w1 m1 hk6 j tp' tn' td' hj hjT hw1 hm1 hQ'=>?_) (fun f h s1 o hg hr1=>h.at (hg2 _ hg) hr1));subst hw1;simp only[go_sem,aB,hne,hne.symm,h24,e4,n45,n54,bP cnt (by omega)];refine iZ (T:=T) (fin:=fin) (d:=d) (first:=first) (i:=j) (n:=m1) _ (by unfold gM;rw[aB,aJ,if_pos rfl]) hjT hT ?_;cases c9:bI [59] (T.drop j) with
     | true =>
      rw[if_pos c9,mO] at hk6;have hlt9:=kY c9;simp only[go_sem,aB,hne,hne.symm,h24,e4,n45,n54];refine ⟨((x',tp',tn',td'),cnt+1,true,j+1,m1),⟨⟨hQ'.own,hQ'.hb,hQ'.ne,by have:=hQ'.l1;simp only;omega,by have:=hQ'.l2;simp only;omega,by have:=hQ'.l3;simp only;omega⟩,by simp only;omega,by simp only;omega,hlt9,hm1,k,by simp only;omega,hk6⟩,by simp only;omega,?_⟩;refine ⟨⟨rfl,rfl⟩,?_⟩;unfold gM;rw[kL,lZ];exact bA _
     | false =>
      rw[if_neg (by simp[c9]),bU] at hk6;simp only[go_sem,aB,hne,hne.symm,h24,e4,n45,n54];refine ⟨((x',tp',tn',td'),cnt+1,false,j,m1),⟨hQ',by simp only;omega,by simp only;omega,hjT,hm1,hk6⟩,by simp only;omega,?_⟩;exact ⟨⟨rfl,rfl⟩,bA _⟩
    simp only[go_sem,aB,hne,hne.symm,h24,e4,n45,n54,c3];cases c4:decide (t2.text=[100,114,111,112]);rotate_left
    ·simp only[go_sem,aB,hne,hne.symm,h24,e4,n45,n54,c4];refine dE (fL hb8) ?_;refine mP (T:=T) (fin:=fin) (d:=d) (first:=first) (i:=i2) (n:=n2) _ _ (by unfold gM;rw[aB,aJ,if_pos rfl]) hi2 ?_;by_cases h20:20≤cnt
     ·rw[if_pos ⟨⟨by simpa using c1,.inr (.inr (by simpa using c4))⟩,h20⟩,eH] at hk4;rw[if_pos (by omega),hw];exact PBk _ _ (by unfold gM;exact aQ) hk4
     rw[if_neg (by omega)];have hk5:=hpart (fun _=>h20);simp only[go_sem,aB,hne,hne.symm,h24,e4,n45,n54];refine aAk hT b5 x tp tn td hQ0 hi2 hn2 (aW hk5 (fun x' w1 m1 hk6 j tp' tn' td' hj hjT hw1 hm1 hQ'=>?_) (fun f h s1 o hg hr1=>h.at (hg2 _ hg) hr1));subst hw1;simp only[go_sem,aB,hne,hne.symm,h24,e4,n45,n54,bP cnt (by omega)];refine iZ (T:=T) (fin:=fin) (d:=d) (first:=first) (i:=j) (n:=m1) _ (by unfold gM;rw[aB,aJ,if_pos rfl]) hjT hT ?_;cases c9:bI [59] (T.drop j) with
     | true =>
      rw[if_pos c9,mO] at hk6;have hlt9:=kY c9;simp only[go_sem,aB,hne,hne.symm,h24,e4,n45,n54];refine ⟨((x',tp',tn',td'),cnt+1,true,j+1,m1),⟨⟨hQ'.own,hQ'.hb,hQ'.ne,by have:=hQ'.l1;simp only;omega,by have:=hQ'.l2;simp only;omega,by have:=hQ'.l3;simp only;omega⟩,by simp only;omega,by simp only;omega,hlt9,hm1,k,by simp only;omega,hk6⟩,by simp only;omega,?_⟩;refine ⟨⟨rfl,rfl⟩,?_⟩;unfold gM;rw[kL,lZ];exact bA _
     | false =>
      rw[if_neg (by simp[c9]),bU] at hk6;simp only[go_sem,aB,hne,hne.symm,h24,e4,n45,n54];refine ⟨((x',tp',tn',td'),cnt+1,false,j,m1),⟨hQ',by simp only;omega,by simp only;omega,hjT,hm1,hk6⟩,by simp only;omega,?_⟩;exact ⟨⟨rfl,rfl⟩,bA _⟩
    simp only[go_sem,aB,hne,hne.symm,h24,e4,n45,n54,c4];have hk5:=hpart (fun hc=>by have h1:=hc.2;simp at c2 c3 c4;rcases h1 with h1|h1|h1;exact (h1 c2).elim;exact (c3 h1).elim;exact (c4 h1).elim);refine dE (fL hb8) ?_;refine aAk hT b5 x tp tn td hQ0 hi2 hn2 (aW hk5 (fun x' w1 m1 hk6 j tp' tn' td' hj hjT hw1 hm1 hQ'=>?_) (fun f h s1 o hg hr1=>h.at (hg2 _ hg) hr1));subst hw1;simp only[go_sem,aB,hne,hne.symm,h24,e4,n45,n54,bP cnt (by omega)];refine iZ (T:=T) (fin:=fin) (d:=d) (first:=first) (i:=j) (n:=m1) _ (by unfold gM;rw[aB,aJ,if_pos rfl]) hjT hT ?_;cases c9:bI [59] (T.drop j) with
    | true =>
     rw[if_pos c9,mO] at hk6;have hlt9:=kY c9;simp only[go_sem,aB,hne,hne.symm,h24,e4,n45,n54];refine ⟨((x',tp',tn',td'),cnt+1,true,j+1,m1),⟨⟨hQ'.own,hQ'.hb,hQ'.ne,by have:=hQ'.l1;simp only;omega,by have:=hQ'.l2;simp only;omega,by have:=hQ'.l3;simp only;omega⟩,by simp only;omega,by simp only;omega,hlt9,hm1,k,by simp only;omega,hk6⟩,by simp only;omega,?_⟩;refine ⟨⟨rfl,rfl⟩,?_⟩;unfold gM;rw[kL,lZ];exact bA _
    | false =>
     rw[if_neg (by simp[c9]),bU] at hk6;simp only[go_sem,aB,hne,hne.symm,h24,e4,n45,n54];refine ⟨((x',tp',tn',td'),cnt+1,false,j,m1),⟨hQ',by simp only;omega,by simp only;omega,hjT,hm1,hk6⟩,by simp only;omega,?_⟩;exact ⟨⟨rfl,rfl⟩,bA _⟩
end
end
end Go.AV
