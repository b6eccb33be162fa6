/-
  Of CheckOrder.
-/
import Derived.Test.YtliopiiflebkdaaGreatDoorOr09
import Derived.Shelf.Sort.Plain
import Derived.Shelf.Slices.CompactS
import Derived.Shelf.Slices.In.SortNone
set_option linter.all false
set_option maxRecDepth 99999
set_option maxHeartbeats 0
namespace Go.AV
open Go Go.Proofs Tryz
section
structure DOwn where
 so:Option Nat
 be:Option Nat
 op:Option Nat
 fu:Option Nat
 va:Option Nat
 eq:Option Nat
 on:Option Nat
 ma:Option Nat
 ru:Option Nat
def bX(d:Dfn)(o:DOwn):Dc:=⟨d.name,gv o.so (d.sig.sorts.map .str),gv o.be (d.sig.below.map Below.enc),gv o.op (d.sig.ops.map Opr.enc),gv o.fu (d.sig.funs.map Opr.enc),gv o.va (d.sig.values.map .str),
 gv o.eq (d.eqs.map Eqn.enc),gv o.on (d.once.map Cel.enc),d.kind,gv o.ma (d.many.map Cel.enc),gv o.ru (d.rules.map Rul.enc),d.start,d.watch⟩
def bT(d:Dfn)(o:DOwn):List dY:=[(o.so,d.sig.sorts.length,9),(o.be,d.sig.below.length,102),(o.op,d.sig.ops.length,64),(o.fu,d.sig.funs.length,64),(o.va,d.sig.values.length,9),
 (o.eq,d.eqs.length,41),(o.on,d.once.length,67),(o.ma,d.many.length,67),(o.ru,d.rules.length,46)]
def iM(T:List Tok)(fin:Fault)(first:Tok)(r:Nat)(s:St)(d:Dfn)(o:DOwn)(i n:Nat):St:=dF (s.setO r (aZ T fin (bX d o) first i n)) (bT d o)
structure ItQ (s:St) (d:Dfn) (o:DOwn) (i:Nat):Prop where
 own:OwnOk s (bT d o)
 len:∀a,a∈bT d o->a.2.1<=i
theorem ItQ.le{s:St}{d:Dfn}{o:DOwn}{i j:Nat}(h:ItQ s d o i)(q:i<=j):ItQ s d o j:=⟨h.own,λa m=>lQ (h.len a m) q⟩
theorem ItQ.set{s:St}{d u:Dfn}{o z:DOwn}{i j k:Nat}{a:dY}(h:ItQ s d o i)(y:bT u z=(bT d o).set k a)(m:OwnOk s ((bT d o).set k a))(F:i<=j)(B:a.2.1<=j):ItQ s u z j :=
 ⟨by rw [y]; exact m,fun b q => by
  rw[y]at q;rcases uD q with q|rfl
  .exact lQ (h.len b q) F
  .exact B⟩
attribute [go_sem] bX
section
variable {T:List Tok} {fin:Fault} {d:Dfn} {o:DOwn} {first:Tok} {i n:Nat} {s:St} {r:Nat} {KV Kp:St->A->Prop}
theorem GrQ.setT{α:Type}{q y r:Nat}{s:St}{m:List α}{tk:Option Nat}{i t:Nat}{v:Nat × TypeId}(h:GrQ q y r s m tk i)(B:tk≠some t):GrQ q y r (s.setT t v) m tk i :=
 ⟨h.len,h.h1,h.h3,h.ne,h.nil,λu z=>by rw[cF,aD (λe=>B (by rw[z,e]))];exact h.free u z⟩
theorem GrQ.unT{α:Type}{q y r:Nat}{s:St}{m:List α}{tk:Option Nat}{i t:Nat}{v:Nat × TypeId}(h:GrQ q y r (s.setT t v) m tk i):tk≠some t/\∀u,tk=some u->s.getT u=none:=by
 have z:tk≠some t:=λe=>by
  have:=h.free t e;rw[cF,aE rfl]at this;cases this
 refine⟨z,λu B=>?_⟩;have:=h.free u B;rw[cF]at this;split at this
 .cases this
 .exact this
theorem GrQ.dropT{α:Type}{q u r:Nat}{s:St}{m:List α}{tk:Option Nat}{i t:Nat}{v:Nat × TypeId}(h:GrQ q u r (s.setT t v) m tk i):GrQ q u r s m tk i :=
 ⟨h.len,h.h1,h.h3,h.ne,h.nil,h.unT.2⟩
theorem aGz{α:Type}{u y r:Nat}{s X:St}{q:List α}{tk:Option Nat}{i n t:Nat}{e:TypeId}(h:GrQ u y r s q tk i)(m:(gs X tk n e).getT t=none)(z:X.getT t=s.getT t:=by rfl):tk≠some t/\s.getT t=none:=by
 rw[eI]at m;split at m
 .cases m
 .rename_i e;exact⟨e,by rw[<-z];exact m⟩
theorem aF9{X:St}{r:Nat}{x:Ob}{tk:Option Nat}{n t:Nat}{e:TypeId}{v u:Nat × TypeId}(h:tk≠some t):((gs ((X.setT t v).setO r x) tk n e).setT t u).ge (gs ((X.setT t u).setO r x) tk n e):=by
 refine⟨λb o ho=>by rw[cU];rw[bW]at *;exact ho,λc m z=>?_,λy B=>by cases tk<;>exact B⟩;rw[eI,getT_setO,cF]at z;rw[cF,eI,getT_setO,cF];by_cases q:t=c
 .subst q;rw[aD h,aE rfl]at z;rw[aE rfl];exact z
 .rw[aD q]at z⊢;rw[aD q];exact z
theorem aFn{X:St}{r:Nat}{x:Ob}{tk:Option Nat}{n t:Nat}{e:TypeId}{v:Nat × TypeId}(h:X.getT t=none):(gs ((X.setT t v).setO r x) tk n e).ge (gs (X.setO r x) tk n e) :=
 aCU (λb o ho=>ho) (λy B=>B) (λc m _ z=>by
  show(X.setT t v).getT c=some m;have q:X.getT c=some m:=z;rw[cF];by_cases u:t=c
  .subst u;rw[h]at q;cases q
  .rw[aD u];exact q)
theorem aLA(Z:TOk T)(t:Tok)(w:List Tok)(hw:T.drop i=t::w)(hQ:ItQ s d o i)(hn:n<=2000)
  (L : (tG false fin d t w n).to (fun d' w n' => ∀ j o',i + 1 ≤ j → j ≤ T.length → T.drop j = w → n' ≤ 2000 → ItQ s d' o' j → KV (iM T fin first r s d' o' j n') (.tuple []))
   (λf=>∀s1 x,s1.gx s r->s1.getO r=some x->Kp s1 (.iface 51 f.enc))):Den cx 164 [.ptr r 0,t.enc] KV Kp (iM T fin first r s d o i n):=by
 obtain⟨g1,g2,g3,g4⟩:=iR hw;have hi:i<=T.length:=by omega
 have bn:=Z.len;have F:=hQ.own;have bj:=F.free;have bc:jI (gv o.on (d.once.map Cel.enc))=some (.int .i64 (d.once.map Cel.enc).length):=mD (by rw[aK];exact tA F (k:=6) rfl);have b5:∀x:aC,cJ x (T.drop i)=eJ t x:=λx=>by rw[hw];rfl
 simp only[go_sem];(refine aL func164 [0,1,2,4,5,12,27,42,70] ?_;simp only[go_sem,ntmps164,f164]);unfold iM;(refine gF λb2 m=>?_);simp only[go_sem,aJ,m];(refine gF λb3 z=>?_);simp only[go_sem,aJ,m,z];(refine gF λb4 B=>?_);simp only[go_sem,aJ,m,z,B];refine kI (d:=bX d o) (T:=T) (fin:=fin) (first:=first) (i:=i) (n:=n) _ gH hi ?_;rw[b5];cases c1:eJ t [115,116,97,114,116];rotate_left
 ·
  rw[tG,aE c1]at L;simp only[go_sem,aJ,m,z,B];refine aCP Z b2 _ (d:=bX d o) (T:=T) (fin:=fin) (first:=first) (i:=i) (n:=n) gH gH g2 ?_;cases cs:decide (d.start=[])
  .rw[aD (gQ cs),dE]at L;rw[hw];exact cO aR L
  rw[aE (gQ cs),bH,<-g3]at L;simp only[fV];simp only[go_sem,aJ,m,z,B];(refine bB (OT.r 0 6) [(2,[0])] ?_;simp only[go_sem,aJ,m,z,B]);refine fN (d:=bX d o) (T:=T) (fin:=fin) (first:=first) (i:=i+1) (n:=n) gH g2 Z (aT L (λx w2 m2 H O S b1=>?_) (λf h=>cO aR h));rw[bR]at H;subst m2;simp only[go_sem,aJ,m,z,B];have M:=H (i+1+1) o aB O S hn ⟨hQ.own,λa ha=>lQ (hQ.len a ha) aB⟩;refine aF M ?_;refine gW (l:=bT d o) ?_;simp only[bX];exact bK
 simp only[go_sem,aJ,m,z,B];refine kI (d:=bX d o) (T:=T) (fin:=fin) (first:=first) (i:=i) (n:=n) _ gH hi ?_;rw[b5];cases c2:eJ t [119,97,116,99,104];rotate_left
 ·
  rw[tG,aD (by simp[c1]),aE c2]at L;simp only[go_sem,aJ,m,z,B];refine aCP Z b2 _ (d:=bX d o) (T:=T) (fin:=fin) (first:=first) (i:=i) (n:=n) gH gH g2 ?_;cases cs:decide (d.watch=[])
  .rw[aD (gQ cs),dE]at L;rw[hw];exact cO aR L
  rw[aE (gQ cs),bH,<-g3]at L;simp only[fV];simp only[go_sem,aJ,m,z,B];(refine bB (OT.r 0 6) [(2,[0])] ?_;simp only[go_sem,aJ,m,z,B]);refine fN (d:=bX d o) (T:=T) (fin:=fin) (first:=first) (i:=i+1) (n:=n) gH g2 Z (aT L (λx w2 m2 H O S b1=>?_) (λf h=>cO aR h));rw[bR]at H;subst m2;simp only[go_sem,aJ,m,z,B];have M:=H (i+1+1) o aB O S hn ⟨hQ.own,λa ha=>lQ (hQ.len a ha) aB⟩;refine aF M ?_;refine gW (l:=bT d o) ?_;simp only[bX];exact bK
 simp only[go_sem,aJ,m,z,B];refine kI (d:=bX d o) (T:=T) (fin:=fin) (first:=first) (i:=i) (n:=n) _ gH hi ?_;rw[b5];cases c3:eJ t [99,101,108,108];rotate_left
 ·
  rw[tG,aD (by simp[c1]),aD (by simp[c2]),aE c3]at L;simp only[go_sem,aJ,m,z,B];(refine bB (OT.r 0 7) [] ?_;simp only[go_sem,aJ,m,z,B,bc]);refine jR (d:=bX d o) (T:=T) (fin:=fin) (first:=first) (i:=i) (n:=n) _ _ gH hi ?_;by_cases b9:12<=d.once.length
  .rw[aE b9,dE]at L;rw[aE (by(try simp only[aK]);omega),hw];exact cO aR L
  rw[aD b9,bH,<-g3]at L;rw[aD (by(try simp only[aK]);omega)];simp only[go_sem,aJ,m,z,B,bM i aB];(refine bB (OT.r 0 12) [(6,[0,1,4]),(8,[0])] ?_;simp only[go_sem,aJ,m,z,B]);refine aAv (d:=bX d o) (T:=T) (fin:=fin) (first:=first) (i:=i+1) (n:=n) Z gH g2 hn (aT L (λx w2 m2 H j hj b0 S b1=>?_) (λf h=>cO aR h));rw[bR]at H;simp only[go_sem,aJ,m,z,B];refine⟨by decide,λy hy=>by simp only[cC]at hy;subst hy;rfl,cT rfl rfl (by rw[aK];refine lX F (k:=6) (o:=(o.on,d.once.length,67)) rfl ?_;exactλ_=>rfl) (λy hy=>?_) (by have:=hQ.len (o.on,d.once.length,67) (by simp[bT]);simp only[aK,aO,aU];simp only at this;omega) (λu hu=>?_)⟩
  .simp only[cD]at hy;obtain⟨q,_,rfl⟩:=hy;rfl
  have G:=mF F (k:=6) (o:=(o.on,d.once.length,67)) rfl hu (λ_=>rfl) (d.once.length+1);simp only[go_sem,aJ,m,z,B];have M:=H j { o with on:=some u } aB b0 S b1 (ItQ.set (k:=6) hQ (by simp[bT]) G aB (by have:=hQ.len (o.on,d.once.length,67) (by simp[bT]);simp only at this⊢;omega));refine aF M (St.ge.trans (mB F (k:=6) (o:=(o.on,d.once.length,67)) rfl G (λ_=>rfl)) ?_);unfold iM;rw[show bT { d with once:=d.once++[x] } { o with on:=some u }=(bT d o).set 6 (some u,d.once.length+1,67)by simp[bT]];refine gW ?_;simp only[bX,dB,bY,bN,cP];exact bK
 simp only[go_sem,aJ,m,z,B];refine kI (d:=bX d o) (T:=T) (fin:=fin) (first:=first) (i:=i) (n:=n) _ gH hi ?_;rw[b5];cases c4:eJ t [109,97,110,121];rotate_left
 ·
  rw[tG,aD (by simp[c1]),aD (by simp[c2]),aD (by simp[c3]),aE c4]at L;simp only[go_sem,aJ,m,z,B];refine aCP Z b2 _ (d:=bX d o) (T:=T) (fin:=fin) (first:=first) (i:=i) (n:=n) gH gH g2 ?_;cases cs:decide (d.kind=[])
  .rw[aD (gQ cs),dE]at L;rw[hw];exact cO aR L
  rw[aE (gQ cs),bH,<-g3]at L;simp only[fV];simp only[go_sem,aJ,m,z,B];(refine bB (OT.r 0 6) [(2,[0])] ?_;simp only[go_sem,aJ,m,z,B]);refine fN (d:=bX d o) (T:=T) (fin:=fin) (first:=first) (i:=i+1) (n:=n) gH g2 Z (aT L (λx w2 m2 H O S b1=>?_) (λf h=>cO aR h));subst m2;rw[<-S,bH]at H;simp only[go_sem,aJ,m,z,B];refine eA (d:=bX { d with kind:=x } o) (T:=T) (fin:=fin) (first:=first) (i:=i+1+1) (n:=n) _ gH O Z (aT H (λ_ w3 m3 M bg bt c7=>?_) (λf h=>cO aR h));subst m3;rw[<-bt,bH]at M;simp only[go_sem,aJ,m,z,B];have b7:(dF (((s.setO b2 (.cells 130 [.ptr r 0])).setO b3 (.cells 173 t.cs)).setO b4 (.cells 207 [.ptr r 6])) ((bT d o).set 7 (none,0,68))).getO b2=some (.cells 130 [.ptr r 0]):=by simp only[aJ,aH,B,z,cI,cM]
  have b8:(dF (((s.setO b2 (.cells 130 [.ptr r 0])).setO b3 (.cells 173 t.cs)).setO b4 (.cells 207 [.ptr r 6])) ((bT d o).set 7 (none,0,68))).getO b4=some (.cells 207 [.ptr r 6]):=by simp only[aJ,aH,cM]
  have bb:∀a,a∈(bT d o).set 7 (none,0,68)->∀u,a.1=some u->s.getT u=none:=λa ha u hu=>by
   rcases uD ha with ha|rfl
   .exact bj a ha u hu
   .cases hu
  have bk:(dF (((s.setO b2 (.cells 130 [.ptr r 0])).setO b3 (.cells 173 t.cs)).setO b4 (.cells 207 [.ptr r 6])) ((bT d o).set 7 (none,0,68))).gx s r:=by
   refine aDo bb ?_;exact aR
  have c6:d.many.length<=i:=by have:=hQ.len (o.ma,d.many.length,67) (by simp[bT]);exact this
  refine fA (s':=lG T fin (bX { d with kind:=x } o) first r (dF (((s.setO b2 (.cells 130 [.ptr r 0])).setO b3 (.cells 173 t.cs)).setO b4 (.cells 207 [.ptr r 6])) ((bT d o).set 7 (none,0,68))) d.many o.ma (i+1+1+1) n) ?_ (aB2 (fin:=fin) (σ:=List Cel) (α:=Unit) (X:=Option Nat) (r:=r) (λ_=>.bool true) (λ_=>rfl) (λ_=>rfl) Z
   (λs' U tk i n=>lG T fin (bX { d with kind:=x } o) first r s' U tk i n) (λs' U tk i=>GrQ b2 b4 r s' U tk i) (λU w n=>((mK fin 12 U.length w n λw n=>tN false fin w n).bind λa w n=>.ok (U++[a]) w n).bind λa w n=>.ok (a,()) w n) 197 [] [.ptr b2 0,.ptr b4 0]
   (λs' a x i n=>⟨_,first,by unfold lG;rw[bW,aH,aE rfl],by unfold lG;rw[aAF,lW];exact aG _⟩) (λs' a x i n t v h ht=>?_) (λs' a x i n t v u ht h=>?_) (λs' a x i n t v ht h=>⟨h.dropT,aFn ht⟩)
   (λs' a x i h=>⟨by have:=h.len;omega,h.h1,h.h3,h.ne,h.nil,h.free⟩) (λs' a x i n h=>fD (dM (dX _ _)) h.free)
   (λs' a x i n c0 c5 h bl bq bd=>aK2 Z b2 b4 a x h bl bq ?_)
   d.many o.ma (i+1+1+1) n ?_ bg hn ?_)
  .refine St.ge.trans (b:=dF ((((s.setO b2 (.cells 130 [.ptr r 0])).setO b3 (.cells 173 t.cs)).setO b4 (.cells 207 [.ptr r 6])).setO r (aZ T fin (bX { d with kind:=x } o) first (i+1+1+1) n)) (bT d o)) (gW bK) ?_;unfold lG;rw[sX];exact aFy F (k:=7) (o:=(o.ma,d.many.length,67)) rfl 0 68
  .have hx:=aGz h ht;exact⟨hx.2,h.setT hx.1,aDa hx.1⟩
  .have hx:=h.unT;exact⟨by show(gs _ _ _ _).getT t=_;rw[eI,aD hx.1];show(s'.setT t v).getT t=_;rw[cF,aE rfl],h.dropT.setT hx.1,aF9 hx.1⟩
  .rw[bH,bH]at bd;exact aT bd (λa w n h2 j y hj b0 hw hn hy=>h2 j y aB b0 hw hn hy) (λ_ h=>h)
  .refine⟨by omega,b7,b8,⟨m.1.2,B.2.2.1.2⟩,λe=>fC (F.nil (o.ma,d.many.length,67) (by simp[bT]) e),λu hu=>(by refine aGX F (k:=7) (o:=(o.ma,d.many.length,67)) rfl 0 68 ?_ hu;exactλ_=>rfl)⟩
  refine aT (aAg _ _ _ _ _ [] _ _ _ _ M) (λc w4 m4 b6 j y hj b0 bv bp hy=>?_) (λf h s1 x hg br=>aN (h _ _ (hg.trans bk) br));obtain⟨l,ul⟩:=c;simp only at b6 hy⊢;subst bv;rw[bH]at b6;have G:OwnOk s ((bT d o).set 7 (y,l.length,67)):=by refine aGh F (k:=7) (by simp[bT]) 0 67 68 ?_ hy.free (λe=>by rw[hy.nil e];rfl);exactλ_=>rfl
  unfold lG;simp only[go_sem,aJ,m,z,B];refine fA (aGc (l:=bT d o) (k:=7) (by simp[bT]) G 0 68) ?_;have bz:=G.free;refine eA (d:=bX { d with kind:=x,many:=l } { o with ma:=y }) (T:=T) (fin:=fin) (first:=first) (i:=j) (n:=m4) _ gH b0 Z (aT b6 (λ_ w5 m5 bf bh bw c8=>?_) (λf h=>cO aR h));subst m5;rw[bR]at bf;simp only[go_sem,aJ,m,z,B];have bm:=bf (j+1) { o with ma:=y } aB bh bw bp (ItQ.set (k:=7) (a:=(y,l.length,67)) hQ (by simp[bT]) G aB (by have:=hy.len;simp only;omega));refine aF bm ?_;unfold iM;rw[show bT { d with kind:=x,many:=l } { o with ma:=y }=(bT d o).set 7 (y,l.length,67)by simp[bT]];refine gW ?_;simp only[bX];exact bK
 rw[tG,aD (by simp[c1]),aD (by simp[c2]),aD (by simp[c3]),aD (by simp[c4]),dE]at L;simp only[go_sem,aJ,m,z,B];refine lZ (d:=bX d o) (T:=T) (fin:=fin) (first:=first) (i:=i) (n:=n) 11 gH hi Z ?_;rw[hw];exact aN (L _ (aZ T fin (bX d o) first i n) aR gH)
end
end
section
theorem aFz(fin:Fault):∀(f:Nat) (m:List aC) (w:List Tok) (n:Nat),
  (dO fin [44] (λm w n=>(eH fin w n).bind λa w n=>.ok (m++[a]) w n) f m w n).to (λl w' _=>l.length+w'.length<=m.length+w.length) (λ_=>True)
 | 0,m,w,n=>trivial
 | f+1,m,w,n=>by
  rw[dO,bH,bH];cases w with
  | nil=>trivial
  | cons t w =>
   simp only[eH];split
   .simp only[bR];split
    .refine aT (aFz fin f _ w.tail n) (λl w' _ h=>?_) (λ_ h=>h);simp only[aI,aO,aU,List.length_tail]at h⊢;omega
    .simp only[bR,aI,aO,aU];omega
   ·trivial
section
variable {T:List Tok} {fin:Fault} {d:Dfn} {o:DOwn} {first:Tok} {i n:Nat} {s:St} {r:Nat} {KV Kp:St->A->Prop}
theorem aMN(hT:TOk T)(hi:i<=T.length)(hQ:ItQ s d o i)(hn:n<=2000)
  (U : (aDt false fin d (T.drop i) n).to (fun d' w n' => ∀ j o',i + 1 ≤ j → j ≤ T.length → T.drop j = w → n' ≤ 2000 → ItQ s d' o' j → KV (iM T fin first r s d' o' j n') (.tuple []))
   (λf=>∀s1 x,s1.gx s r->s1.getO r=some x->Kp s1 (.iface 51 f.enc))):Den cx 119 [.ptr r 0] KV Kp (iM T fin first r s d o i n):=by
 have cq:=hT.len;have H:=hQ.own;have cn:=H.free;have L0:=hQ.len (o.so,d.sig.sorts.length,9) (by simp[bT]);have L1:=hQ.len (o.be,d.sig.below.length,102) (by simp[bT]);have L2:=hQ.len (o.op,d.sig.ops.length,64) (by simp[bT]);have L3:=hQ.len (o.fu,d.sig.funs.length,64) (by simp[bT]);have L4:=hQ.len (o.va,d.sig.values.length,9) (by simp[bT]);have L5:=hQ.len (o.eq,d.eqs.length,41) (by simp[bT]);have L8:=hQ.len (o.ru,d.rules.length,46) (by simp[bT]);simp only at L0 L1 L2 L3 L4 L5 L8;have G1:jI (gv o.be (d.sig.below.map Below.enc))=some (.int .i64 (d.sig.below.map Below.enc).length):=mD (by rw[aK];exact tA H (k:=1) rfl);have G2:jI (gv o.op (d.sig.ops.map Opr.enc))=some (.int .i64 (d.sig.ops.map Opr.enc).length):=mD (by rw[aK];exact tA H (k:=2) rfl);have G3:jI (gv o.fu (d.sig.funs.map Opr.enc))=some (.int .i64 (d.sig.funs.map Opr.enc).length):=mD (by rw[aK];exact tA H (k:=3) rfl);have G5:jI (gv o.eq (d.eqs.map Eqn.enc))=some (.int .i64 (d.eqs.map Eqn.enc).length):=mD (by rw[aK];exact tA H (k:=5) rfl);have G8:jI (gv o.ru (d.rules.map Rul.enc))=some (.int .i64 (d.rules.map Rul.enc).length):=mD (by rw[aK];exact tA H (k:=8) rfl);(refine aL func119 [0,1,2,3,4,5,14,20,59,76,107,134,177] ?_;simp only[go_sem,ntmps119,f119]);unfold iM;(refine gF λb1 m=>?_);simp only[go_sem,aJ,m];refine gS (d:=bX d o) (T:=T) (fin:=fin) (first:=first) (i:=i) (n:=n) gH hi ?_;cases hw:T.drop i with
 | nil=>rw[hw]at U;exact aN (U _ (aZ T fin (bX d o) first i n) aR gH)
 | cons t w =>
  obtain⟨g1,g2,g3,g4⟩:=iR hw;have bh:∀x:aC,cJ x (T.drop i)=eJ t x:=λx=>by rw[hw];rfl
  rw[hw]at U;simp only[aDt,bH]at U;simp only[go_sem,aJ,m];(refine gF λb2 B=>?_);simp only[go_sem,aJ,m,B];(refine gF λb3 F=>?_);simp only[go_sem,aJ,m,B,F];refine gC (d:=bX d o) (T:=T) (fin:=fin) (first:=first) (i:=i) (n:=n) _ gH hi hT ?_;rw[bh];cases c1:eJ t [115,111,114,116];rotate_left
  .rw[aE c1,bH,<-g3]at U;simp only;simp only[go_sem,aJ,m,B,F];have bz:(dF (((s.setO b1 (.cells 130 [.ptr r 0])).setO b2 (.cells 173 t.cs)).setO b3 (.cells 207 [.ptr r 6])) ((bT d o).set 0 (none,0,9))).getO b1=some (.cells 130 [.ptr r 0]):=by simp only[aJ,aH,F,B,cI,cM]
   have c0:(dF (((s.setO b1 (.cells 130 [.ptr r 0])).setO b2 (.cells 173 t.cs)).setO b3 (.cells 207 [.ptr r 6])) ((bT d o).set 0 (none,0,9))).getO b3=some (.cells 207 [.ptr r 6]):=by simp only[aJ,aH,cM]
   have c9:∀a,a∈(bT d o).set 0 (none,0,9)->∀u,a.1=some u->s.getT u=none:=λa ha u hu=>by
    rcases uD ha with ha|rfl
    .exact cn a ha u hu
    .cases hu
   have cp:(dF (((s.setO b1 (.cells 130 [.ptr r 0])).setO b2 (.cells 173 t.cs)).setO b3 (.cells 207 [.ptr r 6])) ((bT d o).set 0 (none,0,9))).gx s r:=by
    refine aDo c9 ?_;exact aR
   refine fA (s':=lI T fin (bX d o) first r (dF (((s.setO b1 (.cells 130 [.ptr r 0])).setO b2 (.cells 173 t.cs)).setO b3 (.cells 207 [.ptr r 6])) ((bT d o).set 0 (none,0,9))) d.sig.sorts o.so (i+1) n) ?_ (aB2 (fin:=fin) (σ:=List aC) (α:=Unit) (X:=Option Nat) (r:=r) (λ_=>.bool true) (λ_=>rfl) (λ_=>rfl) hT
    (λs' bj tk i n=>lI T fin (bX d o) first r s' bj tk i n) (λs' bj tk i=>GrQ b1 b3 r s' bj tk i) (λbj w n=>((mK fin 40 bj.length w n λw n=>eH fin w n).bind λa w n=>.ok (bj++[a]) w n).bind λa w n=>.ok (a,()) w n) 155 [] [.ptr b1 0,.ptr b3 0]
    (λs' a x i n=>⟨_,first,by unfold lI;rw[bW,aH,aE rfl],by unfold lI;rw[aAF,lW];exact aG _⟩) (λs' a x i n t v h ht=>?_) (λs' a x i n t v u ht h=>?_) (λs' a x i n t v ht h=>⟨h.dropT,aFn ht⟩)
    (λs' a x i h=>⟨by have:=h.len;omega,h.h1,h.h3,h.ne,h.nil,h.free⟩) (λs' a x i n h=>fD (dM (dX _ _)) h.free)
    (λs' a x i n cl cm h bt bw bq=>aKZ hT b1 b3 a x h bt bw ?_)
    d.sig.sorts o.so (i+1) n ?_ g2 hn ?_)
   .refine St.ge.trans (b:=dF ((((s.setO b1 (.cells 130 [.ptr r 0])).setO b2 (.cells 173 t.cs)).setO b3 (.cells 207 [.ptr r 6])).setO r (aZ T fin (bX d o) first (i+1) n)) (bT d o)) (gW bK) ?_;unfold lI;rw[sX];exact aFy H (k:=0) (o:=(o.so,d.sig.sorts.length,9)) rfl 0 9
   .have hx:=aGz h ht;exact⟨hx.2,h.setT hx.1,aDa hx.1⟩
   .have hx:=h.unT;exact⟨by show(gs _ _ _ _).getT t=_;rw[eI,aD hx.1];show(s'.setT t v).getT t=_;rw[cF,aE rfl],h.dropT.setT hx.1,aF9 hx.1⟩
   .rw[bH,bH]at bq;exact aT bq (λa w n h2 j y hj b7 hw hn S=>h2 j y aB b7 hw hn S) (λ_ h=>h)
   .refine⟨by omega,bz,c0,⟨m.1.2,F.2.2.1.2⟩,λe=>fC (H.nil (o.so,d.sig.sorts.length,9) (by simp[bT]) e),λu hu=>(by refine aGX H (k:=0) (o:=(o.so,d.sig.sorts.length,9)) rfl 0 9 ?_ hu;exactλ_=>rfl)⟩
   refine aT (aAg _ _ _ _ _ [] _ _ _ _ U) (λc w4 m4 bc j y hj b7 bp br S=>?_) (λf h s1 x hg bl=>aN (h _ _ (hg.trans cp) bl));obtain⟨l,ul⟩:=c;simp only at bc S⊢;subst bp;rw[bR]at bc;have G:OwnOk s ((bT d o).set 0 (y,l.length,9)):=by refine aGh H (k:=0) (by simp[bT]) 0 9 9 ?_ S.free (λe=>by rw[S.nil e];rfl);exactλ_=>rfl
   unfold lI;simp only[go_sem,aJ,m,B,F];refine fA (aGc (l:=bT d o) (k:=0) (by simp[bT]) G 0 9) ?_;have b6:=G.free;refine eA (d:=bX { d with sig:={ d.sig with sorts:=l } } { o with so:=y }) (T:=T) (fin:=fin) (first:=first) (i:=j) (n:=m4) _ gH b7 hT (aT bc (λ_ w9 m9 M O b0 bg=>?_) (λf h=>cO aR h));subst m9;rw[bR]at M;simp only[go_sem,aJ,m,B,F];have L:=M (j+1) { o with so:=y } aB O b0 br (ItQ.set (k:=0) (a:=(y,l.length,9)) hQ (by simp[bT]) G aB (by have:=S.len;simp only;omega));refine aF L ?_;unfold iM;rw[show bT { d with sig:={ d.sig with sorts:=l } } { o with so:=y }=(bT d o).set 0 (y,l.length,9)by simp[bT]];refine gW ?_;simp only[bX,dB,bY,bN,cP];exact bK
  rw[aD (by simp[c1])]at U;simp only;simp only[go_sem,aJ,m,B,F];refine kI (d:=bX d o) (T:=T) (fin:=fin) (first:=first) (i:=i) (n:=n) _ gH hi ?_;rw[bh];simp only[go_sem,aJ,m,B,F];cases c2:eJ t [115,117,98,115,111,114,116];rotate_left
  .rw[aE c2,uR,dE]at U;simp only[go_sem,aJ,m,B,F];(refine bB (OT.r 0 8) [] ?_;simp only[go_sem,aJ,m,B,F,G1]);refine jR (d:=bX d o) (T:=T) (fin:=fin) (first:=first) (i:=i) (n:=n) _ _ gH hi ?_;by_cases hm:200<=d.sig.below.length
   .rw[aE hm]at U;rw[aE (by(try simp only[aK]);omega),hw];exact cO aR U
   rw[aD hm,bH,<-g3]at U;rw[aD (by(try simp only[aK]);omega)];simp only[go_sem,aJ,m,B,F,bM i aB];refine fN (d:=bX d o) (T:=T) (fin:=fin) (first:=first) (i:=i+1) (n:=n) gH g2 hT (aT U (λx w2 m2 Z cj b8 bb=>?_) (λf h=>cO aR h));subst m2;rw[<-b8,bH]at Z;simp only[go_sem,aJ,m,B,F];(refine gF λb4 bf=>?_);simp only[go_sem,aJ,m,B,F,bf];refine eA (d:=bX d o) (T:=T) (fin:=fin) (first:=first) (i:=i+1+1) (n:=n) _ gH cj hT (aT Z (λ_ w3 m3 b9 bk bn bv=>?_) (λf h=>cO aR h));subst m3;rw[<-bn,bH]at b9;simp only[go_sem,aJ,m,B,F,bf];refine fN (d:=bX d o) (T:=T) (fin:=fin) (first:=first) (i:=i+1+1+1) (n:=n) gH bk hT (aT b9 (λy w4 m4 bc ck bp br=>?_) (λf h=>cO aR h));subst m4;rw[<-bp,bR]at bc;simp only[go_sem,aJ,m,B,F,bf];(refine bB (OT.r 0 13) [(8,[0])] ?_;simp only[go_sem,aJ,m,B,F,bf])
   (try simp only[go_sem,aJ,m,B,F,bf])
   refine⟨by decide,λy S=>by simp only[cC]at S;subst S;rfl,cT rfl rfl (by rw[aK];refine lX H (k:=1) (o:=(o.be,d.sig.below.length,102)) rfl ?_;exactλ_=>rfl) (λy S=>?_) (by simp only[aK,aO,aU];omega) (λu hu=>?_)⟩
   .simp only[cD]at S;obtain⟨q,_,rfl⟩:=S;rfl
   have G:=mF H (k:=1) (o:=(o.be,d.sig.below.length,102)) rfl hu (λ_=>rfl) (d.sig.below.length+1);simp only[go_sem,aJ,m,B,F,bf];refine fA (mB H (k:=1) (o:=(o.be,d.sig.below.length,102)) rfl G (λ_=>rfl)) ?_;have b6:=G.free;refine eA (d:={ bX d o with below:=.list (some u) (d.sig.below.map Below.enc++[Below.enc ⟨x,y⟩]) }) (T:=T) (fin:=fin) (first:=first) (i:=i+1+1+1+1) (n:=n) _ gH ck hT (aT bc (λ_ w9 m9 M O b0 bg=>?_) (λf h=>cO aR h));subst m9;rw[bR]at M;simp only[go_sem,aJ,m,B,F,bf];have L:=M (i+1+1+1+1+1) { o with be:=some u } aB O b0 hn (ItQ.set (k:=1) (a:=(some u,d.sig.below.length+1,102)) hQ (by simp[bT]) G aB aP);refine aF L ?_;unfold iM;rw[show bT { d with sig:={ d.sig with below:=d.sig.below++[⟨x,y⟩] } } { o with be:=some u }=(bT d o).set 1 (some u,d.sig.below.length+1,102)by simp[bT]];refine gW ?_;simp only[bX,dB,bY,bN,cP];exact bK
  rw[aD (by simp[c2])]at U;simp only[go_sem,aJ,m,B,F];refine gC (d:=bX d o) (T:=T) (fin:=fin) (first:=first) (i:=i) (n:=n) _ gH hi hT ?_;rw[bh];cases c3:eJ t [118,97,108,117,101];rotate_left
  .rw[aE c3,bH,<-g3]at U;simp only;simp only[go_sem,aJ,m,B,F];(refine bB (OT.r 0 15) [(9,[0,1,5]),(10,[0])] ?_;simp only[go_sem,aJ,m,B,F])
   refine fA (qE gH) (aID (fin:=fin) (d:=bX d o) (fi:=first) (λx:aC=>A.str x) (λ_=>rfl) (λ_=>rfl) hT (λ_=>True) (λ_ _ _=>Iff.rfl) (eH fin) 118 [.ptr r 0] []
    (aA4 (λ_ _ h=>h) (λs' i' n' cl cm ct _ bt bw bq=>fN ct bt hT (aT bq (λ_ _ _ h h1 h2 h3=>by subst h3;exact h (i'+1) aB h1 h2 bw) (λ_ h=>h)))) (i+1) n trivial g2 hn ?_)
   refine aT (aCD U (aFz _ _ _ _ _)) (λl w3 m3 b9 j3 f0 cd bn bv=>?_) (λf h s1 o hg bl=>aN (h _ o (hg.trans aR) bl));obtain⟨hl,b9⟩:=b9;subst bn;simp only[aU,cS]at hl;rw[bR]at b9;simp only[go_sem,aJ,m,B,F];refine⟨by decide,λy S=>by simp only[cD]at S;obtain⟨q,_,rfl⟩:=S;rfl,cT rfl rfl (by rw[aK];refine lX H (k:=4) (o:=(o.va,d.sig.values.length,9)) rfl ?_;exactλ_=>rfl) (λy S=>?_) (by simp only[aK];omega) (λu hu=>?_)⟩
   .simp only[cD]at S;obtain⟨q,_,rfl⟩:=S;rfl
   have G:=mF H (k:=4) (o:=(o.va,d.sig.values.length,9)) rfl hu (λ_=>rfl) (d.sig.values.length+l.length);simp only[go_sem,aJ,m,B,F,aK];refine fA (mB H (k:=4) (o:=(o.va,d.sig.values.length,9)) rfl G (λ_=>rfl)) ?_;have b6:=G.free;refine eA (d:={ bX d o with values:=.list (some u) (d.sig.values.map A.str++l.map A.str) }) (T:=T) (fin:=fin) (first:=first) (i:=j3) (n:=m3) _ gH cd hT (aT b9 (λ_ w9 m9 M O b0 bg=>?_) (λf h=>cO aR h));subst m9;rw[bR]at M;simp only[go_sem,aJ,m,B,F];have L:=M (j3+1) { o with va:=some u } aB O b0 bv (ItQ.set (k:=4) (a:=(some u,d.sig.values.length+l.length,9)) hQ (by simp[bT]) G aB aP);refine aF L ?_;unfold iM;rw[show bT { d with sig:={ d.sig with values:=d.sig.values++l } } { o with va:=some u }=(bT d o).set 4 (some u,d.sig.values.length+l.length,9)by simp[bT]];refine gW ?_;simp only[bX,dB,bY,bN,cP];exact bK
  rw[aD (by simp[c3])]at U;simp only;simp only[go_sem,aJ,m,B,F];refine kI (d:=bX d o) (T:=T) (fin:=fin) (first:=first) (i:=i) (n:=n) _ gH hi ?_;rw[bh];simp only[go_sem,aJ,m,B,F];cases c4:eJ t [111,112];rotate_left
  .rw[aE (.inl c4),uR,dE]at U;simp only[go_sem,aJ,m,B,F,c4];have bm:t.text=[111,112]:=by have:=c4;simp[eJ]at this;exact this.2
   have d4:decide (t.text=[111,112])=true:=by rw[bm];rfl
   (refine bB (OT.r 0 15) [] ?_;simp only[go_sem,aJ,m,B,F,G2,G3,eW ((d.sig.ops.length:Int)+(d.sig.funs.length:Int)) aB aB]);refine jR (d:=bX d o) (T:=T) (fin:=fin) (first:=first) (i:=i) (n:=n) _ _ gH hi ?_;by_cases hm:200<=d.sig.ops.length+d.sig.funs.length
   .rw[aE hm]at U;rw[aE (by(try simp only[aK]);omega),hw];exact cO aR U
   rw[aD hm,aE bm,bH,<-g3]at U;rw[aD (by(try simp only[aK]);omega)];simp only[go_sem,aJ,m,B,F,bM i aB,d4];(refine bB (OT.r 0 14) [(7,[0,1,5]),(9,[0])] ?_;simp only[go_sem,aJ,m,B,F]);refine aOf (d:=bX d o) (T:=T) (fin:=fin) (first:=first) (i:=i+1) (n:=n) hT gH g2 hn (aT U (λx w2 m2 Z j hj b7 b8 bb=>?_) (λf h=>cO aR h));subst b8;rw[bR]at Z;simp only[go_sem,aJ,m,B,F];refine⟨by decide,λy S=>by simp only[cC]at S;subst S;rfl,cT rfl rfl (by rw[aK];refine lX H (k:=2) (o:=(o.op,d.sig.ops.length,64)) rfl ?_;exactλ_=>rfl) (λy S=>?_) (by simp only[aK,aO,aU];omega) (λu hu=>?_)⟩
   .simp only[cD]at S;obtain⟨q,_,rfl⟩:=S;rfl
   have G:=mF H (k:=2) (o:=(o.op,d.sig.ops.length,64)) rfl hu (λ_=>rfl) (d.sig.ops.length+1);simp only[go_sem,aJ,m,B,F];refine fA (mB H (k:=2) (o:=(o.op,d.sig.ops.length,64)) rfl G (λ_=>rfl)) ?_;have b6:=G.free;refine eA (d:={ bX d o with ops:=.list (some u) (d.sig.ops.map Opr.enc++[Opr.enc x]) }) (T:=T) (fin:=fin) (first:=first) (i:=j) (n:=m2) _ gH b7 hT (aT Z (λ_ w9 m9 M O b0 bg=>?_) (λf h=>cO aR h));subst m9;rw[bR]at M;simp only[go_sem,aJ,m,B,F];have L:=M (j+1) { o with op:=some u } aB O b0 bb (ItQ.set (k:=2) (a:=(some u,d.sig.ops.length+1,64)) hQ (by simp[bT]) G aB aP);refine aF L ?_;unfold iM;rw[show bT { d with sig:={ d.sig with ops:=d.sig.ops++[x] } } { o with op:=some u }=(bT d o).set 2 (some u,d.sig.ops.length+1,64)by simp[bT]];refine gW ?_;simp only[bX,dB,bY,bN,cP];exact bK
  simp only[go_sem,aJ,m,B,F,c4];refine kI (d:=bX d o) (T:=T) (fin:=fin) (first:=first) (i:=i) (n:=n) _ gH hi ?_;rw[bh];simp only[go_sem,aJ,m,B,F];cases c5:eJ t [102,117,110];rotate_left
  .rw[aE (.inr c5),uR,dE]at U;simp only[go_sem,aJ,m,B,F,c5];have bm:¬ t.text=[111,112]:=by have:=c5;simp[eJ]at this;rw[this.2];decide
   have d4:decide (t.text=[111,112])=false:=gQ bm;(refine bB (OT.r 0 15) [] ?_;simp only[go_sem,aJ,m,B,F,G2,G3,eW ((d.sig.ops.length:Int)+(d.sig.funs.length:Int)) aB aB]);refine jR (d:=bX d o) (T:=T) (fin:=fin) (first:=first) (i:=i) (n:=n) _ _ gH hi ?_;by_cases hm:200<=d.sig.ops.length+d.sig.funs.length
   .rw[aE hm]at U;rw[aE (by(try simp only[aK]);omega),hw];exact cO aR U
   rw[aD hm,aD bm,bH,<-g3]at U;rw[aD (by(try simp only[aK]);omega)];simp only[go_sem,aJ,m,B,F,bM i aB,d4];(refine bB (OT.r 0 14) [(7,[0,1,5]),(9,[0])] ?_;simp only[go_sem,aJ,m,B,F]);refine aNf (d:=bX d o) (T:=T) (fin:=fin) (first:=first) (i:=i+1) (n:=n) hT gH g2 hn (aT U (λx w2 m2 Z j hj b7 b8 bb=>?_) (λf h=>cO aR h));subst b8;rw[bR]at Z;simp only[go_sem,aJ,m,B,F];refine⟨by decide,λy S=>by simp only[cC]at S;subst S;rfl,cT rfl rfl (by rw[aK];refine lX H (k:=3) (o:=(o.fu,d.sig.funs.length,64)) rfl ?_;exactλ_=>rfl) (λy S=>?_) (by simp only[aK,aO,aU];omega) (λu hu=>?_)⟩
   .simp only[cD]at S;obtain⟨q,_,rfl⟩:=S;rfl
   have G:=mF H (k:=3) (o:=(o.fu,d.sig.funs.length,64)) rfl hu (λ_=>rfl) (d.sig.funs.length+1);simp only[go_sem,aJ,m,B,F];refine fA (mB H (k:=3) (o:=(o.fu,d.sig.funs.length,64)) rfl G (λ_=>rfl)) ?_;have b6:=G.free;refine eA (d:={ bX d o with funs:=.list (some u) (d.sig.funs.map Opr.enc++[Opr.enc x]) }) (T:=T) (fin:=fin) (first:=first) (i:=j) (n:=m2) _ gH b7 hT (aT Z (λ_ w9 m9 M O b0 bg=>?_) (λf h=>cO aR h));subst m9;rw[bR]at M;simp only[go_sem,aJ,m,B,F];have L:=M (j+1) { o with fu:=some u } aB O b0 bb (ItQ.set (k:=3) (a:=(some u,d.sig.funs.length+1,64)) hQ (by simp[bT]) G aB aP);refine aF L ?_;unfold iM;rw[show bT { d with sig:={ d.sig with funs:=d.sig.funs++[x] } } { o with fu:=some u }=(bT d o).set 3 (some u,d.sig.funs.length+1,64)by simp[bT]];refine gW ?_;simp only[bX,dB,bY,bN,cP];exact bK
  rw[aD (by simp[c4,c5])]at U;simp only[go_sem,aJ,m,B,F,c5];refine kI (d:=bX d o) (T:=T) (fin:=fin) (first:=first) (i:=i) (n:=n) _ gH hi ?_;rw[bh];simp only[go_sem,aJ,m,B,F];cases c6:eJ t [108,101,116];rotate_left
  .rw[aE c6,uR,dE]at U;simp only[go_sem,aJ,m,B,F,c6];(refine bB (OT.r 0 7) [] ?_;simp only[go_sem,aJ,m,B,F,G5]);refine jR (d:=bX d o) (T:=T) (fin:=fin) (first:=first) (i:=i) (n:=n) _ _ gH hi ?_;by_cases hm:300<=d.eqs.length
   .rw[aE hm]at U;rw[aE (by(try simp only[aK]);omega),hw];exact cO aR U
   rw[aD hm,bH,<-g3]at U;rw[aD (by(try simp only[aK]);omega)];simp only[go_sem,aJ,m,B,F,bM i aB];(refine bB (OT.l [0,2,3,4,5,1,6,7,8] .nil) [(1,[3,5]),(7,[0,3,5])] ?_;simp only[go_sem,aJ,m,B,F]);refine qF (d:=bX d o) (T:=T) (fin:=fin) (first:=first) (i:=i+1) (n:=n) hT gH g2 hn (aT U (λx w2 m2 Z j2 cz cb b8 bb=>?_) (λf h=>cO aR h));subst b8;rw[bH]at Z;simp only[go_sem,aJ,m,B,F,cG];(refine gF λb5 bd=>?_);simp only[go_sem,aJ,m,B,F,bd];refine eA (d:=bX d o) (T:=T) (fin:=fin) (first:=first) (i:=j2) (n:=m2) _ gH cb hT (aT Z (λ_ w3 m3 b9 bk bn bv=>?_) (λf h=>cO aR h));subst m3;rw[<-bn,bH]at b9;simp only[go_sem,aJ,m,B,F,bd];refine qF (d:=bX d o) (T:=T) (fin:=fin) (first:=first) (i:=j2+1) (n:=m2) hT gH bk bb (aT b9 (λy w4 m4 bc j4 f1 cf bp br=>?_) (λf h=>cO aR h));subst bp;rw[bH]at bc;simp only[go_sem,aJ,m,B,F,bd,cG];refine aFI (d:=bX d o) (T:=T) (fin:=fin) (first:=first) (i:=j4) (n:=m4) hT gH cf br (aT bc (λz w5 m5 ch j5 f2 cg cw cr=>?_) (λf h=>cO aR h));subst cw;rw[bR]at ch;simp only[go_sem,aJ,m,B,F,bd];(refine bB (OT.r 0 11) [(7,[0])] ?_;simp only[go_sem,aJ,m,B,F,bd])
   (try simp only[go_sem,aJ,m,B,F,bd])
   refine⟨by decide,λy S=>by simp only[cC]at S;subst S;rfl,cT rfl rfl (by rw[aK];refine lX H (k:=5) (o:=(o.eq,d.eqs.length,41)) rfl ?_;exactλ_=>rfl) (λy S=>?_) (by simp only[aK,aO,aU];omega) (λu hu=>?_)⟩
   .simp only[cD]at S;obtain⟨q,_,rfl⟩:=S;rfl
   have G:=mF H (k:=5) (o:=(o.eq,d.eqs.length,41)) rfl hu (λ_=>rfl) (d.eqs.length+1);simp only[go_sem,aJ,m,B,F,bd];refine fA (mB H (k:=5) (o:=(o.eq,d.eqs.length,41)) rfl G (λ_=>rfl)) ?_;have b6:=G.free;refine eA (d:={ bX d o with eqs:=.list (some u) (d.eqs.map Eqn.enc++[Eqn.enc ⟨x,y,z,t.line,t.col⟩]) }) (T:=T) (fin:=fin) (first:=first) (i:=j5) (n:=m5) _ gH cg hT (aT ch (λ_ w9 m9 M O b0 bg=>?_) (λf h=>cO aR h));subst m9;rw[bR]at M;simp only[go_sem,aJ,m,B,F,bd];have L:=M (j5+1) { o with eq:=some u } aB O b0 cr (ItQ.set (k:=5) (a:=(some u,d.eqs.length+1,41)) hQ (by simp[bT]) G aB aP);refine aF L ?_;unfold iM;rw[show bT { d with eqs:=d.eqs++[⟨x,y,z,t.line,t.col⟩] } { o with eq:=some u }=(bT d o).set 5 (some u,d.eqs.length+1,41)by simp[bT]];refine gW ?_;simp only[bX,dB,bY,bN,cP];exact bK
  rw[aD (by simp[c6])]at U;simp only[go_sem,aJ,m,B,F,c6];refine kI (d:=bX d o) (T:=T) (fin:=fin) (first:=first) (i:=i) (n:=n) _ gH hi ?_;rw[bh];simp only[go_sem,aJ,m,B,F];cases c7:eJ t [114,117,108,101];rotate_left
  .rw[aE c7,uR,dE]at U;simp only[go_sem,aJ,m,B,F,c7];(refine bB (OT.r 0 7) [] ?_;simp only[go_sem,aJ,m,B,F,G8]);refine jR (d:=bX d o) (T:=T) (fin:=fin) (first:=first) (i:=i) (n:=n) _ _ gH hi ?_;by_cases hm:300<=d.rules.length
   .rw[aE hm]at U;rw[aE (by(try simp only[aK]);omega),hw];exact cO aR U
   rw[aD hm,bH,<-g3]at U;rw[aD (by(try simp only[aK]);omega)];simp only[go_sem,aJ,m,B,F,bM i aB];(refine bB (OT.r 0 13) [(7,[0,1,4]),(9,[0])] ?_;simp only[go_sem,aJ,m,B,F]);refine aMQ (d:=bX d o) (T:=T) (fin:=fin) (first:=first) (i:=i+1) (n:=n) hT t gH g2 hn (aT U (λx w2 m2 Z j hj b7 b8 bb=>?_) (λf h=>cO aR h));subst b8;rw[bR]at Z;simp only[go_sem,aJ,m,B,F];refine⟨by decide,λy S=>by simp only[cC]at S;subst S;rfl,cT rfl rfl (by rw[aK];refine lX H (k:=8) (o:=(o.ru,d.rules.length,46)) rfl ?_;exactλ_=>rfl) (λy S=>?_) (by simp only[aK,aO,aU];omega) (λu hu=>?_)⟩
   .simp only[cD]at S;obtain⟨q,_,rfl⟩:=S;rfl
   have G:=mF H (k:=8) (o:=(o.ru,d.rules.length,46)) rfl hu (λ_=>rfl) (d.rules.length+1);simp only[go_sem,aJ,m,B,F];refine fA (mB H (k:=8) (o:=(o.ru,d.rules.length,46)) rfl G (λ_=>rfl)) ?_;have b6:=G.free;refine eA (d:={ bX d o with rules:=.list (some u) (d.rules.map Rul.enc++[Rul.enc x]) }) (T:=T) (fin:=fin) (first:=first) (i:=j) (n:=m2) _ gH b7 hT (aT Z (λ_ w9 m9 M O b0 bg=>?_) (λf h=>cO aR h));subst m9;rw[bR]at M;simp only[go_sem,aJ,m,B,F];have L:=M (j+1) { o with ru:=some u } aB O b0 bb (ItQ.set (k:=8) (a:=(some u,d.rules.length+1,46)) hQ (by simp[bT]) G aB aP);refine aF L ?_;unfold iM;rw[show bT { d with rules:=d.rules++[x] } { o with ru:=some u }=(bT d o).set 8 (some u,d.rules.length+1,46)by simp[bT]];refine gW ?_;simp only[bX,dB,bY,bN,cP];exact bK
  rw[aD (by simp[c7])]at U;simp only[go_sem,aJ,m,B,F,c7];refine fA (s':=iM T fin first r (((s.setO b1 (.cells 130 [.ptr r 0])).setO b2 (.cells 173 t.cs)).setO b3 (.cells 207 [.ptr r 6])) d o i n) (gW bK) (aLA hT t w hw ⟨H.to (λ_=>rfl),hQ.len⟩ hn (aT U (λd2 w2 m2 Z j o2 hj b7 b8 bb c8=>?_) (λf h s1 x hg bl=>aN (h s1 x (hg.trans aR) bl))));subst b8;have G:OwnOk s (bT d2 o2):=c8.own.to (λ_=>rfl);unfold iM;simp only[go_sem,aJ,m,B,F];have b6:=G.free;refine eA (d:=bX d2 o2) (T:=T) (fin:=fin) (first:=first) (i:=j) (n:=m2) _ gH b7 hT (aT Z (λ_ w9 m9 M O b0 bg=>?_) (λf h=>cO aR h));subst m9;rw[bR]at M;simp only[go_sem,aJ,m,B,F];have L:=M (j+1) o2 aB O b0 bb ⟨G,λa ha=>lQ (c8.len a ha) aB⟩;refine aF L (gW ?_);simp only[bX];exact bK
end
end
noncomputable def zJ:Code:=match f116.body with
 | some (.seq _ c)=>c
 | _=>.skip
theorem aDn : f116.body = some (.seq (.region 0 #[⟨some 5,.call ⟨.builtin .recover,#[],#[]⟩,20,"parse.go:505",#[],none⟩] false) zJ) := rfl
theorem aHy(a:Act)(w:World):(results f116 a.tmps).run cx.P w=.ok (.tuple #[]) w:=by
 have m:results f116 a.tmps=(do let vs <-(#[]:Array ResultVar).mapM (qS a.tmps);pure (if h:vs.size=1 then vs[0] else .tuple vs)):=rfl;rw[m];simp
theorem aHg{P:Program}{Q:Exit->Act->List Frame->World->Prop}{a:Act}{cs:List Frame}{w:World}
  (h : match recoverD cs with
   | some (v,q)=>Q .normal (a.put (some 5) v) q w
   | none=>Q .normal (a.put (some 5) .nilIface) cs w) :
  (Code.region 0 #[⟨some 5,.call ⟨.builtin .recover,#[],#[]⟩,20,"parse.go:505",#[],none⟩] false).wpS P Q a cs w := by
 refine wpS_region ?_;have u : List.range (#[(⟨some 5,.call ⟨.builtin .recover,#[],#[]⟩,20,"parse.go:505",#[],none⟩ : Oper)]).size = [0] := rfl;rw [u];unfold wpOpsS;have ho : (#[(⟨some 5,.call ⟨.builtin .recover,#[],#[]⟩,20,"parse.go:505",#[],none⟩ : Oper)])[0]? = some ⟨some 5,.call ⟨.builtin .recover,#[],#[]⟩,20,"parse.go:505",#[],none⟩ := rfl;rw [ho];simp only;rw [aE (by simp [Region.wanted])];have y : (execOp a.eval ⟨some 5,.call ⟨.builtin .recover,#[],#[]⟩,20,"parse.go:505",#[],none⟩).run P w = .ok .recover w := rfl;rw [y];simp only;cases m : recoverD cs with
 | none=>rw[m]at h;simp only;unfold wpOpsS;exact h
 | some x=>obtain⟨v,q⟩:=x;rw[m]at h;simp only;unfold wpOpsS;exact h
theorem aOB{g:Gh}(vals:Array Value)(m:vals.size=1):EnvOk g 14 [] (vals++Array.replicate (f116.ntmps-vals.size) undef) :=
 .nil (by rw[m];simp[m,f116])
theorem aOG(k:Nat)(w:World):(invoke (.fn (.func 116) #[]) #[.pointer (some ⟨k,0,none⟩)]).run cx.P w=.ok (.enter 116 #[.pointer (some ⟨k,0,none⟩)]) w:=by
 have q:(callFunc 116 #[.pointer (some ⟨k,0,none⟩)]).run prog w=.ok (.enter 116 #[.pointer (some ⟨k,0,none⟩)]) w:=by
  have u : prog.funcs[116]? = some f116 := func116;have m : (f116.name == "runtime.NumGoroutine") = false := rfl;simp only [callFunc,bE,run_program,bD,u,m,cQ,↓reduceIte,aDn,Option.isNone_some,bO]
 show(callFunc 116 (#[Value.pointer (some ⟨k,0,none⟩)]++#[])).run prog w=_;rw[Array.append_empty];exact q
section
theorem aN0(s:St):Ex cx 14 zJ (λx _ s'=>x=.normal/\s'=s) [(5,.nili)] s:=by
 refine bC (V:=[0,2,3,4,5,6,7,8,9,10,11,12,13]) _ _ _ _ ?_;simp only[zJ,f116];simp only[go_sem]
theorem aOk(s:St)(b:Nat)(m u y z S y1 y2 y3:A)(M:s.getO b=some (.cells 51 [S,y1,y2,y3]))(B:m.one=true)(F:u.one=true)(G:y.one=true)(H:z.one=true) :
  Ex cx 14 zJ (λx _ s'=>x=.normal/\s'.ge (s.setO b (.cells 51 [m,u,y,z]))) [(0,.ptr b 0),(5,.iface 51 (.agg [m,u,y,z]))] s:=by
 refine bC (V:=[0,2,3,4,5,6,7,8,9,10,11,12,13]) _ _ _ _ ?_;simp only[zJ,f116];simp only[go_sem,B,F,G,H];intro q O;have L:=aS M O;simp only[go_sem,B,F,G,H,L,M];have ho:(m.one&&(u.one&&(y.one&&z.one)))=true:=by rw[B,F,G,H];rfl
 refine⟨ho,ho,?_⟩;exact nA (rP (by simp only[aH,cM]) (yI aW (sZ O (uY _ _ _))))
structure CatchC (C:Cx) (h:FuncId) (ft:TypeId):Prop where
 quiet:∀F g s w (p:Value),R C.toCtx F g s w->CallsD C.P h #[p] .returning w λe u' w'=>(∃v,e=.returned v)/\u'=.returning/\∃g',g.le g'/\R C.toCtx F g' s w'
 loud:∀F g s w (b k:Nat) (cs fs:List A) (v:Value),R C.toCtx F g s w->g.beta b=some k->s.getO b=some (.cells ft cs)->Rz g (.agg fs) v->fs.length=cs.length->fs.length=4 ->
  CallsD C.P h #[.pointer (some ⟨k,0,none⟩)] (.panicking [{ v:=.iface ft v,recovered:=false }]) w λe u' w'=>(∃v,e=.returned v)/\settle u'=.returning /\
   ∃g',g.le g'/\R C.toCtx F g' (s.setO b (.cells ft fs)) w'
theorem aKU:CatchC cx 116 51 where
 quiet:=by
  intro F g s w p hR;refine callsD_of_wpS (fn:=f116) func116 aDn λm cs M=>?_
  refine wpS_seq (aHg ?_);have u:recoverD (m::cs)=none:=by simp[recoverD,M]
  rw[u];refine wpS_of_wp ?_;have hE:=(aOB (g:=g) #[p] rfl).put (a:=⟨_,[]⟩) (d:=5) (x:=.nili) (v:=.nilIface) fJ .nili;refine kS (λS O w' hp=>?_) (aN0 s F g w _ hR hE);obtain⟨U,e',s',x,Z,h2,h3,H,h5,rfl,rfl⟩:=hp;cases S<;>try exact h5.elim
  refine⟨H,.returning,by rw[<-M],_,aHy O w',⟨_,rfl⟩,rfl,U,Z,h2⟩
 loud:=by
  intro F g s w b k cs fs v hR b1 hb hv hl H
  obtain⟨y,z,B,G,rfl⟩:∃y z B G,fs=[y,z,B,G]:=by
   match fs,H with
   | [y,z,B,G],_=>exact⟨y,z,B,G,rfl⟩
  obtain⟨y0,y1,y2,y3,rfl⟩:∃y z B G,cs=[y,z,B,G]:=by
   match cs,hl with
   | [y,z,B,G],_=>exact⟨y,z,B,G,rfl⟩
  obtain⟨vs,b2,b3,q⟩:=hv.agg_inv;refine callsD_of_wpS (fn:=f116) func116 aDn λm cs M=>?_
  refine wpS_seq (aHg ?_);have u:recoverD (m::cs)=some (.iface 51 v,{ m with mode:=.panicking [{ v:=.iface 51 v,recovered:=true }] }::cs):=by simp[recoverD,M]
  rw[u];refine wpS_of_wp ?_
  have b0:EnvOk g 14 [(0,.ptr b 0)] (#[Value.pointer (some ⟨k,0,none⟩)]++Array.replicate (f116.ntmps-(#[Value.pointer (some ⟨k,0,none⟩)]).size) undef):=by
   refine⟨by simp[f116],λt a L=>?_⟩;simp only[Env.get]at L;split at L
   .rename_i ht;subst ht;cases L;exact⟨_,rfl,.ptr b 0 k b1⟩
   .cases L
  have hE:=b0.put (a:=⟨_,[]⟩) (d:=5) (x:=.iface 51 (.agg [y,z,B,G])) (v:=.iface 51 v) fJ (.iface 51 _ v hv);refine kS (λS O w' hp=>?_) (aOk s b y z B G y0 y1 y2 y3 hb (q y aW) (q z aW) (q B aW) (q G aW) F g w _ hR hE);obtain⟨U,e',s',x,Z,h2,h3,H,h5,rfl,h6⟩:=hp;cases S<;>try exact h5.elim
  refine⟨H,.panicking [{ v:=.iface 51 v,recovered:=true }],rfl,_,aHy O w',⟨_,rfl⟩,rfl,U,Z,h2.weaken h6 (λh=>by cases h)⟩
section
variable {C:Cx} {n:Nat} {e:Env} {s:St}
def aHh(C:Cx)(F:Fr)(g0:Gh)(n:Nat)(h:FuncId)(Q:Option Nat->XK->Env->St->Prop)(ex:Exit)(a:Act)(w:World):Prop :=
 ∃g' e s x d,g0.le g'/\R C.toCtx F g' s w/\EnvOk g' n e a.tmps/\XRz g' x ex /\
  (match d with
   | none=>a.defers=[]
   | some b=>∃k,g'.beta b=some k/\a.defers=[tX h k])/\Q d x e s
def ExD(C:Cx)(n:Nat)(h:FuncId)(c:Code)(Q:Option Nat->XK->Env->St->Prop)(e:Env)(s:St):Prop :=
 ∀F g w a,R C.toCtx F g s w->EnvOk g n e a.tmps->a.defers=[]->c.wp C.P (aHh C F g n h Q) a w
def aBg(R:Env->St->Prop)(Q:Option Nat->XK->Env->St->Prop):XK->Env->St->Prop
 | .normal,e,s=>R e s
 | x,e,s=>Q none x e s
theorem ExD.seq{h:FuncId}{c d:Code}{Q:Option Nat->XK->Env->St->Prop}(hc:Ex C n c (aBg (ExD C n h d Q) Q) e s):ExD C n h (.seq c d) Q e s:=λF g w a hR hE M=>by
 refine wp_seq (kS (λq O w' m=>?_) (hc F g w a hR hE));obtain⟨u,e',s',x,y,z,B,G,H,L⟩:=m;cases q<;>cases x<;>try exact H.elim
 .refine kS (λq a2 w2 m=>?_) (L F u w' O z B (by rw[G];exact M));obtain⟨Z,U,s2,x2,S,q1,q2⟩:=m;exact⟨Z,U,s2,x2,S,y.trans q1,q2⟩
 all_goals exact⟨u,e',s',_,none,y,z,B,H,by rw[G];exact M,L⟩
theorem ExD.defer{h:FuncId}{c d:Code}{y:Operand}{b:Nat}{Q:Option Nat->XK->Env->St->Prop}(hc:aC0 c=some (h,y))(hy:dP C e y=some (.ptr b 0))(hd:Ex C n d (Q (some b)) e s):ExD C n h (.seq c d) Q e s:=λF g w a O M hD=>by
 obtain⟨id,ops,u,ty,pos,after,rfl,q⟩:=aKw hc;obtain⟨k,hv,z⟩:=((M.oper O) y _ hy).ptr_inv;refine wp_seq ?_
 have H:∀(m:Act),m.tmps=a.tmps->m.defers=[tX h k]->d.wp C.P (aHh C F g n h Q) m w:=by
  intro m ht B;refine kS (λex a2 w2 H=>?_) (hd F g w m O (by rw[ht];exact M));obtain⟨U,e',s',x,L,Z,h3,h4,h5,h6⟩:=H;exact⟨U,e',s',x,some b,L,Z,h3,h5,⟨k,L.beta _ _ z,by rw[h4];exact B⟩,h6⟩
 refine wp_region_list ?_;rw[q];unfold wpList;rw[aE (by simp[Region.wanted])];left
 have G:(execOp a.eval ⟨none,.defer ⟨.value (.func h),#[y],u⟩,ty,pos,after,none⟩).run C.P w=.ok (.defer (tX h k)) w:=by
  have S:a.eval (.func h)=.func (.func h) #[] #[]:=rfl;simp only[execOp,resolve,S,Deferred.ofValue,bE,bO,bD,hZ,bN,cP,hv,tX];simp
 unfold Oper.wp;rw[G,Oper.upon_defer];unfold wpList;exact H _ rfl (by simp[Act.put,hD])
def sD(C:Cx)(rs:List ResultVar)(KV Kp:St->A->Prop):Option Nat->XK->Env->St->Prop
 | none,x,e,s=>jF C rs KV Kp x e s
 | some b,.panic v,e,s=>∃m cs,v=.iface 51 (.agg m)/\s.getO b=some (.cells 51 cs)/\m.length=cs.length/\m.length=4/\jF C rs KV Kp .ret e (s.setO b (.cells 51 m))
 | some b,x,e,s=>jF C rs KV Kp x e s
theorem aEh{f M:FuncId}{fn:Func}{c:Code}{args:List A}{KV Kp:St->A->Prop}(b3:CatchC C M 51)
  (b4:∀(k:Nat) (w:World),(invoke (.fn (.func M) #[]) #[.pointer (some ⟨k,0,none⟩)]).run C.P w=.ok (.enter M #[.pointer (some ⟨k,0,none⟩)]) w)
  (hf : C.P.funcs[f]? = some fn) (hb : fn.body = some c) (b1 : (fn.name == "runtime.NumGoroutine") = false) (hn : args.length ≤ fn.ntmps)
  (h:ExD C fn.ntmps M c (sD C fn.results.toList KV Kp) (mJ 0 args) s):Den C f args KV Kp s:=by
 refine aJj hf hb b1 hn λF g w a hR hE hD=>?_
 refine kS (λex a' w' m=>?_) (h F g w a hR hE hD);obtain⟨H,e',s',x,d,q1,q2,q3,q4,q7,m⟩:=m
 have ret:∀(L:Gh) (s2:St) (z:World) (x:XK),(x=.normal\/x=.ret)->jF C fn.results.toList KV Kp x e' s2->R C.toCtx F L s2 z->H.le L ->
   ∃v,(results fn a'.tmps).run C.P z=.ok v z/\∃S a s,g.le S/\R C.toCtx F S s z/\Rz S a v/\KV s a:=by
  intro L s2 z x hx hk q y
  have b0:∃l,oL C e' s2 fn.results.toList=some l/\KV s2 (wH l):=by
   rcases hx with rfl|rfl<;>simp only[jF]at hk<;>split at hk
   .exact⟨_,by assumption,hk⟩
   .exact hk.elim
   .exact⟨_,by assumption,hk⟩
   .exact hk.elim
  obtain⟨l,hl,b0⟩:=b0;obtain⟨vs,B,G⟩:=aAH q (q3.mono y) _ _ hl;refine⟨_,?_,L,_,s2,q1.trans y,q,aG1 G,b0⟩;have e0:results fn a'.tmps=(do let vs <-fn.results.mapM (qS a'.tmps);pure (if h:vs.size=1 then vs[0] else .tuple vs)):=rfl;rw[e0,bE,Array.mapM_eq_mapM_toList,Sem.run_map,B];rfl
 cases d with
 | none =>
  simp only[sD]at m;simp only at q7;cases ex<;>cases x<;>try exact q4.elim
  .obtain⟨v,B,S,aa,ss,G⟩:=ret H s' w' .normal (.inl rfl) m q2 (dW H);simp only[bodyPostD,q7,Leaves];exact⟨v,B,S,aa,ss,G⟩
  .exact m.elim
  .exact m.elim
  .obtain⟨v,B,S,aa,ss,G⟩:=ret H s' w' .ret (.inr rfl) m q2 (dW H);simp only[bodyPostD,q7,Leaves];exact⟨v,B,S,aa,ss,G⟩
  .obtain⟨v,rfl,b2⟩:=q4;simp only[bodyPostD,q7,Leaves];exact⟨H,_,v,s',rfl,q1,q2,b2,m⟩
 | some b =>
  obtain⟨k,b7,Z⟩:=q7;have O:(invoke (tX M k).target (tX M k).args).run C.P w'=.ok (.enter M #[.pointer (some ⟨k,0,none⟩)]) w':=b4 k w'
  have quiet:∀(x:XK),(x=.normal\/x=.ret)->jF C fn.results.toList KV Kp x e' s'->Leaves C.P fn a'.tmps (vT C F g KV Kp) [tX M k] .returning w':=by
   intro x hx m;refine⟨by simp,_,_,_,_,rfl,O,?_⟩;refineλc cs hc=>?_
   obtain⟨e,u',z,fr,⟨⟨v0,rfl⟩,rfl,L,y,q⟩,U⟩:=b3.quiet F H s' w' (.pointer (some ⟨k,0,none⟩)) q2 c cs hc;obtain⟨v,B,G⟩:=ret L s' z x hx m q y;exact⟨.returned v0,.returning,z,fr,(show Leaves C.P fn a'.tmps (vT C F g KV Kp) [] .returning z from⟨v,B,G⟩),U⟩
  cases ex<;>cases x<;>try exact q4.elim
  .simp only[bodyPostD,Z];exact quiet .normal (.inl rfl) m
  .exact m.elim
  .exact m.elim
  .simp only[bodyPostD,Z];exact quiet .ret (.inr rfl) m
  .obtain⟨v,rfl,b2⟩:=q4;obtain⟨fs,cs,rfl,b8,hl,h4,m⟩:=m;obtain⟨u,rfl,bb⟩:=b2.iface_inv;simp only[bodyPostD,Z];refine⟨by simp,_,_,_,_,rfl,O,?_⟩;refineλc b6 b9=>?_
   obtain⟨e,u',z,fr,⟨⟨v0,rfl⟩,b5,L,y,q⟩,U⟩:=b3.loud F H s' w' b k cs fs u q2 b7 b8 bb hl h4 c b6 b9;obtain⟨v,B,G⟩:=ret L _ z .ret (.inr rfl) m q y;exact⟨.returned v0,u',z,fr,(show Leaves C.P fn a'.tmps (vT C F g KV Kp) [] (settle u') z from by rw[b5];exact⟨v,B,G⟩),U⟩
end
end
section
section
variable {C:Cx} {n:Nat} {h b:Nat} {R:Env->St->Prop} {Q:Option Nat->XK->Env->St->Prop} {e:Env} {s:St} {rs:List ResultVar} {KV Kp:St->A->Prop} {x:XK} {v:A}
@[go_sem] theorem aO3:aBg R Q .normal e s=R e s:=rfl
@[go_sem] theorem aPG:aBg R Q .ret e s=Q none .ret e s:=rfl
@[go_sem] theorem aO5:aBg R Q (.panic v) e s=Q none (.panic v) e s:=rfl
@[go_sem] theorem aPr:sD C rs KV Kp none x e s=jF C rs KV Kp x e s:=rfl
@[go_sem] theorem aO1:sD C rs KV Kp (some b) .normal e s=jF C rs KV Kp .normal e s:=rfl
@[go_sem] theorem aPJ:sD C rs KV Kp (some b) .ret e s=jF C rs KV Kp .ret e s:=rfl
@[go_sem] theorem aO7:sD C rs KV Kp (some b) (.panic v) e s=∃m cs,v=.iface 51 (.agg m)/\s.getO b=some (.cells 51 cs)/\m.length=cs.length/\m.length=4/\jF C rs KV Kp .ret e (s.setO b (.cells 51 m)):=rfl
end
theorem aNU(k:Nat)(w:World):(invoke (.fn (.func 116) #[]) #[.pointer (some ⟨k,0,none⟩)]).run cx.P w=.ok (.enter 116 #[.pointer (some ⟨k,0,none⟩)]) w:=aOG k w
def nD:DOwn:=⟨none,none,none,none,none,none,none,none,none⟩
def qN:Tok:=⟨0,[],0,0,0⟩
theorem aAT(d:Dfn)(o:DOwn){s:St}(h:OwnOk s (bT d o)):A.le (.agg (bX d o).cs) d.enc:=by
 have z:∀k (a:dY),(bT d o)[k]?=some a->a.1=none->a.2.1=0:=λk a m=>h.nil a (cR m)
 have g:∀{α:Type} (tk:Option Nat) (f:α->A) (l:List α) (k:Nat) (e:TypeId),(bT d o)[k]?=some (tk,l.length,e)->A.le (gv tk (l.map f)) (.list none (l.map f)):=λtk f l k e m =>
  gK tk _ (λq=>by rw[fC (z k _ m q)];rfl)
 exact A.le.agg ⟨⟨bF _,rfl⟩,⟨g o.so _ _ 0 9 rfl,rfl⟩,⟨g o.be _ _ 1 102 rfl,rfl⟩,⟨g o.op _ _ 2 64 rfl,rfl⟩,⟨g o.fu _ _ 3 64 rfl,rfl⟩,⟨g o.va _ _ 4 9 rfl,rfl⟩,⟨g o.eq _ _ 5 41 rfl,rfl⟩,⟨g o.on _ _ 6 67 rfl,rfl⟩,⟨bF _,rfl⟩,⟨g o.ma _ _ 7 67 rfl,rfl⟩,⟨g o.ru _ _ 8 46 rfl,rfl⟩,⟨bF _,rfl⟩,⟨bF _,rfl⟩,trivial⟩
theorem aAn{s:St}:OwnOk s (bT fZ nD):=by
 refine⟨λo ho u y=>?_,λo ho _=>?_,λi j a b u q B m z=>?_⟩
 .simp only[bT,dD,kQ,eU]at ho;rcases ho with rfl|rfl|rfl|rfl|rfl|rfl|rfl|rfl|rfl<;>cases y
 .simp only[bT,dD,kQ,eU]at ho;rcases ho with rfl|rfl|rfl|rfl|rfl|rfl|rfl|rfl|rfl<;>rfl
 .have:=cR q;simp only[bT,dD,kQ,eU]at this;rcases this with rfl|rfl|rfl|rfl|rfl|rfl|rfl|rfl|rfl<;>cases m
section
variable {T:List Tok} {fin:Fault} {s:St} {r:Nat} {KV Kp:St->A->Prop}
def aDF(KV:St->A->Prop)(s:St)(r:Nat):Rd Dfn->Prop
 | .ok d _ _=>∀o,KV (s.setO r o) (.tuple [d.enc,Fault.none.enc])
 | .bad f=>∀o,KV (s.setO r o) (.tuple [fZ.enc,f.enc])
theorem aNH(hT:TOk T)(hr:s.getO r=some (aZ T fin (bX fZ nD) qN 0 0))(hk:aDF KV s r (vW false fin T)):Den cx 72 [.ptr r 0] KV Kp s:=by
 have bj:=hT.len;refine Den.drop ?_;refine aEh aKU aNU func72 rfl rfl (gN rfl) ?_;refine ExD.seq ?_;refine bC (V:=[0,2,3,25]) _ _ _ _ ?_;simp only[go_sem,ntmps72,f72];(intro b2 q;try simp only[cN,bW,bJ]at q);have B:=aS hr (iE q);simp only[go_sem,ntmps72,f72,q,B];(intro U m;try simp only[cN,bW,bJ]at m);have F:=aS hr (iE m);simp only[go_sem,ntmps72,f72,q,B,m,F];refine ExD.defer (by rfl) (b:=U) (by simp only[go_sem,ntmps72,f72,q,B,m,F]) ?_;refine bC (V:=[0,2,3,25]) _ _ _ _ ?_;simp only[go_sem,ntmps72,f72,q,B,m,F];generalize L:(s.setO b2 (Ob.cells 31 [.str [],.nils,.nils,.nils,.nils,.nils,.nils,.nils,.str [],.nils,.nils,.str [],.str []])).setO U (Ob.cells 51 [.int .i64 0,.str [],.int .i64 0,.int .i64 0])=s2;have bn:s2.getO r=some (aZ T fin (bX fZ nD) qN 0 0):=by subst L;exact(gHe (And.intro q (And.intro B (And.intro m (And.intro F hr)))))
 have y:s2.getO b2=some (Ob.cells 31 [.str [],.nils,.nils,.nils,.nils,.nils,.nils,.nils,.str [],.nils,.nils,.str [],.str []]):=by subst L;exact(gHe (And.intro q (And.intro B (And.intro m F))))
 have z:s2.getO U=some (Ob.cells 51 [.int .i64 0,.str [],.int .i64 0,.int .i64 0]):=by subst L;exact(gHe (And.intro q (And.intro B (And.intro m F))))
 have S:∀s1:St,s1.gx s2 r->s1.gx s r:=λs1 h=>h.trans (by subst L;exact aR)
 have bad:∀(f:Fault) (s1:St) (o:Ob) (e:Env),e.get 2=some (.ptr b2 0)->e.get 3=some (.ptr U 0)->(∀o,KV (s.setO r o) (.tuple [fZ.enc,f.enc]))->s1.gx s2 r->s1.getO r=some o ->
   sD cx [ResultVar.cell 2 31,ResultVar.cell 3 51] (DK KV) (DK Kp) (some U) (.panic (.iface 51 f.enc)) e s1:=by
  intro f s1 o e g2 g3 hb hg ho;have q2:=hg.ob b2 B.2 _ y;have q3:=hg.ob U F.2 _ z;simp only[go_sem,ntmps72,f72,q,B,m,F,q2,q3];refine⟨f.cs,_,rfl,rfl,rfl,rfl,?_⟩;simp only[go_sem,ntmps72,f72,q,B,m,F,q2,q3,g2,g3];have b1:=hb o;simp only[go_sem]at b1;exact DK.mk b1 (St.gx.ge (cE m.2 (S _ hg)) (by rw[aH,aD F.2];exact ho)) (A.le.tuple ⟨aAT fZ nD (s:=s) aAn,bF _,trivial⟩)
 have Z:(vW false fin T).to (λd _ _=>∀o,KV (s.setO r o) (.tuple [d.enc,Fault.none.enc])) (λf=>∀o,KV (s.setO r o) (.tuple [fZ.enc,f.enc])):=by
  revert hk;unfold aDF;cases vW false fin T<;>exact id
 simp only[vW,bH]at Z;have bd:T=T.drop 0:=rfl;rw[bd]at Z;refine eA (d:=bX fZ nD) (T:=T) (fin:=fin) (first:=qN) (i:=0) (n:=0) _ bn (aX _) hT (aT Z (λ_ w1 m1 b4 b7 bq bz=>?_) (λf h o=>?_));rotate_left
 .exact bad f _ o _ rfl rfl h (dM (dX _ _)) (by rw[aH,aE rfl])
 subst m1;rw[<-bq]at b4;simp only[go_sem];refine fN (d:=bX fZ nD) (T:=T) (fin:=fin) (first:=qN) (i:=0+1) (n:=0) (by rw[aH,aE rfl];rfl) b7 hT (aT b4 (λx w2 m2 b5 b8 br c0=>?_) (λf h o=>?_));rotate_left
 .exact bad f _ o _ rfl rfl h (dM (dM (dX _ _))) (by rw[aH,aE rfl])
 subst m2;rw[<-br]at b5;simp only[go_sem,B,F,y,z];refine eA (d:={ bX fZ nD with name:=x }) (T:=T) (fin:=fin) (first:=qN) (i:=0+1+1) (n:=0) _ (by rw[aH,aE rfl];rfl) b8 hT (aT b5 (λ_ w3 m3 b0 b9 bt c1=>?_) (λf h o=>?_));rotate_left
 .exact bad f _ o _ rfl rfl h (dM (dM (dX _ _))) (by rw[aH,aE rfl])
 subst m3;rw[<-bt]at b0;simp only[go_sem,B,F,y,z];rw[show(T.drop (0+1+1+1)).length=T.length-(0+1+1+1)by rw[cS]]at b0
 refine Ex.loop (ι:=(Dfn × DOwn) × Nat × Nat × Nat) (λc=>[(0,.ptr r 0),(2,.ptr b2 0),(3,.ptr U 0)]) (λc=>iM T fin qN r s2 c.1.1 c.1.2 c.2.1 c.2.2.1)
  (λc=>ItQ s2 c.1.1 c.1.2 c.2.1/\c.2.1<=T.length/\c.2.2.1<=2000/\T.length-c.2.1<c.2.2.2/\(yK false fin c.2.2.2 c.1.1 (T.drop c.2.1) c.2.2.1).to (λd _ _=>∀o,KV (s.setO r o) (.tuple [d.enc,Fault.none.enc])) (λf=>∀o,KV (s.setO r o) (.tuple [fZ.enc,f.enc])))
  (λc=>T.length-c.2.1) (({ fZ with name:=x },nD),0+1+1+1,0,T.length-(0+1+1+1)+1) ?_ ?_ ?_ ?_
 .refine⟨⟨aAn,λa ha=>?_⟩,b9,aX _,lN _,b0⟩;simp only[bT,dD,kQ,eU]at ha;rcases ha with rfl|rfl|rfl|rfl|rfl|rfl|rfl|rfl|rfl<;>exact aX _
 .simp only[go_sem,B,F,y,z]
 .show St.ge _ (s2.setO r _);exact bK
 .rintro⟨⟨d,o⟩,i,n,k⟩ ⟨hQ,hi,hn,bg,H⟩;simp only at hQ hi hn bg H;obtain⟨k,rfl⟩:∃k',k=k'+1:=⟨k-1,by omega⟩
  have O:=hQ.own;have bf:=O.free;refine bC (V:=[0,2,3,25]) _ _ _ _ ?_;unfold iM;have G:=m.1;simp only[go_sem,B,F,y,z,aJ,G];(refine bB (OT.r 0 10) [] ?_;simp only[go_sem,B,F,y,z,aJ,G]);cases hc:decide (i<T.length)with
  | true =>
   have bw:i<T.length:=gQ hc;have bl:T.drop i≠[]:=by intro e;have:=mY List.length e;rw[cS,aU]at this;omega
   obtain⟨t,w,hw⟩:∃t w,T.drop i=t::w:=by
    cases hq:T.drop i with
    | nil=>exact cV hq bl
    | cons t w=>exact⟨t,w,rfl⟩
   rw[hw,yK,bH,<-hw]at H;simp only[go_sem,B,F,y,z,aJ,G];refine aMN hT hi hQ hn (aT H (λd' w' n' M j o' hj bh bp bk bc=>?_) (λf h s1 x hg bm=>?_))
   .subst bp;simp only[go_sem,B,F,y,z,aJ,G];exact⟨((d',o'),j,n',k),⟨bc,bh,bk,aP,M⟩,aP,aG _⟩
   .exact bad f _ _ _ rfl rfl h hg bm
  | false =>
   have bv:¬ i<T.length:=gQ hc;rw[eB aB,yK,bR]at H;simp only[go_sem,B,F,y,z,aJ,G];(refine bB (OT.r 0 7) [(5,[4])] ?_;simp only[go_sem,B,F,y,z,aJ,G]);have bb:(A.one (gv o.so (d.sig.sorts.map .str))&&(A.one (gv o.be (d.sig.below.map Below.enc))&&(A.one (gv o.op (d.sig.ops.map Opr.enc))&&(A.one (gv o.fu (d.sig.funs.map Opr.enc))&&(A.one (gv o.va (d.sig.values.map .str))&&(A.one (gv o.eq (d.eqs.map Eqn.enc))&&(A.one (gv o.on (d.once.map Cel.enc))&&(A.one (gv o.ma (d.many.map Cel.enc))&&A.one (gv o.ru (d.rules.map Rul.enc))))))))))=true:=by simp only[qI,jB]
   refine⟨bb,?_⟩;have M:=H (aZ T fin (bX d o) qN i n);have b6:=aAT d o O;simp only[go_sem]at M;simp only[go_sem]at b6;refine DK.mk M (aGw (nA (rP (by simp only[aH,B,F,cI,cM]<;>rfl) (sZ m.2 (sZ q (yI aW (aFv (S s2 (dX _ _)) aW)))))) (λa ha u hu=>by have:=bf a ha u hu;subst L;exact this)) (A.le.tuple ⟨b6,bF _,trivial⟩)
end
end
noncomputable def zG:Code:=match f17.body with
 | some (.seq _ c)=>c
 | _=>.skip
theorem aDp : f17.body = some (.seq (.region 0 #[⟨some 5,.call ⟨.builtin .recover,#[],#[]⟩,20,"check.go:310",#[],none⟩] false) zG) := rfl
theorem aHC(a:Act)(w:World):(results f17 a.tmps).run cx.P w=.ok (.tuple #[]) w:=by
 have m:results f17 a.tmps=(do let vs <-(#[]:Array ResultVar).mapM (qS a.tmps);pure (if h:vs.size=1 then vs[0] else .tuple vs)):=rfl;rw[m];simp
theorem aG8{P:Program}{Q:Exit->Act->List Frame->World->Prop}{a:Act}{cs:List Frame}{w:World}
  (h : match recoverD cs with
   | some (v,q)=>Q .normal (a.put (some 5) v) q w
   | none=>Q .normal (a.put (some 5) .nilIface) cs w) :
  (Code.region 0 #[⟨some 5,.call ⟨.builtin .recover,#[],#[]⟩,20,"check.go:310",#[],none⟩] false).wpS P Q a cs w := by
 refine wpS_region ?_;have u : List.range (#[(⟨some 5,.call ⟨.builtin .recover,#[],#[]⟩,20,"check.go:310",#[],none⟩ : Oper)]).size = [0] := rfl;rw [u];unfold wpOpsS;have ho : (#[(⟨some 5,.call ⟨.builtin .recover,#[],#[]⟩,20,"check.go:310",#[],none⟩ : Oper)])[0]? = some ⟨some 5,.call ⟨.builtin .recover,#[],#[]⟩,20,"check.go:310",#[],none⟩ := rfl;rw [ho];simp only;rw [aE (by simp [Region.wanted])];have y : (execOp a.eval ⟨some 5,.call ⟨.builtin .recover,#[],#[]⟩,20,"check.go:310",#[],none⟩).run P w = .ok .recover w := rfl;rw [y];simp only;cases m : recoverD cs with
 | none=>rw[m]at h;simp only;unfold wpOpsS;exact h
 | some x=>obtain⟨v,q⟩:=x;rw[m]at h;simp only;unfold wpOpsS;exact h
theorem aOv{g:Gh}(vals:Array Value)(m:vals.size=1):EnvOk g 14 [] (vals++Array.replicate (f17.ntmps-vals.size) undef) :=
 .nil (by rw[m];simp[m,f17])
theorem aOp(k:Nat)(w:World):(invoke (.fn (.func 17) #[]) #[.pointer (some ⟨k,0,none⟩)]).run cx.P w=.ok (.enter 17 #[.pointer (some ⟨k,0,none⟩)]) w:=by
 have q:(callFunc 17 #[.pointer (some ⟨k,0,none⟩)]).run prog w=.ok (.enter 17 #[.pointer (some ⟨k,0,none⟩)]) w:=by
  have u : prog.funcs[17]? = some f17 := func17;have m : (f17.name == "runtime.NumGoroutine") = false := rfl;simp only [callFunc,bE,run_program,bD,u,m,cQ,↓reduceIte,aDp,Option.isNone_some,bO]
 show(callFunc 17 (#[Value.pointer (some ⟨k,0,none⟩)]++#[])).run prog w=_;rw[Array.append_empty];exact q
theorem aOy(s:St):Ex cx 14 zG (λx _ s'=>x=.normal/\s'=s) [(5,.nili)] s:=by
 refine bC (V:=[0,2,3,4,5,6,7,8,9,10,11,12,13]) _ _ _ _ ?_;simp only[zG,f17];simp only[go_sem]
theorem aOz(s:St)(b:Nat)(m u y z S y1 y2 y3:A)(M:s.getO b=some (.cells 51 [S,y1,y2,y3]))(B:m.one=true)(F:u.one=true)(G:y.one=true)(H:z.one=true) :
  Ex cx 14 zG (λx _ s'=>x=.normal/\s'.ge (s.setO b (.cells 51 [m,u,y,z]))) [(0,.ptr b 0),(5,.iface 51 (.agg [m,u,y,z]))] s:=by
 refine bC (V:=[0,2,3,4,5,6,7,8,9,10,11,12,13]) _ _ _ _ ?_;simp only[zG,f17];simp only[go_sem,B,F,G,H];intro q O;have L:=aS M O;simp only[go_sem,B,F,G,H,L,M];have ho:(m.one&&(u.one&&(y.one&&z.one)))=true:=by rw[B,F,G,H];rfl
 refine⟨ho,ho,?_⟩;exact nA (rP (by simp only[aH,cM]) (yI aW (sZ O (uY _ _ _))))
theorem aLR:CatchC cx 17 51 where
 quiet:=by
  intro F g s w p hR;refine callsD_of_wpS (fn:=f17) func17 aDp λm cs M=>?_
  refine wpS_seq (aG8 ?_);have u:recoverD (m::cs)=none:=by simp[recoverD,M]
  rw[u];refine wpS_of_wp ?_;have hE:=(aOv (g:=g) #[p] rfl).put (a:=⟨_,[]⟩) (d:=5) (x:=.nili) (v:=.nilIface) fJ .nili;refine kS (λS O w' hp=>?_) (aOy s F g w _ hR hE);obtain⟨U,e',s',x,Z,h2,h3,H,h5,rfl,rfl⟩:=hp;cases S<;>try exact h5.elim
  refine⟨H,.returning,by rw[<-M],_,aHC O w',⟨_,rfl⟩,rfl,U,Z,h2⟩
 loud:=by
  intro F g s w b k cs fs v hR b1 hb hv hl H
  obtain⟨y,z,B,G,rfl⟩:∃y z B G,fs=[y,z,B,G]:=by
   match fs,H with
   | [y,z,B,G],_=>exact⟨y,z,B,G,rfl⟩
  obtain⟨y0,y1,y2,y3,rfl⟩:∃y z B G,cs=[y,z,B,G]:=by
   match cs,hl with
   | [y,z,B,G],_=>exact⟨y,z,B,G,rfl⟩
  obtain⟨vs,b2,b3,q⟩:=hv.agg_inv;refine callsD_of_wpS (fn:=f17) func17 aDp λm cs M=>?_
  refine wpS_seq (aG8 ?_);have u:recoverD (m::cs)=some (.iface 51 v,{ m with mode:=.panicking [{ v:=.iface 51 v,recovered:=true }] }::cs):=by simp[recoverD,M]
  rw[u];refine wpS_of_wp ?_
  have b0:EnvOk g 14 [(0,.ptr b 0)] (#[Value.pointer (some ⟨k,0,none⟩)]++Array.replicate (f17.ntmps-(#[Value.pointer (some ⟨k,0,none⟩)]).size) undef):=by
   refine⟨by simp[f17],λt a L=>?_⟩;simp only[Env.get]at L;split at L
   .rename_i ht;subst ht;cases L;exact⟨_,rfl,.ptr b 0 k b1⟩
   .cases L
  have hE:=b0.put (a:=⟨_,[]⟩) (d:=5) (x:=.iface 51 (.agg [y,z,B,G])) (v:=.iface 51 v) fJ (.iface 51 _ v hv);refine kS (λS O w' hp=>?_) (aOz s b y z B G y0 y1 y2 y3 hb (q y aW) (q z aW) (q B aW) (q G aW) F g w _ hR hE);obtain⟨U,e',s',x,Z,h2,h3,H,h5,rfl,h6⟩:=hp;cases S<;>try exact h5.elim
  refine⟨H,.panicking [{ v:=.iface 51 v,recovered:=true }],rfl,_,aHC O w',⟨_,rfl⟩,rfl,U,Z,h2.weaken h6 (λh=>by cases h)⟩
def aDw(n:Int):Bool:=decide (-2147483647<=n)&&decide (n<=2147483647)
theorem aFZ(s:St)(n:Int)(KV Kp)(m:KV s (.bool (aDw n))):Den cx 171 [.int .i64 n] KV Kp s:=by
 unfold aDw at m;(refine aL func171 [0,2] ?_;simp only[go_sem,ntmps171,f171])
 (repeat' (first|exact aF m bA|((apply aQ<;>intro h)<;>simp only[go_sem,h]<;>(try simp only[h,fW,gG,jB,jN,nT,lS,mS,iO,fV,iG]at m))))
def mC(x:aC):Bool:=decide (2<x.length)&&(decide (x[x.length-2]?=some 39)&&(match x[x.length-1]? with|some c=>decide (49<=c.toNat)&&decide (c.toNat<=56)|none=>false))
theorem aFQ(s:St)(x:aC)(KV Kp)(hl:x.length<=4611686018427387904)(m:KV s (if mC x=true then .tuple [.str (x.take (x.length-2)),.str (x.drop (x.length-2))] else .tuple [.str x,.str []])):Den cx 91 [.str x] KV Kp s:=by
 have Z:IntKind.i64.wrap ((x.length:Int)-2)=(x.length:Int)-2:=by
  exact eW _ aB aB
 (refine aL func91 [0,2,3,4,29] ?_;simp only[go_sem,ntmps91,f91]);by_cases S:2<x.length
 .have w1:(x.length:Int)-2=((x.length-2:Nat):Int):=by omega
  have L:=Z.trans w1
  have H:IntKind.i64.wrap (((x.length-2:Nat):Int)+1)=((x.length-1:Nat):Int):=by
   rw[bM _ aB];omega
  have M:decide ((0:Int)<((x.length-2:Nat):Int))=true:=by rw[dA];omega
  obtain⟨u,y⟩:∃c,x[x.length-2]?=some c:=⟨_,aV aB⟩
  obtain⟨q,z⟩:∃c,x[x.length-1]?=some c:=⟨_,aV aB⟩
  have F:x.length-2<x.length:=by omega
  have G:x.length-1<x.length:=by omega
  simp only[go_sem,L,H,M,y,z,Int.toNat_natCast,F,G]
  have ef:mC x=(decide ((u.toNat:Int)=39)&&(decide ((49:Int)<=(q.toNat:Int))&&decide ((q.toNat:Int)<=56))):=by
   unfold mC;rw[y,z,cZ S,fW]
   have e1:decide (some u=some (39:UInt8))=decide ((u.toNat:Int)=39):=by
    rw[cW,bI,<-rB];show u.toNat=39↔_;omega
   have e2:decide ((49:Int)<=(q.toNat:Int))=decide (49<=q.toNat):=by rw[cW];omega
   have e3:decide ((q.toNat:Int)<=56)=decide (q.toNat<=56):=by rw[cW];omega
   rw[e1,e2,e3]
  rw[ef]at m;cases B:decide ((u.toNat:Int)=39)<;>rw[B]at m<;>simp only[go_sem,L,H,y,z,Int.toNat_natCast,F,G,B]
  .exact aN m
  .cases O:decide ((49:Int)<=(q.toNat:Int))<;>rw[O]at m<;>simp only[go_sem,L,H,y,z,Int.toNat_natCast,F,G,B,O]
   .exact aN m
   .cases U:decide ((q.toNat:Int)<=56)<;>rw[U]at m<;>simp only[go_sem,L,H,y,z,Int.toNat_natCast,F,G,B,O,U]
    .exact aN m
    ·(refine bB (OT.r 0 8) [] ?_;simp only[go_sem]);exact⟨by omega,by omega,aN m⟩
 .have M:decide ((0:Int)<(x.length:Int)-2)=false:=by rw[gP];omega
  simp only[go_sem,Z,M];rw[aD (by simp[mC,S])]at m;exact aN m
def yX(x:aC):Bool:=dT (if mC x=true then x.take (x.length-2) else x)
theorem aL7(s:St)(x:aC)(KV Kp)(hl:x.length<=4611686018427387904)(m:KV s (.bool (yX x))):Den cx 174 [.str x] KV Kp s:=by
 (refine aL func174 [0,2,3] ?_;simp only[go_sem,ntmps174,f174]);refine aFQ _ _ _ _ hl ?_;cases q:mC x<;>simp only[yX,q,cM,cQ,cI]at m⊢<;>simp only[go_sem]<;>refine oX _ _ _ _ ?_<;>simp only[go_sem]<;>exact aN m
inductive TmW:Tm->Prop
 | mk (k n:Int) (x y:aC) (a b:List Tm) (hx:x.length<=140737488355328) (hy:y.length<=140737488355328) (ha:∀t,t∈a->TmW t) (hb:∀t,t∈b->TmW t) (la:a.length<=140737488355328) (lb:b.length<=140737488355328):TmW (.mk k n x y a b)
theorem TmW.text{t:Tm}(h:TmW t):t.text.length<=140737488355328:=by cases h;assumption
theorem TmW.sort{t:Tm}(h:TmW t):t.sort.length<=140737488355328:=by cases h;assumption
theorem TmW.kids{t:Tm}(h:TmW t):∀x,x∈t.kids->TmW x:=by cases h;assumption
theorem TmW.rest{t:Tm}(h:TmW t):∀x,x∈t.rest->TmW x:=by cases h;assumption
theorem TmW.lk{t:Tm}(h:TmW t):t.kids.length<=140737488355328:=by cases h;assumption
theorem TmW.lr{t:Tm}(h:TmW t):t.rest.length<=140737488355328:=by cases h;assumption
def Tm.leaf(t:Tm):Bool:=decide (t.kids.length=0)&&decide (t.rest.length=0)
def Tm.opn(t:Tm):Bool:=decide (t.text=[95])||decide (t.text=[36])
def Tm.shV(t:Tm):Bool:=t.leaf&&((dT t.text&&dT t.sort)||(t.opn&&decide (t.sort=[65,110,121])))&&decide (t.n=0)
def Tm.shR(t:Tm)(S:aC):Bool:=match t.rest with
 | []=>true
 | r::l=>decide (l.length=0)&&(decide (r.kind=6)&&(r.shV&&(dT r.text&&decide (r.sort=S))))
def Tm.shape(t:Tm):Bool :=
 if t.kind=1 then t.leaf&&(aDw t.n||(decide (t.n=0)||decide (t.n=1)))&&(decide (t.text=[])&&decide (t.sort=[]))
 else if t.kind=2 then t.leaf&&(decide (t.n=0)||decide (t.n=1))&&(decide (t.text=[])&&decide (t.sort=[]))
 else if t.kind=3 then t.leaf&&tP t.text&&(decide (t.n=0)&&decide (t.sort=[]))
 else if t.kind=4 then t.leaf&&sE t.text&&(decide (t.n=0)&&decide (t.sort=[]))
 else if t.kind=5 then(yX t.text&&(decide (t.kids.length<=8)&&decide (t.rest.length=0)))&&(decide (t.n=0)&&decide (t.sort=[]))
 else if t.kind=6 then t.shV
 else if t.kind=7 then t.shR [76,105,115,116]&&(decide (t.n=0)&&(decide (t.text=[])&&decide (t.sort=[])))
 else if t.kind=8 then(t.shR [77,97,112]&&decide (t.kids.length % 2=0))&&(decide (t.n=0)&&(decide (t.text=[])&&decide (t.sort=[])))
 else false
theorem pW{s:St}{KV:St->A->Prop}{a b:Bool}(h:KV s (.bool a))(e:b=a):KV s (.bool b):=e▸h
theorem aFf(t:Tm)(m:t.kind=6)(B:TmW t)(s:St)(KV Kp)(z:KV s (.bool t.shV)):Den cx 132 [.agg t.cs] KV Kp s:=by
 (refine aL func132 [0,1,2,3,4,5,6,25,26,53,64,75,95,130,134] ?_;simp only[go_sem,ntmps132,f132]);(refine aM λp u=>?_);simp only[go_sem,u,m];(refine aM λq y=>?_);simp only[go_sem,u,y,m,Int.reduceEq]
 repeat' (first|(refine oX _ _ _ _ ?_;simp only[go_sem,u,y,m,Int.reduceEq])|((refine bB (OT.r 0 8) [(5,[3])] ?_;simp only[go_sem,u,y,m,Int.reduceEq]))|refine aF (pW z ?_) bA|(apply aQ<;>intro h)<;>simp only[go_sem,h,u,y,m,Int.reduceEq])
 all_goals simp_all [Tm.shV,Tm.leaf,Tm.opn]
theorem aEI(t:Tm)(S:aC)(hw:TmW t)(s:St)(KV Kp){cs:List A}(Z:cs=t.cs)(m:KV s (.bool (t.shR S))):Den cx 175 [.agg cs,.str S] KV Kp s:=by
 subst Z;(refine aL func175 [0,1,2,4,5,9] ?_;simp only[go_sem,ntmps175,f175]);(refine aM λp y=>?_);simp only[go_sem,y];cases u:t.rest with
 | nil =>
  have e:t.shR S=true:=by unfold Tm.shR;rw[u]
  rw[e]at m;have L:decide (((0:Nat):Int)=0)=true:=rfl;simp only[go_sem,y,u,L];exact aF m bA
 | cons r l =>
  have H:decide (((l.length+1:Nat):Int)=0)=false:=by rw[gP];omega
  have M:decide (((l.length+1:Nat):Int)=1)=decide (l.length=0):=by rw[cW];omega
  simp only[go_sem,y,u,H];(refine aM λq F=>?_);simp only[go_sem,y,u,F,H,M];have e:t.shR S=(decide (l.length=0)&&(decide (r.kind=6)&&(r.shV&&(dT r.text&&decide (r.sort=S))))):=by unfold Tm.shR;rw[u]
  have G:TmW r:=hw.rest r (by rw[u];exact dZ ..);rw[e]at m;clear e;cases z:decide (l.length=0)<;>rw[z]at m<;>simp only[go_sem,y,u,F,z]
  .exact aF m bA
  cases B:decide (r.kind=6)<;>rw[B]at m<;>simp only[go_sem,y,u,F,z,B]
  .exact aF m bA
  refine aFf r (gR B) G _ _ _ ?_;cases O:r.shV<;>rw[O]at m<;>simp only[go_sem,y,u,F,z,B]
  .exact aF m bA
  refine oX _ _ _ _ ?_;cases U:dT r.text<;>rw[U]at m<;>simp only[go_sem,y,u,F,z,B]
  .exact aF m bA
  exact aF m bA
theorem kinds(k:Int):k=1\/k=2\/k=3\/k=4\/k=5\/k=6\/k=7\/k=8\/(k≠1/\k≠2/\k≠3/\k≠4/\k≠5/\k≠6/\k≠7/\k≠8):=by omega
theorem aLa(t:Tm)(G:TmW t)(s:St)(KV Kp)(z:KV s (.bool t.shape)):Den cx 132 [.agg t.cs] KV Kp s:=by
 have hx:=G.text;have F:decide ((t.kids.length:Int)<=8)=decide (t.kids.length<=8):=by rw[cW];omega
 have B:decide ((t.kids.length:Int).tmod 2=0)=decide (t.kids.length % 2=0):=by
  rw[cW,Int.tmod_eq_emod_of_nonneg aB];omega
 rcases kinds t.kind with m|m|m|m|m|m|m|m|m
 ·(refine aL func132 [0,1,2,3,4,5,6,25,26,53,64,75,95,130,134] ?_;simp only[go_sem,ntmps132,f132]);(refine aM λp u=>?_);simp only[go_sem,u,m];(refine aM λq y=>?_);simp only[go_sem,u,y,m,Int.reduceEq]
  repeat' (first|(refine aFZ _ _ _ _ ?_;simp only[go_sem,u,y,m,Int.reduceEq])|refine aF (pW z ?_) bA|(apply aQ<;>intro h)<;>simp only[go_sem,h,u,y,m,Int.reduceEq])
  all_goals first|(simp_all [Tm.shape,Tm.leaf];done)|(simp_all [Tm.shape,Tm.leaf];intros;omega)
 ·(refine aL func132 [0,1,2,3,4,5,6,25,26,53,64,75,95,130,134] ?_;simp only[go_sem,ntmps132,f132]);(refine aM λp u=>?_);simp only[go_sem,u,m];(refine aM λq y=>?_);simp only[go_sem,u,y,m,Int.reduceEq]
  repeat' (first|(refine aFZ _ _ _ _ ?_;simp only[go_sem,u,y,m,Int.reduceEq])|refine aF (pW z ?_) bA|(apply aQ<;>intro h)<;>simp only[go_sem,h,u,y,m,Int.reduceEq])
  all_goals first|(simp_all [Tm.shape,Tm.leaf];done)|(simp_all [Tm.shape,Tm.leaf];intros;omega)
 ·(refine aL func132 [0,1,2,3,4,5,6,25,26,53,64,75,95,130,134] ?_;simp only[go_sem,ntmps132,f132]);(refine aM λp u=>?_);simp only[go_sem,u,m];(refine aM λq y=>?_);simp only[go_sem,u,y,m,Int.reduceEq]
  repeat' (first|(refine aEn _ _ _ _ ?_;simp only[go_sem,u,y,m,Int.reduceEq])|refine aF (pW z ?_) bA|(apply aQ<;>intro h)<;>simp only[go_sem,h,u,y,m,Int.reduceEq])
  all_goals first|(simp_all [Tm.shape,Tm.leaf];done)|(simp_all [Tm.shape,Tm.leaf];intros;omega)
 ·(refine aL func132 [0,1,2,3,4,5,6,25,26,53,64,75,95,130,134] ?_;simp only[go_sem,ntmps132,f132]);(refine aM λp u=>?_);simp only[go_sem,u,m];(refine aM λq y=>?_);simp only[go_sem,u,y,m,Int.reduceEq]
  repeat' (first|(refine aGs _ _ _ _ ?_;simp only[go_sem,u,y,m,Int.reduceEq])|refine aF (pW z ?_) bA|(apply aQ<;>intro h)<;>simp only[go_sem,h,u,y,m,Int.reduceEq])
  all_goals first|(simp_all [Tm.shape,Tm.leaf];done)|(simp_all [Tm.shape,Tm.leaf];intros;omega)
 ·(refine aL func132 [0,1,2,3,4,5,6,25,26,53,64,75,95,130,134] ?_;simp only[go_sem,ntmps132,f132]);(refine aM λp u=>?_);simp only[go_sem,u,m];(refine aM λq y=>?_);simp only[go_sem,u,y,m,Int.reduceEq]
  repeat' (first|(refine aL7 _ _ _ _ aB ?_;simp only[go_sem,u,y,m,Int.reduceEq,F])|refine aF (pW z ?_) bA|(apply aQ<;>intro h)<;>simp only[go_sem,h,u,y,m,Int.reduceEq,F,B])
  all_goals first|(simp_all [Tm.shape,Tm.leaf];done)|(simp_all [Tm.shape,Tm.leaf];intros;omega)
 .exact aFf t m G s KV Kp (pW z (by simp[Tm.shape,m]))
 ·(refine aL func132 [0,1,2,3,4,5,6,25,26,53,64,75,95,130,134] ?_;simp only[go_sem,ntmps132,f132]);(refine aM λp u=>?_);simp only[go_sem,u,m];(refine aM λq y=>?_);simp only[go_sem,u,y,m,Int.reduceEq]
  repeat' (first|(refine aEI t _ G _ _ _ (by simp only[Tm.cs,m]) ?_;simp only[go_sem,u,y,m,Int.reduceEq,B])|refine aF (pW z ?_) bA|(apply aQ<;>intro h)<;>simp only[go_sem,h,u,y,m,Int.reduceEq,F,B])
  all_goals first|(simp_all [Tm.shape,Tm.leaf];done)|(simp_all [Tm.shape,Tm.leaf];intros;omega)
 ·(refine aL func132 [0,1,2,3,4,5,6,25,26,53,64,75,95,130,134] ?_;simp only[go_sem,ntmps132,f132]);(refine aM λp u=>?_);simp only[go_sem,u,m];(refine aM λq y=>?_);simp only[go_sem,u,y,m,Int.reduceEq]
  repeat' (first|(refine aEI t _ G _ _ _ (by simp only[Tm.cs,m]) ?_;simp only[go_sem,u,y,m,Int.reduceEq,B])|refine aF (pW z ?_) bA|(apply aQ<;>intro h)<;>simp only[go_sem,h,u,y,m,Int.reduceEq,F,B])
  all_goals first|(simp_all [Tm.shape,Tm.leaf];done)|(simp_all [Tm.shape,Tm.leaf];intros;omega)
 .obtain⟨n1,n2,n3,n4,n5,n6,n7,n8⟩:=m;have H:=cH n1;have L:=cH n2;have M:=cH n3;have O:=cH n4;have S:=cH n5;have U:=cH n6;have Z:=cH n7;have d8:=cH n8;(refine aL func132 [0,1,2,3,4,5,6,25,26,53,64,75,95,130,134] ?_;simp only[go_sem,ntmps132,f132]);(refine aM λp u=>?_);simp only[go_sem,u];(refine aM λq y=>?_);simp only[go_sem,u,y,H,L,M,O,S,U,Z,d8]
  repeat' (first|refine aF (pW z ?_) bA|(apply aQ<;>intro h)<;>simp only[go_sem,h,u,y,H,L,M,O,S,U,Z,d8])
  all_goals simp_all [Tm.shape]
def iX(f:Tm->Nat->Option Nat):List Tm->Nat->Option Nat
 | [],m=>some m
 | t::r,m=>(f t m).bind (iX f r)
def wB(k r m:Nat):Option Nat:=if r=0 then some m else if 0<k/\m+r<=2000 then some (m+r) else none
def Tm.val:Nat->Tm->Nat->Option Nat
 | 0,_,_=>none
 | k+1,t,m=>if m+1<=2000 then(if t.shape=true then(iX (Tm.val k) t.kids (m+1)).bind (wB k t.rest.length) else none) else none
def kL(n:Int)(b:Bool):Ob:=.cells 144 [.int .i64 n,.bool b]
theorem aFS(f:Tm->Nat->Option Nat)(x:Tm):∀(l:List Tm) (m:Nat),iX f (l++[x]) m=(iX f l m).bind (f x)
 | [],m=>by
  simp only[bP,iX,Option.bind_some];cases f x m<;>rfl
 | t::r,m=>by
  simp only[bS,iX];cases f t m with
  | none=>rfl
  | some n=>exact aFS f x r n
theorem aKW{f:Tm->Nat->Option Nat}{l:List Tm}{i:Nat}{x:Tm}(h:l[i]?=some x)(m:Nat):iX f (l.take (i+1)) m=(iX f (l.take i) m).bind (f x):=by
 rw[eO,h];exact aFS f x _ m
theorem aLU{f:Tm->Nat->Option Nat}{l:List Tm}{i:Nat}{m:Nat}(h:iX f (l.take i) m=none):iX f l m=none:=by
 have:∀(a b:List Tm) m,iX f a m=none->iX f (a++b) m=none:=by
  intro a
  induction a with
  | nil=>intro b m h;cases h
  | cons t r u =>
   intro b m h;simp only[bS,iX]at h⊢;cases q:f t m with
   | none=>rfl
   | some n=>rw[q]at h;exact u b n h
 have:=this _ (l.drop i) m h
 rwa[List.take_append_drop]at this
theorem aDd{f:Tm->Nat->Option Nat}(y:∀t m n,f t m=some n->n<=2000):∀(l:List Tm) (a b:Nat),a<=2000->iX f l a=some b->b<=2000
 | [],a,b,u,h=>by cases h;exact u
 | x::r,a,b,u,h=>by
  simp only[iX]at h;cases q:f x a with
  | none=>rw[q]at h;cases h
  | some c=>rw[q]at h;exact aDd y r c b (y x a c q) h
theorem aHe:∀(k:Nat) (t:Tm) (m n:Nat),Tm.val k t m=some n->n<=2000
 | 0,_,_,_,h=>by cases h
 | k+1,t,m,n,h=>by
  unfold Tm.val at h;split at h
  .split at h
   .cases hl:iX (Tm.val k) t.kids (m+1)with
    | none=>rw[hl]at h;cases h
    | some q =>
     rw[hl]at h;simp only[Option.bind_some,wB]at h;split at h
     .cases h;exact aDd (λt m n h=>aHe k t m n h) _ _ _ (by assumption) hl
     .split at h
      .cases h;omega
      .cases h
   .cases h
  .cases h
def qU(k c j:Nat):Bool:=decide (j=0)||(decide (0<k)&&decide (c+j<=2000))
def wM(m:Nat):Bool:=decide (m<=2000)
theorem aDz(k c j:Nat):qU k c (j+1)=(decide (0<k)&&wM (c+j+1)):=by simp[qU,wM,lP]
theorem aJx:∀(k:Nat) (t:Tm) (n:Nat) (r:Nat) (s:St) (KV Kp:St->A->Prop),k<=60->n<=2000->TmW t->s.getO r=some (kL n true) ->
  (match Tm.val k t n with
   | some m=>KV (s.setO r (kL m true)) (.tuple [])
   | none=>∀z,KV (s.setO r (kL z false)) (.tuple []))->Den cx 84 [.ptr r 0,.agg t.cs,.int .i64 (61-(k:Int))] KV Kp s:=by
 intro k
 induction k with
 | zero =>
  intro t n r s KV Kp hk60 hn hw hr hk;simp only[kL]at hr hk⊢;have w1:=bM n aB;have d1:decide ((61-((0:Nat):Int))<=60)=false:=by decide
  simp only[Tm.val]at hk;(refine aL func84 [0,1,2,4,7,41,43,44,45,46,58,62,63,64] ?_;simp only[go_sem,ntmps84,f84]);(refine aM λp hp=>?_);have ep:=aS hr hp;simp only[go_sem,hr,hp,ep,w1,d1];refine aF (hk ((n+1:Nat):Int)) ?_;exact bK
 | succ k ih =>
  intro t n r s KV Kp hk60 hn hw hr hk;simp only[kL]at hr hk;have w1:=bM n aB;have d1:decide ((61-((k+1:Nat):Int))<=60)=true:=by rw[dA];omega
  (refine aL func84 [0,1,2,4,7,41,43,44,45,46,58,62,63,64] ?_;simp only[go_sem,ntmps84,f84]);(refine aM λp hp=>?_);have ep:=aS hr hp;simp only[go_sem,hr,hp,ep,w1,d1];by_cases h2:n+1<=2000
  .have d2:decide (((n+1:Nat):Int)<=2000)=true:=by rw[dA];omega
   simp only[go_sem,hr,hp,ep,w1,d1,d2];refine aLa t hw _ _ _ ?_;cases hs:t.shape
   .simp only[go_sem,hr,hp,ep,w1,d1,d2];have hv:Tm.val (k+1) t n=none:=by rw[Tm.val,aE h2,hs,aD fJ]
    rw[hv]at hk;exact aF (hk ((n+1:Nat):Int)) bK
   have hv:Tm.val (k+1) t n=(iX (Tm.val k) t.kids (n+1)).bind (wB k t.rest.length):=by rw[Tm.val,aE h2,hs,aE rfl]
   rw[hv]at hk;simp only[go_sem,hr,hp,ep,w1,d1,d2]
   have w5:IntKind.i64.wrap (61-((k+1:Nat):Int)+1)=61-(k:Int):=by
    rw[eW _ aB aB];omega
   refine Ex.loop (ι:=Nat × Nat) (λc=>[(0,.ptr r 0),(2,.int .i64 (61-((k+1:Nat):Int))),(4,.ptr p 0),(43,.list none (t.kids.map Tm.enc)),(44,.int .i64 (t.kids.length:Nat)),(45,.int .i64 (c.1:Nat))])
    (λc=>(s.setO p (.cells 39 t.cs)).setO r (kL c.2 true)) (λc=>c.1<=t.kids.length/\iX (Tm.val k) (t.kids.take c.1) (n+1)=some c.2) (λc=>t.kids.length-c.1) (0,n+1) ⟨aX _,rfl⟩ ?_ ?_ ?_
   ·(simp only[go_sem];try exact rfl)
   .exact bK
   .rintro⟨i,c⟩ ⟨hi,hc⟩;simp only at hi hc;have hcl:=aDd (λt m n h=>aHe k t m n h) _ _ _ h2 hc;simp only[kL];refine bC (V:=[0,1,2,4,7,41,43,44,45,46,58,62,63,64]) _ _ _ _ ?_;simp only[go_sem,hr,hp,ep]
    (apply aQ<;>intro h)<;>simp only[go_sem,h,hr,hp,ep]
    .have hix:i<t.kids.length:=gQ h;clear h;obtain⟨x,hx⟩:∃a,t.kids[i]?=some a:=⟨_,aV hix⟩
     have hxm:x∈t.kids:=cR hx;simp only[go_sem,hr,hp,ep,hx,hix];(refine aM λb5 hb5=>?_);simp only[go_sem,hr,hp,ep,hx,hix,hb5,w5];refine ih x c r _ _ _ aB hcl (hw.kids x hxm) (by simp only[kL];exact gH) ?_;have htk:=aKW (f:=Tm.val k) hx (n+1);rw[hc]at htk;simp only[Option.bind_some]at htk;cases hv2:Tm.val k x c with
     | none =>
      rw[hv2]at htk;rw[aLU htk]at hk;intro z;simp only[kL];simp only[go_sem,hr,hp,ep,hb5];exact aF (hk z) bK
     | some c2 =>
      rw[hv2]at htk;simp only[kL];simp only[go_sem,hr,hp,ep,hb5];refine⟨(i+1,c2),⟨hix,htk⟩,aP,(by simp only[go_sem,bM i (by have:=hw.lk;omega)];try rfl),?_⟩;exact bK
    .have hii:i=t.kids.length:=by have:¬ i<t.kids.length:=gQ h;omega
     subst hii;rw[List.take_length]at hc;rw[hc]at hk;simp only[Option.bind_some]at hk;clear h;have hwr:=hw.lr;have d6:decide ((61-((k+1:Nat):Int))<60)=decide (0<k):=by rw[cW];omega
     refine Ex.loop (ι:=Nat) (λj=>[(0,.ptr r 0),(2,.int .i64 (61-((k+1:Nat):Int))),(4,.ptr p 0),(62,.int .i64 (t.rest.length:Nat)),(63,.int .i64 (j:Nat))])
      (λj=>(s.setO p (.cells 39 t.cs)).setO r (kL ((c+j:Nat):Int) (qU k c j))) (λj=>j<=t.rest.length) (λj=>t.rest.length-j) 0 (aX _) ?_ ?_ ?_
     ·(simp only[go_sem];try exact rfl)
     .exact bK
     .intro j hj;have w6:=bM (c+j) aB;simp only[kL];refine bC (V:=[0,1,2,4,7,41,43,44,45,46,58,62,63,64]) _ _ _ _ ?_;simp only[go_sem,hr,hp,ep]
      (apply aQ<;>intro h)<;>simp only[go_sem,h,hr,hp,ep]
      .have hjx:j<t.rest.length:=gQ h;clear h;have d7:decide (((c+j+1:Nat):Int)<=2000)=wM (c+j+1):=by unfold wM;rw[cW];omega
       have w7:=bM j aB;cases hb0:qU k c j with
       | false =>
        have e0:(decide (0<k)&&wM (c+j+1))=false:=by
         simp only[wM,qU,Bool.or_eq_false_iff,Bool.and_eq_false_iff,gP]at hb0⊢;omega
        simp only[go_sem,hr,hp,ep,hb0,w6,d6,d7];refine⟨j+1,hjx,by omega,(by simp only[go_sem,w7];try rfl),?_⟩;rw[aDz,e0];exact bK
       | true =>
        cases hk0:decide (0<k)with
        | false =>
         simp only[go_sem,hr,hp,ep,hb0,w6,d6,d7,hk0];refine⟨j+1,hjx,by omega,(by simp only[go_sem,w7];try rfl),?_⟩;rw[aDz,hk0,gG];exact bK
        | true =>
         simp only[go_sem,hr,hp,ep,hb0,w6,d6,d7,hk0];refine⟨j+1,hjx,by omega,(by simp only[go_sem,w7];try rfl),?_⟩;rw[aDz,hk0,fW];exact bK
      .have hjj:j=t.rest.length:=by have:¬ j<t.rest.length:=gQ h;omega
       subst hjj;clear h;cases hm:wB k t.rest.length c with
       | none =>
        rw[hm]at hk
        have e0:qU k c t.rest.length=false:=by
         unfold wB at hm;unfold qU;split at hm
         .cases hm
         .split at hm
          .cases hm
          .simp only[Bool.or_eq_false_iff,Bool.and_eq_false_iff,gP];omega
        rw[e0];exact aF (hk _) bK
       | some m =>
        rw[hm]at hk
        have e0:qU k c t.rest.length=true/\m=c+t.rest.length:=by
         unfold wB at hm;unfold qU;split at hm
         .cases hm;rename_i h0;exact⟨by rw[h0];rfl,by omega⟩
         .split at hm
          .rename_i h0 h1;cases hm;exact⟨by rw[cZ h1.1,cZ h1.2];simp,rfl⟩
          .cases hm
        rw[e0.1];rw[e0.2]at hk;exact aF hk bK
  .have d2:decide (((n+1:Nat):Int)<=2000)=false:=by rw[gP];omega
   have hv:Tm.val (k+1) t n=none:=by rw[Tm.val,aD h2]
   rw[hv]at hk;simp only[go_sem,hr,hp,ep,w1,d1,d2];exact aF (hk ((n+1:Nat):Int)) bK
theorem aEM(t:Tm)(G:TmW t)(s:St)(KV Kp:St->A->Prop)(u:KV s (.bool (Tm.val 60 t 0).isSome)):Den cx 40 [.agg t.cs] KV Kp s:=by
 (refine aL func40 [0,1,2,3] ?_;simp only[go_sem,ntmps40,f40]);(refine aM λp y=>?_);simp only[go_sem,y];(refine aM λq B=>?_);simp only[go_sem,y,B];refine aJx 60 t 0 q _ _ _ (bL _) aB G (by simp only[kL];exact gH) ?_;cases F:Tm.val 60 t 0 with
 | none =>
  rw[F]at u;intro z;simp only[kL];simp only[go_sem,y,B];exact aF u bK
 | some m =>
  rw[F]at u;simp only[kL];simp only[go_sem,y,B];exact aF u bK
def gD{α:Type}(key:α->MK)(l:List α):List (MK × A):=l.map λx=>(key x,.bool true)
theorem aAL{α:Type} [DecidableEq α] (key:α->MK) (q:∀x y,key x=key y->x=y) (x:α) (l:List α):gB (key x) (gD key l)=if x∈l then some (.bool true) else none:=by
 induction l with
 | nil=>rfl
 | cons y l m =>
  simp only[gD,bN,gB]at m⊢;by_cases h:key x=key y
  .have:=q _ _ h;subst this;simp
  .have:x≠y:=λe=>h (by rw[e])
   simp only[aD h,m,dD,this,false_or]
theorem aAC{α:Type} [DecidableEq α] (key:α->MK) (q:∀x y,key x=key y->x=y) (x:α) (l:List α) (h:x ∉ l):iD (key x) (.bool true) (gD key l)=gD key (l++[x]):=by
 induction l with
 | nil=>rfl
 | cons y l m =>
  simp only[dD,not_or]at h;have u:¬ key x=key y:=λe=>h.1 (q _ _ e)
  have m:=m h.2;simp only[gD,bN,iD,aD u,bS]at m⊢;rw[m]
theorem xA(s:St)(l:List aC)(KV Kp)(M:∀s',s'.ge s->KV s' (.bool (decide l.Nodup))):Den cx 43 [.list none (l.map .str)] KV Kp s:=by
 refine fS λL=>?_
 have G:=L _ (dZ ..);(refine aL func43 [0,2,3,5,7,8,9,10,15] ?_;simp only[go_sem,ntmps43,f43]);(refine aM λb Z=>?_);simp only[go_sem]
 refine Ex.loop (λi=>[(3,.mp b),(7,.list none (l.map .str)),(8,.int .i64 l.length),(9,.int .i64 (i:Nat))]) (λi=>s.setO b (.map 0 (gD .str (l.take i))))
     (λi=>i<=l.length/\(l.take i).Nodup) (λi=>l.length-i) 0 ⟨aX _,by simp⟩ ?_ (aG _) ?_
 .simp only[go_sem];exact rfl
 .rintro i ⟨hi,q⟩;refine bC (V:=[0,2,3,5,7,8,9,10,15]) _ _ _ _ ?_;simp only[go_sem]
  (apply aQ<;>intro h)<;>simp only[go_sem,h]
  .have m:i<l.length:=gQ h;obtain⟨a,B⟩:∃a,l[i]?=some a:=⟨_,aV m⟩
   have u:=aAL MK.str (λx y e=>by cases e;rfl) a (l.take i);have H:=aAC MK.str (λx y e=>by cases e;rfl) a (l.take i);by_cases z:a∈l.take i
   .rw[aE z]at u;simp only[go_sem,B,m,u]
    have F:¬ l.Nodup:=by
     intro F;rw[<-List.take_append_drop i l,List.nodup_append]at F;refine F.2.2 a z a ?_ rfl;have:(l.drop i)[0]?=some a:=by rw[jL];simpa using B
     exact cR this
    exact aN (by have:=M (s.setO b (.map 0 (gD .str (l.take i)))) (bQ (by assumption) (aG s));simpa [F]using this)
   .rw[aD z]at u;simp only[go_sem,B,m,u,H z,List.headD_cons];have O:l.take (i+1)=l.take i++[a]:=by rw[eO,B];rfl
    refine⟨i+1,⟨by omega,?_⟩,by omega,?_,?_⟩
    .rw[O,List.nodup_append];exact⟨q,by simp,λx U y S=>by simp at S;subst S;intro e;subst e;exact z U⟩
    .exact G.wrap (i:=i) (gQ m)
    .rw[O];exact aG _
  .have m:i=l.length:=by simp at h;omega
   subst m;rw[List.take_length]at q;exact aN (by have:=M (s.setO b (.map 0 (gD .str l))) (bQ (by assumption) (aG s));simpa [q]using this)
theorem aIQ(s:St)(l:List Int)(KV Kp)(M:∀s',s'.ge s->KV s' (.bool (decide l.Nodup))):Den cx 95 [.list none (l.map (.int .i64))] KV Kp s:=by
 refine fS λL=>?_
 have G:=L _ (dZ ..);(refine aL func95 [0,2,3,5,7,8,9,10,15] ?_;simp only[go_sem,ntmps95,f95]);(refine aM λb Z=>?_);simp only[go_sem]
 refine Ex.loop (λi=>[(3,.mp b),(7,.list none (l.map (.int .i64))),(8,.int .i64 l.length),(9,.int .i64 (i:Nat))]) (λi=>s.setO b (.map 1 (gD .int (l.take i))))
     (λi=>i<=l.length/\(l.take i).Nodup) (λi=>l.length-i) 0 ⟨aX _,by simp⟩ ?_ (aG _) ?_
 .simp only[go_sem];exact rfl
 .rintro i ⟨hi,q⟩;refine bC (V:=[0,2,3,5,7,8,9,10,15]) _ _ _ _ ?_;simp only[go_sem]
  (apply aQ<;>intro h)<;>simp only[go_sem,h]
  .have m:i<l.length:=gQ h;obtain⟨a,B⟩:∃a,l[i]?=some a:=⟨_,aV m⟩
   have u:=aAL MK.int (λx y e=>by cases e;rfl) a (l.take i);have H:=aAC MK.int (λx y e=>by cases e;rfl) a (l.take i);by_cases z:a∈l.take i
   .rw[aE z]at u;simp only[go_sem,B,m,u]
    have F:¬ l.Nodup:=by
     intro F;rw[<-List.take_append_drop i l,List.nodup_append]at F;refine F.2.2 a z a ?_ rfl;have:(l.drop i)[0]?=some a:=by rw[jL];simpa using B
     exact cR this
    exact aN (by have:=M (s.setO b (.map 1 (gD .int (l.take i)))) (bQ (by assumption) (aG s));simpa [F]using this)
   .rw[aD z]at u;simp only[go_sem,B,m,u,H z,List.headD_cons];have O:l.take (i+1)=l.take i++[a]:=by rw[eO,B];rfl
    refine⟨i+1,⟨by omega,?_⟩,by omega,?_,?_⟩
    .rw[O,List.nodup_append];exact⟨q,by simp,λx U y S=>by simp at S;subst S;intro e;subst e;exact z U⟩
    .exact G.wrap (i:=i) (gQ m)
    .rw[O];exact aG _
  .have m:i=l.length:=by simp at h;omega
   subst m;rw[List.take_length]at q;exact aN (by have:=M (s.setO b (.map 1 (gD .int l))) (bQ (by assumption) (aG s));simpa [q]using this)
def tD:List aC:=[[65,110,121],[73,110,116],[66,111,111,108],[84,101,120,116],[73,100],[76,105,115,116],[77,97,112]]
theorem aEf(s:St)(KV Kp)(m:KV s (.list none (tD.map .str))):Den cx 46 [] KV Kp s:=by
 (refine aL func46 [0] ?_;simp only[go_sem,ntmps46,f46]);exact aN m
def eZ{α:Type}(r:α->α->Bool):List α->List α->Bool
 | [],[]=>true
 | a::xs,b::ys=>r a b&&eZ r xs ys
 | _,_=>false
theorem aE9{α:Type}{r:α->α->Bool}:∀{xs ys:List α},xs.length≠ys.length->eZ r xs ys=false
 | [],[],h=>cV rfl h
 | [],_::_,_=>rfl
 | _::_,[],_=>rfl
 | a::xs,b::ys,h=>by simp only[eZ,aE9 (r:=r) (xs:=xs) (ys:=ys) (gQ h),jN]
theorem aCl{α:Type}{r:α->α->Bool}:∀{xs ys:List α},xs.length=ys.length->(eZ r xs ys=true↔∀(i:Nat) (a b:α),xs[i]?=some a->ys[i]?=some b->r a b=true)
 | [],[],_=>by simp[eZ]
 | [],_::_,h=>by simp at h
 | _::_,[],h=>by simp at h
 | a::xs,b::ys,h=>by
  rw[eZ,dI,aCl (gQ h)];constructor
  .rintro⟨u,z⟩ i x y m q;cases i with
   | zero=>simp at m q;subst m;subst q;exact u
   | succ i=>exact z i x y (gQ m) (gQ q)
  .intro h;exact⟨h 0 a b aW aW,λi x y m q=>h (i+1) x y (gQ m) (gQ q)⟩
theorem aKd(s:St)(xs ys:List aC)(KV Kp)(M:KV s (.bool (eZ (λa b=>decide (a=b)) xs ys))) :
  Den cx 139 [.list none (xs.map .str),.list none (ys.map .str)] KV Kp s:=by
 refine fS λU=>?_
 have O:=U _ (dZ ..);(refine aL func139 [0,1,4,5,10,12,13,14,24] ?_;simp only[go_sem,ntmps139,f139])
 (first|refine gC8 (λh=>?_) (λh=>?_)|refine gC9 (λh=>?_) (λh=>?_)|refine gD1 (λh=>?_) (λh=>?_))<;>simp only[go_sem,h]
 .exact aN (by rwa[aE9 (by intro e;simp[e]at h)]at M)
 .have u:xs.length=ys.length:=by simp at h;omega
  refine Ex.loop (λi=>[(0,.list none (xs.map .str)),(1,.list none (ys.map .str)),(12,.int .i64 xs.length),(13,.int .i64 (i:Nat))]) (λ_=>s)
     (λi=>i<=xs.length/\∀(j:Nat) a b,j<i->xs[j]?=some a->ys[j]?=some b->(λa b=>decide (a=b)) a b=true) (λi=>xs.length-i) 0 ⟨aX _,λj _ _ hj=>by omega⟩ ?_ (aG s) ?_
  .simp only[go_sem];exact rfl
  .rintro i ⟨hi,q⟩;refine bC (V:=[0,1,4,5,10,12,13,14,24]) _ _ _ _ ?_;simp only[go_sem]
   (first|refine gC8 (λh=>?_) (λh=>?_)|refine gC9 (λh=>?_) (λh=>?_)|refine gD1 (λh=>?_) (λh=>?_))<;>simp only[go_sem,h]
   .have m:i<xs.length:=gQ h;have B:i<ys.length:=by omega
    obtain⟨a,G⟩:∃a,xs[i]?=some a:=⟨_,aV m⟩
    obtain⟨b,H⟩:∃b,ys[i]?=some b:=⟨_,aV B⟩
    (refine bB (OT.r 0 9) [] ?_;simp only[go_sem]);simp only[go_sem,G,H,m,B]
    (first|refine gC8 (λh=>?_) (λh=>?_)|refine gC9 (λh=>?_) (λh=>?_)|refine gD1 (λh=>?_) (λh=>?_))<;>simp only[go_sem,h]
    .have S:(λa b=>decide (a=b)) a b=false:=by simpa only[kO,jB]using h
     have:eZ (λa b=>decide (a=b)) xs ys=false:=by
      rw[wY];intro Z;have:=(aCl u).1 Z i a b G H;exact cV (S.symm.trans this) fJ
     exact aN (by rwa[this]at M)
    .have S:(λa b=>decide (a=b)) a b=true:=by simpa only[aD4,jB]using h
     refine⟨i+1,⟨by omega,λj x y hj z F=>?_⟩,by omega,?_,aG s⟩
     .by_cases L:j=i
      .subst L;rw[G]at z;rw[H]at F;cases z;cases F;exact S
      .exact q j x y aB z F
     .simp only[go_sem,O.wrap (i:=i) (gQ m)]
   .have m:i=xs.length:=by simp at h;omega
    have:eZ (λa b=>decide (a=b)) xs ys=true:=(aCl u).2 λj x y z F=>q j x y (by rw[m];exact(dG.1 z).1) z F
    exact aN (by rwa[this]at M)
def Eqn.same(a b:Eqn):Bool:=a.left.same b.left&&(a.right.same b.right&&eZ Tm.same a.cond b.cond)
def Cel.same(a b:Cel):Bool:=decide (a.name=b.name)&&(decide (a.sort=b.sort)&&a.init.same b.init)
def Part.same(a b:Part):Bool:=decide (a.cell=b.cell)&&(decide (a.at_=b.at_)&&(a.left.same b.left&&eZ Tm.same a.right b.right))
def Fresh.same(a b:Fresh):Bool:=eZ Tm.same a.cells b.cells
theorem Eqn.hz(a:Eqn):∃cs,a.enc=.agg cs/\cs.length=15/\fE cs=true:=⟨_,rfl,rfl,rfl⟩
theorem Cel.hz(a:Cel):∃cs,a.enc=.agg cs/\cs.length=10/\fE cs=true:=⟨_,rfl,rfl,rfl⟩
theorem Part.hz(a:Part):∃cs,a.enc=.agg cs/\cs.length=11/\fE cs=true:=⟨_,rfl,rfl,rfl⟩
theorem Fresh.hz(a:Fresh):∃cs,a.enc=.agg cs/\cs.length=1/\fE cs=true:=⟨_,rfl,rfl,rfl⟩
theorem Rul.hz(a:Rul):∃cs,a.enc=.agg cs/\cs.length=7/\fE cs=true:=⟨_,rfl,rfl,rfl⟩
theorem Opr.hz(a:Opr):∃cs,a.enc=.agg cs/\cs.length=7/\fE cs=true:=⟨_,rfl,rfl,rfl⟩
def Rul.same(a b:Rul):Bool:=decide (a.name=b.name)&&(eZ Part.same a.parts b.parts&&(eZ Tm.same a.cond b.cond&&(eZ Fresh.same a.new b.new&&eZ (λa b=>decide (a=b)) a.drop b.drop)))
def Opr.same(a b:Opr):Bool:=decide (a.name=b.name)&&(decide (a.sort=b.sort)&&(decide (a.prec=b.prec)&&(decide (a.assoc=b.assoc)&&(eZ (λa b=>decide (a=b)) a.args b.args&&(eZ (λa b=>decide (a.text=b.text)&&decide (a.sort=b.sort)) a.pieces b.pieces&&eZ (λa b=>decide (a=b)) a.strict b.strict)))))
def Sig.same(a b:Sig):Bool:=eZ (λa b=>decide (a=b)) a.sorts b.sorts&&(eZ (λa b=>decide (a.low=b.low)&&decide (a.high=b.high)) a.below b.below&&(eZ (λa b=>decide (a=b)) a.values b.values&&(eZ Opr.same a.ops b.ops&&eZ Opr.same a.funs b.funs)))
def Dfn.same(a b:Dfn):Bool:=decide (a.name=b.name)&&(decide (a.kind=b.kind)&&(decide (a.start=b.start)&&(decide (a.watch=b.watch)&&(a.sig.same b.sig&&(eZ Eqn.same a.eqs b.eqs&&(eZ Cel.same a.once b.once&&(eZ Cel.same a.many b.many&&eZ Rul.same a.rules b.rules)))))))
end Go.AV
section
open Go.Proofs.Tryz
namespace Go.Proofs
open Go.Shelf
def Tryz.lays190_ren:Go.Shelf.Ren:=⟨λ|125=>79|128=>130|129=>131|190=>33|258=>78|302=>121|303=>122|304=>123|305=>124|306=>125|307=>126|308=>127|309=>128|310=>129|329=>166|330=>167|333=>165|334=>168|335=>169|336=>170|344=>198|n=>n,λ|0=>0|3=>3|4=>4|5=>5|9=>9|31=>22|46=>34|51=>186|53=>188|131=>183|182=>178|183=>179|218=>217|222=>221|228=>243|229=>244|n=>n,λn=>n⟩
theorem Tryz.lays190:Go.Proofs.Lays.n190 Tryz.prog Tryz.lays190_ren:={
 mixed:=by kernel_rfl
 f125:=Tryz.func79.trans (congrArg some (by kernel_rfl))
 f128:=Tryz.func130.trans (congrArg some (by kernel_rfl))
 f129:=Tryz.func131.trans (congrArg some (by kernel_rfl))
 f190:=Tryz.func33.trans (congrArg some (by kernel_rfl))
 f258:=Tryz.func78.trans (congrArg some (by kernel_rfl))
 f302:=Tryz.func121.trans (congrArg some (by kernel_rfl))
 f303:=Tryz.func122.trans (congrArg some (by kernel_rfl))
 f304:=Tryz.func123.trans (congrArg some (by kernel_rfl))
 f305:=Tryz.func124.trans (congrArg some (by kernel_rfl))
 f306:=Tryz.func125.trans (congrArg some (by kernel_rfl))
 f307:=Tryz.func126.trans (congrArg some (by kernel_rfl))
 f308:=Tryz.func127.trans (congrArg some (by kernel_rfl))
 f309:=Tryz.func128.trans (congrArg some (by kernel_rfl))
 f310:=Tryz.func129.trans (congrArg some (by kernel_rfl))
 f329:=Tryz.func166.trans (congrArg some (by kernel_rfl))
 f330:=Tryz.func167.trans (congrArg some (by kernel_rfl))
 f333:=Tryz.func165.trans (congrArg some (by kernel_rfl))
 f334:=Tryz.func168.trans (congrArg some (by kernel_rfl))
 f335:=Tryz.func169.trans (congrArg some (by kernel_rfl))
 f336:=Tryz.func170.trans (congrArg some (by kernel_rfl))
 f344:=Tryz.func198.trans (congrArg some (by kernel_rfl))
 t0:=Tryz.underlying0
 a0:=Tryz.isAgg0
 z0:=Tryz.sizeOf0
 v0:=Tryz.zeroValue0
 t3:=Tryz.underlying3
 a3:=Tryz.isAgg3
 z3:=Tryz.sizeOf3
 v3:=Tryz.zeroValue3
 t4:=Tryz.underlying4
 a4:=Tryz.isAgg4
 z4:=Tryz.sizeOf4
 v4:=Tryz.zeroValue4
 t5:=Tryz.underlying5
 a5:=Tryz.isAgg5
 z5:=Tryz.sizeOf5
 v5:=Tryz.zeroValue5
 t9:=Tryz.underlying9
 a9:=Tryz.isAgg9
 z9:=Tryz.sizeOf9
 v9:=Tryz.zeroValue9
 t31:=Tryz.underlying22
 a31:=Tryz.isAgg22
 z31:=Tryz.sizeOf22
 v31:=Tryz.zeroValue22
 t46:=Tryz.underlying34
 a46:=Tryz.isAgg34
 z46:=Tryz.sizeOf34
 v46:=Tryz.zeroValue34
 t51:=Tryz.underlying186
 a51:=Tryz.isAgg186
 z51:=Tryz.sizeOf186
 v51:=Tryz.zeroValue186
 t53:=Tryz.underlying188
 a53:=Tryz.isAgg188
 z53:=Tryz.sizeOf188
 v53:=Tryz.zeroValue188
 t131:=Tryz.underlying183
 a131:=Tryz.isAgg183
 z131:=Tryz.sizeOf183
 v131:=Tryz.zeroValue183
 t182:=Tryz.underlying178
 a182:=Tryz.isAgg178
 z182:=Tryz.sizeOf178
 v182:=Tryz.zeroValue178
 t183:=Tryz.underlying179
 a183:=Tryz.isAgg179
 z183:=Tryz.sizeOf179
 v183:=Tryz.zeroValue179
 t218:=Tryz.underlying217
 a218:=Tryz.isAgg217
 z218:=Tryz.sizeOf217
 v218:=Tryz.zeroValue217
 t222:=Tryz.underlying221
 a222:=Tryz.isAgg221
 z222:=Tryz.sizeOf221
 v222:=Tryz.zeroValue221
 t228:=Tryz.underlying243
 a228:=Tryz.isAgg243
 z228:=Tryz.sizeOf243
 v228:=Tryz.zeroValue243
 t229:=Tryz.underlying244
 a229:=Tryz.isAgg244
 z229:=Tryz.sizeOf244
 v229:=Tryz.zeroValue244 }
def Tryz.lays194_ren:Go.Shelf.Ren:=⟨λ|194=>145|n=>n,λ|0=>0|3=>3|4=>4|9=>9|31=>22|n=>n,λn=>n⟩
theorem Tryz.lays194:Go.Proofs.Lays.n194 Tryz.prog Tryz.lays194_ren:={
 mixed:=by kernel_rfl
 f194:=Tryz.func145.trans (congrArg some (by kernel_rfl))
 t0:=Tryz.underlying0
 a0:=Tryz.isAgg0
 z0:=Tryz.sizeOf0
 v0:=Tryz.zeroValue0
 t3:=Tryz.underlying3
 a3:=Tryz.isAgg3
 z3:=Tryz.sizeOf3
 v3:=Tryz.zeroValue3
 t4:=Tryz.underlying4
 a4:=Tryz.isAgg4
 z4:=Tryz.sizeOf4
 v4:=Tryz.zeroValue4
 t9:=Tryz.underlying9
 a9:=Tryz.isAgg9
 z9:=Tryz.sizeOf9
 v9:=Tryz.zeroValue9
 t31:=Tryz.underlying22
 a31:=Tryz.isAgg22
 z31:=Tryz.sizeOf22
 v31:=Tryz.zeroValue22 }
open Go.RowKit Go.Sort
theorem Tryz.sort_str(m off cap:Nat)(ss:List (List UInt8))(w:World)(hH:Holds encStr w m off ss.toArray)(q:m<w.heap.size)(u:ss.length<4611686018427387904) :
  Calls Tryz.prog 33 #[.slice (some ⟨m,off,none⟩) ss.length cap] w λe w' =>
   e=.returned (.tuple #[])/\∃n z,w'=grow (putRow encStr (Sort.ahead w n) m off (ss.mergeSort λx y=>decide (x<=y)).toArray) z:=Any.slices_Sort_string Tryz.lays190 m off cap ss w hH q u
theorem Tryz.sort_none(p:Option Addr)(cap:Nat)(w:World) :
  Calls Tryz.prog 33 #[.slice p 0 cap] w λe w'=>e=.returned (.tuple #[])/\w'=w:=Any.slices_Sort_string_none Tryz.lays190 p cap w
theorem Tryz.compact_str(m off cap:Nat)(u:List (List UInt8))(w:World)(hH:Holds encStr w m off u.toArray)(z:u.length<=9223372036854775807)(y:u.length<=cap) :
  Calls Tryz.prog 145 #[.slice (some ⟨m,off,none⟩) u.length cap] w λe w'=>e=.returned (.slice (some ⟨m,off,none⟩) (Lib.compact u).length cap)/\∃q,w'=putRow encStr (Sort.ahead w q) m off (Lib.compact u++List.replicate (u.length-(Lib.compact u).length) []).toArray:=Any.slices_Compact_string Tryz.lays194 m off cap u w hH z y
end Go.Proofs
end
section
open Go.Proofs.Tryz
namespace Go.AV
open Go Go.Proofs Go.Sort
def tW(x:aC):List aC->List aC
 | []=>[x]
 | y::r=>if x<=y then x::y::r else y::tW x r
def pP:List aC->List aC
 | []=>[]
 | x::r=>tW x (pP r)
theorem aCo(x:aC):∀l:List aC,(tW x l).Perm (x::l)
 | []=>.refl _
 | y::r=>by
  simp only[tW];split
  .exact .refl _
  .exact((aCo x r).cons y).trans (.swap x y r)
theorem rE:∀l:List aC,(pP l).Perm l
 | []=>.refl _
 | x::r=>(aCo x _).trans ((rE r).cons x)
theorem aEW(x:aC):∀l:List aC,l.Pairwise (λa b=>a<=b)->(tW x l).Pairwise (λa b=>a<=b)
 | [],_=>by simp[tW]
 | y::r,h=>by
  simp only[tW];rw[List.pairwise_cons]at h;split
  .rename_i m;rw[List.pairwise_cons,List.pairwise_cons]
   exact⟨λz hz=>by
    rcases List.mem_cons.1 hz with rfl|hz
    .exact m
    .exact List.le_trans m (h.1 z hz),h⟩
  .rename_i m;rw[List.pairwise_cons];refine⟨λz hz=>?_,aEW x r h.2⟩;rcases List.mem_cons.1 ((aCo x r).mem_iff.1 hz)with rfl|hz
   .exact(List.le_total y z).resolve_right m
   .exact h.1 z hz
theorem aEu:∀l:List aC,(pP l).Pairwise (λa b=>a<=b)
 | []=>.nil
 | x::r=>aEW x _ (aEu r)
theorem aMa(l:List aC):(l.mergeSort λx y=>decide (x<=y))=pP l:=by
 have u:(l.mergeSort λx y=>decide (x<=y)).Perm (pP l):=(List.mergeSort_perm l _).trans (rE l).symm
 have z:(l.mergeSort λx y=>decide (x<=y)).Pairwise (λa b:aC=>a<=b):=by
  have:=List.pairwise_mergeSort (le:=λx y:aC=>decide (x<=y)) (λa b c m q=>by simp only[dA]at *;exact List.le_trans m q) (λa b=>by simp only[wZ,dA];exact List.le_total a b) l;simpa using this
 exact List.Perm.eq_of_pairwise (λa b _ _ m q=>List.le_antisymm m q) z (aEu l) u
theorem Rzs.strs{g:Gh}:∀{ss:List aC} {J:List A} {vs:List Value},Rzs g (ss.map .str++J) vs->∃us,vs=ss.map nM++us/\Rzs g J us
 | [],J,vs,h=>⟨vs,rfl,h⟩
 | x::r,J,[],h=>by have:=h.1;simp at this
 | x::r,J,v::vs,h=>by
  have q:=(h.2 0 (.str x) v rfl rfl).str_inv;obtain⟨us,rfl,m⟩:=Rzs.strs (g:=g) (ss:=r) (J:=J) (vs:=vs) ⟨gQ h.1,λj c u y m=>h.2 (j+1) c u (gQ y) (gQ m)⟩;exact⟨us,by rw[q];rfl,m⟩
theorem aFj{g:Gh}:∀(ss:List aC) {J:List A} {us:List Value},Rzs g J us->Rzs g (ss.map .str++J) (ss.map nM++us)
 | [],J,us,h=>h
 | x::r,J,us,h=>.cons (.str x) (aFj r h)
theorem aFt{w:World}{k:Nat}{ss:List aC}{rest:List Value}{e:TypeId}(q:w.heap[k]?=some (.cells (ss.map nM++rest).toArray e)):Holds encStr w k 0 ss.toArray:=by
 intro j m;have m:j<ss.length:=gQ m;constructor
 .simp only[World.cell?,q,fX,jK];rw[gO (gQ m),kD,aV m];simp[m,encStr,nM]
 .simp[World.frozen?,q]
theorem aNo{w:World}{k:Nat}{ss:List aC}{rest:List Value}{e:TypeId}(y:w.heap[k]?=some (.cells (ss.map nM++rest).toArray e)){d:List aC}(q:d.length=ss.length)(n:Nat) :
  (putRow encStr (Sort.ahead w n) k 0 d.toArray).heap[k]?=some (.cells (d.map nM++rest).toArray e)/\∀j,j≠k->(putRow encStr (Sort.ahead w n) k 0 d.toArray).heap[j]?=w.heap[j]?:=by
 constructor
 .simp only[putRow,mapBlock,Sort.ahead,Array.getElem?_modify,y,onCells,cM,jM];congr 2;apply Array.ext_getElem?;intro i;simp only[putCells,Array.getElem?_mapIdx,jK];by_cases m:i<d.length
  .rw[gO (by simpa [q]using m),gO (gQ m),kD,kD,aV (by omega:i<ss.length),aV m];simp[m,encStr,nM]
  .rw[nO (by simpa [q]using m),nO (gQ m),aK,aK,q];cases rest[i-ss.length]? with
   | none=>rfl
   | some x=>simp[m]
 .intro j u;simp only[putRow,mapBlock,Sort.ahead,Array.getElem?_modify,aD (Ne.symm u)]
theorem aHF{F:Fr}{g:Gh}{s:St}{w:World}(y:R cx.toCtx F g s w){b k:Nat}{ss:List aC}{J:List A}(B:s.getO b=some (.cells 9 (ss.map .str++J)))(G:g.beta b=some k) :
  ∃us rest,w.heap[k]?=some (.cells (ss.map nM++rest).toArray 9)/\k<w.heap.size/\∀(d:List aC) (n:Nat),d.length=ss.length->R cx.toCtx F g (s.setO b (.cells 9 (d.map .str++J))) (putRow encStr (Sort.ahead w n) k 0 d.toArray)/\us=ss:=by
 obtain⟨U,u,⟨vs,rest,q,hz,H⟩,_,_⟩:=y.obj b _ B;rw[G]at u;cases u;obtain⟨us,rfl,M⟩:=hz.strs;rw[fF]at q;refine⟨ss,us++rest,q,(fQ.1 q).1,λd n L=>⟨?_,rfl⟩⟩;obtain⟨O,S⟩:=aNo q L n;refine y.setObj B G S ?_;refine⟨d.map nM++us,rest,by rw[O,fF],aFj d M,λc m=>?_⟩;rcases dK.1 m with m|m
 .obtain⟨z,_,rfl⟩:=cD.1 m;rfl
 .exact H c (List.mem_append_right _ m)
section
variable {b cap:Nat} {ss:List aC} {J:List A} {s:St} {KV Kp:St->A->Prop}
theorem aFa(H:s.getO b=some (.cells 9 (ss.map .str++J)))(hl:ss.length<4611686018427387904)(M:KV (s.setO b (.cells 9 ((pP ss).map .str++J))) (.tuple [])):Den cx 33 [.mg b ss.length cap] KV Kp s:=by
 intro F g w vals G q;change OutV cx F g KV Kp ((callFunc 33 vals.toArray).run prog w);rw[uT (P:=prog) func33 rfl rfl vals.toArray w]
 match vals,q.1,q with
 | [x],_,q =>
 have O:=q.2 0 _ x rfl rfl;cases O with
 | mg b n cap k y B S =>
 obtain⟨_,rest,L,z,m⟩:=aHF G H y;refine Calls.mono (sort_str k 0 cap ss w (aFt L) z hl) ?_;rintro e w' ⟨rfl,n,U,rfl⟩;rw[aMa];have u:=(m (pP ss) n (rE ss).length_eq).1;exact⟨g,_,_,dW g,u.keep (λc B=>heap_grow_old _ _ B),.tuple [] [] rfl aW,M⟩
theorem aCh(u:KV s (.tuple [])):Den cx 33 [.nils] KV Kp s:=by
 intro F g w vals q m;change OutV cx F g KV Kp ((callFunc 33 vals.toArray).run prog w);rw[uT (P:=prog) func33 rfl rfl vals.toArray w]
 match vals,m.1,m with
 | [x],_,m =>
 have y:=(m.2 0 _ x rfl rfl).nils_inv;subst y;refine Calls.mono (sort_none none 0 w) ?_;rintro e w' ⟨rfl,rfl⟩;exact⟨g,_,s,dW g,q,.tuple [] [] rfl aW,u⟩
theorem aIu(z:s.getO b=some (.cells 9 (ss.map .str++J)))(hl:ss.length<=4294967296)(L:KV (s.setO b (.cells 9 ((Lib.compact ss++List.replicate (ss.length-(Lib.compact ss).length) []).map .str++J))) (.mg b (Lib.compact ss).length cap)) :
  Den cx 145 [.mg b ss.length cap] KV Kp s:=by
 intro F g w vals y u;change OutV cx F g KV Kp ((callFunc 145 vals.toArray).run prog w);rw[uT (P:=prog) func145 rfl rfl vals.toArray w]
 match vals,u.1,u with
 | [x],_,u =>
 have S:=u.2 0 _ x rfl rfl;cases S with
 | mg b n cap k m B O =>
 obtain⟨_,rest,H,M,q⟩:=aHF y z m
 have G:(Lib.compact ss).length<=ss.length:=by
  unfold Lib.compact Lib.compactUpTo;rw[aK];exact lQ (List.length_filter_le _ _) (by rw[List.length_range];exact bL _)
 refine Calls.mono (compact_str k 0 cap ss w (aFt H) aB B) ?_;rintro e w' ⟨rfl,n,rfl⟩;exact⟨g,_,_,dW g,(q _ n (by rw[aI,List.length_replicate];omega)).1,.mg b _ cap k m aB O,L⟩
theorem aIB(u:KV s .nils):Den cx 145 [.nils] KV Kp s:=by
 intro F g w vals q m;change OutV cx F g KV Kp ((callFunc 145 vals.toArray).run prog w);rw[uT (P:=prog) func145 rfl rfl vals.toArray w]
 match vals,m.1,m with
 | [x],_,m =>
 have y:=(m.2 0 _ x rfl rfl).nils_inv;subst y;refine Calls.mono (Any.slices_Compact_string_empty lays194 none 0 w) ?_;rintro e w' ⟨rfl,rfl⟩;exact⟨g,_,_,dW g,q,.nils,u⟩
end
theorem aJ1(ss:List aC)(x:aC):x∈Lib.compact ss↔x∈ss:=by
 unfold Lib.compact Lib.compactUpTo;simp only[cD,List.mem_filter,qA];constructor
 .rintro⟨j,⟨m,_⟩,rfl⟩;simp[m]
 .intro h;obtain⟨j,m,rfl⟩:=hU h
  induction j with
  | zero=>exact⟨0,⟨m,by simp[Lib.keeps]⟩,by simp[m]⟩
  | succ j z =>
   by_cases q:Lib.keeps ss.toArray (j+1)=true
   .exact⟨j+1,⟨m,q⟩,by simp[m]⟩
   .obtain⟨i,y,u⟩:=z aB (iF _);refine⟨i,y,u.trans ?_⟩;simp[Lib.keeps]at q;simpa [m,(by omega:j<ss.length)]using q.symm
def St.delO(s:St)(b:Nat):St:={ s with ob:=λu=>if u=b then none else s.ob u,ov:=tV b s.ov }
theorem zP(s:St)(b q:Nat):(s.delO b).getO q=if q=b then none else s.getO q:=aCO b s.ob q s.ov
def FZ(KV:St->A->Prop)(s:St)(v:A):Prop:=KV s v\/∃b n cap e es J,v=.mg b n cap/\n=es.length/\s.getO b=some (.cells e (es++J))/\(∀y,y∈es->y.cells=[y])/\KV (s.delO b) (.list none es)
theorem aGW{f:FuncId}{args:List A}{s:St}{KV Kp:St->A->Prop}(h:Den cx f args (FZ KV) Kp s):Den cx f args KV Kp s:=by
 have key:∀(F:Fr) (g u:Gh) (s':St) (w':World) (a:A) (v:Value),g.le u->R cx.toCtx F u s' w'->Rz u a v->FZ KV s' a->∃L a' b2,g.le L/\R cx.toCtx F L b2 w'/\Rz L a' v/\KV b2 a':=by
  intro F g u s' w' a v hg U B h;rcases h with h|⟨b,n,cap,e,es,J,rfl,rfl,hb,hy,h⟩
  .exact⟨u,a,s',hg,U,B,h⟩
  .cases B with
   | mg b n cap k Z M hm =>
   obtain⟨k',e1,⟨vs,rest,hh,hz,h1⟩,b1,hF⟩:=U.obj b _ hb;rw[Z]at e1;cases e1;have b7:vs.length=es.length+J.length:=by rw[hz.1,aI]
   have z:=aAc b1 vs
   have m:R cx.toCtx F u (s'.delO b) w':=U.weaken ⟨λq o ho=>by
    rw[zP]at ho;split at ho
    .cases ho
    .exact ho,λ_ _ h=>h,λ_ h=>h⟩ (λhd=>by cases hd)
   refine⟨u.know k vs,.list none es,s'.delO b,hg.trans z,⟨λq o ho=>?_,λt n e ht=>?_,m.sep,λq pre H=>?_,λq o ho=>?_,λq cs hq=>?_,m.fsh,m.bet,m.inj,m.dtm,λx hx=>(m.lst x hx).mono z,m.bfr,m.env⟩,?_,h⟩
   .obtain⟨j,q1,q2,q3,q4⟩:=m.obj q o ho
    have b4:j≠k:=by
     rintro rfl;have:=m.inj q b j q1 Z;subst this;rw[zP,aE rfl]at ho;cases ho
    exact⟨j,q1,q2.mono z,by simp[Gh.know,b4,q3],q4⟩
   .obtain⟨v,xs,t1,t2,t3,t4⟩:=m.tok t n e ht;refine⟨v,xs,t1,t2,t3,λc M=>?_⟩;have b3:c≠k:=by rintro rfl;have:=(t4 c M).1;rw[b1]at this;cases this
    exact⟨by simp[Gh.know,b3,(t4 c M).1],(t4 c M).2⟩
   .simp only[Gh.know]at H;split at H
    .cases H;rename_i hq;subst hq;exact⟨rest,e,(0,0),hh⟩
    .exact m.pis q pre H
   .obtain⟨o1,o2⟩:=m.frm q o ho;have b5:q≠k:=by rintro rfl;rw[hF]at ho;cases ho
    exact⟨o1,by simp[Gh.know,b5,o2]⟩
   .obtain⟨pre,ty,fr,p1,p2,p3,p4⟩:=m.glb q cs hq;exact⟨pre,ty,fr,p1,p2,p3,λj c v M B=>(p4 j c v M B).mono z⟩
   .refine .list none es k 0 1 cap vs (by simp[Gh.know]) aB M hm (λy G=>by rw[hy y G];rfl) (λy G c b0=>?_) (λi y j c v hi hj B=>?_) (λt ht=>by cases ht)
    .rw[hy y G]at b0;rw[cC.1 b0];exact h1 y (List.mem_append_left _ G)
    .rw[hy y (cR hi)]at hj
     obtain rfl:j=0:=by
      have:=(dG.1 hj).1;simp at this;omega
     simp only[iZ,bI]at hj;subst hj;simp only[fX,Nat.mul_one,Nat.add_zero]at B;exact(hz.2 i y v (by rw[gO (dG.1 hi).1];exact hi) B).mono z
 intro F g w vals U B;have:=h F g w vals U B;revert this;generalize (callFunc f vals.toArray).run cx.P w=r;intro O;cases r with
 | ok x w' =>
  cases x<;>simp only[OutV]at O⊢
  .obtain⟨u,a,s',S,a2,a3,a4⟩:=O;exact key F g u s' w' a _ S a2 a3 a4
  .obtain⟨u,s',S,a2,a3⟩:=O;rcases a3 with h|⟨b,n,cap,e,es,J,h,_⟩
   .exact⟨u,s',S,a2,h⟩
   .cases h
  .refine Calls.mono O λen b6 H=>?_
   cases en with
   | returned v=>obtain⟨u,a,s',S,a2,a3,a4⟩:=H;exact key F g u s' b6 a _ S a2 a3 a4
   | panicked iW=>exact H
   | outgrown=>exact H
 | halt x w'=>(cases x<;>simp only[OutV]at O⊢)<;>exact O
end Go.AV
end
namespace Go.AV
open Go Go.Proofs Tryz
def iP(x:aC)(out:List aC)(b:Below):List aC:=if b.low=x/\b.high ∉ out then out++[b.high] else out
def vL(m:List Below):Nat->Nat->List aC->List aC
 | 0,_,out=>out
 | f+1,i,out=>match out[i]? with
  | none=>out
  | some x=>vL m f (i+1) (m.foldl (iP x) out)
def vJ(m:List Below)(a:aC):List aC:=vL m (m.length+2) 0 [a]
def nX(sg:Sig):List aC:=tD++sg.sorts
def aAX(sg:Sig)(a:aC):List aC:=if a∈nX sg then vJ sg.below a else []
def iB(sg:Sig)(a:aC):Bool:=decide (a∈nX sg)
def sY(sg:Sig)(x y:aC):Bool:=decide (y=[65,110,121])||decide (y∈aAX sg x)
def tJ(sg:Sig)(x y:aC):Bool:=sY sg x y||sY sg y x
def sV(sg:Sig)(a:aC):Bool:=sg.values.any λv=>sY sg a v
def fH:List Opr->aC->Option Opr
 | [],_=>none
 | o::r,n=>match fH r n with
  | some p=>some p
  | none=>if o.name=n then some o else none
def nG:Opr:=⟨[],[],[],[],0,0,[]⟩
def vQ(c:UInt8):Bool:=!decide ((c.toNat:Int)<33)&&(!decide (126<(c.toNat:Int))&&(!iU c.toNat&&!decide (c∈[34,39,92])))
def xW(x:aC):Bool:=!decide (x=[])&&(!decide (20<x.length)&&x.all vQ)
def yG(a:aC):Bool:=dT a&&!decide (a∈tD)
def xM(sg:Sig)(b:Below):Bool:=!decide (b.low=[65,110,121])&&(iB sg b.low&&(decide (b.high∈sg.sorts)&&!decide (b.low∈aAX sg b.high)))
def vC(p:Piece):Bool:=decide (p.sort=[]) == (xW p.text||(dT p.text&&!decide (20<p.text.length)))&&!(!decide (p.sort=[])&&!decide (p.text=[]))
def aCB(o:Opr):Bool:=decide (o.pieces.length=0)||(o.pieces.all vC&&(!decide (20<o.pieces.length)&&eZ (λa b=>decide (a=b)) ((o.pieces.map Piece.sort).filter (λx=>!decide (x=[]))) o.args))
def yP(sg:Sig)(o:Opr):Bool :=
 yX o.name&&(!decide (o.name∈jQ)&&(!decide (8<o.args.length)&&(o.args.all (iB sg)&&(decide (o.sort∈sg.sorts) &&
 (((decide (0<=o.prec)&&decide (o.prec<=20))&&(decide (0<o.pieces.length)||decide (o.prec=0)))&&(((decide (0<=o.assoc)&&decide (o.assoc<=2))&&(decide (0<o.prec)||decide (o.assoc=0))) &&
 ((o.strict.all λi=>decide (1<=i)&&decide (i<=o.args.length))&&(decide o.strict.Nodup&&aCB o))))))))
def aAV(sg:Sig)(o:Opr):Bool :=
 dT o.name&&(!decide (o.name∈jQ)&&(!decide (8<o.args.length)&&(o.args.all (iB sg)&&(iB sg o.sort&&(decide (o.pieces.length=0)&&(decide (o.prec=0)&&(decide (o.assoc=0)&&decide (o.strict.length=0))))))))
def qH(sg:Sig):Bool :=
 !decide (40<sg.sorts.length)&&(!decide (200<sg.below.length)&&(!decide (200<sg.ops.length+sg.funs.length)&&(decide sg.below.Nodup&&(decide sg.values.Nodup &&
 (decide sg.sorts.Nodup&&(sg.sorts.all yG&&(decide (sg.ops.map Opr.name++sg.funs.map Opr.name).Nodup &&
 (sg.below.all (xM sg)&&(sg.values.all (iB sg)&&(sg.ops.all (yP sg)&&sg.funs.all (aAV sg)))))))))))
def aHE(n:aC):List aC :=
 if n∈[[97,100,100],[115,117,98],[109,117,108],[100,105,118],[109,111,100],[108,116],[108,101],[103,116],[103,101]] then [[73,110,116],[73,110,116]]
 else if n∈[[110,101,103],[116,101,120,116]] then [[73,110,116]]
 else if n∈[[101,113],[110,101]] then [[65,110,121],[65,110,121]]
 else if n∈[[97,110,100],[111,114]] then [[66,111,111,108],[66,111,111,108]]
 else if n=[110,111,116] then [[66,111,111,108]]
 else if n=[112,105,99,107] then [[66,111,111,108],[65,110,121],[65,110,121]]
 else if n=[99,97,116] then [[84,101,120,116],[84,101,120,116]]
 else if n=[108,101,110,103,116,104] then [[76,105,115,116]]
 else if n=[106,111,105,110] then [[76,105,115,116],[76,105,115,116]]
 else if n∈[[103,101,116],[104,97,115],[100,101,108]] then [[77,97,112],[65,110,121]]
 else if n=[112,117,116] then [[77,97,112],[65,110,121],[65,110,121]]
 else if n∈[[107,101,121,115],[115,105,122,101]] then [[77,97,112]]
 else if n=[105,115] then [[65,110,121],[84,101,120,116]]
 else [[65,110,121]]
def aHB(n:aC):aC :=
 if n∈[[97,100,100],[115,117,98],[109,117,108],[100,105,118],[109,111,100],[110,101,103],[108,101,110,103,116,104],[115,105,122,101]] then [73,110,116]
 else if n∈[[99,97,116],[116,101,120,116]] then [84,101,120,116]
 else if n∈[[106,111,105,110],[107,101,121,115]] then [76,105,115,116]
 else if n∈[[112,117,116],[100,101,108]] then [77,97,112]
 else if n∈[[112,105,99,107],[103,101,116]] then [65,110,121]
 else [66,111,111,108]
def bOp(n:aC):Opr:=⟨n,aHE n,aHB n,[],0,0,[]⟩
def kW(sg:Sig)(n:aC):Opr × Bool × Bool:=match fH sg.ops n with
 | some o=>(o,false,true)
 | none=>match fH sg.funs n with
  | some o=>(o,true,true)
  | none=>if n∈jQ then(bOp n,true,true) else(nG,true,false)
def qO(sg:Sig)(t:Tm):aC :=
 if t.kind=1 then [73,110,116] else if t.kind=2 then [66,111,111,108] else if t.kind=3 then [84,101,120,116] else if t.kind=4 then [73,100] else if t.kind=7 then [76,105,115,116] else if t.kind=8 then [77,97,112]
 else if t.kind=5 then(kW sg t.text).1.sort else if iB sg t.sort=true then t.sort else []
def lB(sg:Sig):List Tm->List aC->Bool
 | t::r,a::l=>tJ sg (qO sg t) a&&lB sg r l
 | _,_=>true
def aDy(sg:Sig)(t:Tm):Bool:=if t.kind=6 then iB sg t.sort else if t.kind=5 then
  (kW sg t.text).2.2&&(decide ((kW sg t.text).1.args.length=t.kids.length)&&lB sg t.kids (kW sg t.text).1.args) else true
mutual
def iC(sg:Sig):Tm->Bool
 | .mk k n x y ks rs=>aA9 sg ks&&aDy sg (.mk k n x y ks rs)
def aA9(sg:Sig):List Tm->Bool
 | []=>true
 | t::r=>iC sg t&&aA9 sg r
end
mutual
def Tm.pre:Tm->List Tm
 | .mk k n x y ks rs=>.mk k n x y ks rs::(bG ks++bG rs)
def bG:List Tm->List Tm
 | []=>[]
 | t::r=>t.pre++bG r
end
theorem xI(t:Tm):t.pre=t::bG (t.kids++t.rest):=by
 have m:∀a b:List Tm,bG (a++b)=bG a++bG b:=by
  intro a b
  induction a with
  | nil=>rfl
  | cons x r q=>simp only[bS,bG,q,fF]
 cases t;simp only[Tm.pre,Tm.kids,Tm.rest,m]
theorem aMc(sg:Sig)(t:Tm):iC sg t=(t.kids.all (iC sg)&&aDy sg t):=by
 have h:∀l:List Tm,aA9 sg l=l.all (iC sg):=by
  intro l
  induction l with
  | nil=>rfl
  | cons x r m=>simp only[aA9,m,List.all_cons]
 cases t;simp only[iC,h,Tm.kids]
def oH(l:List Tm):List aC:=((bG l).filter λt=>decide (t.kind=6)).map Tm.text
def iK(l:List Tm):List aC:=pP (oH l)
def tH:List (aC × aC)->aC->Option aC
 | [],_=>none
 | (a,b)::r,x=>if a=x then some b else tH r x
def aAO(st:List (aC × aC) × aC)(x:Tm):List (aC × aC) × aC :=
 if x.kind=6/\x.text≠[95] then
  match tH st.1 x.text with
  | some m=>if m≠x.sort/\(st.2=[]\/Go.Op.bytesLess x.text st.2=true) then(st.1,x.text) else st
  | none=>(st.1++[(x.text,x.sort)],st.2)
 else st
def rQ(l:List Tm):aC:=((bG l).foldl aAO ([],[])).2
def aDc(sg:Sig)(x:Tm):Bool:=decide (x.kind=5)&&(kW sg x.text).2.1
def tB(sg:Sig)(t:Tm):Bool:=t.pre.any (aDc sg)
def aAU(t:Tm):Bool:=decide (t.kind=1)||(decide (t.kind=3)||decide (t.kind=4))
def tR(k:Tm):Bool:=aAU k||(decide (k.kind=6)&&!decide (k.text=[95]))
def rZ:List Tm->List Tm
 | []=>[]
 | [x]=>[x]
 | x::_::r=>x::rZ r
def vU(x:Tm):Bool:=!(decide (x.kind=6)&&decide (x.text=[36]))&&(!decide (x.kind=8)||(rZ x.kids).all tR)
def rV(sg:Sig)(p:Tm):Bool:=(Tm.val 60 p 0).isSome&&(iC sg p&&(!tB sg p&&(decide (rQ [p]=[])&&p.pre.all vU)))
def bU(a b:Option Fault):Option Fault:=match a with
 | none=>b
 | some f=>some f
def dH{α:Type}(f:α->Option Fault):List α->Option Fault
 | []=>none
 | x::r=>bU (f x) (dH f r)
def dN(b:Bool)(f:Fault):Option Fault:=if b=true then some f else none
def lD(sg:Sig)(n:aC)(l c:Int)(m:List Tm):Option Fault:=dN (!m.all (iC sg)) ⟨16,n,l,c⟩
def iT(sg:Sig)(n:aC)(l c:Int)(t:Tm)(S:aC):Option Fault:=dN (!tJ sg (qO sg t) S) ⟨16,n,l,c⟩
def sB(l c:Int)(m:List Tm):Option Fault:=dN (!decide (rQ m=[])) ⟨16,rQ m,l,c⟩
def rT(l c:Int)(m q:List Tm):Option Fault:=dH (λs=>dN (decide (s=[95])||(decide (s=[36])||!decide (s∈oH m))) ⟨17,s,l,c⟩) (iK q)
def pI(x:Eqn):aC:=if x.left.kind=5\/x.left.kind=6 then x.left.text else []
def wD(sg:Sig)(x:Eqn):Option Fault :=
 if x.left.kind=5 then match fH sg.funs x.left.text with
  | none=>some ⟨15,pI x,x.line,x.col⟩
  | some f =>
   bU (lD sg (pI x) x.line x.col (x.left::x.right::x.cond))
   (bU (dN (x.left.kids.any (tB sg)) ⟨16,pI x,x.line,x.col⟩)
   (bU (dN (!x.left.kids.all (rV sg)) ⟨16,pI x,x.line,x.col⟩)
   (bU (sB x.line x.col (x.right::x.cond++[x.left]))
   (bU (rT x.line x.col [x.left] (x.right::x.cond))
   (bU (dH (λt=>iT sg (pI x) x.line x.col t [66,111,111,108]) x.cond)
   (iT sg (pI x) x.line x.col x.right f.sort))))))
 else some ⟨15,pI x,x.line,x.col⟩
def aBl(sg:Sig)(m:List aC)(x:Cel):Option Fault :=
 bU (if x.name∈m then some ⟨14,x.name,x.line,x.col⟩ else dN (!iB sg x.sort) ⟨13,x.name,x.line,x.col⟩)
 (bU (lD sg x.name x.line x.col [x.init]) (bU (iT sg x.name x.line x.col x.init x.sort)
 (dH (λs=>dN (!decide (s=[36])) ⟨17,s,x.line,x.col⟩) (iK [x.init]))))
def nB(sg:Sig):List aC->List Cel->Option Fault
 | _,[]=>none
 | m,x::r=>bU (aBl sg m x) (nB sg (m++[x.name]) r)
def gJ(d:Dfn)(n:aC):aC × Bool × Bool:=match d.once.find? λx=>decide (x.name=n)with
 | some x=>(x.sort,false,true)
 | none=>match d.many.find? λx=>decide (x.name=n)with
  | some x=>(x.sort,true,true)
  | none=>([],false,false)
def vK(d:Dfn):Option Fault :=
 bU (dN (!iB d.sig d.start) ⟨13,d.start,0,0⟩)
 (bU (dN (!(gJ d d.watch).2.2||(gJ d d.watch).2.1) ⟨13,d.watch,0,0⟩)
 (bU (dN (!(decide (d.kind=[]) == decide (d.many.length=0))) ⟨15,d.kind,0,0⟩)
 (bU (dH (λo:Opr=>dN (decide (0<o.strict.length)&&(!(gJ d [107]).2.2||!decide ((gJ d [107]).1=[76,105,115,116]))) ⟨13,[107],0,0⟩) d.sig.ops)
 (dH (λo:Opr=>dN (decide (0<o.strict.length)&&sV d.sig o.sort) ⟨16,o.name,0,0⟩) d.sig.ops))))
def yS(d:Dfn)(m:List Part)(x:Part):Option Fault :=
 if(gJ d x.cell).2.2=false then some ⟨13,x.cell,x.line,x.col⟩
 else if(gJ d x.cell).2.1≠!decide (x.at_=[]) then some ⟨15,x.cell,x.line,x.col⟩
 else if(m.any λy=>decide (y.cell=x.cell)&&decide (y.at_=x.at_))=true then some ⟨14,x.cell,x.line,x.col⟩
 else if rV d.sig x.left=false\/1<x.right.length then some ⟨16,x.cell,x.line,x.col⟩
 else bU (lD d.sig x.cell x.line x.col x.right) (dH (λt=>iT d.sig x.cell x.line x.col t (gJ d x.cell).1) (x.left::x.right))
def pL(d:Dfn):List Part->List Part->Option Fault
 | _,[]=>none
 | m,x::r=>bU (yS d m x) (pL d (m++[x]) r)
def kY(d:Dfn)(n:aC)(l c:Int):List Tm->List Cel->Option Fault
 | t::r,x::m=>bU (lD d.sig n l c [t]) (bU (iT d.sig n l c t x.sort) (kY d n l c r m))
 | _,_=>none
def mL(l c:Int):List aC->List aC->Option Fault
 | _,[]=>none
 | m,s::r=>bU (dN (decide (s∈m)) ⟨14,s,l,c⟩) (mL l c (m++[s]) r)
def pO(d:Dfn)(r:Rul):Option Fault :=
 bU (dH (λx:Fresh=>dN (decide (d.kind=[])||!decide (x.cells.length=d.many.length)) ⟨15,r.name,r.line,r.col⟩) r.new)
 (bU (dH (λx:Fresh=>kY d r.name r.line r.col x.cells d.many) r.new)
 (bU (dH (λs=>dN (!r.parts.any λx=>decide (x.at_=s)) ⟨13,s,r.line,r.col⟩) r.drop)
 (mL r.line r.col [] r.drop)))
def mE(r:Rul):List Tm:=r.parts.map Part.left
def jD(r:Rul):List Tm:=r.parts.flatMap Part.right++r.cond++r.new.flatMap Fresh.cells
def nH(d:Dfn)(m:List aC)(r:Rul):Option Fault :=
 if r.name∈m then some ⟨14,r.name,r.line,r.col⟩
 else if r.parts=[] then some ⟨15,r.name,r.line,r.col⟩
 else bU (pL d [] r.parts) (bU (sB r.line r.col (mE r++jD r)) (bU (rT r.line r.col (mE r) (jD r))
  (bU (dH (λt=>bU (lD d.sig r.name r.line r.col [t]) (iT d.sig r.name r.line r.col t [66,111,111,108])) r.cond) (pO d r))))
def pF(d:Dfn):List aC->List Rul->Option Fault
 | _,[]=>none
 | m,r::l=>bU (nH d m r) (pF d (m++[r.name]) l)
def jX(x:Eqn):List Tm:=x.left::x.right::x.cond
def sG(r:Rul):List Tm:=r.parts.flatMap (λp=>p.left::p.right)++(r.cond++r.new.flatMap Fresh.cells)
def fP(d:Dfn):List Tm:=d.eqs.flatMap jX++((d.once++d.many).map Cel.init++d.rules.flatMap sG)
def pR(r:Rul):List aC:=r.name::r.drop++(r.parts.map Part.at_).filter λx=>!decide (x=[])
def gI(d:Dfn):List aC:=[d.name,d.start,d.watch]++((if d.kind=[] then [] else [d.kind])++((d.once++d.many).map Cel.name++d.rules.flatMap pR))
def mA(d:Dfn):Bool :=
 !decide (12<d.once.length)&&(!decide (12<d.many.length)&&(!decide (300<d.rules.length)&&(!decide (300<d.eqs.length) &&
 ((d.eqs.all λx=>!decide (20<x.cond.length))&&((d.rules.all λr=>decide (r.parts.length<=20)&&(decide (r.cond.length<=20)&&(decide (r.new.length<=20)&&decide (r.drop.length<=20)))) &&
 ((gI d).all dT&&(fP d).all λt=>(Tm.val 60 t 0).isSome))))))
def qJ(d:Dfn):Option Fault :=
 if mA d=false then some ⟨2,[],0,0⟩
 else if qH d.sig=false then some ⟨16,[],0,0⟩
 else bU (dH (wD d.sig) d.eqs) (bU (nB d.sig [] (d.once++d.many)) (bU (vK d) (pF d [] d.rules)))
def pJ(d:Dfn):Fault:=(qJ d).getD Fault.none
def gU(d:Dfn):Bool:=decide ((pJ d).code=0)
theorem rI{α:Type}{m:List (List α)}{i:Nat}{a:List α}(h:m[i]?=some a):(m.take (i+1)).flatten=(m.take i).flatten++a/\(m.take (i+1)).flatten.length<=m.flatten.length:=by
 refine⟨by rw[eO,h];simp,?_⟩;have:m.flatten.length=((m.take (i+1)).flatten++(m.drop (i+1)).flatten).length:=by rw[<-List.flatten_append,List.take_append_drop]
 rw[this,aI];omega
instance : Inhabited Tm := ⟨.mk 0 0 [] [] [] []⟩
instance : Inhabited Opr := ⟨nG⟩
instance : Inhabited Cel := ⟨⟨[],[],default,0,0⟩⟩
theorem aJO(n:Nat)(F:n<=4294967296)(s:St)(KV Kp:St->A->Prop)(q:∀tk,(∀t,tk=some t->s.getT t=none)->KV (gs s tk 0 9) (gv tk [])):Den cx 97 [.nils,.int .i64 (n:Nat)] KV Kp s:=by
 have y:decide ((n:Int)<0)=false:=by rw[gP];omega
 have B:IntKind.i64.wrap ((n:Int)-IntKind.i64.wrap (0-0))=(n:Int):=by rw[show IntKind.i64.wrap (0-0)=0 by decide,eW _ aB aB];omega
 (refine aL func97 [0,1,4,6,16] ?_;simp only[go_sem,ntmps97,f97]);simp only[go_sem,y];rw[B];cases n with
 | zero =>
  have m:decide ((0:Int)<((0:Nat):Int))=false:=by decide
  simp only[go_sem,m];exact aN (q none (λt h=>by cases h))
 | succ n =>
  have m:decide ((0:Int)<((n+1:Nat):Int))=true:=by rw[dA];omega
  simp only[go_sem,m,pQ];refine⟨⟨by omega,by omega,by decide⟩,λt z=>?_⟩;simp only[go_sem];exact aN (q (some t) (λu h=>by cases h;exact z))
theorem aIN(q:List (List aC))(hn:q.flatten.length<=4294967296)(s:St)(KV Kp:St->A->Prop)(hk:KV s (.list none (q.flatten.map A.str))):Den cx 55 [.list none (q.map λl=>.list none (l.map A.str))] KV Kp s:=by
 refine fS λS=>?_
 have M:=S _ (dZ ..);clear S;(refine aL func55 [0,2,3,5,6,8,9,10,11,12,20,25,26,27,28] ?_;simp only[go_sem,ntmps55,f55])
 refine Ex.loop (ι:=Nat) (λi=>[(0,.list none (q.map λl=>.list none (l.map A.str))),(3,.int .i64 ((q.take i).flatten.length:Nat)),(9,.list none (q.map λl=>.list none (l.map A.str))),(10,.int .i64 (q.length:Nat)),(11,.int .i64 (i:Nat))])
  (λ_=>s) (λi=>i<=q.length) (λi=>q.length-i) 0 (aX _) ?_ (aG _) ?_
 .simp only[go_sem];exact⟨rfl,rfl⟩
 .intro i Z;refine bC (V:=[0,2,3,5,6,8,9,10,11,12,20,25,26,27,28]) _ _ _ _ ?_;simp only[go_sem]
  (apply aQ<;>intro h)<;>simp only[go_sem,h]
  .have m:i<q.length:=gQ h;clear h;obtain⟨a,H⟩:∃a,q[i]?=some a:=⟨_,aV m⟩
   obtain⟨G,F⟩:=rI H
   have w2:IntKind.i64.wrap (((q.take i).flatten.length:Int)+(a.length:Int))=(((q.take (i+1)).flatten.length:Nat):Int):=by
    rw[G,aI,eW _ aB (by rw[G,aI]at F;omega)];omega
   have d0:decide ((((q.take (i+1)).flatten.length:Nat):Int)<0)=false:=by rw[gP];omega
   simp only[go_sem,H,m,w2,d0];exact⟨i+1,m,by omega,⟨rfl,M.wrap (i:=i) (gQ m)⟩,aG _⟩
  .have m:i=q.length:=by have:¬ i<q.length:=gQ h;omega
   subst m;clear h;rw[List.take_length];refine aJO _ hn _ _ _ (λtk L=>?_);simp only[go_sem];clear Z
   refine Ex.loop (ι:=Nat × Option Nat) (λk=>[(6,gv k.2 ((q.take k.1).flatten.map A.str)),(25,.list none (q.map λl=>.list none (l.map A.str))),(26,.int .i64 (q.length:Nat)),(27,.int .i64 (k.1:Nat))])
    (λk=>gs s k.2 (q.take k.1).flatten.length 9) (λk=>k.1<=q.length/\(k.2=none->(q.take k.1).flatten=[])/\∀t,k.2=some t->s.getT t=none) (λk=>q.length-k.1) (0,tk) ⟨aX _,λ_=>rfl,L⟩ ?_ (aG _) ?_
   .simp only[go_sem];exact⟨by cases tk<;>rfl,rfl⟩
   .rintro⟨i,tk⟩ ⟨Z,B,L⟩;simp only at Z B L;refine bC (V:=[0,2,3,5,6,8,9,10,11,12,20,25,26,27,28]) _ _ _ _ ?_;simp only[go_sem]
    (apply aQ<;>intro h)<;>simp only[go_sem,h]
    .have m:i<q.length:=gQ h;clear h;obtain⟨a,H⟩:∃a,q[i]?=some a:=⟨_,aV m⟩
     obtain⟨G,F⟩:=rI H
     have hz:∀(l:List aC) (y:A),y∈l.map A.str->y.cells.length=(A.cells (A.str default)).length:=λl y O=>by
      obtain⟨z,_,rfl⟩:=cD.1 O
      first|rfl|(simp only[cG];rfl)
     simp only[go_sem,H,m];refine⟨by decide,λy O=>hz a y O,cT rfl rfl (by rw[aK];exact eD λe=>by rw[B e];rfl) (λy O=>hz _ y O) (by rw[G,aI]at F;simp only[aK];omega) (λu hu=>?_)⟩;have U:=eX hu L;rw[eP hu];simp only[go_sem];refine⟨(i+1,some u),⟨m,λh=>(by cases h),λt h=>by cases h;exact U⟩,aP,⟨?_,M.wrap (i:=i) (gQ m)⟩,?_⟩
     .rw[G,bY];rfl
     .rw[G];simp only[gs,aK,aI];exact aG _
    .have m:i=q.length:=by have:¬ i<q.length:=gQ h;omega
     subst m;rw[List.take_length]at B⊢;exact DK.mk hk (gE (aG _) L) (gK _ _ (λe=>by rw[B e];rfl))
theorem aJT(n:Nat)(F:n<=4294967296)(s:St)(KV Kp:St->A->Prop)(q:∀tk,(∀t,tk=some t->s.getT t=none)->KV (gs s tk 0 39) (gv tk [])):Den cx 113 [.nils,.int .i64 (n:Nat)] KV Kp s:=by
 have y:decide ((n:Int)<0)=false:=by rw[gP];omega
 have B:IntKind.i64.wrap ((n:Int)-IntKind.i64.wrap (0-0))=(n:Int):=by rw[show IntKind.i64.wrap (0-0)=0 by decide,eW _ aB aB];omega
 (refine aL func113 [0,1,4,6,16] ?_;simp only[go_sem,ntmps113,f113]);simp only[go_sem,y];rw[B];cases n with
 | zero =>
  have m:decide ((0:Int)<((0:Nat):Int))=false:=by decide
  simp only[go_sem,m];exact aN (q none (λt h=>by cases h))
 | succ n =>
  have m:decide ((0:Int)<((n+1:Nat):Int))=true:=by rw[dA];omega
  simp only[go_sem,m,pQ];refine⟨⟨by omega,by omega,by decide⟩,λt z=>?_⟩;simp only[go_sem];exact aN (q (some t) (λu h=>by cases h;exact z))
theorem aEd(q:List (List Tm))(hn:q.flatten.length<=4294967296)(s:St)(KV Kp:St->A->Prop)(hk:KV s (.list none (q.flatten.map Tm.enc))):Den cx 68 [.list none (q.map λl=>.list none (l.map Tm.enc))] KV Kp s:=by
 refine fS λS=>?_
 have M:=S _ (dZ ..);clear S;(refine aL func68 [0,2,3,5,6,8,9,10,11,12,20,25,26,27,28] ?_;simp only[go_sem,ntmps68,f68])
 refine Ex.loop (ι:=Nat) (λi=>[(0,.list none (q.map λl=>.list none (l.map Tm.enc))),(3,.int .i64 ((q.take i).flatten.length:Nat)),(9,.list none (q.map λl=>.list none (l.map Tm.enc))),(10,.int .i64 (q.length:Nat)),(11,.int .i64 (i:Nat))])
  (λ_=>s) (λi=>i<=q.length) (λi=>q.length-i) 0 (aX _) ?_ (aG _) ?_
 .simp only[go_sem];exact⟨rfl,rfl⟩
 .intro i Z;refine bC (V:=[0,2,3,5,6,8,9,10,11,12,20,25,26,27,28]) _ _ _ _ ?_;simp only[go_sem]
  (apply aQ<;>intro h)<;>simp only[go_sem,h]
  .have m:i<q.length:=gQ h;clear h;obtain⟨a,H⟩:∃a,q[i]?=some a:=⟨_,aV m⟩
   obtain⟨G,F⟩:=rI H
   have w2:IntKind.i64.wrap (((q.take i).flatten.length:Int)+(a.length:Int))=(((q.take (i+1)).flatten.length:Nat):Int):=by
    rw[G,aI,eW _ aB (by rw[G,aI]at F;omega)];omega
   have d0:decide ((((q.take (i+1)).flatten.length:Nat):Int)<0)=false:=by rw[gP];omega
   simp only[go_sem,H,m,w2,d0];exact⟨i+1,m,by omega,⟨rfl,M.wrap (i:=i) (gQ m)⟩,aG _⟩
  .have m:i=q.length:=by have:¬ i<q.length:=gQ h;omega
   subst m;clear h;rw[List.take_length];refine aJT _ hn _ _ _ (λtk L=>?_);simp only[go_sem];clear Z
   refine Ex.loop (ι:=Nat × Option Nat) (λk=>[(6,gv k.2 ((q.take k.1).flatten.map Tm.enc)),(25,.list none (q.map λl=>.list none (l.map Tm.enc))),(26,.int .i64 (q.length:Nat)),(27,.int .i64 (k.1:Nat))])
    (λk=>gs s k.2 (q.take k.1).flatten.length 39) (λk=>k.1<=q.length/\(k.2=none->(q.take k.1).flatten=[])/\∀t,k.2=some t->s.getT t=none) (λk=>q.length-k.1) (0,tk) ⟨aX _,λ_=>rfl,L⟩ ?_ (aG _) ?_
   .simp only[go_sem];exact⟨by cases tk<;>rfl,rfl⟩
   .rintro⟨i,tk⟩ ⟨Z,B,L⟩;simp only at Z B L;refine bC (V:=[0,2,3,5,6,8,9,10,11,12,20,25,26,27,28]) _ _ _ _ ?_;simp only[go_sem]
    (apply aQ<;>intro h)<;>simp only[go_sem,h]
    .have m:i<q.length:=gQ h;clear h;obtain⟨a,H⟩:∃a,q[i]?=some a:=⟨_,aV m⟩
     obtain⟨G,F⟩:=rI H
     have hz:∀(l:List Tm) (y:A),y∈l.map Tm.enc->y.cells.length=(A.cells (Tm.enc default)).length:=λl y O=>by
      obtain⟨z,_,rfl⟩:=cD.1 O
      first|rfl|(simp only[cG];rfl)
     simp only[go_sem,H,m];refine⟨by decide,λy O=>hz a y O,cT rfl rfl (by rw[aK];exact eD λe=>by rw[B e];rfl) (λy O=>hz _ y O) (by rw[G,aI]at F;simp only[aK];omega) (λu hu=>?_)⟩;have U:=eX hu L;rw[eP hu];simp only[go_sem];refine⟨(i+1,some u),⟨m,λh=>(by cases h),λt h=>by cases h;exact U⟩,aP,⟨?_,M.wrap (i:=i) (gQ m)⟩,?_⟩
     .rw[G,bY];rfl
     .rw[G];simp only[gs,aK,aI];exact aG _
    .have m:i=q.length:=by have:¬ i<q.length:=gQ h;omega
     subst m;rw[List.take_length]at B⊢;exact DK.mk hk (gE (aG _) L) (gK _ _ (λe=>by rw[B e];rfl))
theorem aJB(n:Nat)(F:n<=4294967296)(s:St)(KV Kp:St->A->Prop)(q:∀tk,(∀t,tk=some t->s.getT t=none)->KV (gs s tk 0 67) (gv tk [])):Den cx 107 [.nils,.int .i64 (n:Nat)] KV Kp s:=by
 have y:decide ((n:Int)<0)=false:=by rw[gP];omega
 have B:IntKind.i64.wrap ((n:Int)-IntKind.i64.wrap (0-0))=(n:Int):=by rw[show IntKind.i64.wrap (0-0)=0 by decide,eW _ aB aB];omega
 (refine aL func107 [0,1,4,6,16] ?_;simp only[go_sem,ntmps107,f107]);simp only[go_sem,y];rw[B];cases n with
 | zero =>
  have m:decide ((0:Int)<((0:Nat):Int))=false:=by decide
  simp only[go_sem,m];exact aN (q none (λt h=>by cases h))
 | succ n =>
  have m:decide ((0:Int)<((n+1:Nat):Int))=true:=by rw[dA];omega
  simp only[go_sem,m,pQ];refine⟨⟨by omega,by omega,by decide⟩,λt z=>?_⟩;simp only[go_sem];exact aN (q (some t) (λu h=>by cases h;exact z))
theorem aBY(q:List (List Cel))(hn:q.flatten.length<=4294967296)(s:St)(KV Kp:St->A->Prop)(hk:KV s (.list none (q.flatten.map Cel.enc))):Den cx 63 [.list none (q.map λl=>.list none (l.map Cel.enc))] KV Kp s:=by
 refine fS λS=>?_
 have M:=S _ (dZ ..);clear S;(refine aL func63 [0,2,3,5,6,8,9,10,11,12,20,25,26,27,28] ?_;simp only[go_sem,ntmps63,f63])
 refine Ex.loop (ι:=Nat) (λi=>[(0,.list none (q.map λl=>.list none (l.map Cel.enc))),(3,.int .i64 ((q.take i).flatten.length:Nat)),(9,.list none (q.map λl=>.list none (l.map Cel.enc))),(10,.int .i64 (q.length:Nat)),(11,.int .i64 (i:Nat))])
  (λ_=>s) (λi=>i<=q.length) (λi=>q.length-i) 0 (aX _) ?_ (aG _) ?_
 .simp only[go_sem];exact⟨rfl,rfl⟩
 .intro i Z;refine bC (V:=[0,2,3,5,6,8,9,10,11,12,20,25,26,27,28]) _ _ _ _ ?_;simp only[go_sem]
  (apply aQ<;>intro h)<;>simp only[go_sem,h]
  .have m:i<q.length:=gQ h;clear h;obtain⟨a,H⟩:∃a,q[i]?=some a:=⟨_,aV m⟩
   obtain⟨G,F⟩:=rI H
   have w2:IntKind.i64.wrap (((q.take i).flatten.length:Int)+(a.length:Int))=(((q.take (i+1)).flatten.length:Nat):Int):=by
    rw[G,aI,eW _ aB (by rw[G,aI]at F;omega)];omega
   have d0:decide ((((q.take (i+1)).flatten.length:Nat):Int)<0)=false:=by rw[gP];omega
   simp only[go_sem,H,m,w2,d0];exact⟨i+1,m,by omega,⟨rfl,M.wrap (i:=i) (gQ m)⟩,aG _⟩
  .have m:i=q.length:=by have:¬ i<q.length:=gQ h;omega
   subst m;clear h;rw[List.take_length];refine aJB _ hn _ _ _ (λtk L=>?_);simp only[go_sem];clear Z
   refine Ex.loop (ι:=Nat × Option Nat) (λk=>[(6,gv k.2 ((q.take k.1).flatten.map Cel.enc)),(25,.list none (q.map λl=>.list none (l.map Cel.enc))),(26,.int .i64 (q.length:Nat)),(27,.int .i64 (k.1:Nat))])
    (λk=>gs s k.2 (q.take k.1).flatten.length 67) (λk=>k.1<=q.length/\(k.2=none->(q.take k.1).flatten=[])/\∀t,k.2=some t->s.getT t=none) (λk=>q.length-k.1) (0,tk) ⟨aX _,λ_=>rfl,L⟩ ?_ (aG _) ?_
   .simp only[go_sem];exact⟨by cases tk<;>rfl,rfl⟩
   .rintro⟨i,tk⟩ ⟨Z,B,L⟩;simp only at Z B L;refine bC (V:=[0,2,3,5,6,8,9,10,11,12,20,25,26,27,28]) _ _ _ _ ?_;simp only[go_sem]
    (apply aQ<;>intro h)<;>simp only[go_sem,h]
    .have m:i<q.length:=gQ h;clear h;obtain⟨a,H⟩:∃a,q[i]?=some a:=⟨_,aV m⟩
     obtain⟨G,F⟩:=rI H
     have hz:∀(l:List Cel) (y:A),y∈l.map Cel.enc->y.cells.length=(A.cells (Cel.enc default)).length:=λl y O=>by
      obtain⟨z,_,rfl⟩:=cD.1 O
      first|rfl|(simp only[cG];rfl)
     simp only[go_sem,H,m];refine⟨by decide,λy O=>hz a y O,cT rfl rfl (by rw[aK];exact eD λe=>by rw[B e];rfl) (λy O=>hz _ y O) (by rw[G,aI]at F;simp only[aK];omega) (λu hu=>?_)⟩;have U:=eX hu L;rw[eP hu];simp only[go_sem];refine⟨(i+1,some u),⟨m,λh=>(by cases h),λt h=>by cases h;exact U⟩,aP,⟨?_,M.wrap (i:=i) (gQ m)⟩,?_⟩
     .rw[G,bY];rfl
     .rw[G];simp only[gs,aK,aI];exact aG _
    .have m:i=q.length:=by have:¬ i<q.length:=gQ h;omega
     subst m;rw[List.take_length]at B⊢;exact DK.mk hk (gE (aG _) L) (gK _ _ (λe=>by rw[B e];rfl))
theorem aIM{x:aC}{out:List aC}{b:Below}{i:Nat}{y:aC}(h:out[i]?=some y):(iP x out b)[i]?=some y:=by
 unfold iP;split
 .rw[gO (dG.1 h).1];exact h
 .exact h
def mM(m:List Below)(out:List aC):Nat:=m.countP λb=>decide (b.high∈out)
theorem aGL(m:List Below)(out:List aC):mM m out<=m.length:=List.countP_le_length
theorem aFP(out:List aC)(h:aC):∀m:List Below,mM m out<=mM m (out++[h])
 | []=>bL _
 | c::r=>by
  have y:=aFP out h r;simp only[mM,List.countP_cons,dK,cC,dA]at y⊢;split<;>split<;>first|omega|(rename_i q u;exact cV (Or.inl q) u)
theorem aGx(out:List aC)(h:aC)(y:h ∉ out):∀(q:List Below) (b:Below),b∈q->b.high=h->mM q out+1<=mM q (out++[h])
 | [],b,m,_=>by cases m
 | c::r,b,m,u=>by
  have G:=aFP out h r;have z:=λm=>aGx out h y r b m u
  simp only[mM,List.countP_cons,dK,cC,dA]at z G⊢;rcases List.mem_cons.1 m with rfl|m
  .rw[aD (by rw[u];exact y),aE (.inr u)];omega
  .have:=z m;split<;>split<;>first|omega|(rename_i B F;exact cV (Or.inl B) F)
theorem aEe{m:List Below}{x:aC}{out:List aC}{b:Below}(q:b∈m)(h:out.length<=1+mM m out):(iP x out b).length<=1+mM m (iP x out b):=by
 unfold iP;split
 .rename_i u;have:=aGx out b.high u.2 m b q rfl;rw[aI,List.length_singleton];omega
 .exact h
theorem aIs{m:List Below}{x:aC}{out:List aC}{j:Nat}{b:Below}(h:m[j]?=some b):(m.take (j+1)).foldl (iP x) out=iP x ((m.take j).foldl (iP x) out) b:=by
 rw[eO,h];simp[List.foldl_append]
theorem aKq{m:List Below}{x:aC}{out:List aC}(h:out.length<=1+mM m out):∀l:List Below,(∀b,b∈l->b∈m)->(l.foldl (iP x) out).length<=1+mM m (l.foldl (iP x) out)
 | l,hl=>by
  induction l generalizing out with
  | nil=>exact h
  | cons b r u=>exact u (aEe (hl b (dZ ..)) h) (λc q=>hl c (lL _ q))
theorem aKL(m:List Below)(f:Nat)(out:List aC):vL m f out.length out=out:=by
 cases f with
 | zero=>rfl
 | succ f=>simp only[vL,List.getElem?_eq_none_iff.2 (bL _)]
theorem kX{l:List aC}{y:A}(m:y∈l.map A.str):y.cells.length=1:=by
 obtain⟨z,_,rfl⟩:=cD.1 m;rfl
theorem nI(s:St)(t:Nat)(v w:Nat × TypeId):(s.setT t v).setT t w=s.setT t w:=by simp only[St.setT,xT]
theorem aKb(tk:Option Nat)(s:St)(l:List aC)(x:aC)(KV Kp:St->A->Prop)(m:KV s (.bool (decide (x∈l)))):Den cx 45 [.list tk (l.map .str),.str x] KV Kp s :=
 lU (show nK [.list tk (l.map .str),.str x] [.list none (l.map .str),.str x] from⟨A.le.forget _ _,bF _,trivial⟩) (kR s l x KV Kp m)
theorem aJl(sg:Sig)(a:aC)(hw:sg.below.length<=4294967000)(s:St)(KV Kp:St->A->Prop)(hk:KV s (strs (vJ sg.below a))):Den cx 56 [.agg sg.cs,.str a] KV Kp s:=by
 (refine sH func56 [0,1,2,4,5,6,8,14,18,19,20,21,37] ?_;simp only[go_sem,ntmps56,f56]);(refine aM λp G=>?_);simp only[go_sem];refine .inr λt b6=>?_
 refine Ex.loop (ι:=Nat × List aC) (λc=>[(2,.ptr p 0),(5,.list (some t) (c.2.map .str)),(6,.int .i64 (c.1:Nat))])
  (λc=>(s.setO p (.cells 26 sg.cs)).setT t (c.2.length,9))
  (λc=>c.1<=c.2.length/\c.2.length<=1+mM sg.below c.2/\∃f,f+c.1=sg.below.length+2/\vL sg.below f c.1 c.2=vJ sg.below a) (λc=>sg.below.length+2-c.1) (0,[a]) ⟨aX _,by simp,_,rfl,rfl⟩ ?_ (by exact aG _) ?_
 .simp only[go_sem];exact rfl
 .rintro⟨i,out⟩ ⟨hi,Z,f,hf,H⟩;simp only at hi Z hf H;have b7:=aGL sg.below out;refine bC (V:=[0,1,2,4,5,6,8,14,18,19,20,21,37]) _ _ _ _ ?_;simp only[go_sem,G]
  (apply aQ<;>intro h)<;>simp only[go_sem,h,G]
  .have b4:i<out.length:=gQ h;clear h;obtain⟨x,hx⟩:∃a,out[i]?=some a:=⟨_,aV b4⟩
   obtain⟨f,rfl⟩:∃f',f=f'+1:=⟨f-1,by omega⟩
   simp only[vL,hx]at H
   refine Ex.loop (ι:=Nat × List aC) (λc=>[(2,.ptr p 0),(5,.list (some t) (c.2.map .str)),(6,.int .i64 (i:Nat)),(18,.list none (sg.below.map Below.enc)),(19,.int .i64 (sg.below.length:Nat)),(20,.int .i64 (c.1:Nat))])
    (λc=>(s.setO p (.cells 26 sg.cs)).setT t (c.2.length,9))
    (λc=>c.1<=sg.below.length/\c.2=(sg.below.take c.1).foldl (iP x) out/\c.2[i]?=some x/\c.2.length<=1+mM sg.below c.2) (λc=>sg.below.length-c.1) (0,out) ⟨aX _,rfl,hx,Z⟩ ?_ (by exact aG _) ?_
   .simp only[go_sem]
    try exact rfl
   .rintro⟨j,B⟩ ⟨hj,M,z,O⟩;simp only at hj M z O;have b8:=aGL sg.below B;have b3:i<B.length:=(dG.1 z).1;refine bC (V:=[0,1,2,4,5,6,8,14,18,19,20,21,37]) _ _ _ _ ?_;simp only[go_sem,G]
    (apply aQ<;>intro h)<;>simp only[go_sem,h,G]
    .have m:j<sg.below.length:=gQ h;clear h;obtain⟨b,U⟩:∃a,sg.below[j]?=some a:=⟨_,aV m⟩
     have F:=aIs (x:=x) (out:=out) U;rw[<-M]at F;have b1:b∈sg.below:=cR U;have h4:=aEe (x:=x) b1 O;have h3:=aIM (x:=x) (b:=b) z;have w1:=bM j aB;simp only[go_sem,G,U,m];(refine aM λq S=>?_);simp only[cU,cN,bJ]at S;simp only[go_sem,G,S,U,m,z];(refine bB (OT.r 0 14) [] ?_;simp only[go_sem,G,S,U,m,z]);refine⟨b3,?_⟩
     (apply aQ<;>intro h)<;>simp only[go_sem,h,G,S,U,m,z]
     .have L:b.low=x:=gQ h;clear h;refine dC (aKb _ _ B b.high _ _ ?_);by_cases hm:b.high∈B
      .have d1:decide (b.high∈B)=true:=cZ hm;simp only[go_sem,d1,G,S,U];have e1:iP x B b=B:=by unfold iP;rw[aD (λh=>h.2 hm)]
       rw[e1]at F;exact⟨(j+1,B),⟨m,F.symm,z,O⟩,aP,⟨rfl,w1⟩,fY (hH (And.intro G S))⟩
      .have d1:decide (b.high∈B)=false:=cH hm;have e1:iP x B b=B++[b.high]:=by unfold iP;rw[aE ⟨L,hm⟩]
       rw[e1]at F h3 h4;simp only[go_sem,d1,G,S,U];refine .inl ⟨by decide,λy hy=>by rw[cC.1 hy];rfl,λy hy=>kX hy,by omega,(j+1,B++[b.high]),⟨m,F.symm,h3,h4⟩,aP,⟨by rw[bY];rfl,w1⟩,?_⟩;rw[nI,show B.length+1=(B++[b.high]).length by simp];exact fY (hH (And.intro G S))
     .have L:¬ b.low=x:=gQ h;clear h;have e1:iP x B b=B:=by unfold iP;rw[aD (λh=>L h.1)]
      rw[e1]at F;exact⟨(j+1,B),⟨m,F.symm,z,O⟩,aP,⟨rfl,w1⟩,fY (hH (And.intro G S))⟩
    .have b5:j=sg.below.length:=by have:¬ j<sg.below.length:=gQ h;omega
     subst b5;clear h;rw[List.take_length]at M;subst M;have b0:=aKq (x:=x) Z sg.below (λb h=>h);exact⟨(i+1,_),⟨aP,b0,f,aP,H⟩,aP,⟨rfl,bM i aB⟩,aG _⟩
  .have b2:i=out.length:=by have:¬ i<out.length:=gQ h;omega
   subst b2;rw[aKL]at H;subst H;exact DK.mk hk (gE (tk:=some t) (bQ G (aG s)) (λu hu=>by cases hu;exact b6)) (A.le.forget _ _)
theorem aAM(k y:MK)(v:A):∀m:List (MK × A),gB k (iD y v m)=if y=k then some v else gB k m
 | []=>by
  simp only[iD,gB];by_cases h:k=y
  .rw[aE h,aE h.symm]
  .rw[aD h,aD (Ne.symm h)]
 | (q,w)::r=>by
  have z:=aAM k y v r;simp only[iD];by_cases h:y=q
  .subst h;rw[aE rfl];simp only[gB];by_cases u:k=y
   .rw[aE u,aE u.symm]
   .rw[aD u,aD u,aD (Ne.symm u)]
  .rw[aD h];simp only[gB,z];by_cases u:k=q
   .subst u;rw[aE rfl,aD h,aE rfl]
   .rw[aD u,aD u]
theorem aEy(o:Opr)(x:aC):∀l:List Opr,fH (l++[o]) x=if o.name=x then some o else fH l x
 | []=>by simp only[bP,fH]
 | p::r=>by
  simp only[bS,fH,aEy o x r];by_cases h:o.name=x
  .simp only[aE h]
  .simp only[aD h]
theorem aEH{l:List Opr}{i:Nat}{o:Opr}(h:l[i]?=some o)(x:aC):fH (l.take (i+1)) x=if o.name=x then some o else fH (l.take i) x:=by
 rw[eO,h];exact aEy o x _
def BookAt(s:St)(r:Nat)(sg:Sig):Prop:=∃a o f m u q,s.getO r=some (.cells 114 (sg.cs++[.mp a,.mp o,.mp f]))/\s.getO a=some (.map 0 m)/\s.getO o=some (.map 0 u)/\s.getO f=some (.map 0 q) /\
 (∀x,gB (.str x) m=if x∈nX sg then some (strs (vJ sg.below x)) else none)/\(∀x,gB (.str x) u=(fH sg.ops x).map Opr.enc)/\(∀x,gB (.str x) q=(fH sg.funs x).map Opr.enc)
theorem BookAt.ge{s s':St}{r:Nat}{sg:Sig}(h:BookAt s r sg)(m:s'.ge s):BookAt s' r sg:=by
 obtain⟨a,o,f,F,H,G,q,u,y,z,B⟩:=h;exact⟨a,o,f,F,H,G,m.ob _ _ q,m.ob _ _ u,m.ob _ _ y,m.ob _ _ z,B⟩
theorem aCu(sg:Sig)(hw:sg.below.length<=4294967000)(b4:sg.sorts.length<=4294967000)(s:St)(KV Kp:St->A->Prop)(hk:∀s' r,s'.ge s->BookAt s' r sg->KV s' (.ptr r 0)):Den cx 21 [.agg sg.cs] KV Kp s:=by
 refine fS λb0=>?_
 have Z:=b0 _ (dZ ..);have b3:Rlz (.list none (sg.ops.map Opr.enc)):=Z.cell (by simp[Sig.cs]);have b2:Rlz (.list none (sg.funs.map Opr.enc)):=Z.cell (by simp[Sig.cs]);clear b0 Z;(refine aL func21 [0,1,2,3,5,7,9,20,21,22,23,36,37,38,39,51,52,53,54] ?_;simp only[go_sem,ntmps21,f21]);(refine aM λp u=>?_);simp only[go_sem,u];(refine aM λa z=>?_);simp only[go_sem,u,z];(refine aM λo ho=>?_);simp only[go_sem,u,z,ho];(refine aM λf B=>?_);simp only[go_sem,u,z,ho,B];(refine aM λr F=>?_);simp only[go_sem,u,z,ho,B,F];(refine bB (OT.l [1,2,6,0,3,4,5] .nil) [(0,[2])] ?_;simp only[go_sem,u,z,ho,B,F]);refine aEf _ _ _ ?_;simp only[go_sem,u,z,ho,B,F];refine aIN [tD,sg.sorts] (by simp only[List.flatten_cons,List.flatten_nil,dQ,aI,tD,aO,aU];omega) _ _ _ ?_;rw[show [tD,sg.sorts].flatten=nX sg by simp[nX]];simp only[go_sem,u,z,ho,B,F];have b1:(nX sg).length<=4294967200:=by simp only[nX,tD,aI,aO,aU];omega
 generalize hL:nX sg=L at b1⊢;have en:¬ a=r:=λe=>by subst e;simp at F
 refine Ex.loop (ι:=Nat × List (MK × A)) (λc=>[(1,.ptr p 0),(3,.ptr r 0),(20,.list none (L.map .str)),(21,.int .i64 (L.length:Nat)),(22,.int .i64 (c.1:Nat))])
  (λc=>((((s.setO p (.cells 26 sg.cs)).setO a (.map 0 c.2)).setO o (.map 0 [])).setO f (.map 0 [])).setO r (.cells 114 (sg.cs++[.mp a,.mp o,.mp f])))
  (λc=>c.1<=L.length/\∀x,gB (.str x) c.2=if x∈L.take c.1 then some (strs (vJ sg.below x)) else none) (λc=>L.length-c.1) (0,[]) ⟨aX _,λx=>by simp[gB]⟩ ?_ (by simp only[Sig.cs,bS,bP];exact aG _) ?_
 .simp only[go_sem]
  try exact rfl
 .rintro⟨i,ma⟩ ⟨M,O⟩;simp only at M O;refine bC (V:=[0,1,2,3,5,7,9,20,21,22,23,36,37,38,39,51,52,53,54]) _ _ _ _ ?_;simp only[go_sem,u,z,ho,B,F]
  (apply aQ<;>intro h)<;>simp only[go_sem,h,u,z,ho,B,F]
  .have m:i<L.length:=gQ h;clear h;obtain⟨x,G⟩:∃a,L[i]?=some a:=⟨_,aV m⟩
   simp only[go_sem,u,z,ho,B,F,G,m];(refine bB (OT.r 0 9) [(7,[3])] ?_;simp only[go_sem,u,z,ho,B,F,G,m]);refine aJl sg x hw _ _ _ ?_;simp only[go_sem,u,z,ho,B,F,G,m,strs];refine⟨(i+1,iD (.str x) (strs (vJ sg.below x)) ma),⟨m,λy=>?_⟩,aP,bM i aB,?_⟩;rotate_left
   .simp only[Sig.cs,bS,bP,strs];exact bK
   .rw[aAM,O,eO,G];simp only[Option.toList,dK,cC];by_cases e:x=y
    .subst e;rw[aE rfl,aE (.inr rfl)];rfl
    .rw[aD (λh=>e (by injection h))];by_cases e2:y∈L.take i
     .rw[aE e2,aE (.inl e2)];rfl
     .rw[aD e2,aD (λh=>h.elim e2 (λh=>e h.symm))]
  .have H:i=L.length:=by have:¬ i<L.length:=gQ h;omega
   subst H;rw[List.take_length]at O
   refine Ex.loop (ι:=Nat × List (MK × A)) (λc=>[(1,.ptr p 0),(3,.ptr r 0),(36,.list none (sg.ops.map Opr.enc)),(37,.int .i64 (sg.ops.length:Nat)),(38,.int .i64 (c.1:Nat))])
    (λc=>((((s.setO p (.cells 26 sg.cs)).setO a (.map 0 ma)).setO o (.map 0 c.2)).setO f (.map 0 [])).setO r (.cells 114 (sg.cs++[.mp a,.mp o,.mp f])))
    (λc=>c.1<=sg.ops.length/\∀x,gB (.str x) c.2=(fH (sg.ops.take c.1) x).map Opr.enc) (λc=>sg.ops.length-c.1) (0,[]) ⟨aX _,λx=>by simp[gB,fH]⟩ ?_ (by simp only[Sig.cs,bS,bP];exact aG _) ?_
   .simp only[go_sem]
    try exact rfl
   .clear M h;rintro⟨i,mo⟩ ⟨M,U⟩;simp only at M U;refine bC (V:=[0,1,2,3,5,7,9,20,21,22,23,36,37,38,39,51,52,53,54]) _ _ _ _ ?_;simp only[go_sem,u,z,ho,B,F]
    (apply aQ<;>intro h)<;>simp only[go_sem,h,u,z,ho,B,F]
    .have m:i<sg.ops.length:=gQ h;clear h;obtain⟨x,G⟩:∃a,sg.ops[i]?=some a:=⟨_,aV m⟩
     simp only[go_sem,u,z,ho,B,F,G,m];(refine aM λq hq=>?_);simp only[go_sem,u,z,ho,B,F,G,m,hq];(refine bB (OT.r 0 8) [] ?_;simp only[go_sem,u,z,ho,B,F,G,m,hq]);refine⟨(i+1,iD (.str x.name) x.enc mo),⟨m,λy=>?_⟩,aP,b3.wrap (i:=i) (gQ m),?_⟩;rotate_left
     .simp only[Sig.cs,Opr.enc,Opr.cs,bS,bP];exact bK
     .rw[aAM,aEH G,U];by_cases e:x.name=y
      .rw[aE e,aE (by rw[e])];rfl
      .rw[aD e,aD (λh=>e (by injection h))]
    .have H:i=sg.ops.length:=Nat.le_antisymm M (Nat.le_of_not_lt (gQ h));subst H;rw[List.take_length]at U
     refine Ex.loop (ι:=Nat × List (MK × A)) (λc=>[(1,.ptr p 0),(3,.ptr r 0),(51,.list none (sg.funs.map Opr.enc)),(52,.int .i64 (sg.funs.length:Nat)),(53,.int .i64 (c.1:Nat))])
      (λc=>((((s.setO p (.cells 26 sg.cs)).setO a (.map 0 ma)).setO o (.map 0 mo)).setO f (.map 0 c.2)).setO r (.cells 114 (sg.cs++[.mp a,.mp o,.mp f])))
      (λc=>c.1<=sg.funs.length/\∀x,gB (.str x) c.2=(fH (sg.funs.take c.1) x).map Opr.enc) (λc=>sg.funs.length-c.1) (0,[]) ⟨aX _,λx=>by simp[gB,fH]⟩ ?_ (by simp only[Sig.cs,bS,bP];exact aG _) ?_
     .simp only[go_sem]
      try exact rfl
     .clear M h;rintro⟨i,mf⟩ ⟨M,S⟩;simp only at M S;refine bC (V:=[0,1,2,3,5,7,9,20,21,22,23,36,37,38,39,51,52,53,54]) _ _ _ _ ?_;simp only[go_sem,u,z,ho,B,F]
      (apply aQ<;>intro h)<;>simp only[go_sem,h,u,z,ho,B,F]
      .have m:i<sg.funs.length:=gQ h;clear h;obtain⟨x,G⟩:∃a,sg.funs[i]?=some a:=⟨_,aV m⟩
       simp only[go_sem,u,z,ho,B,F,G,m];(refine aM λq hq=>?_);simp only[go_sem,u,z,ho,B,F,G,m,hq];(refine bB (OT.r 0 8) [] ?_;simp only[go_sem,u,z,ho,B,F,G,m,hq]);refine⟨(i+1,iD (.str x.name) x.enc mf),⟨m,λy=>?_⟩,aP,b2.wrap (i:=i) (gQ m),?_⟩;rotate_left
       .simp only[Sig.cs,Opr.enc,Opr.cs,bS,bP];exact bK
       .rw[aAM,aEH G,S];by_cases e:x.name=y
        .rw[aE e,aE (by rw[e])];rfl
        .rw[aD e,aD (λh=>e (by injection h))]
      .have H:i=sg.funs.length:=Nat.le_antisymm M (Nat.le_of_not_lt (gQ h));subst H;rw[List.take_length]at S;refine aN (hk _ r ?_ ⟨a,o,f,ma,mo,mf,?_,?_,?_,?_,by rw[hL];exact O,U,S⟩)
       .exact bA
       .simp only[Sig.cs,bS,bP];exact gH
       .exact gH
       .exact gH
       .exact gH
theorem aJh(l:List aC)(q:aC->Bool)(f:FuncId)(first u:List A)(s:St)(KV Kp:St->A->Prop)
  (O:∀x,x∈l->∀KV Kp:St->A->Prop,KV s (.bool (q x))->Den cx f (first++[A.str x]++u) KV Kp s)
  (L:∀r:Int,decide (0<=r)=l.any q->KV s (.int .i64 r)):Den cx 82 [.list none (l.map A.str),.fn f first u] KV Kp s:=by
 refine fS λB=>?_
 have G:=B _ (dZ ..);clear B;(refine aL func82 [0,1,4,5,7,8,9,16] ?_;simp only[go_sem,ntmps82,f82])
 refine Ex.loop (ι:=Nat) (λi=>[(0,.list none (l.map A.str)),(1,.fn f first u),(7,.int .i64 (l.length:Nat)),(8,.int .i64 (i:Nat))])
  (λ_=>s) (λi=>i<=l.length/\(l.take i).any q=false) (λi=>l.length-i) 0 ⟨aX _,rfl⟩ ?_ (aG _) ?_
 .simp only[go_sem]
  try exact rfl
 .rintro i ⟨U,H⟩;refine bC (V:=[0,1,4,5,7,8,9,16]) _ _ _ _ ?_;simp only[go_sem]
  (apply aQ<;>intro h)<;>simp only[go_sem,h]
  .have m:i<l.length:=gQ h;clear h;obtain⟨x,y⟩:∃a,l[i]?=some a:=⟨_,aV m⟩
   have z:x∈l:=cR y;have S:(l.take (i+1)).any q=q x:=by rw[eO,y,List.any_append,H];simp
   simp only[go_sem,y,m];refine O x z _ _ ?_;cases M:q x
   .simp only[go_sem,y,m];exact⟨i+1,⟨m,by rw[S,M]⟩,by omega,G.wrap (i:=i) (gQ m),aG _⟩
   .simp only[go_sem,y,m];exact aN (L _ (by rw[List.any_eq_true.2 ⟨x,z,M⟩,dA];omega))
  .have F:i=l.length:=by have:¬ i<l.length:=gQ h;omega
   subst F;rw[List.take_length]at H;exact aN (L _ (by rw[H];rfl))
theorem aB8(l:List aC)(q:aC->Bool)(f:FuncId)(first m:List A)(s:St)(KV Kp:St->A->Prop)
  (u:∀x,x∈l->∀KV Kp:St->A->Prop,KV s (.bool (q x))->Den cx f (first++[A.str x]++m) KV Kp s)
  (y:KV s (.bool (l.any q))):Den cx 36 [.list none (l.map A.str),.fn f first m] KV Kp s:=by
 (refine aL func36 [0,1,4] ?_;simp only[go_sem,ntmps36,f36]);refine aJh l q f first m _ _ _ u (λr z=>?_)
 simp only[go_sem,z];exact aN y
theorem aIJ(l:List Below)(q:Below->Bool)(f:FuncId)(first u:List A)(s:St)(KV Kp:St->A->Prop)
  (O:∀x,x∈l->∀KV Kp:St->A->Prop,KV s (.bool (q x))->Den cx f (first++[Below.enc x]++u) KV Kp s)
  (L:∀r:Int,decide (0<=r)=l.any q->KV s (.int .i64 r)):Den cx 133 [.list none (l.map Below.enc),.fn f first u] KV Kp s:=by
 refine fS λB=>?_
 have G:=B _ (dZ ..);clear B;(refine aL func133 [0,1,4,5,7,8,9,16] ?_;simp only[go_sem,ntmps133,f133])
 refine Ex.loop (ι:=Nat) (λi=>[(0,.list none (l.map Below.enc)),(1,.fn f first u),(7,.int .i64 (l.length:Nat)),(8,.int .i64 (i:Nat))])
  (λ_=>s) (λi=>i<=l.length/\(l.take i).any q=false) (λi=>l.length-i) 0 ⟨aX _,rfl⟩ ?_ (aG _) ?_
 .simp only[go_sem]
  try exact rfl
 .rintro i ⟨U,H⟩;refine bC (V:=[0,1,4,5,7,8,9,16]) _ _ _ _ ?_;simp only[go_sem]
  (apply aQ<;>intro h)<;>simp only[go_sem,h]
  .have m:i<l.length:=gQ h;clear h;obtain⟨x,y⟩:∃a,l[i]?=some a:=⟨_,aV m⟩
   have z:x∈l:=cR y;have S:(l.take (i+1)).any q=q x:=by rw[eO,y,List.any_append,H];simp
   simp only[go_sem,y,m];refine O x z _ _ ?_;cases M:q x
   .simp only[go_sem,y,m];exact⟨i+1,⟨m,by rw[S,M]⟩,by omega,G.wrap (i:=i) (gQ m),aG _⟩
   .simp only[go_sem,y,m];exact aN (L _ (by rw[List.any_eq_true.2 ⟨x,z,M⟩,dA];omega))
  .have F:i=l.length:=by have:¬ i<l.length:=gQ h;omega
   subst F;rw[List.take_length]at H;exact aN (L _ (by rw[H];rfl))
theorem aJd(l:List Below)(q:Below->Bool)(f:FuncId)(first m:List A)(s:St)(KV Kp:St->A->Prop)
  (u:∀x,x∈l->∀KV Kp:St->A->Prop,KV s (.bool (q x))->Den cx f (first++[Below.enc x]++m) KV Kp s)
  (y:KV s (.bool (l.any q))):Den cx 87 [.list none (l.map Below.enc),.fn f first m] KV Kp s:=by
 (refine aL func87 [0,1,4] ?_;simp only[go_sem,ntmps87,f87]);refine aIJ l q f first m _ _ _ u (λr z=>?_)
 simp only[go_sem,z];exact aN y
theorem aIP(l:List Opr)(q:Opr->Bool)(f:FuncId)(first u:List A)(s:St)(KV Kp:St->A->Prop)
  (O:∀x,x∈l->∀KV Kp:St->A->Prop,KV s (.bool (q x))->Den cx f (first++[Opr.enc x]++u) KV Kp s)
  (L:∀r:Int,decide (0<=r)=l.any q->KV s (.int .i64 r)):Den cx 134 [.list none (l.map Opr.enc),.fn f first u] KV Kp s:=by
 refine fS λB=>?_
 have G:=B _ (dZ ..);clear B;(refine aL func134 [0,1,4,5,7,8,9,16] ?_;simp only[go_sem,ntmps134,f134])
 refine Ex.loop (ι:=Nat) (λi=>[(0,.list none (l.map Opr.enc)),(1,.fn f first u),(7,.int .i64 (l.length:Nat)),(8,.int .i64 (i:Nat))])
  (λ_=>s) (λi=>i<=l.length/\(l.take i).any q=false) (λi=>l.length-i) 0 ⟨aX _,rfl⟩ ?_ (aG _) ?_
 .simp only[go_sem]
  try exact rfl
 .rintro i ⟨U,H⟩;refine bC (V:=[0,1,4,5,7,8,9,16]) _ _ _ _ ?_;simp only[go_sem]
  (apply aQ<;>intro h)<;>simp only[go_sem,h]
  .have m:i<l.length:=gQ h;clear h;obtain⟨x,y⟩:∃a,l[i]?=some a:=⟨_,aV m⟩
   have z:x∈l:=cR y;have S:(l.take (i+1)).any q=q x:=by rw[eO,y,List.any_append,H];simp
   simp only[go_sem,y,m];refine O x z _ _ ?_;cases M:q x
   .simp only[go_sem,y,m];exact⟨i+1,⟨m,by rw[S,M]⟩,by omega,G.wrap (i:=i) (gQ m),aG _⟩
   .simp only[go_sem,y,m];exact aN (L _ (by rw[List.any_eq_true.2 ⟨x,z,M⟩,dA];omega))
  .have F:i=l.length:=by have:¬ i<l.length:=gQ h;omega
   subst F;rw[List.take_length]at H;exact aN (L _ (by rw[H];rfl))
theorem aIV(l:List Opr)(q:Opr->Bool)(f:FuncId)(first m:List A)(s:St)(KV Kp:St->A->Prop)
  (u:∀x,x∈l->∀KV Kp:St->A->Prop,KV s (.bool (q x))->Den cx f (first++[Opr.enc x]++m) KV Kp s)
  (y:KV s (.bool (l.any q))):Den cx 89 [.list none (l.map Opr.enc),.fn f first m] KV Kp s:=by
 (refine aL func89 [0,1,4] ?_;simp only[go_sem,ntmps89,f89]);refine aIP l q f first m _ _ _ u (λr z=>?_)
 simp only[go_sem,z];exact aN y
theorem aIF(l:List Int)(q:Int->Bool)(f:FuncId)(first u:List A)(s:St)(KV Kp:St->A->Prop)
  (O:∀x,x∈l->∀KV Kp:St->A->Prop,KV s (.bool (q x))->Den cx f (first++[A.int .i64 x]++u) KV Kp s)
  (L:∀r:Int,decide (0<=r)=l.any q->KV s (.int .i64 r)):Den cx 178 [.list none (l.map (A.int .i64)),.fn f first u] KV Kp s:=by
 refine fS λB=>?_
 have G:=B _ (dZ ..);clear B;(refine aL func178 [0,1,4,5,7,8,9,16] ?_;simp only[go_sem,ntmps178,f178])
 refine Ex.loop (ι:=Nat) (λi=>[(0,.list none (l.map (A.int .i64))),(1,.fn f first u),(7,.int .i64 (l.length:Nat)),(8,.int .i64 (i:Nat))])
  (λ_=>s) (λi=>i<=l.length/\(l.take i).any q=false) (λi=>l.length-i) 0 ⟨aX _,rfl⟩ ?_ (aG _) ?_
 .simp only[go_sem]
  try exact rfl
 .rintro i ⟨U,H⟩;refine bC (V:=[0,1,4,5,7,8,9,16]) _ _ _ _ ?_;simp only[go_sem]
  (apply aQ<;>intro h)<;>simp only[go_sem,h]
  .have m:i<l.length:=gQ h;clear h;obtain⟨x,y⟩:∃a,l[i]?=some a:=⟨_,aV m⟩
   have z:x∈l:=cR y;have S:(l.take (i+1)).any q=q x:=by rw[eO,y,List.any_append,H];simp
   simp only[go_sem,y,m];refine O x z _ _ ?_;cases M:q x
   .simp only[go_sem,y,m];exact⟨i+1,⟨m,by rw[S,M]⟩,by omega,G.wrap (i:=i) (gQ m),aG _⟩
   .simp only[go_sem,y,m];exact aN (L _ (by rw[List.any_eq_true.2 ⟨x,z,M⟩,dA];omega))
  .have F:i=l.length:=by have:¬ i<l.length:=gQ h;omega
   subst F;rw[List.take_length]at H;exact aN (L _ (by rw[H];rfl))
theorem aI7(l:List Int)(q:Int->Bool)(f:FuncId)(first m:List A)(s:St)(KV Kp:St->A->Prop)
  (u:∀x,x∈l->∀KV Kp:St->A->Prop,KV s (.bool (q x))->Den cx f (first++[A.int .i64 x]++m) KV Kp s)
  (y:KV s (.bool (l.any q))):Den cx 136 [.list none (l.map (A.int .i64)),.fn f first m] KV Kp s:=by
 (refine aL func136 [0,1,4] ?_;simp only[go_sem,ntmps136,f136]);refine aIF l q f first m _ _ _ u (λr z=>?_)
 simp only[go_sem,z];exact aN y
theorem aJb(l:List Tm)(q:Tm->Bool)(f:FuncId)(first u:List A)(s:St)(KV Kp:St->A->Prop)
  (O:∀x,x∈l->∀KV Kp:St->A->Prop,KV s (.bool (q x))->Den cx f (first++[.agg x.cs]++u) KV Kp s)
  (L:∀r:Int,decide (0<=r)=l.any q->KV s (.int .i64 r)):Den cx 83 [.list none (l.map Tm.enc),.fn f first u] KV Kp s:=by
 refine fS λB=>?_
 have G:=B _ (dZ ..);clear B;(refine aL func83 [0,1,4,5,7,8,9,16] ?_;simp only[go_sem,ntmps83,f83])
 refine Ex.loop (ι:=Nat) (λi=>[(0,.list none (l.map Tm.enc)),(1,.fn f first u),(7,.int .i64 (l.length:Nat)),(8,.int .i64 (i:Nat))])
  (λ_=>s) (λi=>i<=l.length/\(l.take i).any q=false) (λi=>l.length-i) 0 ⟨aX _,rfl⟩ ?_ (aG _) ?_
 .simp only[go_sem]
  try exact rfl
 .rintro i ⟨U,H⟩;refine bC (V:=[0,1,4,5,7,8,9,16]) _ _ _ _ ?_;simp only[go_sem]
  (apply aQ<;>intro h)<;>simp only[go_sem,h]
  .have m:i<l.length:=gQ h;clear h;obtain⟨x,y⟩:∃a,l[i]?=some a:=⟨_,aV m⟩
   have z:x∈l:=cR y;have S:(l.take (i+1)).any q=q x:=by rw[eO,y,List.any_append,H];simp
   simp only[go_sem,y,m];refine O x z _ _ ?_;cases M:q x
   .simp only[go_sem,y,m];exact⟨i+1,⟨m,by rw[S,M]⟩,by omega,G.wrap (i:=i) (gQ m),aG _⟩
   .simp only[go_sem,y,m];exact aN (L _ (by rw[List.any_eq_true.2 ⟨x,z,M⟩,dA];omega))
  .have F:i=l.length:=by have:¬ i<l.length:=gQ h;omega
   subst F;rw[List.take_length]at H;exact aN (L _ (by rw[H];rfl))
theorem aJ7(l:List Tm)(q:Tm->Bool)(f:FuncId)(first m:List A)(s:St)(KV Kp:St->A->Prop)
  (u:∀x,x∈l->∀KV Kp:St->A->Prop,KV s (.bool (q x))->Den cx f (first++[.agg x.cs]++m) KV Kp s)
  (y:KV s (.bool (l.any q))):Den cx 38 [.list none (l.map Tm.enc),.fn f first m] KV Kp s:=by
 (refine aL func38 [0,1,4] ?_;simp only[go_sem,ntmps38,f38]);refine aJb l q f first m _ _ _ u (λr z=>?_)
 simp only[go_sem,z];exact aN y
theorem aIL(l:List Part)(q:Part->Bool)(f:FuncId)(first u:List A)(s:St)(KV Kp:St->A->Prop)
  (O:∀x,x∈l->∀KV Kp:St->A->Prop,KV s (.bool (q x))->Den cx f (first++[Part.enc x]++u) KV Kp s)
  (L:∀r:Int,decide (0<=r)=l.any q->KV s (.int .i64 r)):Den cx 146 [.list none (l.map Part.enc),.fn f first u] KV Kp s:=by
 refine fS λB=>?_
 have G:=B _ (dZ ..);clear B;(refine aL func146 [0,1,4,5,7,8,9,16] ?_;simp only[go_sem,ntmps146,f146])
 refine Ex.loop (ι:=Nat) (λi=>[(0,.list none (l.map Part.enc)),(1,.fn f first u),(7,.int .i64 (l.length:Nat)),(8,.int .i64 (i:Nat))])
  (λ_=>s) (λi=>i<=l.length/\(l.take i).any q=false) (λi=>l.length-i) 0 ⟨aX _,rfl⟩ ?_ (aG _) ?_
 .simp only[go_sem]
  try exact rfl
 .rintro i ⟨U,H⟩;refine bC (V:=[0,1,4,5,7,8,9,16]) _ _ _ _ ?_;simp only[go_sem]
  (apply aQ<;>intro h)<;>simp only[go_sem,h]
  .have m:i<l.length:=gQ h;clear h;obtain⟨x,y⟩:∃a,l[i]?=some a:=⟨_,aV m⟩
   have z:x∈l:=cR y;have S:(l.take (i+1)).any q=q x:=by rw[eO,y,List.any_append,H];simp
   simp only[go_sem,y,m];refine O x z _ _ ?_;cases M:q x
   .simp only[go_sem,y,m];exact⟨i+1,⟨m,by rw[S,M]⟩,by omega,G.wrap (i:=i) (gQ m),aG _⟩
   .simp only[go_sem,y,m];exact aN (L _ (by rw[List.any_eq_true.2 ⟨x,z,M⟩,dA];omega))
  .have F:i=l.length:=by have:¬ i<l.length:=gQ h;omega
   subst F;rw[List.take_length]at H;exact aN (L _ (by rw[H];rfl))
theorem aEl(l:List Part)(q:Part->Bool)(f:FuncId)(first m:List A)(s:St)(KV Kp:St->A->Prop)
  (u:∀x,x∈l->∀KV Kp:St->A->Prop,KV s (.bool (q x))->Den cx f (first++[Part.enc x]++m) KV Kp s)
  (y:KV s (.bool (l.any q))):Den cx 111 [.list none (l.map Part.enc),.fn f first m] KV Kp s:=by
 (refine aL func111 [0,1,4] ?_;simp only[go_sem,ntmps111,f111]);refine aIL l q f first m _ _ _ u (λr z=>?_)
 simp only[go_sem,z];exact aN y
theorem aAd(l:List aC)(q:aC->Bool)(f:FuncId)(first m:List A)(s:St)(KV Kp:St->A->Prop)
  (z:∀x,x∈l->∀(s':St) (KV Kp:St->A->Prop),s'.ge s->KV s' (.bool (q x))->Den cx f (first++[A.str x]++m) KV Kp s')
  (u:KV s (.bool (l.all q))):Den cx 47 [.list none (l.map A.str),.fn f first m] KV Kp s:=by
 (refine aL func47 [0,1,3,4] ?_;simp only[go_sem,ntmps47,f47]);(refine aM λp y=>?_);simp only[go_sem,y];refine aB8 l (λx=>!q x) 86 [] [.ptr p 0] _ _ _ (λx B KV Kp u=>?_) ?_
 ·(refine aL func86 [0,1,3] ?_;simp only[go_sem,ntmps86,f86])
  (try simp only[go_sem])
  first|(refine z x B _ _ _ (bQ y (aG s)) ?_;simp only[go_sem];exact aN u)|((refine aM λq F=>?_);simp only[go_sem,y,F];refine z x B _ _ _ bA ?_;simp only[go_sem];exact aF u bK)
 .have e:(!l.any λx=>!q x)=l.all q:=by simp[List.any_eq_not_all_not]
  simp only[go_sem,e];exact aF u bA
theorem aKp(l:List Below)(q:Below->Bool)(f:FuncId)(first m:List A)(s:St)(KV Kp:St->A->Prop)
  (z:∀x,x∈l->∀(s':St) (KV Kp:St->A->Prop),s'.ge s->KV s' (.bool (q x))->Den cx f (first++[Below.enc x]++m) KV Kp s')
  (u:KV s (.bool (l.all q))):Den cx 49 [.list none (l.map Below.enc),.fn f first m] KV Kp s:=by
 (refine aL func49 [0,1,3,4] ?_;simp only[go_sem,ntmps49,f49]);(refine aM λp y=>?_);simp only[go_sem,y];refine aJd l (λx=>!q x) 88 [] [.ptr p 0] _ _ _ (λx B KV Kp u=>?_) ?_
 ·(refine aL func88 [0,1,2,3] ?_;simp only[go_sem,ntmps88,f88])
  (try simp only[go_sem])
  first|(refine z x B _ _ _ (bQ y (aG s)) ?_;simp only[go_sem];exact aN u)|((refine aM λq F=>?_);simp only[go_sem,y,F];refine z x B _ _ _ bA ?_;simp only[go_sem];exact aF u bK)
 .have e:(!l.any λx=>!q x)=l.all q:=by simp[List.any_eq_not_all_not]
  simp only[go_sem,e];exact aF u bA
theorem aE8(l:List Opr)(q:Opr->Bool)(f:FuncId)(first m:List A)(s:St)(KV Kp:St->A->Prop)
  (z:∀x,x∈l->∀(s':St) (KV Kp:St->A->Prop),s'.ge s->KV s' (.bool (q x))->Den cx f (first++[Opr.enc x]++m) KV Kp s')
  (u:KV s (.bool (l.all q))):Den cx 52 [.list none (l.map Opr.enc),.fn f first m] KV Kp s:=by
 (refine aL func52 [0,1,3,4] ?_;simp only[go_sem,ntmps52,f52]);(refine aM λp y=>?_);simp only[go_sem,y];refine aIV l (λx=>!q x) 90 [] [.ptr p 0] _ _ _ (λx B KV Kp u=>?_) ?_
 ·(refine aL func90 [0,1,2,3] ?_;simp only[go_sem,ntmps90,f90])
  (try simp only[go_sem])
  first|(refine z x B _ _ _ (bQ y (aG s)) ?_;simp only[go_sem];exact aN u)|((refine aM λq F=>?_);simp only[go_sem,y,F];refine z x B _ _ _ bA ?_;simp only[go_sem];exact aF u bK)
 .have e:(!l.any λx=>!q x)=l.all q:=by simp[List.any_eq_not_all_not]
  simp only[go_sem,e];exact aF u bA
theorem aKz(l:List Int)(q:Int->Bool)(f:FuncId)(first m:List A)(s:St)(KV Kp:St->A->Prop)
  (z:∀x,x∈l->∀(s':St) (KV Kp:St->A->Prop),s'.ge s->KV s' (.bool (q x))->Den cx f (first++[(A.int .i64) x]++m) KV Kp s')
  (u:KV s (.bool (l.all q))):Den cx 94 [.list none (l.map (A.int .i64)),.fn f first m] KV Kp s:=by
 (refine aL func94 [0,1,3,4] ?_;simp only[go_sem,ntmps94,f94]);(refine aM λp y=>?_);simp only[go_sem,y];refine aI7 l (λx=>!q x) 137 [] [.ptr p 0] _ _ _ (λx B KV Kp u=>?_) ?_
 ·(refine aL func137 [0,1,3] ?_;simp only[go_sem,ntmps137,f137])
  (try simp only[go_sem])
  first|(refine z x B _ _ _ (bQ y (aG s)) ?_;simp only[go_sem];exact aN u)|((refine aM λq F=>?_);simp only[go_sem,y,F];refine z x B _ _ _ bA ?_;simp only[go_sem];exact aF u bK)
 .have e:(!l.any λx=>!q x)=l.all q:=by simp[List.any_eq_not_all_not]
  simp only[go_sem,e];exact aF u bA
section
section
variable {r:Nat} {sg:Sig} {s:St} {KV Kp:St->A->Prop}
theorem oU(h:BookAt s r sg)(x:aC)(m:KV s (.bool (iB sg x))):Den cx 51 [.ptr r 0,.str x] KV Kp s:=by
 obtain⟨a,o,f,H,M,L,z,y,ho,F,B,G,lf⟩:=h;have u:=B x;unfold iB at m;(refine aL func51 [0,1,4,6] ?_;simp only[go_sem,ntmps51,f51]);by_cases q:x∈nX sg
 .rw[aE q]at u;rw[cZ q]at m;simp only[go_sem,z,y,u,strs];exact aN m
 .rw[aD q]at u;rw[cH q]at m;simp only[go_sem,z,y,u,List.headD_cons];exact aN m
theorem aEc(x:aC)(m:KV s (.bool false)):Den cx 45 [.nils,.str x] KV Kp s :=
 lU (show nK [.nils,.str x] [.list none (([]:List aC).map .str),.str x] from⟨A.le.nil,bF _,trivial⟩) (kR s [] x KV Kp m)
theorem aB1(h:BookAt s r sg)(x y:aC)(m:KV s (.bool (sY sg x y))):Den cx 110 [.ptr r 0,.str x,.str y] KV Kp s:=by
 obtain⟨a,o,f,O,U,S,G,B,ho,L,H,M,lf⟩:=h;have u:=H x;unfold sY aAX at m;(refine aL func110 [0,1,2,6] ?_;simp only[go_sem,ntmps110,f110]);by_cases z:y=[65,110,121]
 .rw[cZ z]at m;have q:decide (y=[65,110,121])=true:=cZ z;simp only[go_sem,q];exact aN m
 .rw[cH z]at m;have q:decide (y=[65,110,121])=false:=cH z;by_cases F:x∈nX sg
  .rw[aE F]at u m;simp only[go_sem,G,B,u,strs,q];refine kR _ _ _ _ _ ?_;simp only[go_sem];exact aN m
  .rw[aD F]at u m;simp only[go_sem,G,B,u,List.headD_cons,q];refine aEc _ ?_;simp only[go_sem];exact aN m
theorem aET(h:BookAt s r sg)(x y:aC)(m:KV s (.bool (tJ sg x y))):Den cx 105 [.ptr r 0,.str x,.str y] KV Kp s:=by
 unfold tJ at m;(refine aL func105 [0,1,2,6] ?_;simp only[go_sem,ntmps105,f105]);refine aB1 h x y ?_;cases q:sY sg x y<;>rw[q]at m<;>simp only[go_sem]
 .refine aB1 h y x ?_;simp only[go_sem];exact aN m
 .exact aN m
theorem aCN:A.le (.agg [.str [],.nils,.str [],.nils,.int .i64 0,.int .i64 0,.nils]) nG.enc :=
 A.le.agg ⟨⟨bF _,rfl⟩,⟨A.le.nil,rfl⟩,⟨bF _,rfl⟩,⟨A.le.nil,rfl⟩,⟨bF _,rfl⟩,⟨bF _,rfl⟩,⟨A.le.nil,rfl⟩,trivial⟩
theorem aKY(h:BookAt s r sg)(x:aC)(G:KV s (.tuple [((fH sg.ops x).getD nG).enc,.bool (fH sg.ops x).isSome])):Den cx 141 [.ptr r 0,.str x] KV Kp s:=by
 obtain⟨a,o,f,U,mo,Z,z,M,ho,O,S,L,lf⟩:=h;have m:=L x;(refine aL func141 [0,1,4,5,6,7] ?_;simp only[go_sem,ntmps141,f141]);(refine aM λp u=>?_);have B:=aS z u;have F:=aS ho u;cases hl:fH sg.ops x with
 | none =>
  rw[hl]at m G;simp only[Option.map_none]at m;simp only[go_sem,u,z,ho,m,List.headD_cons,B,F];(refine aM λq H=>?_);simp only[go_sem,u,z,ho,m,List.headD_cons,H,B,F];exact DK.mk G bA (A.le.tuple ⟨aCN,bF _,trivial⟩)
 | some y =>
  rw[hl]at m G;simp only[jM]at m;simp only[go_sem,u,z,ho,m,List.headD_cons,B,F];(refine aM λq H=>?_);simp only[go_sem,u,z,ho,m,List.headD_cons,H,B,F];exact aF G bA
theorem oZ(h:BookAt s r sg)(x:aC)(H:KV s (.tuple [((fH sg.funs x).getD nG).enc,.bool (fH sg.funs x).isSome])):Den cx 27 [.ptr r 0,.str x] KV Kp s:=by
 obtain⟨a,o,f,U,mo,Z,B,M,ho,z,O,S,lf⟩:=h;have m:=lf x;(refine aL func27 [0,1,4,5,6,7] ?_;simp only[go_sem,ntmps27,f27]);(refine aM λp u=>?_);have F:=aS B u;have G:=aS z u;cases hl:fH sg.funs x with
 | none =>
  rw[hl]at m H;simp only[Option.map_none]at m;simp only[go_sem,u,B,z,m,List.headD_cons,F,G];(refine aM λq L=>?_);simp only[go_sem,u,B,z,m,List.headD_cons,L,F,G];exact DK.mk H bA (A.le.tuple ⟨aCN,bF _,trivial⟩)
 | some y =>
  rw[hl]at m H;simp only[jM]at m;simp only[go_sem,u,B,z,m,List.headD_cons,F,G];(refine aM λq L=>?_);simp only[go_sem,u,B,z,m,List.headD_cons,L,F,G];exact aF H bA
theorem aIr(h:BookAt s r sg)(x:aC)(z:KV s (.bool (sV sg x))):Den cx 66 [.ptr r 0,.str x] KV Kp s:=by
 have G:=h;obtain⟨a,o,f,U,mo,Z,y,H,ho,L,O,S,lf⟩:=h;(refine aL func66 [0,1,2,3,4] ?_;simp only[go_sem,ntmps66,f66]);(refine aM λp m=>?_);have B:=aS y m;simp only[go_sem,m,y,B];(refine aM λq u=>?_);have F:=aS y u.2;simp only[go_sem,m,y,u,B,F];refine aB8 sg.values (λv=>sY sg x v) 109 [] [.ptr p 0,.ptr q 0] _ _ _ (λv M KV Kp z=>?_) ?_
 ·(refine aL func109 [0,1,2,4] ?_;simp only[go_sem,ntmps109,f109]);simp only[go_sem,m,u];refine aB1 (G.ge (bQ (by first|exact u.2|exact u|assumption) (bQ m (aG s)))) x v ?_;simp only[go_sem];exact aN z
 .simp only[go_sem];exact aF z bA
theorem aIY{n:aC}(m:n∈jQ)(q:KV s (strs (aHE n))):Den cx 180 [.str n] KV Kp s:=by
 simp only[jQ,dD,kQ,eU]at m;rcases m with rfl|rfl|rfl|rfl|rfl|rfl|rfl|rfl|rfl|rfl|rfl|rfl|rfl|rfl|rfl|rfl|rfl|rfl|rfl|rfl|rfl|rfl|rfl|rfl|rfl|rfl|rfl|rfl
 all_goals ((refine aL func180 [0,2,3,4,15,19,23,27,30,33,36,39,42,47,50,54] ?_;simp only[go_sem,ntmps180,f180]);(try simp (decide:=true) only[go_sem]);exact aN q)
theorem aI1{n:aC}(m:n∈jQ)(q:KV s (.str (aHB n))):Den cx 181 [.str n] KV Kp s:=by
 simp only[jQ,dD,kQ,eU]at m;rcases m with rfl|rfl|rfl|rfl|rfl|rfl|rfl|rfl|rfl|rfl|rfl|rfl|rfl|rfl|rfl|rfl|rfl|rfl|rfl|rfl|rfl|rfl|rfl|rfl|rfl|rfl|rfl|rfl
 all_goals ((refine aL func181 [0,2,3,4,13,16,19,22] ?_;simp only[go_sem,ntmps181,f181]);(try simp (decide:=true) only[go_sem]);exact aN q)
end
end
section
section
variable {r:Nat} {sg:Sig} {s:St} {KV Kp:St->A->Prop}
theorem aIx(n:aC)(u:KV s (.tuple [(if n∈jQ then bOp n else nG).enc,.bool (decide (n∈jQ))])):Den cx 142 [.str n] KV Kp s:=by
 (refine aL func142 [0,2,3,6] ?_;simp only[go_sem,ntmps142,f142]);(refine aM λp q=>?_);simp only[go_sem,q];refine aBV _ _ _ _ ?_;by_cases m:n∈jQ
 .rw[aE m,cZ m]at u;have y:decide (n∈jQ)=true:=cZ m;simp only[go_sem,y,q];refine aIY m ?_;simp only[go_sem,q,strs];refine aI1 m ?_;simp only[go_sem,q];exact DK.mk u bA (A.le.tuple ⟨A.le.agg ⟨⟨bF _,rfl⟩,⟨bF _,rfl⟩,⟨bF _,rfl⟩,⟨A.le.nil,rfl⟩,⟨bF _,rfl⟩,⟨bF _,rfl⟩,⟨A.le.nil,rfl⟩,trivial⟩,bF _,trivial⟩)
 .rw[aD m,cH m]at u;have y:decide (n∈jQ)=false:=cH m;simp only[go_sem,y,q];exact DK.mk u bA (A.le.tuple ⟨aCN,bF _,trivial⟩)
theorem aBZ(h:BookAt s r sg)(n:aC)(m:KV s (.tuple [(kW sg n).1.enc,.bool (kW sg n).2.1,.bool (kW sg n).2.2])):Den cx 100 [.ptr r 0,.str n] KV Kp s:=by
 unfold kW at m;(refine aL func100 [0,1,4,5,6,13,21] ?_;simp only[go_sem,ntmps100,f100]);(refine aM λp q=>?_);simp only[go_sem,q];refine aKY (h.ge (bQ q (aG s))) n ?_;cases y:fH sg.ops n with
 | some o =>
  rw[y]at m;simp only[go_sem,q,Option.getD_some,Option.isSome_some];exact aF m bA
 | none =>
  rw[y]at m;simp only[go_sem,q,Option.getD_none,Option.isSome_none,nG];refine oZ (h.ge (by exact bA)) n ?_;cases z:fH sg.funs n with
  | some o =>
   rw[z]at m;simp only[go_sem,q,Option.getD_some,Option.isSome_some];exact aF m bA
  | none =>
   rw[z]at m;simp only[go_sem,q,Option.getD_none,Option.isSome_none,nG];refine aIx n ?_;by_cases u:n∈jQ
   .rw[aE u]at m⊢;simp only[go_sem,q,cZ u,bOp];exact aF m bA
   .rw[aD u]at m⊢;simp only[go_sem,q,cH u,nG];exact aF m bA
theorem aD8(h:BookAt s r sg)(t:Tm)(u:KV s (.str (qO sg t))):Den cx 140 [.ptr r 0,.agg t.cs] KV Kp s:=by
 unfold qO at u;(refine aL func140 [0,1,3,4,5,9,10,12,14,16,18,20,22,38] ?_;simp only[go_sem,ntmps140,f140]);(refine aM λp y=>?_);simp only[go_sem,y];rcases kinds t.kind with m|m|m|m|m|m|m|m|m
 case' inr.inr.inr.inr.inl =>
  simp only[go_sem,y,m,Int.reduceEq];refine aBZ (h.ge (bQ y (aG s))) t.text ?_;simp only[go_sem,y];(refine aM λq S=>?_);simp only[go_sem,y,S];simp only[m,Int.reduceEq,cI,cM]at u;exact aF u bA
 case' inr.inr.inr.inr.inr.inl =>
  simp only[go_sem,y,m,Int.reduceEq];refine oU (h.ge (bQ y (aG s))) t.sort ?_;simp only[m,Int.reduceEq,cI,cM]at u;cases z:iB sg t.sort<;>rw[z]at u<;>simp only[go_sem,y]
  .exact aF u bA
  .exact aF u bA
 case' inr.inr.inr.inr.inr.inr.inr.inr =>
  obtain⟨B,F,G,H,L,U,M,O⟩:=m;simp only[go_sem,y,cH B,cH F,cH G,cH H,cH L,cH M,cH O];refine oU (h.ge (bQ y (aG s))) t.sort ?_;rw[aD B,aD F,aD G,aD H,aD M,aD O,aD L]at u;cases z:iB sg t.sort<;>rw[z]at u<;>simp only[go_sem,y]
  .exact aF u bA
  .exact aF u bA
 all_goals
  simp only[go_sem,y,m,Int.reduceEq];simp only[m,Int.reduceEq,cI,cM]at u;exact aF u bA
theorem aEE:∀{ks:List Tm} {l:List aC} {i:Nat} {x:Tm} {y:aC},ks[i]?=some x->l[i]?=some y->lB sg (ks.take (i+1)) (l.take (i+1))=(lB sg (ks.take i) (l.take i)&&tJ sg (qO sg x) y)
 | k::ks,a::l,0,x,y,m,q=>by cases m;cases q;simp[lB]
 | k::ks,a::l,i+1,x,y,m,q=>by
  have:=aEE (ks:=ks) (l:=l) (i:=i) m q;simp only[List.take_succ_cons,lB,this,Bool.and_assoc]
 | [],_,_,_,_,m,_=>by cases m
 | _::_,[],_,_,_,_,q=>by cases q
theorem aEr:∀{ks:List Tm} {l:List aC} {i:Nat},lB sg (ks.take i) (l.take i)=false->lB sg ks l=false
 | [],_,_,h=>by simp[lB]at h
 | _::_,[],_,h=>by cases m:(List.take _ (_::_):List Tm)<;>rw[m]at h<;>simp[lB]at h
 | k::ks,a::l,0,h=>by simp[lB]at h
 | k::ks,a::l,i+1,h=>by
  simp only[List.take_succ_cons,lB,Bool.and_eq_false_iff]at h⊢;exact h.imp id aEr
theorem aJz(m:Nat):∀(t:Tm) (s:St) (KV Kp:St->A->Prop),SizeOf.sizeOf t<m->BookAt s r sg->KV s (.bool (iC sg t))->Den cx 98 [.ptr r 0,.agg t.cs] KV Kp s:=by
 induction m with
 | zero=>intro t s KV Kp hm;omega
 | succ m ih =>
 intro t s KV Kp hm hB F;refine fS λb3=>?_
 have b4:=b3 _ (lL _ (dZ ..));have b1:Rlz (.list none (t.kids.map Tm.enc)):=b4.cell (by simp[Tm.cs]);clear b3 b4;rw[aMc]at F;(refine aL func98 [0,1,3,4,6,7,9,10,11,13,14,15,16,22,26,33,52,54,55,56,57,71] ?_;simp only[go_sem,ntmps98,f98]);(refine aM λp z=>?_);simp only[go_sem,z];have M:BookAt (s.setO p (.cells 39 t.cs)) r sg:=hB.ge (bQ z (aG s))
 refine Ex.loop (ι:=Nat) (λi=>[(0,.ptr r 0),(3,.ptr p 0),(13,.list none (t.kids.map Tm.enc)),(14,.int .i64 (t.kids.length:Nat)),(15,.int .i64 (i:Nat))])
  (λ_=>s.setO p (.cells 39 t.cs)) (λi=>i<=t.kids.length/\(t.kids.take i).all (iC sg)=true) (λi=>t.kids.length-i) 0 ⟨aX _,rfl⟩ ?_ (aG _) ?_
 .simp only[go_sem]
  try exact rfl
 .rintro i ⟨hi,B⟩;refine bC (V:=[0,1,3,4,6,7,9,10,11,13,14,15,16,22,26,33,52,54,55,56,57,71]) _ _ _ _ ?_;simp only[go_sem,z]
  (apply aQ<;>intro h)<;>simp only[go_sem,h,z]
  .have u:i<t.kids.length:=gQ h;clear h;obtain⟨x,L⟩:∃a,t.kids[i]?=some a:=⟨_,aV u⟩
   have b2:x∈t.kids:=cR L;have b6:=zQ b2;simp only[go_sem,z,L,u];(refine aM λq G=>?_);simp only[go_sem,z,L,u,G];refine ih x _ _ _ aB (M.ge (by simp only[Tm.cs];exact bK)) ?_;have ht:(t.kids.take (i+1)).all (iC sg)=iC sg x:=by rw[eO,L,List.all_append,B];simp
   cases Z:iC sg x
   .simp only[go_sem,z,G]
    have e:t.kids.all (iC sg)=false:=by
     rw[wY];intro e;rw[fR]at e;rw[e x b2]at Z;cases Z
    rw[e,gG]at F;exact aF F bA
   .simp only[go_sem,z,G];exact⟨i+1,⟨u,by rw[ht,Z]⟩,by omega,b1.wrap (i:=i) (gQ u),bK⟩
  .have S:i=t.kids.length:=by have:¬ i<t.kids.length:=gQ h;omega
   subst S;rw[List.take_length]at B;rw[B,fW]at F;clear h hi;unfold aDy at F;by_cases k6:t.kind=6
   .rw[aE k6]at F;simp only[go_sem,z,cZ k6];refine oU M t.sort ?_;simp only[go_sem,z];exact aF F bA
   rw[aD k6]at F;by_cases k5:t.kind=5
   ·rw [aE k5] at F;simp only [go_sem,z,cH k6,cZ k5];refine aBZ M t.text ?_;generalize hC : kW sg t.text = C at F;obtain ⟨o,fu,ok⟩ := C;simp only [go_sem,z];(refine aM fun q G => ?_);simp only [go_sem,z,G];cases ok with
    | false =>
     simp only[go_sem,z,G];exact aF F bA
    | true =>
     have d1:decide ((o.args.length:Int)=(t.kids.length:Int))=decide (o.args.length=t.kids.length):=by rw[cW];omega
     by_cases hl:o.args.length=t.kids.length
     .have d2:decide (o.args.length=t.kids.length)=true:=cZ hl;rw[d2]at F d1;simp only[go_sem,z,G,d1,d2];have b5:BookAt ((s.setO p (.cells 39 t.cs)).setO q (.cells 64 o.cs)) r sg:=M.ge (by simp only[Tm.cs,Opr.cs];exact bK)
      refine Ex.loop (ι:=Nat) (λi=>[(0,.ptr r 0),(3,.ptr p 0),(7,.ptr q 0),(54,.list none (t.kids.map Tm.enc)),(55,.int .i64 (t.kids.length:Nat)),(56,.int .i64 (i:Nat))])
       (λ_=>(s.setO p (.cells 39 t.cs)).setO q (.cells 64 o.cs)) (λi=>i<=t.kids.length/\lB sg (t.kids.take i) (o.args.take i)=true) (λi=>t.kids.length-i) 0 ⟨aX _,by simp[lB]⟩ ?_ (aG _) ?_
      .simp only[go_sem]
       try exact rfl
      .rintro i ⟨hi,B⟩;refine bC (V:=[0,1,3,4,6,7,9,10,11,13,14,15,16,22,26,33,52,54,55,56,57,71]) _ _ _ _ ?_;simp only[go_sem,z,G]
       (apply aQ<;>intro h)<;>simp only[go_sem,h,z,G]
       .have u:i<t.kids.length:=gQ h;clear h;obtain⟨x,L⟩:∃a,t.kids[i]?=some a:=⟨_,aV u⟩
        have b0:i<o.args.length:=by omega
        obtain⟨y,hy⟩:∃a,o.args[i]?=some a:=⟨_,aV b0⟩
        have U:=aEE (sg:=sg) L hy;rw[B,fW]at U;simp only[go_sem,z,G,L,u];(refine aM λq2 H=>?_);simp only[go_sem,z,G,L,u,H];(refine bB (OT.l [0,1,2,4,5,6,7,8,3,9,10] .nil) [(3,[5,8])] ?_;simp only[go_sem,z,G,L,u,H,hy]);refine⟨b0,?_⟩;have O:BookAt (((s.setO p (.cells 39 t.cs)).setO q (.cells 64 o.cs)).setO q2 (.cells 39 x.cs)) r sg:=b5.ge (by simp only[Tm.cs,Opr.cs];exact bK);simp only[Tm.cs,Opr.cs]at O;refine aD8 O x ?_;simp only[go_sem,z,G,L,u,H,hy];refine aET O (qO sg x) y ?_;cases Z:tJ sg (qO sg x) y
        .simp only[go_sem,z,G,H];rw[aEr (by rw[U,Z]),jN]at F;exact aF F bA
        .simp only[go_sem,z,G,H];exact⟨i+1,⟨u,by rw[U,Z]⟩,by omega,b1.wrap (i:=i) (gQ u),bK⟩
       .have S:i=t.kids.length:=Nat.le_antisymm hi (Nat.le_of_not_lt (gQ h));subst S;rw[List.take_length,<-hl,List.take_length]at B;rw[B]at F;exact aF F bA
     .have d2:decide (o.args.length=t.kids.length)=false:=cH hl;rw[d2]at F d1;simp only[go_sem,z,G,d1,d2];exact aF F bA
   .rw[aD k5]at F;simp only[go_sem,z,cH k6,cH k5];exact aF F bA
theorem aEF(t:Tm)(h:BookAt s r sg)(m:KV s (.bool (iC sg t))):Den cx 98 [.ptr r 0,.agg t.cs] KV Kp s:=aJz _ t s KV Kp (lN _) h m
theorem aI4(t:Tm)(m:KV s (.bool (aAU t))):Den cx 103 [.agg t.cs] KV Kp s:=by
 unfold aAU at m;(refine aL func103 [0,1,2] ?_;simp only[go_sem,ntmps103,f103]);(refine aM λp u=>?_);simp only[go_sem,u];cases q:decide (t.kind=1)<;>rw[q]at m<;>simp only[go_sem,u,q]
 .cases y:decide (t.kind=3)<;>rw[y]at m<;>simp only[go_sem,u,q,y]
  .cases z:decide (t.kind=4)<;>rw[z]at m<;>(try simp only[go_sem,u,q,y,z])
   .exact aF m bA
   .exact aF m bA
  .exact aF m bA
 .exact aF m bA
end
end
section
section
variable {r:Nat} {sg:Sig} {s:St} {KV Kp:St->A->Prop}
theorem aJE(a:aC)(m:KV s (.bool (yG a))):Den cx 44 [.str a] KV Kp s:=by
 unfold yG at m;(refine aL func44 [0,2] ?_;simp only[go_sem,ntmps44,f44]);refine oX _ _ _ _ ?_;cases q:dT a<;>rw[q]at m<;>simp only[go_sem]
 .exact aN m
 refine aEf _ _ _ ?_;simp only[go_sem];refine kR _ _ _ _ _ ?_;simp only[go_sem];exact aN m
theorem aIv(h:BookAt s r sg)(b:Below)(q:KV s (.bool (xM sg b))):Den cx 50 [.ptr r 0,.agg b.cs] KV Kp s:=by
 have S:=h;obtain⟨a,o,f,ma,mo,mf,y,u,ho,Z,U,lo,lf⟩:=h;have G:=U b.high;unfold xM aAX at q;(refine aL func50 [0,1,3,4] ?_;simp only[go_sem,ntmps50,f50]);(refine aM λp m=>?_);have z:=aS y m;have B:=aS u m;have F:(s.setO p (.cells 102 b.cs)).ge s:=bQ m (aG s);simp only[Below.cs]at F;simp only[go_sem,m];(refine bB (OT.r 0 33) [(7,[14,16,23,25,26,28]),(17,[23,25,26,28])] ?_;simp only[go_sem,m,z,B,y,u]);cases H:decide (b.low=[65,110,121])<;>rw[H]at q<;>simp only[go_sem,m,z,B,y,u,H]
 rotate_left
 .exact aF q bA
 refine oU (S.ge F) b.low ?_;cases M:iB sg b.low<;>rw[M]at q<;>simp only[go_sem,m,z,B,y,u]
 .exact aF q bA
 refine kR _ _ _ _ _ ?_;cases O:decide (b.high∈sg.sorts)<;>rw[O]at q<;>simp only[go_sem,m,z,B,y,u]
 .exact aF q bA
 by_cases L:b.high∈nX sg
 .rw[aE L]at G q;simp only[go_sem,m,z,B,y,u,G,strs];refine kR _ _ _ _ _ ?_;simp only[go_sem,m,z,B,y,u];exact aF q bA
 .rw[aD L]at G q;simp only[go_sem,m,z,B,y,u,G,List.headD_cons];refine aEc _ ?_;simp only[go_sem,m,z,B,y,u];exact aF q bA
theorem aJm(h:BookAt s r sg)(o:Opr)(z:KV s (.bool (aAV sg o))):Den cx 54 [.ptr r 0,.agg o.cs] KV Kp s:=by
 unfold aAV at z;have y:decide ((8:Int)<((o.args.length:Nat):Int))=decide (8<o.args.length):=by rw[cW];omega
 have u:decide (((o.args.length:Nat):Int)<=8)=!decide (8<o.args.length):=by rw[<-decide_not,cW];omega
 have q:decide (((o.pieces.length:Nat):Int)=0)=decide (o.pieces.length=0):=by rw[cW];omega
 have z2:decide (((o.strict.length:Nat):Int)=0)=decide (o.strict.length=0):=by rw[cW];omega
 (refine aL func54 [0,1,3,4,5] ?_;simp only[go_sem,ntmps54,f54]);(refine aM λp m=>?_);have F:(s.setO p (.cells 64 o.cs)).ge s:=bQ m (aG s);have B:=h.ge F;simp only[Opr.cs]at B;simp only[go_sem,m,q,z2]
 (repeat' (first|exact aF z bA|(refine oX _ _ _ _ ?_;simp only[go_sem,m,y,u,q,z2])|(refine aBV _ _ _ _ ?_;simp only[go_sem,m,y,u,q,z2])|(refine aAd o.args (iB sg) 51 [.ptr r 0] [] _ _ _ (λx H s' KV Kp G z=>oU (B.ge G) x z) ?_;simp only[go_sem,m,y,u,q,z2])|(refine oU B o.sort ?_;simp only[go_sem,m,y,u,q,z2])|((apply aQ<;>intro h)<;>simp only[go_sem,h,m,y,u,q,z2]<;>(try simp only[h,fW,gG,jB,jN,nT,lS,mS,iO,fV,iG]at z))))
theorem aM1(c:UInt8):decide (0<=Lib.indexByte [34,39,92] c)=decide (c∈([34,39,92]:aC)):=by
 have h:∀c:UInt8,(0<=Lib.indexByte [34,39,92] c)↔c∈([34,39,92]:aC):=by
  intro c;simp only[Lib.indexByte,dD,kQ,eU,beq_iff_eq];by_cases m:(34:UInt8)=c
  .simp[m]
  .by_cases q:(39:UInt8)=c
   .simp[m,q]
   .by_cases u:(92:UInt8)=c
    .simp[m,q,u]
    .simp[m,q,u,Ne.symm m,Ne.symm q,Ne.symm u]
 rw[cW];exact h c
theorem aCW{α:Type}{f:α->Bool}{l:List α}{i:Nat}{x:α}(h:l[i]?=some x)(m:(l.take i).all f=true):(l.take (i+1)).all f=f x:=by
 rw[eO,h,List.all_append,m];simp
theorem aCt{α:Type}{f:α->Bool}{l:List α}{x:α}(h:x∈l)(m:f x=false):l.all f=false:=by
 rw[wY];intro e;rw[fR]at e;rw[e x h]at m;cases m
theorem aIT(x:aC)(q:KV s (.bool (xW x))):Den cx 138 [.str x] KV Kp s:=by
 unfold xW at q;have z:decide ((20:Int)<((x.length:Nat):Int))=decide (20<x.length):=by rw[cW];omega
 (refine aL func138 [0,2,3,4,11,13,14,15,34] ?_;simp only[go_sem,ntmps138,f138]);cases B:decide (x=[])<;>rw[B]at q<;>simp only[go_sem,B,z]
 rotate_left
 .exact aN q
 cases F:decide (20<x.length)<;>rw[F]at q<;>simp only[go_sem,B,F,z]
 rotate_left
 .exact aN q
 have U:x.length<=20:=by have:=of_decide_eq_false F;omega
 refine Ex.loop (ι:=Nat) (λi=>[(0,.str x),(13,.int .i64 (x.length:Nat)),(14,.int .i64 (i:Nat))]) (λ_=>s) (λi=>i<=x.length/\(x.take i).all vQ=true) (λi=>x.length-i) 0 ⟨aX _,rfl⟩ ?_ (aG _) ?_
 .simp only[go_sem]
  try exact rfl
 .rintro i ⟨S,m⟩;refine bC (V:=[0,2,3,4,11,13,14,15,34]) _ _ _ _ ?_;simp only[go_sem]
  (apply aQ<;>intro h)<;>simp only[go_sem,h]
  .have u:i<x.length:=gQ h;clear h;obtain⟨c,G⟩:∃a,x[i]?=some a:=⟨_,aV u⟩
   have H:c∈x:=cR G;have y:=aCW (f:=vQ) G m;unfold vQ at y;simp only[go_sem,G,u]
   have bad:(!decide ((c.toNat:Int)<33)&&(!decide (126<(c.toNat:Int))&&(!iU c.toNat&&!decide (c∈[34,39,92]))))=false->KV s (.bool false):=λe=>by
    have O:x.all vQ=false:=aCt H (show vQ c=false from e);rw[O]at q;exact q
   cases s1:decide ((c.toNat:Int)<33)<;>rw[s1]at y bad<;>simp only[go_sem,s1]
   rotate_left
   .exact aN (bad rfl)
   cases s2:decide (126<(c.toNat:Int))<;>rw[s2]at y bad<;>simp only[go_sem,s1,s2]
   rotate_left
   .exact aN (bad rfl)
   refine zY _ _ _ _ ?_;cases Z:iU c.toNat<;>rw[Z]at y bad<;>simp only[go_sem,s1,s2]
   rotate_left
   .exact aN (bad rfl)
   refine zO _ _ c _ _ ?_;cases M:decide (c∈([34,39,92]:aC))<;>rw[M]at y bad<;>simp only[go_sem,s1,s2,aM1,M]
   .exact⟨i+1,⟨u,y⟩,by omega,bM i aB,aG _⟩
   .exact aN (bad rfl)
  .have L:i=x.length:=Nat.le_antisymm S (Nat.le_of_not_lt (gQ h));subst L;rw[List.take_length]at m;rw[m]at q;exact aN q
end
end
section
theorem aJf(s:St)(l:List Below)(KV Kp:St->A->Prop)(S:∀s',s'.ge s->KV s' (.bool (decide l.Nodup))):Den cx 42 [.list none (l.map Below.enc)] KV Kp s:=by
 refine fS λM=>?_
 have H:=M _ (dZ ..);(refine aL func42 [0,2,3,5,7,8,9,10,15] ?_;simp only[go_sem,ntmps42,f42]);(refine aM λb hb=>?_);simp only[go_sem]
 refine Ex.loop (λi=>[(3,.mp b),(7,.list none (l.map Below.enc)),(8,.int .i64 l.length),(9,.int .i64 (i:Nat))]) (λi=>s.setO b (.map 2 (gD (λx:Below=>MK.two x.low x.high) (l.take i))))
     (λi=>i<=l.length/\(l.take i).Nodup) (λi=>l.length-i) 0 ⟨aX _,by simp⟩ ?_ (aG _) ?_
 .simp only[go_sem];exact rfl
 .rintro i ⟨hi,q⟩;refine bC (V:=[0,2,3,5,7,8,9,10,15]) _ _ _ _ ?_;simp only[go_sem]
  (apply aQ<;>intro h)<;>simp only[go_sem,h]
  .have m:i<l.length:=gQ h;obtain⟨a,B⟩:∃a,l[i]?=some a:=⟨_,aV m⟩
   have z:∀x y:Below,MK.two x.low x.high=MK.two y.low y.high->x=y:=λx y e=>by cases x;cases y;cases e;rfl
   have u:=aAL (λx:Below=>MK.two x.low x.high) z a (l.take i);have L:=aAC (λx:Below=>MK.two x.low x.high) z a (l.take i);simp only[go_sem,B,m];(refine aM λc O=>?_);by_cases F:a∈l.take i
   .rw[aE F]at u;simp only[go_sem,B,m,O,u]
    have G:¬ l.Nodup:=by
     intro G;rw[<-List.take_append_drop i l,List.nodup_append]at G;refine G.2.2 a F a ?_ rfl;have:(l.drop i)[0]?=some a:=by rw[jL];simpa using B
     exact cR this
    refine aF (by have:=S (s.setO b (.map 2 (gD (λx:Below=>MK.two x.low x.high) (l.take i)))) (bQ (by assumption) (aG s));simpa [G]using this) bK
   .rw[aD F]at u;simp only[go_sem,B,m,O,u,L F,List.headD_cons];have U:l.take (i+1)=l.take i++[a]:=by rw[eO,B];rfl
    refine⟨i+1,⟨by omega,?_⟩,by omega,?_,?_⟩
    .rw[U,List.nodup_append];exact⟨q,by simp,λx hx y Z=>by simp at Z;subst Z;intro e;subst e;exact F hx⟩
    .exact H.wrap (i:=i) (gQ m)
    .rw[U];exact bK
  .have m:i=l.length:=by simp at h;omega
   subst m;rw[List.take_length]at q;exact aN (by have:=S (s.setO b (.map 2 (gD (λx:Below=>MK.two x.low x.high) l))) (bQ (by assumption) (aG s));simpa [q,List.take_length]using this)
section
variable {r:Nat} {sg:Sig} {s:St} {KV Kp:St->A->Prop}
theorem aEL(l:List Opr)(hl:l.length<=4294967000)(U:∀tk,(tk=none->l=[])->(∀t,tk=some t->s.getT t=none)->KV (gs s tk l.length 9) (gv tk ((l.map Opr.name).map .str))):Den cx 48 [.list none (l.map Opr.enc)] KV Kp s:=by
 (refine aL func48 [0,2,3,5,6,7,8,9] ?_;simp only[go_sem,ntmps48,f48])
 refine Ex.loop (ι:=Nat × Option Nat) (λc=>[(3,gv c.2 (((l.take c.1).map Opr.name).map .str)),(6,.list none (l.map Opr.enc)),(7,.int .i64 l.length),(8,.int .i64 (c.1:Nat))]) (λc=>gs s c.2 ((l.take c.1).map Opr.name).length 9)
  (λc=>c.1<=l.length/\(c.2=none->(l.take c.1).map Opr.name=[])/\∀t,c.2=some t->s.getT t=none) (λc=>l.length-c.1) (0,none) ⟨aX _,λ_=>rfl,λt h=>(by cases h)⟩ ?_ (aG _) ?_
 .simp only[go_sem]
  try exact⟨rfl,rfl⟩
 .rintro⟨i,tk⟩ ⟨O,z,G⟩;simp only at O z G;refine bC (V:=[0,2,3,5,6,7,8,9]) _ _ _ _ ?_;simp only[go_sem]
  (apply aQ<;>intro h)<;>simp only[go_sem,h]
  .have m:i<l.length:=gQ h;clear h;obtain⟨x,B⟩:∃a,l[i]?=some a:=⟨_,aV m⟩
   have Z:(l.take (i+1)).map Opr.name=(l.take i).map Opr.name++[x.name]:=by rw[eO,B,bY];rfl
   simp only[go_sem,B,m];(refine mP λc F=>?_);simp only[go_sem,B,m,F];refine⟨by decide,λy M=>(by rw[cC.1 M];rfl),cT rfl rfl (by simp only[aK];exact eD λe=>by have:=z e;rw[List.map_eq_nil_iff]at this;rw[this];rfl) (λy M=>kX M) (by simp only[aK,dV,aO,aU];omega) (λu S=>?_)⟩;have H:=eX S G;rw[eP S];simp only[go_sem,B,m,F];refine⟨(i+1,some u),⟨m,λh=>(by cases h),λt h=>by cases h;exact H⟩,aP,⟨?_,bM i aB⟩,?_⟩
   .rw[Z,bY];rfl
   .have q:(l.take (i+1)).length=(l.take i).length+1:=by rw[dV,dV];omega
    show St.ge _ (s.setT u ((l.take (i+1)).length,9));rw[q];exact fY (hH F)
  .have L:i=l.length:=Nat.le_antisymm O (Nat.le_of_not_lt (gQ h));subst L;rw[List.take_length]at z⊢;exact aN (U tk (λe=>List.map_eq_nil_iff.1 (z e)) G)
def kH(l:List Piece):List aC:=(l.map Piece.sort).filter λx=>!decide (x=[])
theorem aKa{l:List Piece}{j:Nat}{x:Piece}(h:l[j]?=some x):kH (l.take (j+1))=kH (l.take j)++(if x.sort=[] then [] else [x.sort]):=by
 unfold kH;rw[eO,h,bY,List.filter_append];congr 1;by_cases e:x.sort=[]<;>simp[e]
theorem aKv(l:List Piece):(kH l).length<=l.length:=by
 unfold kH;exact lQ (List.length_filter_le _ _) (Nat.le_of_eq (aK ..))
theorem aIo(o:Opr)(b9:o.pieces.length<=4294967000)(b8:o.args.length<=4294967000)(hk:KV s (.bool (aCB o))):Den cx 96 [.agg o.cs] KV Kp s:=by
 refine fS λb2=>?_
 have b3:=b2 _ (dZ ..);have hw:Rlz (.list none (o.pieces.map Piece.enc)):=b3.cell (by simp[Opr.cs]);clear b2 b3;unfold aCB at hk;have z1:decide (((o.pieces.length:Nat):Int)=0)=decide (o.pieces.length=0):=by rw[cW];omega
 (refine aL func96 [0,1,2,3,5,6,10,12,13,14,15,46,49] ?_;simp only[go_sem,ntmps96,f96]);(refine aM λp hp=>?_);simp only[go_sem,hp,z1];cases c0:decide (o.pieces.length=0)<;>rw[c0]at hk<;>simp only[go_sem,hp,z1,c0]
 rotate_left
 .exact aF hk bA
 have Z:(s.setO p (.cells 64 o.cs)).ge s:=bQ hp (aG s);have G:(s.setO p (.cells 64 o.cs)).getO p=some (.cells 64 o.cs):=by rw[aH,aE rfl]
 generalize hS:s.setO p (.cells 64 o.cs)=S at Z G;simp only[Opr.cs]at hS G;rw[hS];clear hS
 refine Ex.loop (ι:=Nat × Option Nat) (λc=>[(1,.ptr p 0),(3,gv c.2 ((kH (o.pieces.take c.1)).map .str)),(12,.list none (o.pieces.map Piece.enc)),(13,.int .i64 (o.pieces.length:Nat)),(14,.int .i64 (c.1:Nat))]) (λc=>gs S c.2 (kH (o.pieces.take c.1)).length 9)
  (λc=>c.1<=o.pieces.length/\(o.pieces.take c.1).all vC=true/\(c.2=none->(kH (o.pieces.take c.1)).length=0)/\∀t,c.2=some t->S.getT t=none) (λc=>o.pieces.length-c.1) (0,none) ⟨aX _,rfl,λ_=>rfl,λt h=>(by cases h)⟩ ?_ (aG _) ?_
 .simp only[go_sem]
  try exact⟨rfl,rfl⟩
 .rintro⟨i,tk⟩ ⟨hi,H,hn,U⟩;simp only at hi hn U H;refine bC (V:=[0,1,2,3,5,6,10,12,13,14,15,46,49]) _ _ _ _ ?_;simp only[go_sem]
  (apply aQ<;>intro h)<;>simp only[go_sem,h]
  .have m:i<o.pieces.length:=gQ h;clear h;obtain⟨x,L⟩:∃a,o.pieces[i]?=some a:=⟨_,aV m⟩
   have b7:x∈o.pieces:=cR L;have F:=aCW (f:=vC) L H;have q:=aKa L;have b6:=aKv (o.pieces.take i);rw[dV]at b6;unfold vC at F
   have bad:(decide (x.sort=[]) == (xW x.text||(dT x.text&&!decide (20<x.text.length)))&&!(!decide (x.sort=[])&&!decide (x.text=[])))=false->KV s (.bool false):=λe=>by
    have h0:o.pieces.all vC=false:=aCt b7 (show vC x=false from e);rw[h0]at hk;exact hk
   have b1:decide (((x.text.length:Nat):Int)<=20)=!decide (20<x.text.length):=by rw[<-decide_not,cW];omega
   simp only[go_sem,L,m];(refine mP λb5 z=>?_);have O:=aS G z;have B:(S.setO b5 (.cells 195 x.cs)).ge S:=bQ z (aG S);have M:(gs (S.setO b5 (.cells 195 x.cs)) tk (kH (o.pieces.take i)).length 9).ge s:=gE (B.trans Z) U;simp only[Piece.cs]at M B
   have q0:x.sort=[]->(gs (S.setO b5 (.cells 195 [.str x.text,.str x.sort])) tk (kH (o.pieces.take i)).length 9).ge (gs S tk (kH (o.pieces.take (i+1))).length 9):=λe=>by
    rw[q,aE e,dQ];exact aCU (λb o h=>B.ob b o h) (λy h=>B.ls y h) (λt v _ h=>B.tk t v h)
   simp only[go_sem,L,m,z,O,G];refine aIT x.text ?_;cases a1:xW x.text<;>rw[a1]at F bad<;>simp only[go_sem,L,m,z,O,G,beq_true,beq_false]
   rotate_left
   .cases a4:decide (x.sort=[])<;>cases a5:decide (x.text=[])<;>rw[a4]at F bad<;>rw[a5]at F bad<;>simp only[go_sem,L,m,z,O,G,a4,a5]
    all_goals first|exact aF (bad rfl) M|exact⟨(i+1,tk),⟨m,F,λe=>(by rw[q,aE (gR a4),dQ];exact hn e),U⟩,aP,⟨by rw[q,aE (gR a4),dQ],bM i aB⟩,q0 (gR a4)⟩|skip
   refine oX _ _ _ _ ?_;cases a2:dT x.text<;>rw[a2]at F bad<;>simp only[go_sem,L,m,z,O,G,beq_true,beq_false]
   .cases a4:decide (x.sort=[])<;>cases a5:decide (x.text=[])<;>rw[a4]at F bad<;>rw[a5]at F bad<;>simp only[go_sem,L,m,z,O,G,a4,a5]
    all_goals first|exact aF (bad rfl) M|exact⟨(i+1,tk),⟨m,F,λe=>(by rw[q,aE (gR a4),dQ];exact hn e),U⟩,aP,⟨by rw[q,aE (gR a4),dQ],bM i aB⟩,q0 (gR a4)⟩|skip
    refine⟨by decide,λy hy=>(by rw[cC.1 hy];rfl),cT rfl rfl (by rw[aK];exact eD hn) (λy hy=>kX hy) (by simp only[aK,aO,aU];omega) (λu hu=>?_)⟩;have b0:=eX hu (λt e=>U t e);rw[eP hu];simp only[go_sem,L,m,z,O,G];refine⟨(i+1,some u),⟨m,F,λh=>(by cases h),λt h=>by cases h;exact b0⟩,aP,⟨?_,bM i aB⟩,?_⟩
    .rw[q,aD (of_decide_eq_false a4),bY];rfl
    .show St.ge _ (S.setT u ((kH (o.pieces.take (i+1))).length,9));rw[q,aD (of_decide_eq_false a4),aI];exact fY B
   cases a3:decide (20<x.text.length)<;>rw[a3]at F bad<;>simp only[go_sem,L,m,z,O,G,b1,a3,beq_true,beq_false]
   .cases a4:decide (x.sort=[])<;>cases a5:decide (x.text=[])<;>rw[a4]at F bad<;>rw[a5]at F bad<;>simp only[go_sem,L,m,z,O,G,a4,a5]
    all_goals first|exact aF (bad rfl) M|exact⟨(i+1,tk),⟨m,F,λe=>(by rw[q,aE (gR a4),dQ];exact hn e),U⟩,aP,⟨by rw[q,aE (gR a4),dQ],bM i aB⟩,q0 (gR a4)⟩|skip
   .cases a4:decide (x.sort=[])<;>cases a5:decide (x.text=[])<;>rw[a4]at F bad<;>rw[a5]at F bad<;>simp only[go_sem,L,m,z,O,G,a4,a5]
    all_goals first|exact aF (bad rfl) M|exact⟨(i+1,tk),⟨m,F,λe=>(by rw[q,aE (gR a4),dQ];exact hn e),U⟩,aP,⟨by rw[q,aE (gR a4),dQ],bM i aB⟩,q0 (gR a4)⟩|skip
    refine⟨by decide,λy hy=>(by rw[cC.1 hy];rfl),cT rfl rfl (by rw[aK];exact eD hn) (λy hy=>kX hy) (by simp only[aK,aO,aU];omega) (λu hu=>?_)⟩;have b0:=eX hu (λt e=>U t e);rw[eP hu];simp only[go_sem,L,m,z,O,G];refine⟨(i+1,some u),⟨m,F,λh=>(by cases h),λt h=>by cases h;exact b0⟩,aP,⟨?_,bM i aB⟩,?_⟩
    .rw[q,aD (of_decide_eq_false a4),bY];rfl
    .show St.ge _ (S.setT u ((kH (o.pieces.take (i+1))).length,9));rw[q,aD (of_decide_eq_false a4),aI];exact fY B
  .have b4:i=o.pieces.length:=Nat.le_antisymm hi (Nat.le_of_not_lt (gQ h));subst b4;rw[List.take_length]at H hn;rw[List.take_length];have b1:decide (((o.pieces.length:Nat):Int)<=20)=!decide (20<o.pieces.length):=by rw[<-decide_not,cW];omega
   rw[H]at hk;cases c1:decide (20<o.pieces.length)<;>rw[c1]at hk<;>simp only[go_sem,G,b1,c1]
   .refine lU (show nK [gv tk ((kH o.pieces).map .str),.list none (o.args.map .str)] [.list none ((kH o.pieces).map .str),.list none (o.args.map .str)] from⟨gK _ _ λe=>by rw[fC (hn e)];rfl,bF _,trivial⟩) (aKd _ _ _ _ _ ?_);simp only[go_sem];exact aF hk (gE Z U)
   .exact aF hk (gE Z U)
theorem aIG(o:Opr)(q:Nat)(u:s.getO q=some (.cells 64 o.cs))(i:Int)(m:KV s (.bool (decide (1<=i)&&decide (i<=o.args.length)))):Den cx 93 [.int .i64 i,.ptr q 0] KV Kp s:=by
 simp only[Opr.cs]at u;(refine aL func93 [0,1,3] ?_;simp only[go_sem,ntmps93,f93])
 (repeat' (first|exact aF m bA|((apply aQ<;>intro h)<;>simp only[go_sem,h,u]<;>(try simp only[h,fW,gG,jB,jN,nT,lS,mS,iO,fV,iG]at m))))
theorem aJI(h:BookAt s r sg)(o:Opr)(L:o.name.length<=4611686018427387904)(O:o.pieces.length<=4294967000)(H:o.args.length<=4294967000)(y:KV s (.bool (yP sg o))):Den cx 53 [.ptr r 0,.agg o.cs] KV Kp s:=by
 have h0:=h;obtain⟨a,oo,f,ma,mo,mf,hr,ha,ho,hf,la,lo,lf⟩:=h;unfold yP at y;(refine aL func53 [0,1,3,4,5,7,8,9,10,49] ?_;simp only[go_sem,ntmps53,f53]);(refine aM λp M=>?_);have f1:=aS hr M;have u:(s.setO p (.cells 64 o.cs)).ge s:=bQ M (aG s);have F:(s.setO p (.cells 64 o.cs)).getO p=some (.cells 64 o.cs):=by rw[aH,aE rfl]
 simp only[go_sem,M];generalize G:s.setO p (.cells 64 o.cs)=S at u F;simp only[Opr.cs]at G;rw[G];clear G;have hB:=h0.ge u;have gr:=u.ob _ _ hr;have m:=F;simp only[Opr.cs]at m;refine aFQ _ _ _ _ L ?_
 have U:(if mC o.name=true then A.tuple [.str (o.name.take (o.name.length-2)),.str (o.name.drop (o.name.length-2))] else A.tuple [.str o.name,.str []])=A.tuple [.str (if mC o.name=true then o.name.take (o.name.length-2) else o.name),.str (if mC o.name=true then o.name.drop (o.name.length-2) else [])]:=by
  cases mC o.name<;>rfl
 rw[U];simp only[go_sem,m,gr];(refine bB (OT.r 0 33) [(1,[5,10,16,27,29]),(6,[10,16,27,29]),(19,[27,29])] ?_;simp only[go_sem,m,gr]);rw[show yX o.name=dT (if mC o.name=true then o.name.take (o.name.length-2) else o.name) from rfl]at y;generalize (if mC o.name=true then o.name.take (o.name.length-2) else o.name)=nm at y⊢;generalize (if mC o.name=true then o.name.drop (o.name.length-2) else [])=rs;have z:decide ((8:Int)<((o.args.length:Nat):Int))=decide (8<o.args.length):=by rw[cW];omega
 have B:decide ((0:Int)<((o.pieces.length:Nat):Int))=decide (0<o.pieces.length):=by rw[cW];omega
 repeat' (first|exact aF y u|(refine oX _ _ _ _ ?_;simp only[go_sem,m,gr,z,B])|(refine aBV _ _ _ _ ?_;simp only[go_sem,m,gr,z,B])|(refine kR _ _ _ _ _ ?_;simp only[go_sem,m,gr,z,B])|(refine aAd o.args (iB sg) 51 [.ptr r 0] [] _ _ _ (λx hx s' KV Kp q y=>oU (hB.ge q) x y) ?_;simp only[go_sem,m,gr,z,B])|(refine aKz o.strict (λi=>decide (1<=i)&&decide (i<=(o.args.length:Int))) 93 [] [.ptr p 0] _ _ _ (λx hx s' KV Kp q y=>aIG o p (q.ob _ _ F) x y) ?_;simp only[go_sem,m,gr,z,B])|((apply aQ<;>intro h)<;>simp only[go_sem,h,m,gr,z,B]<;>(try simp only[kO,aD4]at h)<;>(try simp only[h,fW,gG,fV,iG,lS,iO,jB,jN]at y)))
 all_goals
  refine aIQ _ _ _ _ (λs' q=>?_);have g2:=q.ob _ _ m;cases Z:decide o.strict.Nodup<;>rw[Z]at y<;>simp only[go_sem,g2,Z]
  .exact aF y (q.trans u)
  .refine aIo o O H ?_;simp only[go_sem];exact aF y (q.trans u)
theorem aKf(sg:Sig)(hb:sg.ops.length+sg.funs.length<=4294967000)(ho:∀o,o∈sg.ops->o.name.length<=4611686018427387904/\o.pieces.length<=4294967000/\o.args.length<=4294967000)(m:KV s (.bool (qH sg))):Den cx 20 [.agg sg.cs] KV Kp s:=by
 unfold qH at m;have z1:decide ((40:Int)<((sg.sorts.length:Nat):Int))=decide (40<sg.sorts.length):=by rw[cW];omega
 have z2:decide ((200:Int)<((sg.below.length:Nat):Int))=decide (200<sg.below.length):=by rw[cW];omega
 have z3:decide ((200:Int)<((sg.ops.length:Nat):Int)+((sg.funs.length:Nat):Int))=decide (200<sg.ops.length+sg.funs.length):=by rw[cW];omega
 (refine aL func20 [0,1,2,3,4,36,58] ?_;simp only[go_sem,ntmps20,Tryz.f20]);(refine aM λp hp=>?_);have B:(s.setO p (.cells 26 sg.cs)).ge s:=bQ hp (aG s);have gp:(s.setO p (.cells 26 sg.cs)).getO p=some (.cells 26 sg.cs):=by rw[aH,aE rfl]
 have w3:IntKind.i64.wrap (((sg.ops.length:Nat):Int)+((sg.funs.length:Nat):Int))=((sg.ops.length:Nat):Int)+((sg.funs.length:Nat):Int):=eW _ aB aB;simp only[go_sem,hp,z1];generalize hS:s.setO p (.cells 26 sg.cs)=S at B gp;simp only[Sig.cs]at hS gp;rw[hS];clear hS;cases c1:decide (40<sg.sorts.length)<;>rw[c1]at m<;>simp only[go_sem,gp,z1,c1,z2]
 rotate_left
 .exact aF m B
 cases c2:decide (200<sg.below.length)<;>rw[c2]at m<;>simp only[go_sem,gp,z1,c1,z2,c2,z3,w3]
 rotate_left
 .exact aF m B
 cases c3:decide (200<sg.ops.length+sg.funs.length)<;>rw[c3]at m<;>simp only[go_sem,gp,z1,c1,z2,c2,z3,c3]
 rotate_left
 .exact aF m B
 refine aJf _ _ _ _ (λS1 b2=>?_);have b5:=b2.ob _ _ gp;cases c4:decide sg.below.Nodup<;>rw[c4]at m<;>simp only[go_sem,b5,c4]
 .exact aF m (b2.trans B)
 refine xA _ _ _ _ (λS2 b6=>?_);have O:=b6.trans (b2.trans B);have b0:=b6.ob _ _ b5;clear gp B b5 b2 b6;cases c5:decide sg.values.Nodup<;>rw[c5]at m<;>simp only[go_sem,b0,c5]
 .exact aF m O
 (refine bB (OT.l [0,1,2,3,4,5,6,7,8,9,10,11,12,13,15,16,14,17,18,19,20,21] .nil) [(2,[6,13,16]),(8,[13,16]),(14,[16])] ?_;simp only[go_sem,b0]);refine xA _ _ _ _ (λz b7=>?_);have H:=b7.ob _ _ b0;have U:=b7.trans O;clear b0 O b7;cases c6:decide sg.sorts.Nodup<;>rw[c6]at m<;>simp only[go_sem,H,c6]
 .exact aF m U
 refine aAd sg.sorts yG 44 [] [] _ _ _ (λx _ s' KV Kp _ m=>aJE x m) ?_;cases c7:sg.sorts.all yG<;>rw[c7]at m<;>simp only[go_sem,H,c6]
 .exact aF m U
 refine aEL sg.ops aB (λta bf bc=>?_);simp only[go_sem,H];refine aEL sg.funs aB (λtb bm bd=>?_);simp only[go_sem,H];have ga:(gs z ta sg.ops.length 9).ge z:=gE (aG z) bc;have bg:ta=none->sg.ops.length=0:=λe=>by rw[bf e];rfl
 have M:∀Z:A,Z.le (.list none ((sg.ops.map Opr.name++sg.funs.map Opr.name).map .str))->nK [Z] [.list none ((sg.ops.map Opr.name++sg.funs.map Opr.name).map .str)]:=λZ h=>⟨h,trivial⟩
 have bk:∀t,tb=some t->gZ (gs (gs z ta sg.ops.length 9) (some t) sg.funs.length 9) ta sg.ops.length 9:=λt ht=>by
  cases ta with
  | none=>exact bg rfl
  | some a =>
   show(gs (gs z (some a) sg.ops.length 9) (some t) sg.funs.length 9).getT a=_;rw[eI,aD (λe=>by cases e;have:=bd t ht;rw[eI,aE rfl]at this;cases this),eI,aE rfl]
 have bl:∀t u v,tb=some t->(ta=some u\/ta=none/\(gs (gs z ta sg.ops.length 9) (some t) sg.funs.length 9).getT u=none)->((gs (gs z ta sg.ops.length 9) (some t) sg.funs.length 9).setT u v).ge z:=λt u v ht hu=>by
  have g1:(gs (gs z ta sg.ops.length 9) (some t) sg.funs.length 9).ge z:=gE ga (λx e=>by cases e;exact bd t ht)
  have g2:z.getT u=none:=by
   rcases hu with e|⟨_,e⟩
   .exact bc u e
   .cases h0:z.getT u with
    | none=>rfl
    | some v=>rw[g1.tk _ _ h0]at e;cases e
  refine⟨λq o hq=>g1.ob q o hq,λx y hx=>?_,λy hy=>g1.ls y hy⟩;rw[cF,aD (λe=>by rw[<-e,g2]at hx;cases hx)];exact g1.tk x y hx
 cases tb
 case' some t =>
  simp only[go_sem,dB];refine⟨by decide,λy hy=>kX hy,cT rfl rfl (by simp only[aK];exact bk t rfl) (λy hy=>kX hy) (by simp only[aK];omega) (λu hu=>?_)⟩;simp only[go_sem];refine lU (M _ (by rw[bY];exact A.le.forget _ _)) (xA _ _ _ _ (λS4 L=>?_));have b3:S4.ge z:=L.trans (bl t u _ rfl hu)
 case' none =>
  have bb:sg.funs=[]:=bm rfl;simp only[go_sem,aAI];refine⟨rfl,?_⟩;cases ta
  case' none =>
   have bn:sg.ops=[]:=bf rfl;simp only[go_sem,aAI];refine lU (M _ (by rw[bn,bb];exact A.le.nil)) (xA _ _ _ _ (λS4 L=>?_));have b3:S4.ge z:=L
  case' some t =>
   simp only[go_sem,dB];refine lU (M _ (by rw[bb,cP,dQ];exact A.le.forget _ _)) (xA _ _ _ _ (λS4 L=>?_));have b3:S4.ge z:=L.trans ga
 all_goals
  have b8:=b3.ob _ _ H;have b4:=b3.trans U;cases c8:decide (sg.ops.map Opr.name++sg.funs.map Opr.name).Nodup<;>rw[c8]at m<;>simp only[go_sem,b8,c8]
  .exact aF m b4
  .refine aCu sg (by have:=of_decide_eq_false c2;omega) (by have:=of_decide_eq_false c1;omega) _ _ _ (λS5 r b9 hB=>?_);have b1:=b9.ob _ _ b8;have G:=b9.trans b4;simp only[go_sem,b1];refine aKp sg.below (xM sg) 50 [.ptr r 0] [] _ _ _ (λx hx s' KV Kp F m=>aIv (hB.ge F) x m) ?_;cases c9:sg.below.all (xM sg)<;>rw[c9]at m<;>simp only[go_sem,b1]
   .exact aF m G
   refine aAd sg.values (iB sg) 51 [.ptr r 0] [] _ _ _ (λx hx s' KV Kp F m=>oU (hB.ge F) x m) ?_;cases bh:sg.values.all (iB sg)<;>rw[bh]at m<;>simp only[go_sem,b1]
   .exact aF m G
   refine aE8 sg.ops (yP sg) 53 [.ptr r 0] [] _ _ _ (λx hx s' KV Kp F m=>aJI (hB.ge F) x (ho x hx).1 (ho x hx).2.1 (ho x hx).2.2 m) ?_;cases bj:sg.ops.all (yP sg)<;>rw[bj]at m<;>simp only[go_sem,b1]
   .exact aF m G
   refine aE8 sg.funs (aAV sg) 54 [.ptr r 0] [] _ _ _ (λx hx s' KV Kp F m=>aJm (hB.ge F) x m) ?_;simp only[go_sem];exact aF m G
end
end
end Go.AV
section
open Go.Proofs.Tryz
namespace Go.AV
open Go Go.Proofs
end Go.AV
end
namespace Go.AV
open Go Go.Proofs Tryz
theorem aJt(m:Nat):∀(xs:List Tm) (l d:Int) (s:St) (KV Kp:St->A->Prop),SizeOf.sizeOf xs<m->(∀n:Int,KV s (.int .i64 n))->Den cx 16 [.list none (xs.map Tm.enc),.int .i64 l,.int .i64 d] KV Kp s:=by
 induction m with
 | zero=>intro xs l d s KV Kp S;omega
 | succ m M =>
 intro xs l d s KV Kp S y;refine fS λG=>?_
 have z:=G _ (dZ ..);(refine aL func16 [0,1,2,6,8,10,11,12,13,14,29,43] ?_;simp only[go_sem,ntmps16,f16])
 (apply aQ<;>intro h)<;>simp only[go_sem,h]
 .exact aN (y _)
 refine Ex.loop (ι:=Int × Nat) (λc=>[(1,.int .i64 c.1),(2,.int .i64 d),(11,.list none (xs.map Tm.enc)),(12,.int .i64 xs.length),(13,.int .i64 (c.2:Nat))]) (λ_=>s)
  (λc=>c.2<=xs.length) (λc=>xs.length-c.2) (l,0) (aX _) ?_ (aG s) ?_
 ·(simp only[go_sem];try exact rfl)
 .clear h;rintro⟨l,i⟩ O;simp only at O;refine bC (V:=[0,1,2,6,8,10,11,12,13,14,29,43]) _ _ _ _ ?_;simp only[go_sem]
  (apply aQ<;>intro h)<;>simp only[go_sem,h]
  .have u:i<xs.length:=gQ h;obtain⟨x,B⟩:∃a,xs[i]?=some a:=⟨_,aV u⟩
   have F:x∈xs:=cR B;have U:=List.sizeOf_lt_of_mem F;have H:SizeOf.sizeOf x.kids<SizeOf.sizeOf x:=by cases x;simp only[Tm.kids,Tm.mk.sizeOf_spec];omega
   have L:SizeOf.sizeOf x.rest<SizeOf.sizeOf x:=by cases x;simp only[Tm.rest,Tm.mk.sizeOf_spec];omega
   clear h;simp only[go_sem,B,u];(refine aM λb8 q=>?_);simp only[go_sem,B,u,q,Int.reduceEq]
   (apply aQ<;>intro h)<;>simp only[go_sem,h,q]
   .exact aF (y _) bA
   clear h;refine M x.kids _ _ _ _ _ aB (λn1=>?_);simp only[go_sem,q];refine M x.rest _ _ _ _ _ aB (λZ=>?_);simp only[go_sem,q]
   (apply aQ<;>intro h)<;>simp only[go_sem,h,q]
   .exact aF (y _) bA
   exact⟨(Z,i+1),u,aP,by simp only[go_sem,z.wrap (i:=i) (gQ u)],(hH q)⟩
  .exact aN (y _)
theorem aJq(xs:List Tm)(l d:Int)(s:St)(KV Kp:St->A->Prop)(m:∀n:Int,KV s (.int .i64 n)):Den cx 16 [.list none (xs.map Tm.enc),.int .i64 l,.int .i64 d] KV Kp s :=
 aJt _ xs l d s KV Kp (lN _) m
theorem aK9(xs:List Tm)(l:Int)(s:St)(KV Kp:St->A->Prop)(m:∀b:Bool,KV s (.bool b)):Den cx 9 [.int .i64 l,.list none (xs.map Tm.enc)] KV Kp s:=by
 (refine aL func9 [0,1,4] ?_;simp only[go_sem,ntmps9,f9]);refine aJq xs _ _ _ _ _ (λn=>?_);simp only[go_sem];exact aN (m _)
def ev(tk:Option Nat)(es:List A):A:=match tk with
 | none=>.emp
 | some t=>.list (some t) es
@[go_sem] theorem aPH(tk:Option Nat)(es:List A):(ev tk es).cells=[ev tk es]:=by cases tk<;>rfl
@[go_sem] theorem aQk(tk:Option Nat)(es:List A):(ev tk es).one=true:=by cases tk<;>rfl
@[go_sem] theorem aQM(s:St)(tk:Option Nat)(es:List A):gA s (ev tk es)=ev tk es:=by cases tk<;>rfl
theorem aGO{tk:Option Nat}{es:List A}(h:tk=none->es=[]):jI (ev tk es)=some (.int .i64 es.length):=by
 cases tk with
 | none=>rw[h rfl];rfl
 | some t=>rfl
theorem aAB{s:St}{e:TypeId}{B:TI}{ys:List A}{KV:St->A->Prop}{tk:Option Nat}{es:List A}(L:tk=none->es=[])(H:∀t,tk=some t->s.getT t=some (es.length,e))
  (G:∀y,y∈es->y.cells.length=B.sz)(hl:es.length+ys.length<=4294967296)
  (q:∀m,(m=none->es++ys=[])->(∀t,m=some t->tk=some t\/s.getT t=none)->KV (gs s m (es.length+ys.length) e) (ev m (es++ys))):oM cx s e B ys KV (ev tk es):=by
 cases tk with
 | none =>
  have F:=L rfl;subst F;cases ys with
  | nil=>exact q none (λ_=>rfl) (λt h=>by cases h)
  | cons y r =>
   refine⟨⟨gQ hl,Nat.succ_pos _⟩,λt M=>?_⟩;have:=q (some t) (λh=>by cases h) (λu z=>by cases z;exact .inr M);simpa [gs,ev]using this
 | some t=>exact⟨H t rfl,G,hl,q (some t) (λh=>by cases h) (λu z=>.inl z)⟩
theorem aHw{S s:St}{q u:Option Nat}{U Z:Nat}{e:TypeId}(B:S.ge s)(H:∀t,q=some t->(none:Option Nat)=some t\/S.getT t=none)(L:∀t,u=some t->q=some t\/∃n,(gs S q n e).getT t=none) :
  (gs (gs S q U e) u Z e).ge s:=by
 have F:∀t,q=some t->S.getT t=none:=λt h=>(H t h).elim (λh=>by cases h) id
 refine⟨λb o ho=>by rw[bW,bW];exact B.ob b o ho,λt m M=>?_,λx O=>by cases q<;>cases u<;>exact B.ls x O⟩;have y:=B.tk t m M;have z:q≠some t:=λh=>by rw[F t h]at y;cases y
 have G:u≠some t:=λh=>by
  rcases L t h with h|⟨n,h⟩
  .exact z h
  .rw[eI,aD z,y]at h;cases h
 rw[eI,aD G,eI,aD z];exact y
theorem aDf{l:List Opr}{y:A}(m:y∈l.map Opr.enc):y.cells.length=7:=by
 obtain⟨z,_,rfl⟩:=cD.1 m;rfl
theorem aLq(x:Sig)(hB:x.ops.length+x.funs.length<=4294967296)(s:St)(KV Kp:St->A->Prop)(F:∀b:Bool,KV s (.bool b)):Den cx 8 [.agg x.cs] KV Kp s:=by
 simp only[go_sem];(refine aL func8 [0,1,2,3,5,31,38,39,40,41,58] ?_;simp only[go_sem,ntmps8,Tryz.f8]);(refine aM λp q=>?_);simp only[go_sem,q]
 (apply aQ<;>intro h)<;>simp only[go_sem,h,q]
 .exact aF (F _) bA
 clear h
 (apply aQ<;>intro h)<;>simp only[go_sem,h,q]
 .exact aF (F _) bA
 clear h
 (apply aQ<;>intro h)<;>simp only[go_sem,h,q]
 .exact aF (F _) bA
 clear h
 (apply aQ<;>intro h)<;>simp only[go_sem,h,q]
 .exact aF (F _) bA
 clear h;(refine bB (OT.l [0,1,2,4,5,8,3,6,7] .nil) [(3,[5])] ?_;simp only[go_sem,q]);refine⟨by decide,λy B=>aDf B,aAB (tk:=none) (es:=[]) (λ_=>rfl) (λt h=>by cases h) (λy B=>by cases B) (by simp only[aK,aU];omega) (λb0 S M=>?_)⟩;simp only[go_sem,q];refine⟨by decide,λy B=>aDf B,aAB (λh=>by simpa using S h) (λt L=>by rw[aC3 t L];simp) (λy B=>aDf (gQ B)) (by simp only[aK,aU,bP];omega) (λu G O=>?_)⟩;simp only[go_sem,q,aGO G]
 have H:u=none->x.ops++x.funs=[]:=λh=>by
  have:=G h;simpa using this
 have U:∀(i:Nat) (o:Opr),(x.ops++x.funs)[i]?=some o->∃t,ev u (List.map Opr.enc x.ops++List.map Opr.enc x.funs)=.list (some t) ((x.ops++x.funs).map Opr.enc):=λi o ho=>by
  cases u with
  | none =>
   rw[H rfl]at ho;cases ho
  | some t=>exact⟨t,by rw[bY];rfl⟩
 refine Ex.loop (ι:=Int × Nat) (λc=>[(3,.int .i64 c.1),(38,ev u (List.map Opr.enc x.ops++List.map Opr.enc x.funs)),(39,.int .i64 ((x.ops++x.funs).length:Nat)),(40,.int .i64 (c.2:Nat))]) (λ_=>s)
  (λc=>c.2<=(x.ops++x.funs).length) (λc=>(x.ops++x.funs).length-c.2) (0,0) (aX _) ?_ ?_ ?_
 ·(simp only[go_sem,q];try simp)
 .exact aHw bA M (λt h=>(O t h).imp id (λh=>⟨_,h⟩))
 .rintro⟨n,i⟩ Z;simp only at Z;refine bC (V:=[0,1,2,3,5,31,38,39,40,41,58]) _ _ _ _ ?_;simp only[go_sem]
  (apply aQ<;>intro h)<;>simp only[go_sem,h]
  .have m:i<(x.ops++x.funs).length:=gQ h;clear h;obtain⟨o,ho⟩:∃a,(x.ops++x.funs)[i]?=some a:=⟨_,aV m⟩
   obtain⟨t,L⟩:=U i o ho;simp only[go_sem,L,ho,m];(refine aM λb5 z=>?_);simp only[go_sem,L,ho,m,z]
   (apply aQ<;>intro h)<;>simp only[go_sem,h,z]
   .exact aF (F _) bA
   clear h;exact⟨(_,i+1),m,aP,⟨rfl,bM i (by rw[aI]at m;omega)⟩,(hH z)⟩
  .exact aN (F _)
theorem aMd(x:Tm):x.enc.cells.length=6:=by rw[cG];rfl
theorem mG{l:List Tm}{y:A}(m:y∈l.map Tm.enc):y.cells.length=6:=by
 obtain⟨z,_,rfl⟩:=cD.1 m;exact aMd z
end Go.AV
