/-
  Of CheckTells.
-/
import Derived.Test.YthaljojbclndaaaGreatDoorCt12
import Derived.Test.YthaljojbclndaaaGreatDoorCt08
import Derived.Test.YthaljojbclndaaaGreatDoorCt09
import Derived.Test.YthaljojbclndaaaGreatDoorCt07
set_option linter.all false
set_option maxRecDepth 99999
set_option maxHeartbeats 0
namespace Go.AV
open Go Go.Proofs Tryz
section
section
variable {s:St} {KV Kp:St->A->Prop} {c:Nat} {d:Dfn}
def aCI(x y:Part):Bool:=decide (y.cell=x.cell)&&decide (y.at_=x.at_)
theorem aQW(p:Nat)(x y:Part)(u:s.getO p=some (.cells 101 x.cs))(h:KV s (.bool (aCI x y))):Den cx 144 [.agg y.cs,.ptr p 0] KV Kp s:=by
 unfold aCI at h;simp only[Part.cs,bL,bE]at u;(refine aO func144 [0,1,2,3] ?_;simp only[go_sem,ntmps144,f144]);(refine aL λq z=>?_);have G:=aM u z;simp only[go_sem,u,z,G];cases B:decide (y.cell=x.cell)<;>rw[B]at h<;>simp only[go_sem,u,z,G,B]
 .exact aD h aK
 .exact aD h aK
theorem aQJ(p:Nat)(a:aA)(y:Part)(h:s.getO p=some (.cells 9 [.str a]))(B:KV s (.bool (decide (y.at_=a)))):Den cx 146 [.agg y.cs,.ptr p 0] KV Kp s:=by
 (refine aO func146 [0,1,2,3] ?_;simp only[go_sem,ntmps146,f146]);(refine aL λq u=>?_);have z:=aM h u;simp only[go_sem,h,u,z];exact aD B aK
theorem aQV(h:CkAt s c d)(ho:d.once.length<=4294967000)(hm:d.many.length<=4294967000)(z:List Part)(x:Part)(hW:TmW x.left)(hL:x.left.pre.length<=4294967000)(hR:x.right.length<=4294967000)
  (B:CK KV Kp s (zN d z x)):Den cx 84 [.ptr c 0,.agg x.cs,.list none (z.map Part.enc)] KV Kp s:=by
 have hC:=h;obtain⟨r,hc,hB⟩:=h;unfold zN at B;(refine gBo func84 aOn ?_;simp only[go_sem,ntmps84,f84]);(refine aL λp hp=>?_);have e1:=aM hc hp;simp only[go_sem,hp];(refine aL λq hq=>?_);have e2:=aM hc hq.2;have G:((s.setO p (.cells 101 x.cs)).setO q (.cells 58 [.int .i64 x.line,.int .i64 x.col])).ge s:=by simp only[Part.cs,bL,bE];exact aK
 have H:((s.setO p (.cells 101 x.cs)).setO q (.cells 58 [.int .i64 x.line,.int .i64 x.col])).getO p=some (.cells 101 x.cs):=by rw[aX,aE (λe=>hq.1.1 e.symm),aX,aF rfl]
 have M:((s.setO p (.cells 101 x.cs)).setO q (.cells 58 [.int .i64 x.line,.int .i64 x.col])).getO q=some (.cells 58 [.int .i64 x.line,.int .i64 x.col]):=by rw[aX,aF rfl]
 simp only[go_sem,hp,hq,hc,e1,e2];generalize b0:((s.setO p (.cells 101 x.cs)).setO q (.cells 58 [.int .i64 x.line,.int .i64 x.col]))=S1 at G H M;simp only[Part.cs,bL,bE,Tm.cs]at b0;rw[b0];clear b0;have Z:=hC.ge G;have gc:=G.ob _ _ hc;have b6:=H;simp only[Part.cs,bL,bE,Tm.cs]at H;refine cU (aGp Z ho hm x.cell ?_);generalize hS:cP d x.cell=C at B;obtain⟨S,mn,ok⟩:=C;simp only[go_sem,H,M];cases ok with
 | false =>
  simp only[go_sem,H,M];refine cU (fA 13 _ _ _ ?_);simp only[go_sem];exact aD B G
 | true =>
  rw[aE (λh=>by cases h)]at B;simp only[go_sem,H,M];have key:mn=!decide (x.at_=[])\/mn≠!decide (x.at_=[]):=by cases mn<;>cases decide (x.at_=[])<;>simp
  rcases key with O|O
  rotate_left
  .rw[aF O]at B;cases c2:decide (x.at_=[])<;>cases mn<;>rw[c2]at O<;>first|exact cG rfl O|(simp only[go_sem,H,M,c2,beq_true,beq_false];refine cU (fA 15 _ _ _ ?_);simp only[go_sem];exact aD B G)
  rw[aE (λh=>h O)]at B;cases c2:decide (x.at_=[])<;>cases mn<;>rw[c2]at O<;>first|(cases O;done)|skip
  all_goals
   simp only[go_sem,H,M,c2,beq_true,beq_false];refine cU (aJg z (aCI x) 144 [] [.ptr p 0] _ _ _ (λy hy KV Kp B=>aQW p x y b6 B) ?_);have b3:(z.any λy=>decide (y.cell=x.cell)&&decide (y.at_=x.at_))=z.any (aCI x):=rfl;rw[b3]at B;cases hb:z.any (aCI x)<;>rw[hb]at B
   rotate_left
   .simp only[go_sem,H,M];refine cU (fA 14 _ _ _ ?_);simp only[go_sem];exact aD B G
   rw[aE (λh:false=true=>by cases h)]at B;simp only[go_sem,H,M];(refine bX (OT.r 0 15) [(6,[10])] ?_;simp only[go_sem,H,M,gc]);refine cU (aJo (hB.ge G) x.left hW aB ?_);cases b5:mC d.sig x.left
   .rw[b5,aF (.inl rfl)]at B;simp only[go_sem,H,M];refine cU (fA 16 _ _ _ ?_);simp only[go_sem];exact aD B G
   rw[b5]at B;have f1:decide ((1:Int)<((x.right.length:Nat):Int))=decide (1<x.right.length):=by rw[bW];omega
   by_cases Y:1<x.right.length
   .rw[aF (.inr Y)]at B;simp only[go_sem,H,M,f1,cF Y];refine cU (fA 16 _ _ _ ?_);simp only[go_sem];exact aD B G
   rw[aE (λh=>h.elim (λh=>by cases h) Y)]at B;simp only[go_sem,H,M,f1,bN Y];refine cU (aBV Z _ _ _ x.right (lR B (λB=>?_) (λf hf=>?_)));rotate_left
   .simp only[go_sem];exact aD hf G
   simp only[go_sem,H,M];refine .inr λt bb=>⟨by decide,λy hy=>jP hy,λy hy=>(by rw[bS.1 hy];rfl),by omega,?_⟩
   have b4:((S1.setT t (1,67)).setT t (1+x.right.length,67)).ge S1:=by simp only[oI];exact eJ (tk:=some t) (aC S1) (λu hu=>by cases hu;exact bb)
   have b2:(A.agg x.left.cs::x.right.map Tm.enc)=(x.left::x.right).map Tm.enc:=by simp only[cC,fZ]
   simp only[Tm.cs]at b2;rw[b2]
   refine Ex.loop (ι:=Nat) (λi=>[(0,.ptr c 0),(4,.ptr p 0),(6,.ptr q 0),(7,.str S),(81,.list (some t) ((x.left::x.right).map Tm.enc)),(82,.int .i64 ((x.left::x.right).length:Nat)),(83,.int .i64 (i:Nat))])
    (λ_=>S1) (λi=>i<=(x.left::x.right).length/\CK KV Kp s (bO (λt=>jL d.sig x.cell x.line x.col t S) ((x.left::x.right).drop i))) (λi=>(x.left::x.right).length-i) 0 ⟨aN _,B⟩ ?_ b4 ?_
   .simp only[go_sem]
    try exact rfl
   .clear B;have b7:(x.left::x.right).length<=4294967100:=by rw[bB];omega
    generalize x.left::x.right=L at b7;rintro i ⟨hi,B⟩;refine aQ (V:=aOn) _ _ _ _ ?_;simp only[go_sem]
    (apply aI<;>intro h)<;>simp only[go_sem,h]
    .have U:i<L.length:=gQ h;clear h;obtain⟨k,b1⟩:=aU U;rw[rX _ b1]at B;simp only[go_sem,b1,U];(refine bP λb9 T=>?_);have f2:=aM M (aJ T);have f3:=aM H T;simp only[go_sem,b1,U,T,f2,f3,M,H];refine cU (aAn (Z.ge (aZ T (aC S1))) _ _ _ k _ (lR B (λB=>?_) (λf hf=>?_)));rotate_left
     .simp only[go_sem];exact aD hf ((aZ T (aC S1)).trans G)
     simp only[go_sem];exact⟨i+1,⟨U,B⟩,by omega,aR i aB,eE⟩
    .have b8:=bI hi h;subst b8;rw[dB (bF _)]at B;exact aD B G
end
end
section
theorem aQu{d:Dfn}{n:aA}{l k:Int}:∀{ts:List Tm} {h:List Cel} {j:Nat} {t:Tm} {m:Cel},ts[j]?=some t->h[j]?=some m ->
  rH d n l k (ts.drop j) (h.drop j)=aH (lG d.sig n l k [t]) (aH (jL d.sig n l k t m.sort) (rH d n l k (ts.drop (j+1)) (h.drop (j+1)))):=by
 intro ts h j t m u y;obtain⟨z,rfl⟩:=cX.1 u;obtain⟨B,rfl⟩:=cX.1 y;rw[rA z,rA B];rfl
theorem aRB{l k:Int}{b:List aA}{ss:List aA}{j:Nat}{x:aA}(h:ss[j]?=some x):mF l k b (ss.drop j)=aH (bC (decide (x∈b)) ⟨14,x,l,k⟩) (mF l k (b++[x]) (ss.drop (j+1))):=by
 obtain⟨u,rfl⟩:=cX.1 h;rw[rA u];rfl
theorem dC{u:Type}{l:List u}{i:Nat}{x:u}(h:l[i]?=some x):l.take (i+1)=l.take i++[x]:=by rw[fL,h];rfl
section
variable {s:St} {KV Kp:St->A->Prop} {c:Nat} {d:Dfn}
theorem aQI(h:CkAt s c d)(r:Rul)(hn:r.new.length<=4294967000)(bd:∀x,x∈r.new->x.cells.length<=4294967000)(hd:r.drop.length<=4294967000)(u:CK KV Kp s (tY d r)) :
  Den cx 87 [.ptr c 0,.agg [.int .i64 r.line,.int .i64 r.col],.agg r.cs] KV Kp s:=by
 have hC:=h;obtain⟨rb,hc,hB⟩:=h;unfold tY at u;(refine aO func87 aBC ?_;simp only[go_sem,ntmps87,f87]);(refine aL λq hq=>?_);simp only[go_sem,hq];(refine aL λp hp=>?_);simp only[go_sem,hp];have G:((s.setO q (.cells 58 [.int .i64 r.line,.int .i64 r.col])).setO p (.cells 50 r.cs)).ge s:=by simp only[Rul.cs];exact aK
 have H:((s.setO q (.cells 58 [.int .i64 r.line,.int .i64 r.col])).setO p (.cells 50 r.cs)).getO p=some (.cells 50 r.cs):=by rw[aX,aF rfl]
 have O:((s.setO q (.cells 58 [.int .i64 r.line,.int .i64 r.col])).setO p (.cells 50 r.cs)).getO q=some (.cells 58 [.int .i64 r.line,.int .i64 r.col]):=by rw[aX,aE (λe=>by subst e;simp at hp),aX,aF rfl]
 generalize b3:((s.setO q (.cells 58 [.int .i64 r.line,.int .i64 r.col])).setO p (.cells 50 r.cs))=S1 at G H O;simp only[Rul.cs]at b3;rw[b3];clear b3;have b5:=hC.ge G;have Y:=G.ob _ _ hc;simp only[Rul.cs]at H
 (try simp only[go_sem,H,O])
 refine Ex.loop (ι:=Nat) (λi=>[(0,.ptr c 0),(4,.ptr q 0),(5,.ptr p 0),(17,.list none (r.new.map Fresh.enc)),(18,.int .i64 (r.new.length:Nat)),(19,.int .i64 (i:Nat))])
  (fun _=>S1) (fun i=>i≤r.new.length∧(∀ x,x∈r.new.take i→x.cells.length=d.many.length)∧CK KV Kp s (aH (bO (fun x:Fresh=>bC (decide (d.kind=[])||!decide (x.cells.length=d.many.length)) ⟨15,r.name,r.line,r.col⟩) (r.new.drop i))
   (aH (bO (λx:Fresh=>rH d r.name r.line r.col x.cells d.many) r.new) (aH (bO (λs=>bC (!r.parts.any λx=>decide (x.at_=s)) ⟨13,s,r.line,r.col⟩) r.drop) (mF r.line r.col [] r.drop)))))
  (λi=>r.new.length-i) 0 ⟨aN _,λx Z=>(by cases Z),u⟩ ?_ (aC _) ?_
 .simp only[go_sem]
  try exact rfl
 .clear u;rintro i ⟨hi,b2,u⟩;refine aQ (V:=aBC) _ _ _ _ ?_;simp only[go_sem]
  (apply aI<;>intro h)<;>simp only[go_sem,h]
  .have z:i<r.new.length:=gQ h;clear h;obtain⟨x,Z⟩:=aU z;rw[rX _ Z,dR]at u;have bg:=dC Z;simp only[go_sem,Z,z];(refine bP λb7 T=>?_);have f1:=aM Y (aJ T);have f2:=aM O T;have f3:=aM H T;simp only[go_sem,Z,z,T,f1,f2,f3,H,O,Y];(refine bX (OT.r 0 18) [] ?_;simp only[go_sem,Z,z,T,f1,f2,f3,H,O,Y]);have n1:decide (((x.cells.length:Nat):Int)=((d.many.length:Nat):Int))=decide (x.cells.length=d.many.length):=by rw[bW];omega
   cases c1:decide (d.kind=[])<;>rw[c1]at u<;>simp only[go_sem,Z,z,T,f1,f2,f3,H,O,Y,c1,n1]
   rotate_left
   ·replace u:CK KV Kp s (some (⟨15,r.name,r.line,r.col⟩:Fault)):=u
    refine fA 15 _ _ _ ?_;simp only[go_sem];exact aD u ((aZ T (aC S1)).trans G)
   cases c2:decide (x.cells.length=d.many.length)<;>rw[c2]at u<;>simp only[go_sem,Z,z,T,f1,f2,f3,H,O,Y,c1,c2,n1]
   ·replace u:CK KV Kp s (some (⟨15,r.name,r.line,r.col⟩:Fault)):=u
    refine fA 15 _ _ _ ?_;simp only[go_sem];exact aD u ((aZ T (aC S1)).trans G)
   .refine⟨i+1,⟨z,λy hy=>?_,u⟩,by omega,aR i aB,eE⟩;rw[bg]at hy;rcases bT.1 hy with hy|hy
    .exact b2 y hy
    .rw[bS.1 hy];exact eN c2
  .have U:=bI hi h;subst U;clear h hi;rw[dB (bF _)]at u;rw[bK]at b2
   replace u:CK KV Kp s (aH (bO (λx:Fresh=>rH d r.name r.line r.col x.cells d.many) r.new) (aH (bO (λs=>bC (!r.parts.any λx=>decide (x.at_=s)) ⟨13,s,r.line,r.col⟩) r.drop) (mF r.line r.col [] r.drop))):=u
   simp only[go_sem,H,O]
   refine Ex.loop (ι:=Nat) (λi=>[(0,.ptr c 0),(4,.ptr q 0),(5,.ptr p 0),(47,.list none (r.new.map Fresh.enc)),(48,.int .i64 (r.new.length:Nat)),(49,.int .i64 (i:Nat))])
    (λ_=>S1) (λi=>i<=r.new.length/\CK KV Kp s (aH (bO (λx:Fresh=>rH d r.name r.line r.col x.cells d.many) (r.new.drop i)) (aH (bO (λs=>bC (!r.parts.any λx=>decide (x.at_=s)) ⟨13,s,r.line,r.col⟩) r.drop) (mF r.line r.col [] r.drop))))
    (λi=>r.new.length-i) 0 ⟨aN _,u⟩ ?_ (aC _) ?_
   .simp only[go_sem]
    try exact rfl
   .clear u;rintro i ⟨hi,u⟩;refine aQ (V:=aBC) _ _ _ _ ?_;simp only[go_sem]
    (apply aI<;>intro h)<;>simp only[go_sem,h]
    .have z:i<r.new.length:=gQ h;clear h;obtain⟨x,Z⟩:=aU z;have bb:x∈r.new:=bA Z;have bj:=b2 x bb;have bh:=bd x bb;rw[rX _ Z,dR]at u;generalize hR:aH (bO (λx:Fresh=>rH d r.name r.line r.col x.cells d.many) (r.new.drop (i+1))) (aH (bO (λs=>bC (!r.parts.any λx=>decide (x.at_=s)) ⟨13,s,r.line,r.col⟩) r.drop) (mF r.line r.col [] r.drop))=R at u;simp only[go_sem,Z,z];(refine aL λb9 b6=>?_);simp only[go_sem,Z,z,b6]
     refine Ex.loop (ι:=Nat) (λj=>[(0,.ptr c 0),(4,.ptr q 0),(5,.ptr p 0),(47,.list none (r.new.map Fresh.enc)),(48,.int .i64 (r.new.length:Nat)),(49,.int .i64 (i:Nat)),(54,.list none (x.cells.map Tm.enc)),(55,.int .i64 (x.cells.length:Nat)),(56,.int .i64 (j:Nat))])
      (λ_=>S1) (λj=>j<=x.cells.length/\CK KV Kp s (aH (rH d r.name r.line r.col (x.cells.drop j) (d.many.drop j)) R)) (λj=>x.cells.length-j) 0 ⟨aN _,u⟩ ?_ (aZ b6 (aC S1)) ?_
     .simp only[go_sem]
      try exact rfl
     .clear u;rintro j ⟨hj,u⟩;refine aQ (V:=aBC) _ _ _ _ ?_;simp only[go_sem]
      (apply aI<;>intro h)<;>simp only[go_sem,h]
      .have b1:j<x.cells.length:=gQ h;clear h;obtain⟨t,ht⟩:=aU b1;have b8:j<d.many.length:=by omega
       obtain⟨m,hm⟩:=aU b8;rw[aQu ht hm,dR,dR]at u;simp only[go_sem,ht,b1];(refine bP λbc B=>?_);have f1:=aM Y (aJ B);have f2:=aM O B;have f3:=aM H B;have b0:(S1.setO bc (.cells 67 t.cs)).ge S1:=aZ B (aC S1);simp only[Tm.cs]at b0;simp only[go_sem,ht,b1,B,f1,f2,f3,H,O,Y];refine dU (aBV (b5.ge b0) _ _ _ [t] (lR u (λu=>?_) (λf hf=>?_))) (by rw[aBu];rfl);rotate_left
       .simp only[go_sem];exact aD hf (b0.trans G)
       simp only[go_sem,ht,b1,B,f1,f2,f3,H,O,Y];(refine bX (OT.r 0 15) [] ?_;simp only[go_sem,ht,b1,B,f1,f2,f3,H,O,Y,hm,b8]);refine aAn (b5.ge b0) _ _ _ t _ (lR u (λu=>?_) (λf hf=>?_));rotate_left
       .simp only[go_sem];exact aD hf (b0.trans G)
       simp only[go_sem];exact⟨j+1,⟨b1,u⟩,by omega,aR j aB,b0⟩
      .have bf:=bI hj h;subst bf;rw[dB (bF _)]at u
       replace u:CK KV Kp s R:=u
       rw[<-hR]at u;exact⟨i+1,⟨z,u⟩,by omega,aR i aB,aC _⟩
    .have U:=bI hi h;subst U;clear h hi;rw[dB (bF _)]at u
     replace u:CK KV Kp s (aH (bO (λs=>bC (!r.parts.any λx=>decide (x.at_=s)) ⟨13,s,r.line,r.col⟩) r.drop) (mF r.line r.col [] r.drop)):=u
     simp only[go_sem,H,O]
     refine Ex.loop (ι:=Nat) (λi=>[(0,.ptr c 0),(4,.ptr q 0),(5,.ptr p 0),(86,.list none (r.drop.map .str)),(87,.int .i64 (r.drop.length:Nat)),(88,.int .i64 (i:Nat))])
      (λ_=>S1) (λi=>i<=r.drop.length/\CK KV Kp s (aH (bO (λs=>bC (!r.parts.any λx=>decide (x.at_=s)) ⟨13,s,r.line,r.col⟩) (r.drop.drop i)) (mF r.line r.col [] r.drop))) (λi=>r.drop.length-i) 0 ⟨aN _,u⟩ ?_ (aC _) ?_
     .simp only[go_sem]
      try exact rfl
     .clear u;rintro i ⟨hi,u⟩;refine aQ (V:=aBC) _ _ _ _ ?_;simp only[go_sem]
      (apply aI<;>intro h)<;>simp only[go_sem,h]
      .have z:i<r.drop.length:=gQ h;clear h;obtain⟨a,ha⟩:=aU z;rw[rX _ ha,dR]at u;simp only[go_sem,ha,z];(refine bP λb4 M=>?_);have f1:=aM Y (aJ M);have f2:=aM O M;have f3:=aM H M;simp only[go_sem,ha,z,M,f1,f2,f3,H,O,Y];refine aJg r.parts (λx=>decide (x.at_=a)) 146 [] [.ptr b4 0] _ _ _ (λy hy KV Kp u=>aQJ b4 a y (by rw[aX,aF rfl]) u) ?_;cases hb:r.parts.any λx=>decide (x.at_=a)<;>rw[hb]at u<;>simp only[go_sem,M,f1,f2,f3,H,O,Y]
       ·replace u:CK KV Kp s (some (⟨13,a,r.line,r.col⟩:Fault)):=u
        refine fA 13 _ _ _ ?_;simp only[go_sem];exact aD u ((aZ M (aC S1)).trans G)
       .exact⟨i+1,⟨z,u⟩,by omega,aR i aB,eE⟩
      .have U:=bI hi h;subst U;clear h hi;rw[dB (bF _)]at u
       replace u:CK KV Kp s (mF r.line r.col [] r.drop):=u
       simp only[go_sem,H,O]
       refine Ex.loop (ι:=Nat) (λi=>[(0,.ptr c 0),(4,.ptr q 0),(5,.ptr p 0),(102,.list none (r.drop.map .str)),(103,.int .i64 (r.drop.length:Nat)),(104,.int .i64 (i:Nat))])
        (λ_=>S1) (λi=>i<=r.drop.length/\CK KV Kp s (mF r.line r.col (r.drop.take i) (r.drop.drop i))) (λi=>r.drop.length-i) 0 ⟨aN _,u⟩ ?_ (aC _) ?_
       .simp only[go_sem]
        try exact rfl
       .clear u;rintro i ⟨hi,u⟩;refine aQ (V:=aBC) _ _ _ _ ?_;simp only[go_sem]
        (apply aI<;>intro h)<;>simp only[go_sem,h]
        .have z:i<r.drop.length:=gQ h;clear h;obtain⟨a,ha⟩:=aU z;rw[aRB ha,<-dC ha]at u;simp only[go_sem,ha,z,H,O,Y];refine⟨λy hy=>eI hy,hi,dU (qK _ (r.drop.take i) a _ _ ?_) (by rw[lC])⟩;cases c1:decide (a∈r.drop.take i)<;>rw[c1]at u<;>simp only[go_sem,H,O,Y]
         .exact⟨i+1,⟨z,u⟩,by omega,aR i aB,aC _⟩
         ·replace u:CK KV Kp s (some (⟨14,a,r.line,r.col⟩:Fault)):=u
          refine fA 14 _ _ _ ?_;simp only[go_sem];exact aD u G
        .have U:=bI hi h;subst U;rw[dB (bF _)]at u;exact aD u G
end
end
section
theorem aPV(x:Tm)(l:List Tm)(G:l.length<=4294967000)(t:Nat)(s:St)(KV Kp:St->A->Prop)(z:∀u,s.getT u=none->KV (s.setT u ((x::l).length,67)) (.list (some u) ((x::l).map Tm.enc))) :
  Den cx 86 [.list (some t) ((x::l).map Tm.enc)] KV Kp s:=by
 simp only[cC,fZ];(refine aO func86 [0,2,4] ?_;simp only[go_sem,ntmps86,f86]);refine⟨by decide,λy h=>?_,by omega,λu B=>?_⟩
 .rcases List.mem_cons.1 h with rfl|h
  .rfl
  .exact jP h
 .simp only[go_sem];refine aS ?_;have:=z u B;simp only[cC,bB,fZ,Tm.cs]at this;exact this
theorem aQn(l:List Tm)(h:l≠[])(z:l.length<=4294967000)(t:Nat)(s:St)(KV Kp:St->A->Prop)(y:∀u,s.getT u=none->KV (s.setT u (l.length,67)) (.list (some u) (l.map Tm.enc))) :
  Den cx 86 [.list (some t) (l.map Tm.enc)] KV Kp s:=by
 cases l with
 | nil=>exact cG rfl h
 | cons x l=>exact aPV x l (by rw[bB]at z;omega) t s KV Kp y
structure RlI (S1:St) (a:Option Nat) (n:Nat) (b:Option Nat) (m:Nat) (S:St):Prop where
 ge:S.ge S1
 ga:mN S a n 67
 gb:mN S b m 67
 na:∀t,a=some t->S1.getT t=none
 nb:∀t,b=some t->S1.getT t=none
 ne:∀t,a=some t->b≠some t
section
variable {S1 S S':St} {a b:Option Nat} {n m:Nat}
theorem RlI.swap(h:RlI S1 a n b m S):RlI S1 b m a n S:=⟨h.ge,h.gb,h.ga,h.nb,h.na,λt u y=>h.ne t y u⟩
theorem RlI.mono(h:RlI S1 a n b m S)(u:S'.ge S):RlI S1 a n b m S':=by
 refine⟨u.trans h.ge,?_,?_,h.na,h.nb,h.ne⟩
 .have:=h.ga;cases a with
  | none=>exact this
  | some t=>exact u.tk _ _ this
 .have:=h.gb;cases b with
  | none=>exact this
  | some t=>exact u.tk _ _ this
theorem RlI.step(h:RlI S1 a n b m S){t:Nat}(z:a=some t\/a=none/\S.getT t=none)(k:Nat):RlI S1 (some t) k b m (S.setT t (k,67)):=by
 have G:S1.getT t=none:=by
  rcases z with z|⟨_,z⟩
  .exact h.na t z
  .cases M:S1.getT t with
   | none=>rfl
   | some v=>rw[h.ge.tk _ _ M]at z;cases z
 have H:b≠some t:=by
  rcases z with z|⟨_,z⟩
  .exact h.ne t z
  .rintro rfl;have:S.getT t=some (m,67):=h.gb;rw[z]at this;cases this
 refine⟨⟨λq o O=>h.ge.ob q o O,λu v B=>?_,λy T=>h.ge.ls y T⟩,?_,?_,λu B=>by cases B;exact G,h.nb,λu B=>by cases B;exact H⟩
 .rw[fE,aE (λe=>by rw[<-e,G]at B;cases B)];exact h.ge.tk u v B
 .show(S.setT t (k,67)).getT t=_;rw[fE,aF rfl]
 .have:=h.gb;cases b with
  | none=>exact this
  | some u =>
   show(S.setT t (k,67)).getT u=_;rw[fE,aE (λe=>H (by rw[e]))];exact this
end
theorem aQZ{d:Dfn}{b:List Part}{l:List Part}{i:Nat}{x:Part}(h:l[i]?=some x):xC d b (l.drop i)=aH (zN d b x) (xC d (b++[x]) (l.drop (i+1))):=by
 obtain⟨u,rfl⟩:=cX.1 h;rw[rA u];rfl
theorem aMV{l:List Part}{y:A}(h:y∈l.map Part.enc):y.cells.length=11:=by
 obtain⟨z,_,rfl⟩:=cW.1 h;rfl
theorem aAw{u y:Type}(f:u->List y){l:List u}{i:Nat}{x:u}(h:l[i]?=some x):(l.take (i+1)).flatMap f=(l.take i).flatMap f++f x:=by
 rw[fL,h,qF];simp
theorem aKT{u y:Type}(f:u->List y)(l:List u)(i:Nat):((l.take i).flatMap f).length<=(l.flatMap f).length:=by
 have h:(l.flatMap f).length=((l.take i).flatMap f).length+((l.drop i).flatMap f).length:=by rw[<-aG,<-qF,lA]
 omega
theorem aS0(r:Rul):(aP (fH r++dL r)).length=(aP (fD r)).length:=by
 have h:∀u:List Part,(aP (u.map Part.left)).length+(aP (u.flatMap Part.right)).length=(aP (u.flatMap λp=>p.left::p.right)).length:=by
  intro u
  induction u with
  | nil=>rfl
  | cons x r y =>
   simp only[cC,gR,dP,aP,aG,bL]at y⊢;omega
 have:=h r.parts;simp only[fH,dL,fD,dP,aG]at this⊢;omega
section
variable {s:St} {KV Kp:St->A->Prop} {c:Nat} {d:Dfn}
theorem aR2(h:CkAt s c d)(ho:d.once.length<=4294967000)(hm:d.many.length<=4294967000)(H:List aA)(r:Rul)(hP:r.parts.length<=4294967000)(hW:∀x,x∈r.parts->TmW x.left)
  (hT:(aP (fD r)).length<=4294967000)(hn:r.new.length<=4294967000)(hd:r.drop.length<=4294967000)(B:CK KV Kp s (zP d H r)) :
  Den cx 30 [.ptr c 0,.agg r.cs,.list none (H.map .str)] KV Kp s:=by
 have hC:=h;obtain⟨rb,hc,hB⟩:=h;unfold zP at B;have c6:=aS0 r;rw[dP,aG]at c6;have cg:=iP (fH r);have cj:=iP (dL r)
 have cd:(r.parts.flatMap Part.right).length+(r.cond.length+(r.new.flatMap Fresh.cells).length)<=4294967000:=by
  have:(dL r).length=(r.parts.flatMap Part.right).length+(r.cond.length+(r.new.flatMap Fresh.cells).length):=by simp only[dL,aG];omega
  omega
 have c2:∀x,x∈r.new->x.cells.length<=4294967000:=λx G=>by
  have:x.cells.length<=(r.new.flatMap Fresh.cells).length:=by
   obtain⟨a,b,e⟩:=List.append_of_mem G;rw[e];simp only[qF,gR,aG];omega
  omega
 have c7:∀x,x∈r.parts->x.left.pre.length<=4294967000/\x.right.length<=4294967000:=λx G=>by
  have h1:x.left.pre.length<=(aP (fH r)).length:=wO (cW.2 ⟨x,G,rfl⟩)
  have h2:x.right.length<=(r.parts.flatMap Part.right).length:=by
   obtain⟨a,b,e⟩:=List.append_of_mem G;rw[e];simp only[qF,gR,aG];omega
  omega
 (refine aO func30 aFj ?_;simp only[go_sem,ntmps30,f30]);(refine aL λp hp=>?_);have e1:=aM hc hp;simp only[go_sem,hp];(refine aL λq hq=>?_);have e2:=aM hc hq.2;have Y:((s.setO p (.cells 50 r.cs)).setO q (.cells 58 [.int .i64 r.line,.int .i64 r.col])).ge s:=by simp only[Rul.cs];exact aK
 have gp:((s.setO p (.cells 50 r.cs)).setO q (.cells 58 [.int .i64 r.line,.int .i64 r.col])).getO p=some (.cells 50 r.cs):=by rw[aX,aE (λe=>hq.1.1 e.symm),aX,aF rfl]
 have gq:((s.setO p (.cells 50 r.cs)).setO q (.cells 58 [.int .i64 r.line,.int .i64 r.col])).getO q=some (.cells 58 [.int .i64 r.line,.int .i64 r.col]):=by rw[aX,aF rfl]
 simp only[go_sem,hp,hq,hc,e1,e2];generalize bm:((s.setO p (.cells 50 r.cs)).setO q (.cells 58 [.int .i64 r.line,.int .i64 r.col]))=S1 at Y gp gq;simp only[Rul.cs]at bm;rw[bm];clear bm;have c0:=hC.ge Y;have gc:=Y.ob _ _ hc;simp only[Rul.cs]at gp;refine qK _ H r.name _ _ ?_;by_cases h0:r.name∈H
 .rw[aF h0]at B;simp only[go_sem,gp,gq,cF h0];refine fA 14 _ _ _ ?_;simp only[go_sem];exact aD B Y
 rw[aE h0]at B
 have z1:decide (((r.parts.length:Nat):Int)=0)=decide (r.parts=[]):=by
  rw[bW];constructor
  .intro h;exact eK aB
  .intro h;rw[h];rfl
 have z2:decide (r.parts.length=0)=decide (r.parts=[]):=by rw[bW];exact List.length_eq_zero_iff
 by_cases h1:r.parts=[]
 .rw[aF h1]at B;simp only[go_sem,gp,gq,bN h0,z1,z2,cF h1];refine fA 15 _ _ _ ?_;simp only[go_sem];exact aD B Y
 rw[aE h1]at B;simp only[go_sem,gp,gq,bN h0,z1,z2,bN h1]
 refine Ex.loop (ι:=Nat × Option Nat × Option Nat × St) (λk=>[(0,.ptr c 0),(4,.ptr p 0),(6,.ptr q 0),(7,gv k.2.1 (((r.parts.take k.1).map Part.left).map Tm.enc)),(8,gv k.2.2.1 (((r.parts.take k.1).flatMap Part.right).map Tm.enc)),(9,.nils),(40,.list none (r.parts.map Part.enc)),(41,.int .i64 (r.parts.length:Nat)),(42,.int .i64 (k.1:Nat))])
  (fun k=>k.2.2.2) (fun k=>k.1≤r.parts.length∧RlI S1 k.2.1 ((r.parts.take k.1).map Part.left).length k.2.2.1 ((r.parts.take k.1).flatMap Part.right).length k.2.2.2∧CK KV Kp s (aH (xC d (r.parts.take k.1) (r.parts.drop k.1)) (aH (vM r.line r.col (fH r++dL r)) (aH (tO r.line r.col (fH r) (dL r))
   (aH (bO (λt=>aH (lG d.sig r.name r.line r.col [t]) (jL d.sig r.name r.line r.col t [66,111,111,108])) r.cond) (tY d r)))))) (λk=>r.parts.length-k.1) (0,none,none,S1)
  ⟨aN _,⟨aC _,rfl,rfl,λt ht=>(by cases ht),λt ht=>(by cases ht),λt ht=>(by cases ht)⟩,B⟩ ?_ (aC _) ?_
 .simp only[go_sem]
  try exact⟨rfl,rfl,rfl⟩
 .clear B;rintro⟨i,a,b,S⟩ ⟨hi,hR,B⟩;simp only at hi hR B;refine aQ (V:=aFj) _ _ _ _ ?_;simp only[go_sem]
  (apply aI<;>intro h)<;>simp only[go_sem,h]
  .have z:i<r.parts.length:=gQ h;clear h;obtain⟨x,G⟩:=aU z;have bv:x∈r.parts:=bA G;obtain⟨c8,c9⟩:=c7 x bv;rw[aQZ G,dR,<-dC G]at B;have bp:=hR.ge.ob _ _ gc;have T:=hR.ge.ob _ _ gp;simp only[go_sem,G,z];(refine bP λbf Z=>?_);have f1:=aM T (aJ Z);have bc:(S.setO bf (.cells 101 x.cs)).ge S:=aZ Z (aC S);have gb:(S.setO bf (.cells 101 x.cs)).getO bf=some (.cells 101 x.cs):=by rw[aX,aF rfl]
   simp only[go_sem,G,z,Z,f1,T];generalize bn:S.setO bf (.cells 101 x.cs)=S2 at bc gb;simp only[Part.cs,Tm.cs,bL,bE]at bn;rw[bn];clear bn f1 Z;have bh:=hR.mono bc;have b3:=bc.ob _ _ T;simp only[Part.cs,Tm.cs,bL,bE]at gb;(refine bX (OT.r 0 7) [] ?_;simp only[go_sem,G,z,gb,b3]);refine⟨λy O=>aMV O,hi,?_⟩;rw[<-lC];refine aQV (c0.ge bh.ge) ho hm _ x (hW x bv) c8 c9 (lR B (λB=>?_) (λf U=>?_));rotate_left
   .simp only[go_sem];exact aD U (bh.ge.trans Y)
   simp only[go_sem,G,z,gb,b3];(refine bX (OT.l [0,1,2,3,5,6,7,4,8,9,10] .nil) [(4,[7])] ?_;simp only[go_sem,G,z,gb,b3]);refine⟨by decide,λy O=>(by rw[bS.1 O];rfl),fJ rfl rfl (by rw[aW];exact bh.ga) (λy O=>jP O) (by simp only[aW,dG,bB,bQ];omega) (λt ht=>?_)⟩;have bq:=bh.step ht ((r.parts.take i).length+1);simp only[go_sem,G,z,gb,b3];have b9:=aKT Part.right r.parts (i+1);rw[aAw _ G,aG]at b9;refine⟨by decide,λy O=>jP O,fJ rfl rfl (by rw[aW];exact bq.gb) (λy O=>jP O) (by simp only[aW];omega) (λu hu=>?_)⟩;have br:=(bq.swap.step hu ((((r.parts.take i).flatMap Part.right).map Tm.enc).length+(x.right.map Tm.enc).length)).swap;simp only[go_sem,G,z,gb,b3];simp only[aW]at br⊢;refine⟨(i+1,some t,some u,_),⟨z,?_,B⟩,bD,⟨?_,?_,aR i aB⟩,aC _⟩
   .have q1:(r.parts.take (i+1)).length=(r.parts.take i).length+1:=by rw[dC G];simp
    have q2:((r.parts.take (i+1)).flatMap Part.right).length=((r.parts.take i).flatMap Part.right).length+x.right.length:=by rw[aAw _ G,aG]
    show RlI S1 (some t) (r.parts.take (i+1)).length (some u) ((r.parts.take (i+1)).flatMap Part.right).length _;rw[q1,q2];exact br
   .rw[dC G,cB,cB];simp only[cC,eZ,fZ,Tm.cs];rfl
   .rw[aAw _ G,cB];rfl
  .have bd:=bI hi h;subst bd;clear h hi;rw[dB (bF _)]at B;rw[bK]at hR⊢
   replace B:CK KV Kp s (aH (vM r.line r.col (fH r++dL r)) (aH (tO r.line r.col (fH r) (dL r)) (aH (bO (λt=>aH (lG d.sig r.name r.line r.col [t]) (jL d.sig r.name r.line r.col t [66,111,111,108])) r.cond) (tY d r)))):=B
   have T:=hR.ge.ob _ _ gp;have bk:=hR.ge.ob _ _ gq;have bp:=hR.ge.ob _ _ gc;simp only[go_sem,T,bk]
   refine Ex.loop (ι:=Nat × Option Nat) (λk=>[(0,.ptr c 0),(4,.ptr p 0),(6,.ptr q 0),(7,gv a ((r.parts.map Part.left).map Tm.enc)),(8,gv b ((r.parts.flatMap Part.right).map Tm.enc)),(9,gv k.2 (((r.new.take k.1).flatMap Fresh.cells).map Tm.enc)),(65,.list none (r.new.map Fresh.enc)),(66,.int .i64 (r.new.length:Nat)),(67,.int .i64 (k.1:Nat))])
    (λk=>gs S k.2 ((r.new.take k.1).flatMap Fresh.cells).length 67) (λk=>k.1<=r.new.length/\(k.2=none->((r.new.take k.1).flatMap Fresh.cells).length=0)/\∀t,k.2=some t->S.getT t=none) (λk=>r.new.length-k.1) (0,none)
    ⟨aN _,λ_=>rfl,λt ht=>(by cases ht)⟩ ?_ (aC _) ?_
   .simp only[go_sem]
    try exact⟨rfl,rfl⟩
   .rintro⟨i,k⟩ ⟨hi,bj,U⟩;simp only at hi bj U;refine aQ (V:=aFj) _ _ _ _ ?_;simp only[go_sem]
    (apply aI<;>intro h)<;>simp only[go_sem,h]
    .have z:i<r.new.length:=gQ h;clear h;obtain⟨x,G⟩:=aU z;simp only[go_sem,G,z];(refine oS λcf b8=>?_);simp only[go_sem,G,z,b8];have b9:=aKT Fresh.cells r.new (i+1);rw[aAw _ G,aG]at b9;refine⟨by decide,λy O=>jP O,fJ rfl rfl (by rw[aW];exact iS bj) (λy O=>jP O) (by simp only[aW];omega) (λu hu=>?_)⟩;have c3:=kB hu U;rw[kF hu];simp only[go_sem,G,z,b8];refine⟨(i+1,some u),⟨z,λh=>(by cases h),λt h=>by cases h;exact c3⟩,bD,⟨?_,aR i aB⟩,?_⟩
     .rw[aAw _ G,cB];rfl
     .simp only[gs,aW];rw[aAw _ G,aG];exact dV (eW b8)
    .have bd:=bI hi h;subst bd;clear h hi;rw[bK]at bj⊢
     obtain⟨t,rfl⟩:∃t,a=some t:=by
      cases a with
      | some t=>exact⟨t,rfl⟩
      | none=>exact cG (List.map_eq_nil_iff.1 (eK hR.ga)) h1
     have c1:b=none->r.parts.flatMap Part.right=[]:=λe=>by subst e;exact eK hR.gb
     have c4:k=none->r.new.flatMap Fresh.cells=[]:=λe=>eK (bj e)
     have bb:(gs S k (r.new.flatMap Fresh.cells).length 67).ge S:=eJ (aC S) U;simp only[go_sem,T,bk];generalize gs S k (r.new.flatMap Fresh.cells).length 67=S5 at bb;have b4:=bb.ob _ _ T;have b6:=bb.ob _ _ bk;have bz:=bb.ob _ _ bp;have bt:=bb.trans (hR.ge.trans Y)
     refine⟨⟨by cases b<;>exact⟨rfl,rfl⟩,by cases k<;>exact⟨rfl,rfl⟩⟩,gL (show gO [.list none [gv b ((r.parts.flatMap Part.right).map Tm.enc),.list none (r.cond.map Tm.enc),gv k ((r.new.flatMap Fresh.cells).map Tm.enc)]] [.list none ([r.parts.flatMap Part.right,r.cond,r.new.flatMap Fresh.cells].map λl=>.list none (l.map Tm.enc))] from⟨A.le.list ⟨by simp only[aLH];exact⟨⟨nM _ _ λe=>by rw[c1 e];rfl,rfl⟩,trivial⟩,⟨⟨cN _,rfl⟩,trivial⟩,by simp only[aLH];exact⟨⟨nM _ _ λe=>by rw[c4 e];rfl,rfl⟩,trivial⟩,trivial⟩,trivial⟩)
      (aI3 _ (by simp only[lV,oW,aG,bQ];omega) _ _ _ ?_)⟩
     have b9:[r.parts.flatMap Part.right,r.cond,r.new.flatMap Fresh.cells].flatten=dL r:=by simp[dL]
     rw[b9];simp only[go_sem,b4,b6];(refine bX (OT.l [0,1,3,2,4,5] .nil) [(2,[0]),(4,[0])] ?_;simp only[go_sem,b4,b6]);have c5:r.parts.map Part.left≠[]:=λe=>h1 (List.map_eq_nil_iff.1 e)
     have ch:(r.parts.map Part.left).length=r.parts.length:=aW ..;have cb:(fH r).length=r.parts.length:=aW ..;refine aQn _ c5 aB t _ _ _ (λu hu=>?_);simp only[go_sem,b4,b6];refine⟨by decide,λy O=>jP O,λy O=>jP O,by omega,?_⟩
     have b0:((S5.setT u (r.parts.length,67)).setT u (r.parts.length+(dL r).length,67)).ge S5:=by
      rw[oI];exact eJ (tk:=some u) (aC S5) (λt h=>by cases h;exact hu)
     rw[<-cB];refine aKx _ _ (fH r++dL r) (by rw[dP,aG];omega) rfl (lR B (λB=>?_) (λf U=>?_));rotate_left
     .simp only[go_sem];exact aD U (b0.trans bt)
     simp only[go_sem,b4,b6];generalize (S5.setT u (r.parts.length,67)).setT u (r.parts.length+(dL r).length,67)=S6 at b0;have b5:=b0.ob _ _ b4;have b7:=b0.ob _ _ b6;have bg:=b0.ob _ _ bz;have b2:=b0.trans bt;refine aJN _ _ (fH r) (dL r) aB aB rfl rfl (lR B (λB=>?_) (λf U=>?_));rotate_left
     .simp only[go_sem];exact aD U b2
     simp only[go_sem,b5,b7];have bl:=hC.ge b2
     refine Ex.loop (ι:=Nat) (λi=>[(0,.ptr c 0),(4,.ptr p 0),(6,.ptr q 0),(93,.list none (r.cond.map Tm.enc)),(94,.int .i64 (r.cond.length:Nat)),(95,.int .i64 (i:Nat))])
      (λ_=>S6) (λi=>i<=r.cond.length/\CK KV Kp s (aH (bO (λt=>aH (lG d.sig r.name r.line r.col [t]) (jL d.sig r.name r.line r.col t [66,111,111,108])) (r.cond.drop i)) (tY d r))) (λi=>r.cond.length-i) 0 ⟨aN _,B⟩ ?_ (aC _) ?_
     .simp only[go_sem]
      try exact rfl
     .clear B;rintro i ⟨hi,B⟩;refine aQ (V:=aFj) _ _ _ _ ?_;simp only[go_sem]
      (apply aI<;>intro h)<;>simp only[go_sem,h]
      .have z:i<r.cond.length:=gQ h;clear h;obtain⟨x,G⟩:=aU z;rw[rX _ G,dR,dR]at B;simp only[go_sem,G,z];(refine bP λbw M=>?_);have f1:=aM b5 (aJ M);have f2:=aM b7 M;have f3:=aM bg M;have b1:(S6.setO bw (.cells 67 x.cs)).ge S6:=aZ M (aC S6);simp only[Tm.cs]at b1;simp only[go_sem,G,z,M,f1,f2,f3,b5,b7,bg];refine dU (aBV (bl.ge b1) _ _ _ [x] (lR B (λB=>?_) (λf U=>?_))) (by rw[aBu];rfl);rotate_left
       .simp only[go_sem];exact aD U (b1.trans b2)
       simp only[go_sem,G,z,M,f1,f2,f3,b5,b7,bg];refine aAn (bl.ge b1) _ _ _ x _ (lR B (λB=>?_) (λf U=>?_));rotate_left
       .simp only[go_sem];exact aD U (b1.trans b2)
       simp only[go_sem];exact⟨i+1,⟨z,B⟩,by omega,aR i aB,b1⟩
      .have bd:=bI hi h;subst bd;clear h hi;rw[dB (bF _)]at B
       replace B:CK KV Kp s (tY d r):=B
       simp only[go_sem,b5,b7,bg];refine aQI bl r hn c2 hd (CK.map (a:=tY d r) B (λB=>?_) (λf U=>?_))
       .simp only[go_sem];exact aD B b2
       .simp only[go_sem];exact aD U b2
end
end
section
section
variable {s S S':St} {KV Kp:St->A->Prop} {c:Nat} {d:Dfn}
theorem yT{tk:Option Nat}{n:Nat}{e:TypeId}(h:mN S tk n e)(u:S'.ge S):mN S' tk n e:=by
 cases tk with
 | none=>exact h
 | some t=>exact u.tk _ _ h
theorem aCs{tk:Option Nat}{u:Nat}(y:∀t,tk=some t->s.getT t=none)(z:S.ge s)(B:tk=some u\/tk=none/\S.getT u=none):s.getT u=none:=by
 rcases B with e|⟨_,e⟩
 .exact y u e
 .cases h:s.getT u with
  | none=>rfl
  | some v=>rw[z.tk _ _ h]at e;cases e
theorem aQl{sg:Sig}{b:List aA}{l:List Cel}{i:Nat}{x:Cel}(h:l[i]?=some x):mR sg b (l.drop i)=aH (xQ sg b x) (mR sg (b++[x.name]) (l.drop (i+1))):=by
 rw[gM h];rfl
theorem aQo(tk:Option Nat)(s:St)(l:List aA)(x:aA)(h:tk=none->l=[])(KV Kp:St->A->Prop)(u:KV s (.bool (decide (x∈l)))):Den cx 62 [gv tk (l.map .str),.str x] KV Kp s :=
 gL (show gO [gv tk (l.map .str),.str x] [.list none (l.map .str),.str x] from⟨nM _ _ (λe=>by rw[h e];rfl),cN _,trivial⟩) (qK s l x KV Kp u)
theorem aQk(h:CkAt s c d)(hN:(d.once++d.many).length<=4294967000)(hP:∀x,x∈d.once++d.many->x.init.pre.length<=4294967000)(z:CK KV Kp s (mR d.sig [] (d.once++d.many))):Den cx 28 [.ptr c 0] KV Kp s:=by
 have hC:=h;obtain⟨r,hc,hB⟩:=h;have b2:=hc;simp only[Dfn.cs,Sig.cs,bL,bE]at b2;(refine aO func28 aIE ?_;simp only[go_sem,ntmps28,f28]);(refine bX (OT.l [0,1,2,3,4,5,6,7,8,9,13,10,11,12] .nil) [] ?_;simp only[go_sem,b2]);refine aGb [d.once,d.many] (by simp only[lV,oW,cK];omega) _ _ _ ?_;rw[show [d.once,d.many].flatten=d.once++d.many by simp];generalize hL:d.once++d.many=L at hN hP z;clear hL;simp only[go_sem]
 refine Ex.loop (ι:=Nat × Option Nat) (λk=>[(0,.ptr c 0),(2,gv k.2 (((L.take k.1).map Cel.name).map .str)),(19,.list none (L.map Cel.enc)),(20,.int .i64 (L.length:Nat)),(21,.int .i64 (k.1:Nat))]) (λk=>gs s k.2 ((L.take k.1).map Cel.name).length 9)
  (λk=>k.1<=L.length/\(k.2=none->(L.take k.1).map Cel.name=[])/\(∀t,k.2=some t->s.getT t=none)/\CK KV Kp s (mR d.sig ((L.take k.1).map Cel.name) (L.drop k.1))) (λk=>L.length-k.1) (0,none) ⟨aN _,λ_=>rfl,λt h=>(by cases h),z⟩ ?_ (aC _) ?_
 .simp only[go_sem]
  try exact⟨rfl,rfl⟩
 .clear z;rintro⟨i,tk⟩ ⟨hi,hn,hf,z⟩;simp only at hi hn hf z;refine aQ (V:=aIE) _ _ _ _ ?_;have Z:(gs s tk ((L.take i).map Cel.name).length 9).ge s:=eJ (aC s) hf;have b8:mN (gs s tk ((L.take i).map Cel.name).length 9) tk ((L.take i).map Cel.name).length 9:=iS λe=>by rw[hn e];rfl
  simp only;generalize gs s tk ((L.take i).map Cel.name).length 9=S at Z b8;have gc:=Z.ob _ _ b2;simp only[go_sem]
  (apply aI<;>intro h)<;>simp only[go_sem,h]
  .have O:i<L.length:=gQ h;clear h;obtain⟨x,hx⟩:=aU O;have b9:x∈L:=bA hx;rw[aQl hx]at z;simp only[go_sem,hx,O];(refine bP λb4 U=>?_);have f1:=aM gc (aJ U);simp only[go_sem,hx,O,U,f1];(refine bP λb5 Y=>?_);have f2:=aM gc (aJ Y);simp only[go_sem,hx,O,U,f1,Y,f2];have H:((S.setO b4 (.cells 96 x.cs)).setO b5 (.cells 58 [.int .i64 x.line,.int .i64 x.col])).ge S:=by simp only[Cel.cs,Tm.cs,bL,bE];exact aK
   have M:((S.setO b4 (.cells 96 x.cs)).setO b5 (.cells 58 [.int .i64 x.line,.int .i64 x.col])).getO b4=some (.cells 96 x.cs):=by rw[aX,aE (λe=>Y.1.1 e.symm),aX,aF rfl]
   have T:((S.setO b4 (.cells 96 x.cs)).setO b5 (.cells 58 [.int .i64 x.line,.int .i64 x.col])).getO b5=some (.cells 58 [.int .i64 x.line,.int .i64 x.col]):=by rw[aX,aF rfl]
   generalize b1:(S.setO b4 (.cells 96 x.cs)).setO b5 (.cells 58 [.int .i64 x.line,.int .i64 x.col])=S2 at H M T;simp only[Cel.cs,Tm.cs,bL,bE]at b1 M;rw[b1];clear b1 f1 f2 U Y;have b6:=yT b8 H;have G:=H.ob _ _ gc;have B:=H.trans Z;have b7:=hC.ge B;have bb:=hB.ge B;unfold xQ at z;refine aQo tk _ _ x.name hn _ _ ?_;by_cases c1:x.name∈(L.take i).map Cel.name
   .rw[aF c1]at z;simp only[go_sem,M,T,G,cF c1];refine fA 14 _ _ _ ?_;simp only[go_sem];exact aD z B
   rw[aE c1]at z;simp only[go_sem,M,T,G,bN c1];(refine bX (OT.r 0 9) [] ?_;simp only[go_sem,M,T,G]);simp only[dR]at z;refine sY bb x.sort ?_;cases c2:cD d.sig x.sort<;>rw[c2]at z<;>simp only[go_sem,M,T,G]
   ·replace z:CK KV Kp s (some (⟨13,x.name,x.line,x.col⟩:Fault)):=z
    refine fA 13 _ _ _ ?_;simp only[go_sem];exact aD z B
   replace z:CK KV Kp s (aH (lG d.sig x.name x.line x.col [x.init]) (aH (jL d.sig x.name x.line x.col x.init x.sort) (aH (bO (λs=>bC (!decide (s=[36])) ⟨17,s,x.line,x.col⟩) (lH [x.init])) (mR d.sig ((L.take i).map Cel.name++[x.name]) (L.drop (i+1)))))):=z
   refine dU (aBV b7 _ _ _ [x.init] (lR z (λz=>?_) (λf hf=>?_))) (by rw[aBu];rfl);rotate_left
   .simp only[go_sem];exact aD hf B
   simp only[go_sem,M,T,G];refine aAn b7 _ _ _ x.init _ (lR z (λz=>?_) (λf hf=>?_));rotate_left
   .simp only[go_sem];exact aD hf B
   simp only[go_sem,M,T,G];refine dU (aJ8 [x.init] (by have:=hP x b9;simp only[aP,aG,bQ];omega) _ _ _ ?_) (by rw[aBu];rfl)
   have bg:(lH [x.init]).length<=4294967000:=by
    have h1:(lH [x.init]).length<=(aP [x.init]).length:=by
     unfold lH hZ;rw[(lY _).length_eq,aW];exact List.length_filter_le _ _
    have:=hP x b9;simp only[aP,aG,bQ]at h1;omega
   unfold strs;simp only[go_sem,M,T,G]
   refine Ex.loop (ι:=Nat) (λj=>[(0,.ptr c 0),(2,gv tk (((L.take i).map Cel.name).map .str)),(4,.ptr b4 0),(5,.ptr b5 0),(19,.list none (L.map Cel.enc)),(20,.int .i64 (L.length:Nat)),(21,.int .i64 (i:Nat)),(72,.list none ((lH [x.init]).map .str)),(73,.int .i64 ((lH [x.init]).length:Nat)),(74,.int .i64 (j:Nat))]) (λ_=>S2)
    (λj=>j<=(lH [x.init]).length/\CK KV Kp s (aH (bO (λs=>bC (!decide (s=[36])) ⟨17,s,x.line,x.col⟩) ((lH [x.init]).drop j)) (mR d.sig ((L.take i).map Cel.name++[x.name]) (L.drop (i+1))))) (λj=>(lH [x.init]).length-j) 0 ⟨aN _,z⟩ ?_ (aC _) ?_
   .simp only[go_sem]
    try exact rfl
   .clear z;rintro j ⟨hj,z⟩;refine aQ (V:=aIE) _ _ _ _ ?_;simp only[go_sem]
    (apply aI<;>intro h)<;>simp only[go_sem,h]
    .have b0:j<(lH [x.init]).length:=gQ h;clear h;obtain⟨a,ha⟩:=aU b0;rw[rX _ ha,dR]at z;simp only[go_sem,ha,b0];cases c3:decide (a=[36])<;>rw[c3]at z<;>simp only[go_sem,ha,b0,c3,M,T]
     ·replace z:CK KV Kp s (some (⟨17,a,x.line,x.col⟩:Fault)):=z
      refine fA 17 _ _ _ ?_;simp only[go_sem];exact aD z B
     .exact⟨j+1,⟨b0,z⟩,by omega,aR j aB,aC _⟩
    .have bf:=bI hj h;subst bf;rw[dB (bF _)]at z
     replace z:CK KV Kp s (mR d.sig ((L.take i).map Cel.name++[x.name]) (L.drop (i+1))):=z
     simp only[go_sem,M,T];refine⟨by decide,λy hy=>(by rw[bS.1 hy];rfl),fJ rfl rfl (by simp only[aW]at b6⊢;exact b6) (λy hy=>eI hy) (by simp only[aW,dG,bB,bQ];omega) (λu hu=>?_)⟩;have bc:=aCs hf B hu;have b3:=dC hx;simp only[go_sem];refine⟨(i+1,some u),⟨O,λh=>(by cases h),λt h=>by cases h;exact bc,by rw[b3,cB];exact z⟩,bD,⟨by rw[b3,cB,cB];rfl,aR i aB⟩,?_⟩;show St.ge _ (s.setT u ((L.take (i+1)).length,9));rw[b3,aG];exact dV B
  .have bd:=bI hi h;subst bd;rw[dB (bF _)]at z;exact aD z Z
theorem aRn(h:CkAt s c d)(ho:d.once.length<=4294967000)(hm:d.many.length<=4294967000)(hO:d.sig.ops.length<=4294967000)(u:CK KV Kp s (xD d)):Den cx 29 [.ptr c 0] KV Kp s:=by
 have hC:=h;obtain⟨r,hc,hB⟩:=h;have b5:=hB;obtain⟨a,oo,f,ma,mo,mf,hr,ha,b6,hf,la,lo,lf⟩:=b5;unfold xD at u;(refine aO func29 aIF ?_;simp only[go_sem,ntmps29,f29]);(refine aL λp hp=>?_);have B:(s.setO p (.cells 58 [.int .i64 0,.int .i64 0])).ge s:=aZ hp (aC s);have M:(s.setO p (.cells 58 [.int .i64 0,.int .i64 0])).getO p=some (.cells 58 [.int .i64 0,.int .i64 0]):=by rw[aX,aF rfl]
 (try simp only[go_sem])
 generalize s.setO p (.cells 58 [.int .i64 0,.int .i64 0])=S at B M⊢;clear hp;have b2:=hC.ge B;have b1:=hB.ge B;have O:=B.ob _ _ hc;have gr:=B.ob _ _ hr;simp only[Dfn.cs,Sig.cs,bL,bE]at O gr;(refine bX (OT.r 0 11) [] ?_;simp only[go_sem,O,M]);refine sY b1 d.start ?_;cases c1:cD d.sig d.start<;>rw[c1]at u<;>simp only[go_sem,O,M]
 ·replace u:CK KV Kp s (some (⟨13,d.start,0,0⟩:Fault)):=u
  (refine bX (OT.r 0 7) [] ?_;simp only[go_sem,O,M]);refine fA 13 _ _ _ ?_;simp only[go_sem];exact aD u B
 rw[aGQ]at u;refine aGp b2 ho hm d.watch ?_;cases c2:(cP d d.watch).2.2<;>rw[c2]at u<;>simp only[go_sem,O,M]
 ·replace u:CK KV Kp s (some (⟨13,d.watch,0,0⟩:Fault)):=u
  (refine bX (OT.r 0 7) [] ?_;simp only[go_sem,O,M]);refine fA 13 _ _ _ ?_;simp only[go_sem];exact aD u B
 cases c3:(cP d d.watch).2.1<;>rw[c3]at u<;>simp only[go_sem,O,M]
 rotate_left
 ·replace u:CK KV Kp s (some (⟨13,d.watch,0,0⟩:Fault)):=u
  (refine bX (OT.r 0 7) [] ?_;simp only[go_sem,O,M]);refine fA 13 _ _ _ ?_;simp only[go_sem];exact aD u B
 replace u:CK KV Kp s (aH (bC (!(decide (d.kind=[]) == decide (d.many.length=0))) ⟨15,d.kind,0,0⟩)
  (aH (bO (λo:Opr=>bC (decide (0<o.strict.length)&&(!(cP d [107]).2.2||!decide ((cP d [107]).1=[76,105,115,116]))) ⟨13,[107],0,0⟩) d.sig.ops)
  (bO (λo:Opr=>bC (decide (0<o.strict.length)&&uT d.sig o.sort) ⟨16,o.name,0,0⟩) d.sig.ops))):=u
 have z0:decide (((d.many.length:Nat):Int)=0)=decide (d.many.length=0):=by rw[bW];omega
 (refine bX (OT.r 0 14) [] ?_;simp only[go_sem,O,M,z0]);have key:(decide (d.kind=[]) == decide (d.many.length=0))=false\/(decide (d.kind=[]) == decide (d.many.length=0))=true:=by cases decide (d.kind=[])<;>cases decide (d.many.length=0)<;>simp
 rcases key with c4|c4<;>rw[c4]at u<;>simp only[go_sem,O,M,c4]
 ·replace u:CK KV Kp s (some (⟨15,d.kind,0,0⟩:Fault)):=u
  (refine bX (OT.r 0 7) [] ?_;simp only[go_sem,O,M]);refine fA 15 _ _ _ ?_;simp only[go_sem];exact aD u B
 rw[aGQ]at u;refine aGp b2 ho hm [107] ?_;simp only[go_sem,O,M,gr]
 refine Ex.loop (ι:=Nat) (λi=>[(0,.ptr c 0),(2,.ptr p 0),(6,.str (cP d [107]).1),(8,.bool (cP d [107]).2.2),(89,.list none (d.sig.ops.map Opr.enc)),(90,.int .i64 (d.sig.ops.length:Nat)),(91,.int .i64 (i:Nat))]) (λ_=>S)
  (λi=>i<=d.sig.ops.length/\CK KV Kp s (aH (bO (λo:Opr=>bC (decide (0<o.strict.length)&&(!(cP d [107]).2.2||!decide ((cP d [107]).1=[76,105,115,116]))) ⟨13,[107],0,0⟩) (d.sig.ops.drop i))
  (bO (λo:Opr=>bC (decide (0<o.strict.length)&&uT d.sig o.sort) ⟨16,o.name,0,0⟩) d.sig.ops))) (λi=>d.sig.ops.length-i) 0 ⟨aN _,u⟩ ?_ (aC _) ?_
 .simp only[go_sem]
  try exact rfl
 .clear u;rintro i ⟨hi,u⟩;refine aQ (V:=aIF) _ _ _ _ ?_;simp only[go_sem]
  (apply aI<;>intro h)<;>simp only[go_sem,h]
  .have y:i<d.sig.ops.length:=gQ h;clear h;obtain⟨x,U⟩:=aU y;rw[rX _ U,dR]at u;have z:decide ((0:Int)<((x.strict.length:Nat):Int))=decide (0<x.strict.length):=by rw[bW];omega
   simp only[go_sem,U,y];(refine bP λb3 T=>?_);have Z:=aM M (aJ T);have H:(S.setO b3 (.cells 80 x.cs)).ge S:=aZ T (aC S);simp only[Opr.cs]at H;cases Y:decide (0<x.strict.length)<;>rw[Y]at u<;>simp only[go_sem,U,y,T,Z,z,Y,M]
   .exact⟨i+1,⟨y,u⟩,by omega,aR i aB,H⟩
   cases c6:(cP d [107]).2.2<;>rw[c6]at u<;>simp only[go_sem,U,y,T,Z,z,Y,M,c6]
   ·replace u:CK KV Kp s (some (⟨13,[107],0,0⟩:Fault)):=u
    refine fA 13 _ _ _ ?_;simp only[go_sem];exact aD u (H.trans B)
   cases c7:decide ((cP d [107]).1=[76,105,115,116])<;>rw[c7]at u<;>simp only[go_sem,U,y,T,Z,z,Y,M,c6,c7]
   ·replace u:CK KV Kp s (some (⟨13,[107],0,0⟩:Fault)):=u
    refine fA 13 _ _ _ ?_;simp only[go_sem];exact aD u (H.trans B)
   .exact⟨i+1,⟨y,u⟩,by omega,aR i aB,H⟩
  .have b0:=bI hi h;subst b0;clear h hi;rw[dB (bF _)]at u
   replace u:CK KV Kp s (bO (λo:Opr=>bC (decide (0<o.strict.length)&&uT d.sig o.sort) ⟨16,o.name,0,0⟩) d.sig.ops):=u
   simp only[go_sem,O,M,gr]
   refine Ex.loop (ι:=Nat) (λi=>[(0,.ptr c 0),(2,.ptr p 0),(117,.list none (d.sig.ops.map Opr.enc)),(118,.int .i64 (d.sig.ops.length:Nat)),(119,.int .i64 (i:Nat))]) (λ_=>S)
    (λi=>i<=d.sig.ops.length/\CK KV Kp s (bO (λo:Opr=>bC (decide (0<o.strict.length)&&uT d.sig o.sort) ⟨16,o.name,0,0⟩) (d.sig.ops.drop i))) (λi=>d.sig.ops.length-i) 0 ⟨aN _,u⟩ ?_ (aC _) ?_
   .simp only[go_sem]
    try exact rfl
   .clear u;rintro i ⟨hi,u⟩;refine aQ (V:=aIF) _ _ _ _ ?_;simp only[go_sem]
    (apply aI<;>intro h)<;>simp only[go_sem,h]
    .have y:i<d.sig.ops.length:=gQ h;clear h;obtain⟨x,U⟩:=aU y;rw[rX _ U]at u;have z:decide ((0:Int)<((x.strict.length:Nat):Int))=decide (0<x.strict.length):=by rw[bW];omega
     simp only[go_sem,U,y];(refine bP λb4 G=>?_);have Z:=aM M (aJ G);have f2:=aM O G;have H:(S.setO b4 (.cells 80 x.cs)).ge S:=aZ G (aC S);simp only[Opr.cs]at H;simp only[go_sem,U,y,G,Z,f2,z,M,O];(refine bX (OT.r 0 13) [] ?_;simp only[go_sem,U,y,G,Z,f2,z,M,O]);cases Y:decide (0<x.strict.length)<;>rw[Y]at u<;>simp only[go_sem,U,y,G,Z,f2,z,Y,M,O]
     .exact⟨i+1,⟨y,u⟩,by omega,aR i aB,H⟩
     refine aPm (b1.ge H) x.sort ?_;cases c6:uT d.sig x.sort<;>rw[c6]at u<;>simp only[go_sem,U,y,G,Z,f2,z,Y,M,O]
     .exact⟨i+1,⟨y,u⟩,by omega,aR i aB,H⟩
     ·replace u:CK KV Kp s (some (⟨16,x.name,0,0⟩:Fault)):=u
      refine fA 16 _ _ _ ?_;simp only[go_sem];exact aD u (H.trans B)
    .have b0:=bI hi h;subst b0;rw[dB (bF _)]at u;exact aD u B
end
end
section
structure DfnC (d:Dfn):Prop where
 tm:∀t,t∈bZ d->TmW t
 pr:(aP (bZ d)).length<=4294967000
 nm:(gE d).length<=4294967000
 cl:d.once.length+d.many.length<=4294967000
 op:d.sig.ops.length+d.sig.funs.length<=4294967000
 nl:∀o,o∈d.sig.ops->o.name.length<=4611686018427387904/\o.pieces.length<=4294967000/\o.args.length<=4294967000
theorem aB7{u:Type}(f:u->List Tm){l:List u}{x:u}(h:x∈l):(aP (f x)).length<=(aP (l.flatMap f)).length:=by
 obtain⟨a,b,e⟩:=List.append_of_mem h;rw[e];simp only[qF,gR,dP,aG];omega
section
variable {s:St} {KV Kp:St->A->Prop} {d:Dfn}
theorem aQ3{b:List aA}{l:List Rul}{i:Nat}{x:Rul}(h:l[i]?=some x):tU d b (l.drop i)=aH (zP d b x) (tU d (b++[x.name]) (l.drop (i+1))):=by
 rw[gM h];rfl
theorem aGq(hd:DfnC d)(hk:KV s (vA d).enc):Den cx 7 [.agg d.cs] KV Kp s:=by
 refine Den.drop ?_;refine aPG aSm aWN func7 rfl rfl (eQ rfl) ?_;refine ExD.seq ?_;refine aQ (V:=vl7) _ _ _ _ ?_;simp only[go_sem,ntmps7,f7];(refine aL λb1 b0=>?_);simp only[go_sem,b0];(refine aL λH Z=>?_);simp only[go_sem,b0,Z];refine ExD.defer (by rfl) (b:=H) (by simp only[go_sem]) ?_;refine aQ (V:=vl7) _ _ _ _ ?_;simp only[go_sem];(refine aL λb3 b4=>?_);have bf:(((s.setO b1 (.cells 31 d.cs)).setO H (.cells 36 [.int .i64 0,.str [],.int .i64 0,.int .i64 0])).setO b3 (.cells 58 [.int .i64 0,.int .i64 0])).ge s:=by simp only[Dfn.cs,Sig.cs,bL,bE];exact aK
 have g1:(((s.setO b1 (.cells 31 d.cs)).setO H (.cells 36 [.int .i64 0,.str [],.int .i64 0,.int .i64 0])).setO b3 (.cells 58 [.int .i64 0,.int .i64 0])).getO b1=some (.cells 31 d.cs):=by
  rw[aX,aE (λe=>b4.2.1.1 e.symm),aX,aE (λe=>Z.1.1 e.symm),aX,aF rfl]
 have g2:(((s.setO b1 (.cells 31 d.cs)).setO H (.cells 36 [.int .i64 0,.str [],.int .i64 0,.int .i64 0])).setO b3 (.cells 58 [.int .i64 0,.int .i64 0])).getO H=some (.cells 36 [.int .i64 0,.str [],.int .i64 0,.int .i64 0]):=by
  rw[aX,aE (λe=>b4.1.1 e.symm),aX,aF rfl]
 have g3:(((s.setO b1 (.cells 31 d.cs)).setO H (.cells 36 [.int .i64 0,.str [],.int .i64 0,.int .i64 0])).setO b3 (.cells 58 [.int .i64 0,.int .i64 0])).getO b3=some (.cells 58 [.int .i64 0,.int .i64 0]):=by
  rw[aX,aF rfl]
 have bq:=Z.2;simp only[go_sem,b0,Z,b4];generalize hS:((s.setO b1 (.cells 31 d.cs)).setO H (.cells 36 [.int .i64 0,.str [],.int .i64 0,.int .i64 0])).setO b3 (.cells 58 [.int .i64 0,.int .i64 0])=S at bf g1 g2 g3;simp only[Dfn.cs,Sig.cs,bL,bE]at hS g1;rw[hS];clear hS b0 Z b4
 have z:CK (λs0 _=>KV s0 Fault.none.enc) (λs0 a=>∀f:Fault,a=.iface 36 f.enc->KV s0 f.enc) s (tP d):=by
  unfold vA at hk;revert hk;cases tP d with
  | none=>exactλhk=>hk
  | some f =>
   intro hk g e;have:f.enc=g.enc:=by injection e
   rw[<-this];exact hk
 clear hk
 have bb:∀{s1:St} (o:Ob),s1.ge S->(s1.setO H o).ge s:=λo hg=>by
  have h:=hg.trans bf;exact⟨λq o' hq=>by rw[aX,aE (λe=>by rw[<-e,bq]at hq;cases hq)];exact h.ob _ _ hq,λt v ht=>h.tk t v ht,λy hy=>h.ls y hy⟩
 have bad:∀(f:Fault) (s1:St) (e:Env),e.get 2=some (.ptr H 0)->(∀g:Fault,A.iface 36 f.enc=.iface 36 g.enc->KV s g.enc)->s1.ge S->aAb cx [ResultVar.cell 2 36] (DK KV) (DK Kp) (some H) (.panic (.iface 36 f.enc)) e s1:=by
  intro f s1 e g hb hg;have q2:=hg.ob _ _ g2;simp only[go_sem,q2];refine⟨f.cs,_,rfl,rfl,rfl,rfl,?_⟩;simp only[go_sem,q2,g];exact aD (hb f rfl) (bb _ hg)
 have br:∀(s1:St) (e:Env),e.get 2=some (.ptr H 0)->KV s Fault.none.enc->s1.ge S->DK KV s1 Fault.none.enc:=λs1 e g hb hg=>aD hb (hg.trans bf)
 unfold tP at z;refine dU (aPY d hd.tm (rE (iP _) hd.pr) hd.nm hd.cl ?_) (by simp only[Dfn.cs,Sig.cs,bL,bE]);cases c1:pE d<;>rw[c1]at z<;>simp only[go_sem,g1,g2,g3]
 .rw[aF rfl]at z;refine fA 2 _ _ _ ?_;exact bad ⟨2,[],0,0⟩ _ _ rfl z (aC _)
 rw[aE cT]at z;refine cJ (aRh d.sig hd.op hd.nl ?_);cases c2:qN d.sig<;>rw[c2]at z<;>simp only[go_sem,g1,g2,g3]
 .rw[aF rfl]at z;refine fA 16 _ _ _ ?_;exact bad ⟨16,[],0,0⟩ _ _ rfl z (aC _)
 rw[aE cT]at z
 have hv:d.sig.sorts.length<=40/\d.sig.below.length<=200/\d.sig.ops.length+d.sig.funs.length<=200:=by
  unfold qN at c2;simp only[aY,fV,eF]at c2;omega
 have O:d.once.length<=12/\d.many.length<=12/\d.rules.length<=300/\d.eqs.length<=300:=by
  unfold pE at c1;simp only[aY,fV,eF]at c1;omega
 have hr:∀r,r∈d.rules->r.parts.length<=20/\r.new.length<=20/\r.drop.length<=20:=by
  unfold pE at c1;simp only[aY,fV,eF,cL,bR]at c1;intro r hr;have:=c1.2.2.2.2.2.1 r hr;omega
 (refine bX (OT.r 0 7) [(3,[0])] ?_;simp only[go_sem,g1,g2,g3]);refine cJ (aDL d.sig aB aB _ _ _ (λS2 r bc hB=>?_));have U:=bc.ob _ _ g1;simp only[go_sem,U];(refine bP λc hc=>?_);have f1:=aM U (aJ hc);have Y:(S2.setO c (.cells 64 (d.cs++[.ptr r 0]))).ge S2:=aZ hc (aC S2);have gc:(S2.setO c (.cells 64 (d.cs++[.ptr r 0]))).getO c=some (.cells 64 (d.cs++[.ptr r 0])):=by rw[aX,aF rfl]
 simp only[go_sem,U,f1];generalize hG:S2.setO c (.cells 64 (d.cs++[.ptr r 0]))=S3 at Y gc;simp only[Dfn.cs,Sig.cs,bL,bE]at hG;rw[hG];clear hG hc;have hC:CkAt S3 c d:=⟨r,gc,hB.ge Y⟩;have bn:=Y.ob _ _ U;have hS:=Y.trans bc;have bk:=hS.ob _ _ g2;clear U gc hB Y bc
 refine Ex.loop (ι:=Nat) (λi=>[(1,.ptr b1 0),(2,.ptr H 0),(4,.ptr c 0),(29,.list none (d.eqs.map Eqn.enc)),(30,.int .i64 (d.eqs.length:Nat)),(31,.int .i64 (i:Nat))]) (λ_=>S3)
  (λi=>i<=d.eqs.length/\CK (λs0 x=>KV s0 Fault.none.enc) (λs0 a=>∀(f:Fault),a=A.iface 36 f.enc->KV s0 f.enc) s (aH (bO (xR d.sig) (d.eqs.drop i)) (aH (mR d.sig [] (d.once++d.many)) (aH (xD d) (tU d [] d.rules))))) (λi=>d.eqs.length-i) 0 ⟨aN _,z⟩ ?_ (aC _) ?_
 .simp only[go_sem]
  try exact rfl
 .clear z;rintro i ⟨hi,z⟩;refine aQ (V:=vl7) _ _ _ _ ?_;simp only[go_sem]
  (apply aI<;>intro h)<;>simp only[go_sem,h]
  .have B:i<d.eqs.length:=gQ h;clear h;obtain⟨x,T⟩:=aU B;have M:x∈d.eqs:=bA T;rw[rX _ T,dR]at z;simp only[go_sem,T,B];(refine bP λb6 bd=>?_);have f2:=aM bk (aJ bd);have G:(S3.setO b6 (.cells 69 x.cs)).ge S3:=aZ bd (aC S3);simp only[Eqn.cs,Tm.cs,bL,bE]at G;simp only[go_sem,T,B,bd,f2];refine dU (aTK (hC.ge G) x (λt ht=>hd.tm t ?_) ?_ (lR z (λz=>?_) (λf O=>?_))) (by simp only[Eqn.cs,Tm.cs,bL,bE])
   .exact gN _ (jV.2 ⟨x,M,ht⟩)
   .have h1:=aB7 dH M;have h2:=hd.pr;simp only[bZ,dP,aG]at h2;omega
   rotate_left
   .exact bad f _ _ rfl O (G.trans hS)
   simp only[go_sem];exact⟨i+1,⟨B,z⟩,by omega,aR i aB,G⟩
  .have bg:=bI hi h;subst bg;clear h hi;rw[dB (bF _)]at z
   replace z:CK (λs0 x=>KV s0 Fault.none.enc) (λs0 a=>∀(f:Fault),a=A.iface 36 f.enc->KV s0 f.enc) s (aH (mR d.sig [] (d.once++d.many)) (aH (xD d) (tU d [] d.rules))):=z
   refine aQk hC (by rw[aG];omega) (λx T=>?_) (lR z (λz=>?_) (λf O=>?_))
   .have h1:=wO (l:=(d.once++d.many).map Cel.init) (cW.2 ⟨x,T,rfl⟩);have h2:=hd.pr;simp only[bZ,dP,aG]at h1 h2;omega
   rotate_left
   .exact bad f _ _ rfl O hS
   simp only[go_sem];refine aRn hC aB aB aB (lR z (λz=>?_) (λf O=>?_));rotate_left
   .exact bad f _ _ rfl O hS
   simp only[go_sem,bn]
   refine Ex.loop (ι:=Nat × Option Nat) (λk=>[(1,.ptr b1 0),(2,.ptr H 0),(4,.ptr c 0),(7,gv k.2 (((d.rules.take k.1).map Rul.name).map .str)),(44,.list none (d.rules.map Rul.enc)),(45,.int .i64 (d.rules.length:Nat)),(46,.int .i64 (k.1:Nat))]) (λk=>gs S3 k.2 ((d.rules.take k.1).map Rul.name).length 9)
    (λk=>k.1<=d.rules.length/\(k.2=none->(d.rules.take k.1).map Rul.name=[])/\(∀t,k.2=some t->S3.getT t=none)/\CK (λs0 x=>KV s0 Fault.none.enc) (λs0 a=>∀(f:Fault),a=A.iface 36 f.enc->KV s0 f.enc) s (tU d ((d.rules.take k.1).map Rul.name) (d.rules.drop k.1))) (λk=>d.rules.length-k.1) (0,none)
    ⟨aN _,λ_=>rfl,λt h=>(by cases h),z⟩ ?_ (aC _) ?_
   .simp only[go_sem]
    try exact⟨rfl,rfl⟩
   .clear z;rintro⟨i,tk⟩ ⟨hi,hn,O,z⟩;simp only at hi hn O z;refine aQ (V:=vl7) _ _ _ _ ?_;have b7:(gs S3 tk ((d.rules.take i).map Rul.name).length 9).ge S3:=eJ (aC S3) O;have bm:mN (gs S3 tk ((d.rules.take i).map Rul.name).length 9) tk ((d.rules.take i).map Rul.name).length 9:=iS λe=>by rw[hn e];rfl
    simp only;generalize gs S3 tk ((d.rules.take i).map Rul.name).length 9=S4 at b7 bm;have bl:=b7.ob _ _ bk;simp only[go_sem]
    (apply aI<;>intro h)<;>simp only[go_sem,h]
    .have B:i<d.rules.length:=gQ h;clear h;obtain⟨x,T⟩:=aU B;have M:x∈d.rules:=bA T;obtain⟨bt,bv,bw⟩:=hr x M;rw[aQ3 T]at z;simp only[go_sem,T,B];(refine bP λb9 b5=>?_);have f2:=aM bl (aJ b5);have G:(S4.setO b9 (.cells 50 x.cs)).ge S4:=aZ b5 (aC S4);have g9:(S4.setO b9 (.cells 50 x.cs)).getO b9=some (.cells 50 x.cs):=by rw[aX,aF rfl]
     simp only[go_sem,T,B,b5,f2];generalize hG:S4.setO b9 (.cells 50 x.cs)=S5 at G g9;simp only[Rul.cs]at hG g9;rw[hG];clear hG b5 f2;have b8:=G.trans b7;have bj:=yT bm G
     refine gL (show gO [.ptr c 0,.agg x.cs,gv tk (((d.rules.take i).map Rul.name).map .str)] [.ptr c 0,.agg x.cs,.list none (((d.rules.take i).map Rul.name).map .str)] from⟨cN _,cN _,nM _ _ (λe=>by rw[hn e];rfl),trivial⟩)
      (aR2 (hC.ge b8) aB aB _ x aB (λp hp=>hd.tm _ ?_) ?_ aB aB (lR z (λz=>?_) (λf O=>?_)))
     .exact lL _ (lL _ (jV.2 ⟨x,M,gN _ (jV.2 ⟨p,hp,bY ..⟩)⟩))
     .have h1:=aB7 fD M;have h2:=hd.pr;simp only[bZ,dP,aG]at h2;omega
     rotate_left
     .exact bad f _ _ rfl O (b8.trans hS)
     simp only[go_sem,g9];refine⟨by decide,λy hy=>(by rw[bS.1 hy];rfl),fJ rfl rfl (by simp only[aW]at bj⊢;exact bj) (λy hy=>eI hy) (by simp only[aW,dG,bB,bQ];omega) (λu hu=>?_)⟩;have bp:=aCs O b8 hu;have bh:=dC T;simp only[go_sem];refine⟨(i+1,some u),⟨B,λh=>(by cases h),λt h=>by cases h;exact bp,by rw[bh,cB];exact z⟩,bD,⟨by rw[bh,cB,cB];rfl,aR i aB⟩,?_⟩;show St.ge _ (S3.setT u ((d.rules.take (i+1)).length,9));rw[bh,aG];exact dV b8
    .have bg:=bI hi h;subst bg;rw[dB (bF _)]at z
     replace z:KV s Fault.none.enc:=z
     simp only[go_sem,bl];exact aD z (bb _ (b7.trans hS))
theorem yM(u:DfnC d)(h:KV s (.bool (gU d))):Den cx 9 [.agg d.cs] KV Kp s:=by
 unfold gU at h;(refine aO func9 [0,1,2] ?_;simp only[go_sem,ntmps9,f9]);(refine aL λp y=>?_);simp only[go_sem,y];refine dU (aGq u ?_) (by simp only[Dfn.cs,Sig.cs,bL,bE]);simp only[go_sem];exact aD h aK
end
end
theorem aNZ(t:Tm):t.enc.bulk=t.text.length+(t.sort.length+(dE (t.kids.map Tm.enc)+dE (t.rest.map Tm.enc))):=by
 rw[fZ];simp only[A.bulk,Tm.cs,dI,jA,gK]
theorem jZ{u:Type}(en:u->A):∀{l:List u} {x:u},x∈l->(en x).bulk+1<=dE (l.map en)
 | y::r,x,h=>by
  simp only[cC,dE];rcases List.mem_cons.1 h with rfl|h
  .omega
  .have:=jZ en h;omega
theorem aMa{l:List aA}{x:aA}(h:x∈l):x.length+1<=dE (l.map .str):=jZ (en:=A.str) h
theorem aUx(N:Nat):∀t:Tm,SizeOf.sizeOf t<N->t.enc.bulk<=100000000->TmW t:=by
 induction N with
 | zero=>intro t h;omega
 | succ N z =>
  intro t T O;have e:=aNZ t;have B:=λx (u:x∈t.kids)=>(show TmW x from z x (by have:=kR u;omega) (by have:=jZ Tm.enc u;omega))
  have G:=λx (u:x∈t.rest)=>(show TmW x from z x (by have:=uM u;omega) (by have:=jZ Tm.enc u;omega))
  have H:=fW Tm.enc t.kids;have M:=fW Tm.enc t.rest;obtain⟨k,n,x,y,a,b⟩:=t;simp only[Tm.text,Tm.sort,Tm.kids,Tm.rest]at e B G H M;exact .mk k n x y a b aB aB B G aB aB
theorem aHp(t:Tm):dI t.cs=t.enc.bulk:=by rw[fZ];rfl
theorem aLC(e:Eqn):e.enc.bulk=e.left.enc.bulk+(e.right.enc.bulk+dE (e.cond.map Tm.enc)):=by
 simp only[Eqn.enc,Eqn.cs,A.bulk,uN,dI,aHp,jA]
theorem aDV(c:Cel):c.enc.bulk=c.name.length+(c.sort.length+c.init.enc.bulk):=by
 simp only[Cel.enc,Cel.cs,A.bulk,uN,dI,aHp,jA]
theorem aGV(p:Part):p.enc.bulk=p.cell.length+(p.at_.length+(p.left.enc.bulk+dE (p.right.map Tm.enc))):=by
 simp only[Part.enc,Part.cs,A.bulk,uN,dI,aHp,jA]
theorem aKu(f:Fresh):f.enc.bulk=dE (f.cells.map Tm.enc):=by
 simp only[Fresh.enc,Fresh.cs,A.bulk,dI,jA]
theorem aCg(r:Rul):r.enc.bulk=r.name.length+(dE (r.parts.map Part.enc)+(dE (r.cond.map Tm.enc)+(dE (r.new.map Fresh.enc)+dE (r.drop.map .str)))):=by
 simp only[Rul.enc,Rul.cs,A.bulk,dI,jA]
theorem aG5(d:Dfn):dI d.cs=d.name.length+(dI d.sig.cs+(dE (d.eqs.map Eqn.enc)+(dE (d.once.map Cel.enc)+(d.kind.length+(dE (d.many.map Cel.enc)+(dE (d.rules.map Rul.enc)+(d.start.length+d.watch.length))))))):=by
 simp only[Dfn.cs,A.bulk,uN,dI,jA]
theorem aL8(x:Sig):dI x.cs=dE (x.sorts.map .str)+(dE (x.below.map Below.enc)+(dE (x.ops.map Opr.enc)+(dE (x.funs.map Opr.enc)+dE (x.values.map .str)))):=by
 simp only[Sig.cs,A.bulk,dI,jA]
theorem aL0(o:Opr):o.enc.bulk=o.name.length+(dE (o.args.map .str)+(o.sort.length+(dE (o.pieces.map Piece.enc)+dE (o.strict.map (.int .i64))))):=by
 simp only[Opr.enc,Opr.cs,A.bulk,dI,jA,gK]
theorem aUz(N:Nat){d:Dfn}(B:dI d.cs<=N):∀t,t∈vV d->t.enc.bulk<=N:=by
 rw[aG5]at B;intro t h;simp only[vV,bT,jV]at h;rcases h with⟨e,u,h⟩|⟨c,u,h⟩|⟨r,u,h⟩
 .have y:=jZ Eqn.enc u;rw[aLC]at y;simp only[pU,bT,cR,nE,dW]at h;rcases h with(rfl|rfl)|h
  .omega
  .omega
  .have:=jZ Tm.enc h;omega
 .have y:c.enc.bulk<=dE (d.once.map Cel.enc)+dE (d.many.map Cel.enc):=by
   rcases u with u|u
   .have:=jZ Cel.enc u;omega
   .have:=jZ Cel.enc u;omega
  rw[aDV]at y;simp only[oP,bS]at h;rw[h];omega
 .have y:=jZ Rul.enc u;rw[aCg]at y;simp only[nQ,pV,bT,jV,cR,nE,dW]at h;rcases h with⟨p,H,h⟩|h|⟨f,G,h⟩
  .have z:=jZ Part.enc H;rw[aGV]at z;rcases h with rfl|h
   .omega
   .have:=jZ Tm.enc h;omega
  .have:=jZ Tm.enc h;omega
  .have z:=jZ Fresh.enc G;rw[aKu]at z;have:=jZ Tm.enc h;omega
theorem aUk(N:Nat):(∀t:Tm,SizeOf.sizeOf t<N->t.pre.length<=1+t.enc.bulk)/\∀l:List Tm,(∀t,t∈l->SizeOf.sizeOf t<N)->(aP l).length<=dE (l.map Tm.enc):=by
 induction N with
 | zero=>exact⟨λt h=>by omega,λl h=>by
   cases l with
   | nil=>exact aN _
   | cons t r=>exact cG (h t (bY ..)) aB⟩
 | succ N z =>
  have key:∀t:Tm,SizeOf.sizeOf t<N+1->t.pre.length<=1+t.enc.bulk:=λt H=>by
   have B:=z.2 t.kids (λx u=>by have:=kR u;omega);have G:=z.2 t.rest (λx u=>by have:=uM u;omega);have:=aNZ t;rw[fP,dP,bB,aG];omega
  refine⟨key,λl h=>?_⟩
  induction l with
  | nil=>exact aN _
  | cons t r y =>
   have B:=key t (h t (bY ..));have G:=y (λx u=>h x (cZ _ u));simp only[aP,aG,cC,dE];omega
theorem aC4(t:Tm):t.pre.length<=1+t.enc.bulk:=(aUk _).1 t (dZ _)
theorem aEO(l:List Tm):(aP l).length<=dE (l.map Tm.enc):=by
 induction l with
 | nil=>exact aN _
 | cons t r h=>have:=aC4 t;simp only[aP,aG,cC,dE];omega
theorem aCf{u:Type}(g:u->List Tm)(en:u->A):∀l:List u,(∀x,x∈l->(aP (g x)).length<=2 * ((en x).bulk+1))->(aP (l.flatMap g)).length<=2 * dE (l.map en)
 | [],_=>aN _
 | x::r,h=>by
  have B:=aCf g en r (λy z=>h y (cZ _ z));have G:=h x (bY ..);rw[gR,dP,aG,cC,dE];omega
theorem aLS{u:Type}(g:u->List aA)(en:u->A):∀l:List u,(∀x,x∈l->(g x).length<=(en x).bulk+1)->(l.flatMap g).length<=dE (l.map en)
 | [],_=>aN _
 | x::r,h=>by
  have B:=aLS g en r (λy z=>h y (cZ _ z));have G:=h x (bY ..);rw[gR,aG,cC,dE];omega
theorem aXE(x:Eqn):(aP (dH x)).length<=2 * (x.enc.bulk+1):=by
 have h:=aC4 x.left;have u:=aC4 x.right;have y:=aEO x.cond;rw[aLC];simp only[dH,aP,aG];omega
theorem aXG(r:Rul):(aP (fD r)).length<=2 * (r.enc.bulk+1):=by
 have h:=aCf (λp=>p.left::p.right) Part.enc r.parts (λp _=>by
  have h:=aC4 p.left;have u:=aEO p.right;rw[aGV];simp only[aP,aG];omega)
 have u:=aEO r.cond
 have y:=aCf Fresh.cells Fresh.enc r.new (λf _=>by
  have:=aEO f.cells;rw[aKu];omega)
 rw[aCg];simp only[fD,dP,aG];omega
theorem aXq(r:Rul):(mK r).length<=r.enc.bulk+1:=by
 have h:=fW Part.enc r.parts;have u:=fW A.str r.drop;rw[aCg];simp only[mK,aG,bB];refine rE (Nat.add_le_add_left (List.length_filter_le _ _) _) ?_;rw[aW];omega
theorem aGN(d:Dfn)(y:dI d.cs<=100000000):DfnC d:=by
 have G:=aUz 100000000 y;rw[aG5,aL8]at y;have z:=fW Cel.enc d.once;have T:=fW Cel.enc d.many;have U:=fW Opr.enc d.sig.ops;have Y:=fW Opr.enc d.sig.funs;refine⟨λt h=>aUx _ t (dZ _) (G t (by rw[yZ];exact h)),?_,?_,?_,by omega,λo B=>?_⟩
 .have g1:=aCf dH Eqn.enc d.eqs (λx _=>aXE x);have g2:=aCf fD Rul.enc d.rules (λx _=>aXG x)
  have u:∀l:List Cel,(aP (l.map Cel.init)).length<=dE (l.map Cel.enc):=by
   intro l
   induction l with
   | nil=>exact aN _
   | cons x r Z =>
    have O:=aC4 x.init;have z:=aDV x;simp only[cC,aP,aG,dE];omega
  have H:=u d.once;have M:=u d.many;simp only[bZ,cB,dP,aG];omega
 .have g2:=aLS mK Rul.enc d.rules (λx _=>aXq x);have u:(if d.kind=[] then([]:List aA) else [d.kind]).length<=1:=by split<;>simp
  simp only[gE,aG,aW,bB,bQ];omega
 .omega
 .have g1:=jZ Opr.enc B;rw[aL0]at g1;have g2:=fW Piece.enc o.pieces;have u:=fW A.str o.args;exact⟨by omega,by omega,by omega⟩
section
section
variable {s:St} {KV Kp:St->A->Prop} {d:Dfn}
theorem qL{S s:St}{b:Nat}(o:Ob)(h:S.ge s)(z:s.getO b=none):(S.setO b o).ge s :=
 ⟨λq H u=>by rw[aX,aE (λe=>by rw[<-e,z]at u;cases u)];exact h.ob _ _ u,λt v B=>h.tk t v B,λy G=>h.ls y G⟩
def rM(P:Dfn × Fault):Dfn × Fault :=
 if P.2.code=0 then(if(vA P.1).code=0 then(P.1,vA P.1) else(xI,vA P.1)) else(xI,P.2)
theorem aR0(x:aA)(P:Dfn × Fault)(Z:aAK x P.1 P.2)(hd:DfnC P.1)(B:KV s (.tuple [(rM P).1.enc,(rM P).2.enc])):Den cx 21 [.str x] KV Kp s:=by
 unfold rM at B;(refine aO func21 [0,2,3,4,5,13,18] ?_;simp only[go_sem,ntmps21,f21]);(refine aL λO h=>?_);simp only[go_sem,h];(refine aL λT u=>?_);simp only[go_sem,h,u];obtain⟨d,f⟩:=P;simp only at hd B Z;refine Z _ _ _ ?_;simp only[go_sem,h,u];(refine aL λU y=>?_);simp only[go_sem,h,u,y];(refine aL λY z=>?_);have zd:A.le (.agg [.str [],.nils,.nils,.nils,.nils,.nils,.nils,.nils,.str [],.nils,.nils,.str [],.str []]) xI.enc:=A.le.agg ⟨⟨cN _,rfl⟩,⟨A.le.nil,rfl⟩,⟨A.le.nil,rfl⟩,⟨A.le.nil,rfl⟩,⟨A.le.nil,rfl⟩,⟨A.le.nil,rfl⟩,⟨A.le.nil,rfl⟩,⟨A.le.nil,rfl⟩,⟨cN _,rfl⟩,⟨A.le.nil,rfl⟩,⟨A.le.nil,rfl⟩,⟨cN _,rfl⟩,⟨cN _,rfl⟩,trivial⟩
 have G:∀o1 o2 o3 o4 o5 o6 o7 o8,((((((((s.setO O o1).setO T o2).setO U o3).setO Y o4).setO U o5).setO Y o6).setO O o7).setO T o8).ge s:=λ_ _ _ _ _ _ _ _ =>
  qL _ (qL _ (qL _ (qL _ (qL _ (qL _ (qL _ (qL _ (aC s) h) u.2) y.2.2) z.2.2.2) y.2.2) z.2.2.2) h) u.2
 cases H:decide (f.code=0)<;>simp only[go_sem,h,u,y,z,H]
 .rw[aE (of_decide_eq_false H)]at B;(refine bX (OT.r 0 4) [(2,[1])] ?_;simp only[go_sem,h,u,y,z]);exact DK.mk B (G _ _ _ _ _ _ _ _) (A.le.tuple ⟨zd,cN _,trivial⟩)
 .rw[aF (eN H)]at B;refine dU (aGq hd ?_) (by simp only[Dfn.cs,Sig.cs,bL,bE]);generalize vA d=g at B;cases M:decide (g.code=0)<;>simp only[go_sem,h,u,y,z,M]
  .rw[aE (of_decide_eq_false M)]at B;(refine bX (OT.r 0 4) [(2,[1])] ?_;simp only[go_sem,h,u,y,z]);exact DK.mk B (G _ _ _ _ _ _ _ _) (A.le.tuple ⟨zd,cN _,trivial⟩)
  .rw[aF (eN M)]at B;(refine bX (OT.r 0 4) [(2,[1])] ?_;simp only[go_sem,h,u,y,z]);exact aD B (G _ _ _ _ _ _ _ _)
theorem aRx(hd:DfnC d)(hs:gU d=true)(n:aA)(i:Nat)(x:Cel)(Y:d.once[i]?=some x)(Z:x.name=n)(T:∀j y,j<i->d.once[j]?=some y->y.name≠n)(hk:KV s (.tuple [.bool false,.int .i64 i,.int .i64 0])):Den cx 16 [.agg d.cs,.str n] KV Kp s:=by
 (refine aO func16 aC6 ?_;simp only[go_sem,ntmps16,f16]);(refine aL λp U=>?_);have B:(s.setO p (.cells 31 d.cs)).ge s:=aZ U (aC s);have H:(s.setO p (.cells 31 d.cs)).getO p=some (.cells 31 d.cs):=by rw[aX,aF rfl]
 simp only[go_sem,U];simp only[Dfn.cs,Sig.cs,bL,bE]at H B;generalize hS:s.setO p _=S at H B⊢;clear hS U;have b1:=hd.cl
 have b0:i<d.once.length:=by
  rw[cX]at Y;exact Y.1
 refine dU (yM hd ?_) (by simp only[Dfn.cs,Sig.cs,bL,bE]);rw[hs];simp only[go_sem,H];refine Ex.loop (ι:=Nat) (λj=>[(1,.str n),(2,.ptr p 0),(15,.list none (d.once.map Cel.enc)),(16,.int .i64 (d.once.length:Nat)),(17,.int .i64 (j:Nat))]) (λ_=>S) (λj=>j<=i) (λj=>i-j) 0 (aN _) ?_ (aC _) ?_
 .simp only[go_sem]
  try exact rfl
 .rintro j hj;refine aQ (V:=aC6) _ _ _ _ ?_;simp only[go_sem]
  (apply aI<;>intro h)<;>simp only[go_sem,h]
  .have G:j<d.once.length:=gQ h;clear h;obtain⟨y,M⟩:=aU G;simp only[go_sem,M,G];(refine bP λb8 u=>?_);have f1:=aM H (aJ u);have z:(S.setO b8 (.cells 96 y.cs)).ge S:=aZ u (aC S);simp only[Cel.cs,Tm.cs,bL,bE]at z;by_cases e:j=i
   .subst e;rw[Y]at M;cases M;simp only[go_sem,u,f1,cF Z];exact aD hk (z.trans B)
   .have O:j<i:=by omega
    simp only[go_sem,u,f1,bN (T j y O M)];exact⟨j+1,by omega,by omega,aR j aB,z⟩
  .exact cG (gQ h) (show¬ d.once.length<=j by omega)
end
end
def NZ(o:Option Fault):Prop:=∀f,o=some f->f.code≠0
theorem lP:NZ none:=λf h=>by cases h
theorem lQ{f:Fault}(h:f.code≠0):NZ (some f):=λg e=>by cases e;exact h
theorem cY{a b:Option Fault}(h:NZ a)(u:NZ b):NZ (aH a b):=by cases a with
 | none=>exact u
 | some f=>exact h
theorem fC{b:Bool}{f:Fault}(h:f.code≠0):NZ (bC b f):=by unfold bC;split;exact lQ h;exact lP
theorem nY{p:Prop} [Decidable p] {a b:Option Fault} (h:NZ a) (u:NZ b):NZ (if p then a else b):=by split<;>assumption
theorem lO{u:Type}{f:u->Option Fault}(h:∀x,NZ (f x)):∀l:List u,NZ (bO f l)
 | []=>lP
 | x::r=>cY (h x) (lO h r)
theorem aCw{sg:Sig}{n:aA}{l c:Int}{ts:List Tm}:NZ (lG sg n l c ts):=fC aV
theorem aAR{sg:Sig}{n:aA}{l c:Int}{t:Tm}{S:aA}:NZ (jL sg n l c t S):=fC aV
theorem aML{l c:Int}{ts:List Tm}:NZ (vM l c ts):=fC aV
theorem aLU{l c:Int}{a b:List Tm}:NZ (tO l c a b):=lO (λ_=>fC aV) _
theorem aWW{sg:Sig}{x:Eqn}:NZ (xR sg x):=by
 unfold xR;refine nY ?_ (lQ aV);split
 .exact lQ aV
 .exact cY aCw (cY (fC aV) (cY (fC aV) (cY aML (cY aLU (cY (lO (λ_=>aAR) _) aAR)))))
theorem aVj{sg:Sig}{b:List aA}{x:Cel}:NZ (xQ sg b x) :=
 cY (nY (lQ aV) (fC aV)) (cY aCw (cY aAR (lO (λ_=>fC aV) _)))
theorem aLV{sg:Sig}:∀(l:List Cel) (b:List aA),NZ (mR sg b l)
 | [],_=>lP
 | x::r,b=>cY aVj (aLV r _)
theorem aT7{d:Dfn}:NZ (xD d):=cY (fC aV) (cY (fC aV) (cY (fC aV) (cY (lO (λ_=>fC aV) _) (lO (λ_=>fC aV) _))))
theorem aVn{d:Dfn}{b:List Part}{x:Part}:NZ (zN d b x) :=
 nY (lQ aV) (nY (lQ aV) (nY (lQ aV) (nY (lQ aV) (cY aCw (lO (λ_=>aAR) _)))))
theorem aLY{d:Dfn}:∀(l b:List Part),NZ (xC d b l)
 | [],_=>lP
 | x::r,b=>cY aVn (aLY r _)
theorem aLW{d:Dfn}{n:aA}{l c:Int}:∀(ts:List Tm) (m:List Cel),NZ (rH d n l c ts m)
 | [],_=>lP
 | _::_,[]=>lP
 | t::r,x::m=>cY aCw (cY aAR (aLW r m))
theorem aHF{l c:Int}:∀(s b:List aA),NZ (mF l c b s)
 | [],_=>lP
 | x::r,b=>cY (fC aV) (aHF r _)
theorem aVm{d:Dfn}{r:Rul}:NZ (tY d r):=cY (lO (λ_=>fC aV) _) (cY (lO (λ_=>aLW _ _) _) (cY (lO (λ_=>fC aV) _) (aHF _ _)))
theorem aVo{d:Dfn}{b:List aA}{r:Rul}:NZ (zP d b r) :=
 nY (lQ aV) (nY (lQ aV) (cY (aLY _ _) (cY aML (cY aLU (cY (lO (λ_=>cY aCw aAR) _) aVm)))))
theorem aLZ{d:Dfn}:∀(l:List Rul) (b:List aA),NZ (tU d b l)
 | [],_=>lP
 | x::r,b=>cY aVo (aLZ r _)
theorem aT4(d:Dfn):NZ (tP d) :=
 nY (lQ aV) (nY (lQ aV) (cY (lO (λ_=>aWW) _) (cY (aLV _ _) (cY aT7 (aLZ _ _)))))
theorem aS8(d:Dfn):gU d=true↔tP d=none:=by
 unfold gU vA;rw[bR];cases h:tP d with
 | none=>exact⟨λ_=>rfl,λ_=>rfl⟩
 | some f=>exact⟨λe=>cG e (aT4 d f h),λe=>(by cases e)⟩
theorem aCx{a b:Option Fault}:aH a b=none↔a=none/\b=none:=by
 cases a with
 | none=>exact⟨λh=>⟨rfl,h⟩,λh=>h.2⟩
 | some f=>exact⟨λh=>(by cases h),λh=>(by cases h.1)⟩
theorem aKt{z:Type}{f:z->Option Fault}:∀{l:List z},bO f l=none↔∀x,x∈l->f x=none
 | []=>⟨λ_ x h=>(by cases h),λ_=>rfl⟩
 | y::r=>by
  have B:=aKt (f:=f) (l:=r);rw[bO,aCx,B];exact⟨λh x u=>by rcases List.mem_cons.1 u with rfl|u;exact h.1;exact h.2 x u,λh=>⟨h y (bY ..),λx u=>h x (cZ _ u)⟩⟩
section
theorem aRH(n:Nat)(M:n<=4294967296)(s:St)(KV Kp:St->A->Prop)(z:∀tk,(∀t,tk=some t->s.getT t=none)->KV (gs s tk 0 80) (gv tk [])):Den cx 107 [.nils,.int .i64 (n:Nat)] KV Kp s:=by
 have B:decide ((n:Int)<0)=false:=by rw[eF];omega
 have H:IntKind.i64.wrap ((n:Int)-IntKind.i64.wrap (0-0))=(n:Int):=by rw[show IntKind.i64.wrap (0-0)=0 by decide,gT _ aB aB];omega
 (refine aO func107 [0,1,4,6,16] ?_;simp only[go_sem,ntmps107,f107]);simp only[go_sem,B];rw[H];cases n with
 | zero =>
  have y:decide ((0:Int)<((0:Nat):Int))=false:=by decide
  simp only[go_sem,y];exact aS (z none (λt h=>by cases h))
 | succ n =>
  have y:decide ((0:Int)<((n+1:Nat):Int))=true:=by rw[bR];omega
  simp only[go_sem,y,rN];refine⟨⟨by omega,by omega,by decide⟩,λt G=>?_⟩;simp only[go_sem];exact aS (z (some t) (λu h=>by cases h;exact G))
theorem aJh(G:List (List Opr))(hn:G.flatten.length<=4294967296)(s:St)(KV Kp:St->A->Prop)(hk:KV s (.list none (G.flatten.map Opr.enc))):Den cx 44 [.list none (G.map λl=>.list none (l.map Opr.enc))] KV Kp s:=by
 refine gC λb0=>?_
 have Y:=b0 _ (bY ..);clear b0;(refine aO func44 rR ?_;simp only[go_sem,ntmps44,f44])
 refine Ex.loop (ι:=Nat) (λi=>[(0,.list none (G.map λl=>.list none (l.map Opr.enc))),(3,.int .i64 ((G.take i).flatten.length:Nat)),(9,.list none (G.map λl=>.list none (l.map Opr.enc))),(10,.int .i64 (G.length:Nat)),(11,.int .i64 (i:Nat))])
  (λ_=>s) (λi=>i<=G.length) (λi=>G.length-i) 0 (aN _) ?_ (aC _) ?_
 .simp only[go_sem];exact⟨rfl,rfl⟩
 .intro i hi;refine aQ (V:=rR) _ _ _ _ ?_;simp only[go_sem]
  (apply aI<;>intro h)<;>simp only[go_sem,h]
  .have B:i<G.length:=gQ h;clear h;obtain⟨a,T⟩:=aU B;obtain⟨O,M⟩:=wH T
   have w2:IntKind.i64.wrap (((G.take i).flatten.length:Int)+(a.length:Int))=(((G.take (i+1)).flatten.length:Nat):Int):=by
    rw[O,aG,gT _ aB (by rw[O,aG]at M;omega)];omega
   have d0:decide ((((G.take (i+1)).flatten.length:Nat):Int)<0)=false:=by rw[eF];omega
   simp only[go_sem,T,B,w2,d0];exact⟨i+1,B,by omega,⟨rfl,Y.wrap (i:=i) (gQ B)⟩,aC _⟩
  .have B:i=G.length:=by have:¬ i<G.length:=gQ h;omega
   subst B;clear h;rw[bK];refine aRH _ hn _ _ _ (λtk U=>?_);simp only[go_sem];clear hi
   refine Ex.loop (ι:=Nat × Option Nat) (λk=>[(6,gv k.2 ((G.take k.1).flatten.map Opr.enc)),(25,.list none (G.map λl=>.list none (l.map Opr.enc))),(26,.int .i64 (G.length:Nat)),(27,.int .i64 (k.1:Nat))])
    (λk=>gs s k.2 (G.take k.1).flatten.length 80) (λk=>k.1<=G.length/\(k.2=none->(G.take k.1).flatten=[])/\∀t,k.2=some t->s.getT t=none) (λk=>G.length-k.1) (0,tk) ⟨aN _,λ_=>rfl,U⟩ ?_ (aC _) ?_
   .simp only[go_sem];exact⟨by cases tk<;>rfl,rfl⟩
   .rintro⟨i,tk⟩ ⟨hi,H,U⟩;simp only at hi H U;refine aQ (V:=rR) _ _ _ _ ?_;simp only[go_sem]
    (apply aI<;>intro h)<;>simp only[go_sem,h]
    .have B:i<G.length:=gQ h;clear h;obtain⟨a,T⟩:=aU B;obtain⟨O,M⟩:=wH T
     have hz:∀(l:List Opr) (y:A),y∈l.map Opr.enc->y.cells.length=(A.cells (Opr.enc default)).length:=λl y Z=>by
      obtain⟨z,_,rfl⟩:=cW.1 Z
      first|rfl|(simp only[fZ];rfl)
     simp only[go_sem,T,B];refine⟨by decide,λy Z=>hz a y Z,fJ rfl rfl (by rw[aW];exact iS λe=>by rw[H e];rfl) (λy Z=>hz _ y Z) (by rw[O,aG]at M;simp only[aW];omega) (λu hu=>?_)⟩;have b1:=kB hu U;rw[kF hu];simp only[go_sem];refine⟨(i+1,some u),⟨B,λh=>(by cases h),λt h=>by cases h;exact b1⟩,bD,⟨?_,Y.wrap (i:=i) (gQ B)⟩,?_⟩
     .rw[O,cB];rfl
     .rw[O];simp only[gs,aW,aG];exact aC _
    .have B:i=G.length:=by have:¬ i<G.length:=gQ h;omega
     subst B;rw[bK]at H⊢;exact DK.mk hk (eJ (aC _) U) (nM _ _ (λe=>by rw[H e];rfl))
theorem aXy{u:Type} [DecidableEq u] (key:u->MK) (x:u) (l:List u) (h:x∈l):lJ (key x) (.bool true) (eC key l)=eC key l:=by
 induction l with
 | nil=>cases h
 | cons y r z =>
  simp only[eC,cC,lJ]at z⊢;by_cases e:key x=key y
  .rw[aF e]
  .rw[aE e];rcases List.mem_cons.1 h with rfl|h
   .exact cG rfl e
   .rw[z h]
def qO(a:List aA)(x:Tm):List aA:=if x.kind=5 then(if x.text∈a then a else a++[x.text]) else a
def gV(l:List Tm):List aA:=(aP l).foldl qO []
theorem aWA(a:List aA)(x:aA):lJ (.str x) (.bool true) (eC .str a)=eC .str (if x∈a then a else a++[x]):=by
 by_cases h:x∈a
 .rw[aF h];exact aXy MK.str x a h
 .rw[aE h];exact aEp MK.str (λx y e=>by cases e;rfl) x a h
structure ApI (s0:St) (p b:Nat) (n:Nat) (a:List aA) (v:Unit) (s:St):Prop where
 ge:s.ge s0
 pc:s.getO p=some (.cells 83 [.mp b])
 ob:s.getO b=some (.map 0 (eC .str a))
section
variable {s0 s s':St} {p b n m:Nat} {a:List aA} {v:Unit}
theorem ApI.st(h:ApI s0 p b n a v s)(u:s'.ge s):ApI s0 p b n a v s':=⟨u.trans h.ge,u.ob _ _ h.pc,u.ob _ _ h.ob⟩
theorem ApI.fr{x:Nat}(h:ApI s0 p b n a v s)(u:s.getO x=none):¬ mY b v x:=by
 rintro rfl;rw[h.ob]at u;cases u
theorem ApI.set(h:ApI s0 p b m a v s)(u:s0.getO b=none)(c:List aA):ApI s0 p b n c v (s.setO b (.map 0 (eC .str c)))/\Keep (mY b) s v (s.setO b (.map 0 (eC .str c))) v:=by
 have y:¬ b=p:=λe=>by have:=h.pc;rw[<-e,h.ob]at this;cases this
 exact⟨⟨tJ h.ge u _,by rw[aX,aE y];exact h.pc,by rw[aX,aF rfl]⟩,Keep.set (show mY b v b from rfl) _⟩
theorem ApI.keep(h:ApI s0 p b m a v s)(u:s'.ge s):ApI s0 p b n a v s'/\Keep (mY b) s v s' v:=⟨⟨(h.st u).ge,(h.st u).pc,(h.st u).ob⟩,Keep.ge u v⟩
end
theorem aSg(s0:St)(p b:Nat)(M:s0.getO b=none):WalkOk qO (ApI s0 p b) (mY b) 104 [.ptr p 0] where
 st:=ApI.st
 fr:=ApI.fr
 go:=by
  intro n a v x O s KV Kp b0 hI y;simp only[bE,bL];have U:=hI.pc;have T:=hI.ob;unfold qO at y;(refine aO func104 [0,2,3,7] ?_;simp only[go_sem,ntmps104,f104]);(refine aL λc u=>?_);have h:(s.setO c (.cells 67 x.cs)).ge s:=aZ u (aC s);have e1:=aM U u;have e2:=aM T u;have H:ApI s0 p b (n+1) a v (s.setO c (.cells 67 x.cs)):=hI.st h;obtain⟨Y,Z⟩:=hI.keep (n:=n) h;by_cases z:x.kind=5
  .have G:decide (x.kind=5)=true:=cF z;rw[aF z]at y;obtain⟨k3,B⟩:=H.set (n:=n) M (if x.text∈a then a else a++[x.text]);have B:=(Keep.ge (Ow:=mY b) h v).trans B;simp only[Tm.cs]at k3 B;simp only[go_sem,u,G,e1,e2,U,T,aWA];exact aS (y _ _ k3 B)
  .have G:decide (x.kind=5)=false:=bN z;rw[aE z]at y;simp only[go_sem,u,G];simp only[Tm.cs]at Y Z;exact aS (y _ _ Y Z)
section
variable {s:St} {KV Kp:St->A->Prop} {d:Dfn}
theorem aF7(l:List Tm)(hb:(aP l).length<=4294967000)(hk:∀s' b,s.getO b=none->s'.ge s->s'.getO b=some (.map 0 (eC .str (gV l)))->KV s' (.mp b)):Den cx 38 [.list none (l.map Tm.enc)] KV Kp s:=by
 (refine aO func38 aFl ?_;simp only[go_sem,ntmps38,f38]);(refine aL λq z=>?_);simp only[go_sem,z];(refine aL λp M=>?_)
 have Z:ApI s p q ((aP l).length) [] () ((s.setO q (.map 0 [])).setO p (.cells 83 [.mp q])):=by
  refine⟨aZ M.2 (aZ z (aC s)),by rw[aX,aF rfl],?_⟩;rw[aX,aE M.1.2,aX,aF rfl];rfl
 simp only[go_sem,z,M];have b1:=iP l
 refine Ex.loop (ι:=Nat × St) (λc=>[(3,.ptr p 0),(7,.list none (l.map Tm.enc)),(8,.int .i64 (l.length:Nat)),(9,.int .i64 (c.1:Nat))])
  (λc=>c.2) (λc=>c.1<=l.length/\ApI s p q ((aP (l.drop c.1)).length) ((aP (l.take c.1)).foldl qO []) () c.2) (λc=>l.length-c.1) (0,_) ⟨aN _,Z⟩ ?_ (aC _) ?_
 .simp only[go_sem]
  try exact rfl
 .rintro⟨i,s1⟩ ⟨U,hI⟩;simp only at U hI;refine aQ (V:=aFl) _ _ _ _ ?_;simp only[go_sem]
  (apply aI<;>intro h)<;>simp only[go_sem,h]
  .have u:i<l.length:=gQ h;clear h;obtain⟨x,B⟩:=aU u;have O:=aB6 B;have y:=aB8 B;have b2:=wO (bA B);simp only[go_sem,B,u];(refine aL λc T=>?_);simp only[go_sem,B,u,T];refine aAv (aSg s p q z) x 1 _ _ () _ _ _ aB (by rw[<-O];exact hI.st (aZ T (aC _))) (λs4 v4 G b0=>?_);simp only[go_sem];exact⟨(i+1,s4),⟨u,by rw[y,lW];exact G⟩,bD,aR i aB,aC _⟩
  .have H:=bI U h;subst H;rw[bK]at hI;have Y:=hI.pc;simp only[go_sem,Y];exact aS (hk _ _ z hI.ge hI.ob)
theorem aBX(h:gU d=true):pE d=true/\qN d.sig=true:=by
 rw[aS8]at h;unfold tP at h;constructor
 .cases e:pE d with
  | true=>rfl
  | false=>rw[aF e]at h;cases h
 .cases e:pE d with
  | false=>rw[aF e]at h;cases h
  | true =>
   rw[aE (by rw[e];decide)]at h;cases u:qN d.sig with
   | true=>rfl
   | false=>rw[aF u]at h;cases h
theorem aQi(Y:DfnC d)(M:gU d=true)(n:aA)(hn:dA d.sig.funs n=none)(Z:KV s (.tuple [.nils,.int .i64 4])):Den cx 11 [.agg d.cs,.str n] KV Kp s:=by
 have hv:d.sig.sorts.length<=40/\d.sig.below.length<=200:=by
  have G:=(aBX M).2;unfold qN at G;simp only[aY,fV,eF]at G;omega
 (refine aO func11 aFe ?_;simp only[go_sem,ntmps11,f11]);(refine aL λp B=>?_);have h:(s.setO p (.cells 31 d.cs)).ge s:=aZ B (aC s);have y:(s.setO p (.cells 31 d.cs)).getO p=some (.cells 31 d.cs):=by rw[aX,aF rfl]
 simp only[go_sem,B];simp only[Dfn.cs,Sig.cs,bL,bE]at y h;generalize U:s.setO p _=S at y h⊢;clear U B;refine dU (yM Y ?_) (by simp only[Dfn.cs,Sig.cs,bL,bE]);rw[M];simp only[go_sem,y];refine cJ (aDL d.sig aB aB _ _ _ (λO r u T=>?_));have z:=u.ob _ _ y;simp only[go_sem,z];refine rG T n ?_;rw[hn];simp only[go_sem,lB,uK,kX];(refine aL λq H=>?_);simp only[go_sem,H];exact aD Z ((qL _ (aC O) H).trans (u.trans h))
theorem aQa(U:DfnC d)(hs:gU d=true)(hu:∀o,o∈d.sig.ops++d.sig.funs->o.name∈gV (bZ d)\/o.pieces.length≠0)(hk:KV s (.tuple [.nils,.int .i64 0])):Den cx 14 [.agg d.cs] KV Kp s:=by
 (refine aO func14 aFg ?_;simp only[go_sem,ntmps14,f14]);(refine aL λp hp=>?_);have H:(s.setO p (.cells 31 d.cs)).ge s:=aZ hp (aC s);have M:(s.setO p (.cells 31 d.cs)).getO p=some (.cells 31 d.cs):=by rw[aX,aF rfl]
 simp only[go_sem,hp];simp only[Dfn.cs,Sig.cs,bL,bE]at M H;generalize hS:s.setO p _=S at M H⊢;clear hS hp;refine dU (yM U ?_) (by simp only[Dfn.cs,Sig.cs,bL,bE]);rw[hs];simp only[go_sem,M];have b4:(bZ d).length<=4294967000:=rE (iP _) U.pr;refine dU (aGw d (by rw[yZ];omega) U.cl S _ _ ?_) (by simp only[Dfn.cs,Sig.cs,bL,bE]);rw[yZ];simp only[go_sem,M];refine aF7 (bZ d) U.pr (λZ b _ T hb=>?_);have O:=T.ob _ _ M;have b2:=T.trans H;simp only[go_sem,O];have Y:[d.sig.ops,d.sig.funs].flatten=d.sig.ops++d.sig.funs:=by simp
 have b0:(d.sig.ops++d.sig.funs).length<=4294967000:=by rw[aG];exact U.op
 refine aJh [d.sig.ops,d.sig.funs] (by rw[Y];omega) _ _ _ ?_;rw[Y];generalize d.sig.ops++d.sig.funs=L at hu b0;simp only[go_sem,O];refine Ex.loop (ι:=Nat) (λi=>[(1,.ptr p 0),(4,.mp b),(5,.nils),(21,.list none (L.map Opr.enc)),(22,.int .i64 (L.length:Nat)),(23,.int .i64 (i:Nat))]) (λ_=>Z) (λi=>i<=L.length) (λi=>L.length-i) 0 (aN _) ?_ (aC _) ?_
 .simp only[go_sem]
  try exact rfl
 .rintro i hi;refine aQ (V:=aFg) _ _ _ _ ?_;simp only[go_sem]
  (apply aI<;>intro h)<;>simp only[go_sem,h]
  .have u:i<L.length:=gQ h;clear h;obtain⟨x,hx⟩:=aU u;have b3:=hu x (bA hx);have B:=aCv MK.str (λx y e=>by cases e;rfl) x.name (gV (bZ d));have z:decide (((x.pieces.length:Nat):Int)=0)=decide (x.pieces.length=0):=by rw[bW];omega
   simp only[go_sem,hx,u];(refine bP λc hc=>?_);have f1:=aM hb (aJ hc);have G:(Z.setO c (.cells 80 x.cs)).ge Z:=aZ hc (aC Z);simp only[Opr.cs]at G;by_cases hm:x.name∈gV (bZ d)
   .rw[aF hm]at B;simp only[go_sem,hx,u,hc,f1,hb,B,z,iY];exact⟨i+1,u,by omega,aR i aB,G⟩
   .rw[aE hm]at B;have h0:decide (x.pieces.length=0)=false:=bN (b3.resolve_left hm);simp only[go_sem,hx,u,hc,f1,hb,B,z,h0,iY];exact⟨i+1,u,by omega,aR i aB,G⟩
  .have b1:=bI hi h;subst b1;refine aDE ?_;simp only[go_sem];exact aD hk b2
end
end
section
theorem aIz:vA mU=Fault.none:=by kernel_rfl
theorem aXI:(rM (aCM,Fault.none)).2=⟨17,[89],1,33⟩:=by kernel_rfl
theorem aXJ:(rM (aCN,Fault.none)).2=⟨13,[99],0,0⟩:=by kernel_rfl
theorem aXK:(rM (xI,⟨12,[],1,9⟩)).2.code=12:=by kernel_rfl
theorem aOl:dI mU.cs<=100000000:=eQ (by kernel_rfl)
theorem aXL:rM (mU,Fault.none)=(mU,Fault.none):=by
 unfold rM;rw[aIz];rfl
theorem aXM:gU mU=true:=by unfold gU;rw[aIz];rfl
theorem aXN:dA mU.sig.funs [112,108,117,115]=none:=by kernel_rfl
theorem aXs:((mU.sig.ops++mU.sig.funs).all λo=>decide (o.name∈gV (bZ mU))||!decide (o.pieces.length=0))=true:=by kernel_rfl
theorem aXt:(mU.once[0]?).map Cel.name=some [107]:=by kernel_rfl
theorem aXu:dI aCM.cs<=100000000:=eQ (by kernel_rfl)
theorem aXv:dI aCN.cs<=100000000:=eQ (by kernel_rfl)
theorem aXw:dI xI.cs<=100000000:=eQ (by kernel_rfl)
theorem aXr:DfnC mU:=aGN _ aOl
section
variable {s:St} {KV Kp:St->A->Prop}
theorem awR{x:aA}{P:Dfn × Fault}{d:Dfn}{g:Fault}(u:aAK x P.1 P.2)(h:rM P=(d,g))(y:dI P.1.cs<=100000000)(z:KV s (.tuple [d.enc,g.enc])):Den cx 21 [.str x] KV Kp s :=
 aR0 x P u (aGN _ y) (by rw[h];exact z)
theorem aIs:List.lookup 36 [(36,[0,2,0,0]),(112,[2,2]),(218,[2,2])]=some [0,2,0,0]:=rfl
theorem aEm{T:St}{p q:Nat}(u:T.getO p=none)(h:(¬ p=q/\¬ q=p)/\T.getO q=none)(d:Dfn)(g:Fault):∃S,S=((((T.setO p (.cells 31 [.str [],.nils,.nils,.nils,.nils,.nils,.nils,.nils,.str [],.nils,.nils,.str [],.str []])).setO q (.cells 36 [.int .i64 0,.str [],.int .i64 0,.int .i64 0])).setO p (.cells 31 d.cs)).setO q (.cells 36 g.cs))/\S.ge T/\S.getO p=some (.cells 31 d.cs)/\S.getO q=some (.cells 36 g.cs) :=
 ⟨_,rfl,qL _ (qL _ (qL _ (qL _ (aC T) u) h.2) u) h.2,by rw[aX,aE h.1.2,aX,aF rfl],by rw[aX,aF rfl]⟩
theorem aJM(hk:KV s (.bool true)):Den cx 6 [] KV Kp s:=by
 obtain⟨d2,h2⟩:∃d,rM (aCM,Fault.none)=(d,⟨17,[89],1,33⟩):=⟨_,Prod.ext rfl aXI⟩
 obtain⟨d3,h3⟩:∃d,rM (aCN,Fault.none)=(d,⟨13,[99],0,0⟩):=⟨_,Prod.ext rfl aXJ⟩
 obtain⟨d4,f4,h4,b2⟩:∃d f,rM (xI,⟨12,[],1,9⟩)=(d,f)/\f.code=12:=⟨_,_,rfl,aXK⟩
 obtain⟨x0,b1,b4⟩:=kN.1 aXt
 have hu:∀o,o∈mU.sig.ops++mU.sig.funs->o.name∈gV (bZ mU)\/o.pieces.length≠0:=λo ho=>by
  have:=cL.1 aXs o ho;simpa using this
 (refine aO func6 [0,1,2,4,6,8,9,10,11,12,13,14,15,55] ?_;simp only[go_sem,ntmps6,f6]);refine awR (x:=aNY) (P:=(mU,Fault.none)) aQT aXL aOl ?_;have Y:=aXr;have u:=aXM;have b0:=aXN;have Z:=aIz;generalize mU=d1 at b1 hu Y u b0 Z⊢;simp only[go_sem];(refine aL λp1 B=>?_);simp only[go_sem,B];(refine aL λp2 O=>?_);simp only[go_sem,B,O];obtain⟨S1,e1,u1,g1,g2⟩:=aEm B O d1 Fault.none;simp only[Dfn.cs,Sig.cs,Fault.cs,bL,bE]at e1 g1 g2;rw[<-e1];clear e1 B O;refine awR (x:=aOa) (P:=(aCM,Fault.none)) aQQ h2 aXu ?_;simp only[go_sem];(refine aL λp3 G=>?_);simp only[go_sem,G];(refine aL λp4 T=>?_);simp only[go_sem,G,T];obtain⟨S2,e2,u2,g3,g4⟩:=aEm G T d2 ⟨17,[89],1,33⟩;simp only[Dfn.cs,Sig.cs,Fault.cs,bL,bE]at e2 g3 g4;rw[<-e2];clear e2 G T;refine awR (x:=aOb) (P:=(aCN,Fault.none)) aQR h3 aXv ?_;simp only[go_sem];(refine aL λp5 H=>?_);simp only[go_sem,H];(refine aL λp6 U=>?_);simp only[go_sem,H,U];obtain⟨S3,e3,u3,g5,g6⟩:=aEm H U d3 ⟨13,[99],0,0⟩;simp only[Dfn.cs,Sig.cs,Fault.cs,bL,bE]at e3 g5 g6;rw[<-e3];clear e3 H U;refine awR (x:=aOc) (P:=(xI,⟨12,[],1,9⟩)) aQS h4 aXw ?_;simp only[go_sem];(refine aL λp7 h=>?_);simp only[go_sem,h];have z:=u3.ob _ _ (u2.ob _ _ g1);have k2:=u3.ob _ _ (u2.ob _ _ g2);have k4:=u3.ob _ _ g4;have n7:=aM z h;(refine aL λp8 M=>?_);have n8:=aM z M.2;simp only[go_sem,h,M,n7,n8,z];obtain⟨S4,e4,u4,g7,g8⟩:=aEm h M d4 f4;simp only[Dfn.cs,Sig.cs,Fault.cs,bL,bE]at e4 g7 g8;rw[<-e4];clear e4 h M;have z:=u4.ob _ _ z;have k2:=u4.ob _ _ k2;have k4:=u4.ob _ _ k4;have k6:=u4.ob _ _ g6;have b3:=u4.trans (u3.trans (u2.trans u1));refine dU (aQi Y u [112,108,117,115] b0 ?_) (by simp only[Dfn.cs,Sig.cs,bL,bE]);simp only[go_sem,z];refine dU (aQa Y u hu ?_) (by simp only[Dfn.cs,Sig.cs,bL,bE]);simp only[go_sem,z];refine dU (aRx Y u [107] 0 x0 b1 b4 (λj y hj=>aB) ?_) (by simp only[Dfn.cs,Sig.cs,bL,bE]);simp only[go_sem,z,k2,aIs,Fault.none];refine dU (yM Y ?_) (by simp only[Dfn.cs,Sig.cs,bL,bE]);rw[u];simp only[go_sem,z,k2,k4,k6,aIs,Fault.none];refine dU (aGq Y ?_) (by simp only[Dfn.cs,Sig.cs,bL,bE]);rw[Z];have z0:((0:Nat):Int)=0:=rfl;simp only[go_sem,z,k2,k4,k6,g8,aIs,Fault.none,cF b2,z0];exact aD hk b3
end
end
end Go.AV
