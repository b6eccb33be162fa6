/-
  Of CheckTells.
-/
import Derived.Test.YthaljojbclndaaaGreatDoorCt17
import Derived.Shelf.SlIter.Sorted
set_option linter.all false
set_option maxRecDepth 99999
set_option maxHeartbeats 0
namespace Go.AV
open Go Go.Proofs Tryz
section
section
variable {s:St} {KV Kp:St->A->Prop}
def nl(i:Nat)(es:List A):A:=match i with
 | 0=>.nils
 | _+1=>.list none es
theorem aH9{i:Nat}{es:List A}(h:i=0->es=[]):(nl i es).le (.list none es):=by
 cases i with
 | zero=>rw[h rfl];exact A.le.nil
 | succ i=>exact cN _
theorem aMY(l:List Tm):l.length<=(aP l).length:=by
 induction l with
 | nil=>exact bF _
 | cons x r h=>rw[aP,aG,fP,bB,bB];omega
theorem aRG(l b:List Tm)(hW:∀t,t∈l++b->TmW t)(hP:(aP l).length+(aP b).length<=4294967000)(z:KV s (.tuple [.str (oG l b).1,.bool (oG l b).2])):Den cx 97 [.list none (l.map Tm.enc),.list none (b.map Tm.enc)] KV Kp s:=by
 have b6:=aMY l;have b5:=aMY b;(refine aO func97 aC8 ?_;simp only[go_sem,ntmps97,f97]);refine Ex.loop (ι:=Nat) (λi=>[(1,.list none (b.map Tm.enc)),(6,nl i (((l.take i).foldl iG []).map .str)),(7,.nils),(14,.list none (l.map Tm.enc)),(15,.int .i64 (l.length:Nat)),(16,.int .i64 (i:Nat))]) (λ_=>s) (λi=>i<=l.length) (λi=>l.length-i) 0 (aN _) ?_ (aC _) ?_
 .simp only[go_sem]
  try exact⟨rfl,rfl⟩
 .intro i Z;refine aQ (V:=aC8) _ _ _ _ ?_;simp only[go_sem]
  (apply aI<;>intro h)<;>simp only[go_sem,h]
  .have u:i<l.length:=gQ h;clear h;obtain⟨x,y⟩:=aU u;have xm:=bA y
   (try simp only[go_sem,y,u])
   (refine aL λr T=>?_)
   (try simp only[go_sem,y,u,T])
   have b4:=uZ y;have H:=aCa (l.take i) [];simp only[bQ]at H;refine gL (show gO _ [.list none (((l.take i).foldl iG []).map .str),.agg x.cs] from⟨aH9 (λe=>by subst e;rfl),by simp only[Tm.cs];exact cN _,trivial⟩) (aGi _ x _ _ _ _ (dZ _) (hW x (gN _ xm)) (aDt (l.take i) .nil) aB ?_);rw[<-aGH y]
   (try simp only[go_sem,T])
   exact⟨i+1,u,by omega,⟨rfl,aR i aB⟩,aZ T (aC _)⟩
  .have ie:=bI Z h;clear h;subst ie;simp only[bK]
   (try simp only[go_sem])
   have hA:l.foldl iG []=iQ l:=rfl;have G:=aCa l [];simp only[bQ]at G;rw[hA]at G⊢;have b1:l.length=0->iQ l=[]:=λe=>by rw[eK e];rfl
   clear hA;refine Ex.loop (ι:=Nat) (λi=>[(6,nl l.length ((iQ l).map .str)),(7,nl i (((b.take i).foldl iG []).map .str)),(24,.list none (b.map Tm.enc)),(25,.int .i64 (b.length:Nat)),(26,.int .i64 (i:Nat))]) (λ_=>s) (λi=>i<=b.length) (λi=>b.length-i) 0 (aN _) ?_ (aC _) ?_
   .simp only[go_sem]
    try exact⟨rfl,rfl⟩
   .intro i Z;refine aQ (V:=aC8) _ _ _ _ ?_;simp only[go_sem]
    (apply aI<;>intro h)<;>simp only[go_sem,h]
    .have u:i<b.length:=gQ h;clear h;obtain⟨x,y⟩:=aU u;have xm:=bA y
     (try simp only[go_sem,y,u])
     (refine aL λr T=>?_)
     (try simp only[go_sem,y,u,T])
     have b4:=uZ y;have H:=aCa (b.take i) [];simp only[bQ]at H;refine gL (show gO _ [.list none (((b.take i).foldl iG []).map .str),.agg x.cs] from⟨aH9 (λe=>by subst e;rfl),by simp only[Tm.cs];exact cN _,trivial⟩) (aGi _ x _ _ _ _ (dZ _) (hW x (lL _ xm)) (aDt (b.take i) .nil) aB ?_);rw[<-aGH y]
     (try simp only[go_sem,T])
     exact⟨i+1,u,by omega,⟨rfl,aR i aB⟩,aZ T (aC _)⟩
    .have ie:=bI Z h;clear h;subst ie;simp only[bK]
     (try simp only[go_sem])
     have hB:b.foldl iG []=iQ b:=rfl;rw[hB];have b2:b.length=0->iQ b=[]:=λe=>by rw[eK e];rfl
     unfold oG at z;generalize iQ b=B at z b2⊢;generalize iQ l=L at z b1 G⊢;clear hB;by_cases b0:l.length=0
     .have b3:=b1 b0;subst b3;rw[b0]
      (try simp only[go_sem,nl])
      refine Ex.loop (ι:=Unit) (λ_=>[(35,.int .i64 0),(36,.int .i64 0)]) (λ_=>s) (λ_=>True) (λ_=>0) () trivial ?_ (aC _) ?_
      .simp only[go_sem]
       try exact⟨rfl,rfl⟩
      .rintro⟨⟩ _;refine aQ (V:=aC8) _ _ _ _ ?_;have d0:decide ((0:Int)<0)=false:=rfl;simp only[go_sem,d0];exact aS z
     .obtain⟨m,hm⟩:∃m,l.length=m+1:=⟨l.length-1,by omega⟩
      rw[hm];have e6:nl (m+1) (L.map .str)=.list none (L.map .str):=rfl;rw[e6]
      (try simp only[go_sem])
      refine Ex.loop (ι:=Nat) (λi=>[(7,nl b.length (B.map .str)),(34,.list none (L.map .str)),(35,.int .i64 (L.length:Nat)),(36,.int .i64 (i:Nat))]) (λ_=>s) (λi=>i<=L.length/\L.find? (sJ B)=(L.drop i).find? (sJ B)) (λi=>L.length-i) 0 ⟨aN _,rfl⟩ ?_ (aC _) ?_
      .simp only[go_sem]
       try exact rfl
       try exact⟨rfl,rfl⟩
      .rintro i ⟨Z,hI⟩;refine aQ (V:=aC8) _ _ _ _ ?_;simp only[go_sem]
       (apply aI<;>intro h)<;>simp only[go_sem,h]
       .have u:i<L.length:=gQ h;clear h;obtain⟨a,Y⟩:=aU u;have am:=bA Y
        (try simp only[go_sem,Y,u])
        rw[gM Y,List.find?_cons]at hI;have O:sJ B a=(decide (a=[95])||(decide (a=[36])||!decide (a∈B))):=rfl;have bad:sJ B a=true->KV s (.tuple [.str a,.bool true]):=λh=>by rw[h]at hI;rw[hI]at z;exact z
        have U:sJ B a=false->L.find? (sJ B)=(L.drop (i+1)).find? (sJ B):=λh=>by rw[h]at hI;exact hI
        cases c1:decide (a=[95])<;>rw[c1]at O<;>(try simp only[go_sem,c1,Y,u])
        rotate_left
        .exact aS (bad O)
        cases c2:decide (a=[36])<;>rw[c2]at O<;>(try simp only[go_sem,c2,Y,u])
        rotate_left
        .exact aS (bad O)
        refine gL (show gO _ [.list none (B.map .str),.str a] from⟨aH9 (λe=>by rw[b2 e];rfl),cN _,trivial⟩) (lZ B a ?_);cases c3:decide (a∈B)<;>rw[c3]at O<;>(try simp only[go_sem])
        .exact aS (bad O)
        .exact⟨i+1,⟨u,U O⟩,by omega,aR i aB,aC _⟩
       .have ie:=bI Z h;clear h;subst ie;rw[dB (bF _)]at hI;rw[hI]at z;exact aS z
end
end
section
def bU(d:Dfn)(o:Option Fault):Ob:=.cells 74 (d.cs++(o.getD Fault.none).cs)
theorem aVk{o:Option Fault}(h:NZ o):decide ((o.getD Fault.none).code=0)=o.isNone:=by
 cases o with
 | none=>rfl
 | some f=>exact bN (h f rfl)
def sG(d:Dfn)(n:aA):Cel:=match d.once.find? λx=>decide (x.name=n)with
 | some x=>x
 | none=>match d.many.find? λx=>decide (x.name=n)with
  | some x=>x
  | none=>⟨[],[],⟨0,0,[],[],[],[]⟩,0,0⟩
def aBg(d:Dfn)(n:aA):Nat:=match d.once.findIdx? λx=>decide (x.name=n)with
 | some i=>i
 | none=>match d.many.findIdx? λx=>decide (x.name=n)with
  | some i=>i
  | none=>0
theorem aKk(d:Dfn)(n:aA):(sG d n).sort=(cP d n).1:=by
 unfold sG cP;cases d.once.find? λx=>decide (x.name=n)with
 | some x=>rfl
 | none=>cases d.many.find? λx=>decide (x.name=n)<;>rfl
theorem aEb{l:List Cel}{n:aA}{i:Nat}{x:Cel}(B:l[i]?=some x)(H:x.name=n)(h:∀y,y∈l.take i->y.name≠n) :
  (l.find? λx=>decide (x.name=n))=some x/\(l.findIdx? λx=>decide (x.name=n))=some i:=by
 have G:=(cX.1 B).1
 have z:∀j (u:j<i),(decide (l[j].name=n))=false:=λj u=>by
  have:=h l[j] (bA (by rw[List.getElem?_take_of_lt u,cO aB]));simpa using this
 constructor
 .rw[List.find?_eq_some_iff_getElem];refine⟨cF H,i,G,by rw[cO G]at B;exact sW B,λj u=>?_⟩;have:=z j u;simpa using this
 .rw[List.findIdx?_eq_some_iff_getElem];refine⟨G,?_,λj u=>?_⟩
  .rw[cO G]at B;rw[sW B];exact cF H
  .have:=z j u;simpa using this
theorem aEc{l:List Cel}{n:aA}(h:∀y,y∈l->y.name≠n):(l.find? λx=>decide (x.name=n))=none/\(l.findIdx? λx=>decide (x.name=n))=none:=by
 constructor
 .rw[uJ];exactλy u=>by simpa using h y u
 .rw[List.findIdx?_eq_none_iff];exactλy u=>by simpa using h y u
section
variable {s:St} {KV Kp:St->A->Prop} {c:Nat} {d:Dfn} {o:Option Fault}
theorem uU(h:s.getO c=some (bU d o))(hz:NZ o)(u:KV s (.bool o.isNone)):Den cx 32 [.ptr c 0] KV Kp s:=by
 rw[<-aVk hz]at u;simp only[go_sem,bU]at h;(refine aO func32 [0,2] ?_;simp only[go_sem,ntmps32,f32]);simp only[go_sem,h];exact aS u
theorem eA(g:Fault)(u:s.getO c=some (bU d o))(hz:NZ o)(y:KV (s.setO c (bU d (aH o (some g)))) (.tuple [])):Den cx 91 [.ptr c 0,.int .i64 g.code,.str g.name,.int .i64 g.line,.int .i64 g.col] KV Kp s:=by
 have h:=u;(refine aO func91 [0,1,2,3,4,11] ?_;simp only[go_sem,ntmps91,f91]);refine uU h hz ?_;cases o with
 | some f =>
  (try simp only[go_sem,qG])
  exact aD y (ge_same h)
 | none =>
  simp only[bU,Dfn.cs,Sig.cs,Fault.cs,bL,bE,aH,oX,uK,Fault.none]at u y
  (try simp only[go_sem,yJ,u])
  exact aS y
theorem yL(t:Tm)(S:aA)(h:s.getO c=some (bU d o))(G:d.sig.below.length<=4294967000)(z:KV s (.bool (eH d.sig t S))):Den cx 98 [.ptr c 0,.agg t.cs,.str S] KV Kp s:=by
 unfold eH at z;simp only[go_sem,bU]at h;(refine aO func98 [0,1,2,4,6,7,8] ?_;simp only[go_sem,ntmps98,f98]);(refine bP λp u=>?_);have y:=aM h (aJ u)
 (try simp only[go_sem,h,y,u])
 (refine bX (OT.r 0 12) [] ?_;simp only[go_sem,h,y,u]);refine cJ (aGT d.sig t ?_);cases B:(gP d.sig t).2<;>rw[B]at z<;>(try simp only[go_sem,h,y,u])
 .exact aD z aK
 refine cJ (aJr d.sig (gP d.sig t).1 S G ?_)
 (try simp only[go_sem,h,y,u])
 exact aD z aK
theorem aJj(x:aA)(h:s.getO c=some (bU d o))(u:KV s (.bool (cD d.sig x))):Den cx 99 [.ptr c 0,.str x] KV Kp s:=by
 have e:cD d.sig x=(decide (x∈kU)||decide (x∈d.sig.sorts)):=by
  unfold cD nH;rw[fG];simp
 rw[e]at u;simp only[go_sem,bU]at h;(refine aO func99 [0,1,4] ?_;simp only[go_sem,ntmps99,f99]);refine aDp ?_;unfold strs
 (try simp only[go_sem,h])
 refine lZ wP x ?_;rw[aDz];cases y:decide (x∈kU)<;>rw[y]at u<;>(try simp only[go_sem,h])
 .refine lZ d.sig.sorts x ?_
  (try simp only[go_sem,h])
  exact aS u
 .exact aS u
theorem aQb(sg:Sig)(t:Tm)(U:TmW t)(Y:KV s (.bool (!t.kids.any (iR sg)))):Den cx 93 [.agg sg.cs,.agg t.cs] KV Kp s:=by
 have b1:=U.lk;(refine aO func93 [0,1,2,3,4,6,8,9,10,11,16] ?_;simp only[go_sem,ntmps93,f93]);(refine aL λp hp=>?_)
 (try simp only[go_sem])
 obtain⟨S0,H,b0,z⟩:=gZ s p (.cells 26 sg.cs) (hp)
 try simp only[go_sem]at z H
 rw[z];clear z
 (try simp only[go_sem,H])
 (refine bP λq hq=>?_);have f1:=aM H (aJ hq)
 (try simp only[go_sem,H,f1])
 obtain⟨S,y,G,B⟩:=gZ S0 q (.cells 67 t.cs) (aJ hq)
 try simp only[go_sem]at B y
 rw[B];clear B;have g1:=G.ob _ _ H;have O:=G.trans b0;clear hp hq f1
 (try simp only[go_sem,g1,y])
 refine Ex.loop (ι:=Nat) (λi=>[(2,.ptr p 0),(3,.ptr q 0),(8,.list none ((t.kids).map Tm.enc)),(9,.int .i64 ((t.kids).length:Nat)),(10,.int .i64 (i:Nat))]) (λ_=>S) (λi=>i<=(t.kids).length/\(t.kids.take i).any (iR sg)=false) (λi=>(t.kids).length-i) 0 ⟨aN _,rfl⟩ ?_ (aC _) ?_
 .simp only[go_sem,g1,y]
  try exact rfl
  try exact⟨rfl,rfl⟩
 .rintro i ⟨hi,Hi⟩;refine aQ (V:=[0,1,2,3,4,6,8,9,10,11,16]) _ _ _ _ ?_;simp only[go_sem,g1,y]
  (apply aI<;>intro h)<;>simp only[go_sem,h,g1,y]
  .have ix:i<t.kids.length:=gQ h;clear h;obtain⟨x,Z⟩:=aU ix;have xm:=bA Z
   (try simp only[go_sem,Z,ix,g1,y])
   (refine bP λr T=>?_);have f2:=aM y (aJ T);have f3:=aM g1 (aJ T)
   (try simp only[go_sem,g1,y,Z,ix,T,f2,f3])
   have u:(S.setO r (.cells 67 x.cs)).ge S:=aZ (aJ T) (aC _);simp only[Tm.cs]at u;refine cJ (aIY sg _ x _ _ _ (dZ _) (U.kids x xm) ?_);cases c2:iR sg x<;>(try simp only[go_sem,g1,y,T,f2,f3])
   .exact⟨i+1,⟨ix,by rw[dC Z,oY,Hi,oZ,c2];rfl⟩,by omega,aR i aB,u⟩
   .rw[iW.2 ⟨x,xm,c2⟩]at Y;exact aD Y (u.trans O)
  .have ie:=bI hi h;clear h;subst ie;rw[bK]at Hi;rw[Hi]at Y;exact aD Y O
theorem aT2:A.le (.agg [.str [],.str [],.int .i64 0,.int .i64 0,.str [],.str [],.nils,.nils,.int .i64 0,.int .i64 0]) (Cel.enc ⟨[],[],⟨0,0,[],[],[],[]⟩,0,0⟩) :=
 A.le.agg ⟨⟨cN _,rfl⟩,⟨cN _,rfl⟩,⟨cN _,rfl⟩,⟨cN _,rfl⟩,⟨cN _,rfl⟩,⟨cN _,rfl⟩,⟨A.le.nil,rfl⟩,⟨A.le.nil,rfl⟩,⟨cN _,rfl⟩,⟨cN _,rfl⟩,trivial⟩
theorem aB0(n:aA)(ho:d.once.length<=4294967000)(hm:d.many.length<=4294967000)(G:KV s (.tuple [(sG d n).enc,.bool (cP d n).2.1,.int .i64 (aBg d n:Nat),.bool (cP d n).2.2])):Den cx 48 [.agg d.cs,.str n] KV Kp s:=by
 (refine aO func48 aIG ?_;simp only[go_sem,ntmps48,f48]);(refine aL λp hp=>?_)
 (try simp only[go_sem])
 obtain⟨S0,gp,b0,Z⟩:=gZ s p (.cells 31 d.cs) (hp)
 try simp only[go_sem]at Z gp
 rw[Z];clear Z
 (try simp only[go_sem,gp])
 (refine bP λq hq=>?_);have f1:=aM gp (aJ hq)
 (try simp only[go_sem,gp,f1])
 have Y:(S0.setO q (.cells 96 [.str [],.str [],.int .i64 0,.int .i64 0,.str [],.str [],.nils,.nils,.int .i64 0,.int .i64 0])).ge S0:=aZ (aJ hq) (aC _);have u:(S0.setO q (.cells 96 [.str [],.str [],.int .i64 0,.int .i64 0,.str [],.str [],.nils,.nils,.int .i64 0,.int .i64 0])).getO q=some (.cells 96 [.str [],.str [],.int .i64 0,.int .i64 0,.str [],.str [],.nils,.nils,.int .i64 0,.int .i64 0]):=by rw[aX,aF rfl]
 have b1:S0.getO q=none:=by first|exact hq|exact hq.2
 have z:∀(S3:St) (o:Ob),S3.ge (S0.setO q (.cells 96 [.str [],.str [],.int .i64 0,.int .i64 0,.str [],.str [],.nils,.nils,.int .i64 0,.int .i64 0]))->(S3.setO q o).ge s:=λS3 o h =>
  (wK h).trans ((aEP _ _ _ _).trans ((aZ b1 (aC _)).trans b0))
 generalize S0.setO q (.cells 96 [.str [],.str [],.int .i64 0,.int .i64 0,.str [],.str [],.nils,.nils,.int .i64 0,.int .i64 0])=S at Y u z⊢;have g1:=Y.ob _ _ gp;have b2:=Y.trans b0;clear hp hq f1
 (try simp only[go_sem,g1,u])
 refine Ex.loop (ι:=Nat) (λi=>[(1,.str n),(2,.ptr p 0),(4,.ptr q 0),(13,.list none ((d.once).map Cel.enc)),(14,.int .i64 ((d.once).length:Nat)),(15,.int .i64 (i:Nat))]) (λ_=>S) (λi=>i<=(d.once).length/\(∀y,y∈d.once.take i->y.name≠n)) (λi=>(d.once).length-i) 0 ⟨aN _,λy h=>(by cases h)⟩ ?_ (aC _) ?_
 .simp only[go_sem,g1,u]
  try exact rfl
  try exact⟨rfl,rfl⟩
 .rintro i ⟨hi,O⟩;refine aQ (V:=aIG) _ _ _ _ ?_;simp only[go_sem,g1,u]
  (apply aI<;>intro h)<;>simp only[go_sem,h,g1,u]
  .have U:i<d.once.length:=gQ h;clear h;obtain⟨x,H⟩:=aU U;have xm:=bA H
   (try simp only[go_sem,H,U,g1,u])
   (refine bP λr B=>?_);have f2:=aM u (aJ B);have f3:=aM g1 (aJ B)
   (try simp only[go_sem,g1,u,H,U,B,f2,f3])
   (apply aI<;>intro h)<;>simp only[go_sem,h,g1,u,B,f2,f3]
   .have he:x.name=n:=gQ h;obtain⟨h1,h2⟩:=aEb H he O;unfold sG cP aBg at G;rw[h1,h2]at G;simp only[Cel.enc,Cel.cs,Tm.cs,bL,bE]at G;exact aD G (z _ _ (aZ (aJ B) (aC _)))
   .have he:¬ x.name=n:=gQ h;refine⟨i+1,⟨U,λy T=>?_⟩,by omega,aR i aB,aZ (aJ B) (aC _)⟩;rw[dC H,bT,bS]at T;rcases T with T|rfl
    .exact O y T
    .exact he
  .have ie:=bI hi h;clear h;subst ie;rw[bK]at O;obtain⟨n1,n2⟩:=aEc O
   (try simp only[go_sem,g1,u])
   refine Ex.loop (ι:=Nat) (λi=>[(1,.str n),(4,.ptr q 0),(28,.list none ((d.many).map Cel.enc)),(29,.int .i64 ((d.many).length:Nat)),(30,.int .i64 (i:Nat))]) (λ_=>S) (λi=>i<=(d.many).length/\(∀y,y∈d.many.take i->y.name≠n)) (λi=>(d.many).length-i) 0 ⟨aN _,λy h=>(by cases h)⟩ ?_ (aC _) ?_
   .simp only[go_sem,g1,u]
    try exact rfl
    try exact⟨rfl,rfl⟩
   .rintro i ⟨hi,O⟩;refine aQ (V:=aIG) _ _ _ _ ?_;simp only[go_sem,g1,u]
    (apply aI<;>intro h)<;>simp only[go_sem,h,g1,u]
    .have U:i<d.many.length:=gQ h;clear h;obtain⟨x,H⟩:=aU U;have xm:=bA H
     (try simp only[go_sem,H,U,g1,u])
     (refine bP λr B=>?_);have f2:=aM u (aJ B)
     (try simp only[go_sem,g1,u,H,U,B,f2])
     (apply aI<;>intro h)<;>simp only[go_sem,h,g1,u,B,f2]
     .have he:x.name=n:=gQ h;obtain⟨h1,h2⟩:=aEb H he O;unfold sG cP aBg at G;rw[n1,n2,h1,h2]at G;simp only[Cel.enc,Cel.cs,Tm.cs,bL,bE]at G;exact aD G (z _ _ (aZ (aJ B) (aC _)))
     .have he:¬ x.name=n:=gQ h;refine⟨i+1,⟨U,λy T=>?_⟩,by omega,aR i aB,aZ (aJ B) (aC _)⟩;rw[dC H,bT,bS]at T;rcases T with T|rfl
      .exact O y T
      .exact he
    .have ie:=bI hi h;clear h;subst ie;rw[bK]at O;obtain⟨m1,m2⟩:=aEc O;unfold sG cP aBg at G;rw[n1,n2,m1,m2]at G
     (try simp only[go_sem,u])
     exact DK.mk G (z _ _ (aC _)) (A.le.tuple ⟨aT2,cN _,cN _,cN _,trivial⟩)
end
end
section
def hdC(k:Nat)(c:Code):Code:=match k with
 | 0=>.skip
 | k+1=>match c with
  | .seq c d=>.seq c (hdC k d)
  | _=>.skip
def tlC(k:Nat)(c:Code):Code:=match k with
 | 0=>c
 | k+1=>match c with
  | .seq _ d=>tlC k d
  | c=>c
@[go_sem] theorem aYI(c:Code):hdC 0 c=.skip:=rfl
@[go_sem] theorem aZa(k:Nat)(c d:Code):hdC (k+1) (.seq c d)=.seq c (hdC k d):=rfl
@[go_sem] theorem eS(c:Code):tlC 0 c=c:=rfl
@[go_sem] theorem eV(k:Nat)(c d:Code):tlC (k+1) (.seq c d)=tlC k d:=rfl
section
variable {C:Cx} {n:Nat} {V:List Nat} {Q:XK->Env->St->Prop}
theorem aNg{M:Env->St->Prop}:∀(k:Nat) (c:Code) (e:Env) (s:St),(∀e s,M e s->Ex C n (tlC k c) Q e s)->eX C n V (hdC k c) (kL M Q) e s->Ex C n c Q e s
 | 0,c,e,s,u,h=>u e s h
 | k+1,c,e,s,u,h=>by
  cases c
  case seq c d =>
   have z:eX C n V c (kL (eX C n V (hdC k d) (kL M Q)) (kL M Q)) e s:=h;refine Ex.seq (Ex.mono (aQ _ _ _ _ z) λx e s y=>?_);cases x
   case normal=>exact aNg k d e s u y
   all_goals exact y
  all_goals exact u e s h
theorem Ex.cut(k:Nat){ι:Type}(E:ι->Env)(S:ι->St)(I:ι->Prop){c:Code}{e:Env}{s:St}
  (h:eX C n V (hdC k c) (kL (λe' s'=>∃j,I j/\e'.has (E j)/\s'.ge (S j)) Q) e s)
  (u:∀j,I j->Ex C n (tlC k c) Q (E j) (S j))(y:C.det=false:=by rfl):Ex C n c Q e s :=
 aNg (V:=V) k c e s (λ_ _ ⟨j,B,z,G⟩=>Ex.weaken (aDo z) G (u j B) y) h
end
theorem gBx{f:FuncId}{c:Code}{args:List A}{KV Kp:St->A->Prop}{s:St}{fn:Func}(z:jS.P.funcs[f]?=some fn)
  (h:Ex jS fn.ntmps c (kK jS fn.results.toList (DK KV) (DK Kp)) (kW 0 args) s)
  (y:fn.body=some c:=by exact rfl)
  (u : (fn.name == "runtime.NumGoroutine") = false := by exact rfl) (B : args.length ≤ fn.ntmps := by exact eQ rfl) : Den cx f args KV Kp s :=
 Den.drop (aMp (aAq (C:=jS) z y u B h))
end
theorem aEl{s:St}{e:TypeId}{u:TI}{ys:List A}{KV:St->A->Prop}{tk:Option Nat}{es:List A}(h:oL cx s e u ys KV (ev tk es)):oL jS s e u ys KV (ev tk es):=by
 cases tk with
 | none =>
  cases ys with
  | nil=>exact h
  | cons y r=>exact h
 | some t=>exact h
theorem aMu{tk:Option Nat}{es:List A}{y:A}(h:tk=none->es++[y]=[]):∃t,tk=some t:=by
 cases tk with
 | none=>exact cG (h rfl) aV
 | some t=>exact⟨t,rfl⟩
section
theorem tL{S:St}{c p:Nat}{X v:Ob}(h:S.getO p=some v)(u:c≠p):(S.setO c X).getO p=some v:=by rw[aX,aE u];exact h
def OV(c:Nat)(s S:St):Prop:=∀X,(S.setO c X).ge (s.setO c X)
section
variable {s S S':St} {KV Kp:St->A->Prop} {c:Nat} {d:Dfn} {o:Option Fault}
theorem OV.of(h:S.ge s):OV c s S:=λX=>wK h
theorem OV.ge(h:OV c s S)(u:S'.ge S):OV c s S':=λX=>(wK u).trans (h X)
theorem OV.set(h:OV c s S)(Y:Ob):OV c s (S.setO c Y):=λX=>(aEP _ _ _ _).trans (h X)
theorem OV.fin(h:OV c s S){X:Ob}(u:S.getO c=some X):S.ge (s.setO c X):=(ge_same u).trans (h X)
theorem NZ.snoc{o:Option Fault}(h:NZ o){g:Fault}(u:g.code≠0):NZ (aH o (some g)):=cY h (lQ u)
theorem aMf(l:List Tm){tk:Option Nat}{es:List A}(u:es=l.map Tm.enc)(hW:∀t,t∈l->TmW t)(h:(aP l).length<=4294967000)(y:KV s (.tuple [.str (oQ l).1,.bool (oQ l).2])):Den cx 96 [.list tk es] KV Kp s:=by
 subst u;exact gL (show gO [.list tk (l.map Tm.enc)] [.list none (l.map Tm.enc)] from⟨A.le.forget _ _,trivial⟩) (aTd l hW h y)
theorem aKW(l b:List Tm){tk tl:Option Nat}{es h:List A}(y:es=l.map Tm.enc)(hl:h=b.map Tm.enc)(hW:∀t,t∈l++b->TmW t)(u:(aP l).length+(aP b).length<=4294967000)(z:KV s (.tuple [.str (oG l b).1,.bool (oG l b).2])):Den cx 97 [.list tk es,.list tl h] KV Kp s:=by
 subst y;subst hl;exact gL (show gO [.list tk (l.map Tm.enc),.list tl (b.map Tm.enc)] [.list none (l.map Tm.enc),.list none (b.map Tm.enc)] from⟨A.le.forget _ _,A.le.forget _ _,trivial⟩) (aRG l b hW u z)
structure M33 (c:Nat) (d:Dfn) (o:Option Fault) (x:Eqn) (s S:St) (p r:Nat) (f:Opr):Prop where
 gck:S.getO c=some (bU d o)
 gp:S.getO p=some (.cells 69 x.cs)
 gr:S.getO r=some (.cells 80 f.cs)
 npc:c≠p
 nrc:c≠r
 ov:OV c s S
structure M33a (c:Nat) (d:Dfn) (o:Option Fault) (x:Eqn) (s:St) (j:St × Nat × Nat × Nat × Opr × Bool):Prop where
 m:M33 c d o x s j.1 j.2.1 j.2.2.2.1 j.2.2.2.2.1
 hN:fQ d.sig.funs x.left.text=some j.2.2.2.2.1
 h5:x.left.kind=5
 hb:j.2.2.2.2.2=(!x.left.kids.any (iR d.sig)&&(dM d.sig x.left&&dM d.sig x.right))
 gq:j.1.getO j.2.2.1=some (.cells 26 d.sig.cs)
theorem M33.fail{c p r:Nat}{d:Dfn}{o u:Option Fault}{x:Eqn}{s S:St}{f:Opr}(h:M33 c d o x s S p r f):M33 c d u x s (S.setO c (bU d u)) p r f :=
 ⟨by rw[aX,aF rfl],tL h.gp h.npc,tL h.gr h.nrc,h.npc,h.nrc,h.ov.set _⟩
theorem M33.to{c p r:Nat}{d:Dfn}{o:Option Fault}{x:Eqn}{s S S':St}{f:Opr}(h:M33 c d o x s S p r f)(g:S'.ge S):M33 c d o x s S' p r f :=
 ⟨g.ob _ _ h.gck,g.ob _ _ h.gp,g.ob _ _ h.gr,h.npc,h.nrc,h.ov.ge g⟩
theorem aMK(x:Eqn)(t:Tm):t∈x.left::(x.cond++[x.right])↔t∈dH x:=by
 simp only[dH,cR,bT,gX,dW];exact or_congr_right Or.comm
theorem aL2(x:Eqn):(aP (x.left::(x.cond++[x.right]))).length=(aP (dH x)).length:=by
 simp only[dH,aP,dP,aG,cK];omega
theorem jG(o:Option Fault):aH o none=o:=by cases o<;>rfl
theorem aMM{o:Option Fault}(h:NZ o){k:Int}(q:aA × Bool)(l m:Int)(u:k≠0):NZ (aH o (iJ k q l m)):=by
 unfold iJ;split
 .exact h.snoc u
 .rw[jG];exact h
theorem aPh(x:Eqn)(hc:s.getO c=some (bU d o))(hz:NZ o)(hw:d.sig.below.length<=4294967000)(hW:∀t,t∈dH x->TmW t)(hP:(aP (dH x)).length<=4294967000)
  (T:KV (s.setO c (bU d (aH o (rO d.sig x)))) (.tuple [])):Den cx 33 [.ptr c 0,.agg x.cs] KV Kp s:=by
 have bj:=hc;have bk:=hW x.left (bY ..);have c0:=hW x.right (cZ _ (bY ..));have c7:=wO (l:=dH x) (x:=x.left) (bY ..);have c6:x.cond.length+2<=(aP (dH x)).length:=iP (dH x);have c5:=aLL x.left;unfold rO at T;simp only[go_sem,bU]at hc;(refine gBx func33 ?_;simp only[go_sem,ntmps33,f33]);refine Ex.cut (V:=xX) 5 (ι:=St × Nat × Nat × Nat × Opr × Bool) (λj=>[(0,.ptr c 0),(3,.ptr j.2.1 0),(4,.ptr j.2.2.1 0),(5,.ptr j.2.2.2.1 0),(8,.bool j.2.2.2.2.2)]) (λj=>j.1) (M33a c d o x s) ?_ ?_
 ·(try simp only[go_sem])
  (refine bP λp hp=>?_);have f1:=aM hc (aJ hp)
  (try simp only[go_sem,hc,f1,hp])
  obtain⟨S0,z,bd,bf⟩:=gZ s p (.cells 69 x.cs) (aJ hp)
  try simp only[go_sem]at bf z
  rw[bf];clear bf;have B:=bd.ob _ _ hc;have b8:c≠p:=f1.1;clear hp f1
  (try simp only[go_sem,B,z])
  (refine bP λq hq=>?_);have f1:=aM B (aJ hq);have f2:=aM z (aJ hq)
  (try simp only[go_sem,B,z,hq,f1,f2])
  obtain⟨S1,H,b7,bg⟩:=gZ S0 q (.cells 26 d.sig.cs) (aJ hq)
  try simp only[go_sem]at bg H
  rw[bg];clear bg;have z:=b7.ob _ _ z;have B:=b7.ob _ _ B;have b6:=b7.trans bd;have c8:c≠q:=f1.1;clear hq f1 f2 bd b7
  (try simp only[go_sem,B,z,H])
  refine cU (aAu d.sig.funs x.left.text ?_);by_cases h5:x.left.kind=5;rotate_left
  .rw[aE h5]at T;have d5:decide (x.left.kind=5)=false:=bN h5;generalize (fQ d.sig.funs x.left.text).getD kX=w;generalize (fQ d.sig.funs x.left.text).isSome=b
   (try simp only[go_sem,B,z,H])
   (refine bP λr Z=>?_);have f1:=aM B (aJ Z);have f2:=aM z (aJ Z);have f3:=aM H (aJ Z)
   (try simp only[go_sem,B,z,H,Z,f1,f2,f3])
   obtain⟨S,gr,Y,b3⟩:=gZ S1 r (.cells 80 w.cs) (aJ Z)
   try simp only[go_sem]at b3 gr
   rw[b3];clear b3;have z:=Y.ob _ _ z;have B:=Y.ob _ _ B;have ge:=Y.trans b6;have b2:S.getO c=some (bU d o):=ge.ob _ _ bj;clear Z f1 f2 f3 H gr
   (try simp only[go_sem,B,z,d5])
   cases d6:decide (x.left.kind=6)<;>(try simp only[go_sem,B,z,d5,d6])
   .have en:lE x=[]:=aE (λh=>h.elim h5 (of_decide_eq_false d6));rw[en]at T;refine cU (eA ⟨15,[],x.line,x.col⟩ b2 hz ?_)
    (try simp only[go_sem])
    exact aD T (OV.of ge _)
   .have en:lE x=x.left.text:=aF (.inr (eN d6));rw[en]at T;refine cU (eA ⟨15,x.left.text,x.line,x.col⟩ b2 hz ?_)
    (try simp only[go_sem])
    exact aD T (OV.of ge _)
  have d5:decide (x.left.kind=5)=true:=cF h5;rw[aF h5]at T;have en:lE x=x.left.text:=aF (.inl h5);rw[en]at T;cases hN:fQ d.sig.funs x.left.text with
  | none =>
   rw[hN]at T
   (try simp only[go_sem,B,z,H,uK,lB,kX])
   (refine bP λr Z=>?_);have f1:=aM B (aJ Z);have f2:=aM z (aJ Z)
   (try simp only[go_sem,B,z,H,Z,f1,f2,d5])
   have ge:=(aZ (o:=.cells 80 [.str [],.list none [],.str [],.list none [],.int .i64 0,.int .i64 0,.list none []]) (aJ Z) (aC S1)).trans b6;refine cU (eA ⟨15,x.left.text,x.line,x.col⟩ (ge.ob _ _ bj) hz ?_)
   (try simp only[go_sem])
   exact aD T (OV.of ge _)
  | some f =>
   rw[hN]at T;simp only at T
   (try simp only[go_sem,B,z,H,oX,Option.isSome_some])
   (refine bP λr Z=>?_);have f1:=aM B (aJ Z);have f2:=aM z (aJ Z);have f3:=aM H (aJ Z)
   (try simp only[go_sem,B,z,H,Z,f1,f2,f3])
   obtain⟨S,gr,Y,b3⟩:=gZ S1 r (.cells 80 f.cs) (aJ Z)
   try simp only[go_sem]at b3 gr
   rw[b3];clear b3;have z:=Y.ob _ _ z;have H:=Y.ob _ _ H;have B:=Y.ob _ _ B;have ge:=Y.trans b6;have b2:S.getO c=some (bU d o):=ge.ob _ _ bj;have b9:c≠r:=f1.1;clear Z f1 f2 f3 Y b6
   (try simp only[go_sem,B,z,H,gr,d5])
   refine cU (cJ (aQb d.sig x.left bk ?_));cases c1:(!x.left.kids.any (iR d.sig))<;>(try simp only[go_sem,B,z,H,gr])
   rotate_left
   focus
    refine cU (cJ (wL d.sig hw x.left bk ?_));cases c2:dM d.sig x.left<;>(try simp only[go_sem,B,z,H,gr])
    rotate_left
    focus
     refine cU (cJ (wL d.sig hw x.right c0 ?_));cases c3:dM d.sig x.right<;>(try simp only[go_sem,B,z,H,gr])
     .exact⟨(S,p,q,r,f,false),⟨⟨b2,z,gr,b8,b9,OV.of ge⟩,hN,h5,by simp only[c1,c2,c3];rfl,H⟩,⟨rfl,rfl,rfl,rfl⟩,aC _⟩
     .exact⟨(S,p,q,r,f,true),⟨⟨b2,z,gr,b8,b9,OV.of ge⟩,hN,h5,by simp only[c1,c2,c3];rfl,H⟩,⟨rfl,rfl,rfl,rfl⟩,aC _⟩
    .exact⟨(S,p,q,r,f,false),⟨⟨b2,z,gr,b8,b9,OV.of ge⟩,hN,h5,by simp only[c1,c2];rfl,H⟩,⟨rfl,rfl,rfl,rfl⟩,aC _⟩
   .exact⟨(S,p,q,r,f,false),⟨⟨b2,z,gr,b8,b9,OV.of ge⟩,hN,h5,by simp only[c1];rfl,H⟩,⟨rfl,rfl,rfl,rfl⟩,aC _⟩
 rintro⟨S,p,q,r,f,b0⟩ ⟨m,hN,h5,b5,H⟩;simp only at m hN b5 H;simp only[eV,eS];rw[aF h5,hN]at T;simp only at T
 have bc:vB d.sig x=((b0&&x.cond.all (dM d.sig))&&x.left.kids.all (nJ d.sig)):=by
  rw[b5];unfold vB;simp only[Bool.and_assoc]
 clear b5;refine Ex.cut (V:=xX) 3 (ι:=Unit) (λ_=>[(0,.ptr c 0),(3,.ptr p 0),(5,.ptr r 0),(8,.bool true)]) (λ_=>S) (λ_=>vB d.sig x=true) ?_ ?_
 .have B:=m.gck;have z:=m.gp;have gr:=m.gr;simp only[go_sem,bU]at B;simp only[go_sem]at z gr H
  (try simp only[go_sem,B,z,H,gr])
  have b5:b0=b0:=rfl;refine Ex.loop (ι:=Nat) (λi=>[(0,.ptr c 0),(3,.ptr p 0),(4,.ptr q 0),(5,.ptr r 0),(8,.bool (b0&&(x.cond.take i).all (dM d.sig))),(79,.list none (x.cond.map Tm.enc)),(80,.int .i64 (x.cond.length:Nat)),(81,.int .i64 (i:Nat))]) (λ_=>S) (λi=>i<=x.cond.length) (λi=>x.cond.length-i) 0 (aN _) ?_ (by first|exact aC _|assumption) ?_
  .simp only[go_sem,B,z,H,gr]
   try simp only[iD,nF,dT,b5,rY]
   try exact rfl
   try exact⟨rfl,rfl⟩
   try exact⟨trivial,rfl⟩
  .intro i hi;refine aQ (V:=xX) _ _ _ _ ?_;simp only[go_sem,B,z,H,gr]
   (apply aI<;>intro h)<;>simp only[go_sem,h,B,z,H,gr]
   .have ix:i<x.cond.length:=gQ h;clear h;obtain⟨y,U⟩:=aU ix;have ym:=bA U
    (try simp only[go_sem,U,ix,B,z,H,gr])
    (refine bP λz1 G=>?_);have e1:=aM B (aJ G);have ez:=aM H (aJ G)
    (try simp only[go_sem,B,z,H,gr,U,ix,G,e1,ez])
    have O:(S.setO z1 (.cells 67 y.cs)).ge S:=aZ (aJ G) (aC _);simp only[Tm.cs]at O;have et:(x.cond.take (i+1)).all (dM d.sig)=((x.cond.take i).all (dM d.sig)&&dM d.sig y):=by rw[dC U,kP,eG,nF,dT]
    cases hB:(b0&&(x.cond.take i).all (dM d.sig))<;>(try simp only[go_sem,B,z,H,gr,G,e1,ez])
    .refine⟨i+1,ix,by omega,?_,O⟩
     try simp only[et,<-Bool.and_assoc,hB,eY]
     try exact aR i aB
     try exact⟨trivial,aR i aB⟩
     try exact⟨rfl,aR i aB⟩
    .refine cU (cJ (wL d.sig hw y (hW y (cZ _ (cZ _ ym))) ?_))
     (try simp only[go_sem,B,z,H,gr,G,e1,ez])
     refine⟨i+1,ix,by omega,?_,O⟩
     try simp only[et,<-Bool.and_assoc,hB,dD]
     try exact aR i aB
     try exact⟨trivial,aR i aB⟩
     try exact⟨rfl,aR i aB⟩
   .have ie:=bI hi h;clear h;subst ie;simp only[bK];obtain⟨b1,bh⟩:∃b1,b1=(b0&&x.cond.all (dM d.sig)):=⟨_,rfl⟩
    rw[<-bh]at bc⊢
    (try simp only[go_sem,B,z,H,gr])
    refine Ex.loop (ι:=Nat) (λi=>[(0,.ptr c 0),(3,.ptr p 0),(4,.ptr q 0),(5,.ptr r 0),(8,.bool (b1&&(x.left.kids.take i).all (nJ d.sig))),(94,.list none (x.left.kids.map Tm.enc)),(95,.int .i64 (x.left.kids.length:Nat)),(96,.int .i64 (i:Nat))]) (λ_=>S) (λi=>i<=x.left.kids.length) (λi=>x.left.kids.length-i) 0 (aN _) ?_ (by first|exact aC _|assumption) ?_
    .simp only[go_sem,B,z,H,gr]
     try simp only[iD,nF,dT,bh,rY]
     try exact rfl
     try exact⟨rfl,rfl⟩
     try exact⟨trivial,rfl⟩
    .intro i hi;refine aQ (V:=xX) _ _ _ _ ?_;simp only[go_sem,B,z,H,gr]
     (apply aI<;>intro h)<;>simp only[go_sem,h,B,z,H,gr]
     .have ix:i<x.left.kids.length:=gQ h;clear h;obtain⟨y,U⟩:=aU ix;have ym:=bA U
      (try simp only[go_sem,U,ix,B,z,H,gr])
      (refine bP λz1 G=>?_);have e1:=aM B (aJ G);have ez:=aM H (aJ G)
      (try simp only[go_sem,B,z,H,gr,U,ix,G,e1,ez])
      have O:(S.setO z1 (.cells 67 y.cs)).ge S:=aZ (aJ G) (aC _);simp only[Tm.cs]at O;have et:(x.left.kids.take (i+1)).all (nJ d.sig)=((x.left.kids.take i).all (nJ d.sig)&&nJ d.sig y):=by rw[dC U,kP,eG,nF,dT]
      cases hB:(b1&&(x.left.kids.take i).all (nJ d.sig))<;>(try simp only[go_sem,B,z,H,gr,G,e1,ez])
      .refine⟨i+1,ix,by omega,?_,O⟩
       try simp only[et,<-Bool.and_assoc,hB,eY]
       try exact aR i aB
       try exact⟨trivial,aR i aB⟩
       try exact⟨rfl,aR i aB⟩
      .refine cU (cJ (aIW d.sig hw y (bk.kids y ym) (by have:=aHJ ym;omega) ?_))
       (try simp only[go_sem,B,z,H,gr,G,e1,ez])
       refine⟨i+1,ix,by omega,?_,O⟩
       try simp only[et,<-Bool.and_assoc,hB,dD]
       try exact aR i aB
       try exact⟨trivial,aR i aB⟩
       try exact⟨rfl,aR i aB⟩
     .have ie:=bI hi h;clear h;subst ie;simp only[bK];rw[<-bc]
      (try simp only[go_sem,B,z,H,gr])
      clear bh;cases cE:vB d.sig x<;>(try simp only[go_sem,B,z,H,gr])
      .rw[aF cE]at T;refine cU (eA ⟨16,f.name,x.line,x.col⟩ m.gck hz ?_)
       (try simp only[go_sem])
       exact aD T (m.ov _)
      .exact⟨(),aC _⟩
 rintro⟨⟩ cE;rw[aE (by rw[cE];decide)]at T;clear bc H;simp only[eV,eS];have bw:(x.cond++[x.right]).length=x.cond.length+1:=by rw[aG];rfl
 refine Ex.cut (V:=xX) 2 (ι:=St × Nat) (λj=>[(0,.ptr c 0),(3,.ptr p 0),(5,.ptr r 0),(8,.bool true),(13,.list (some j.2) ((x.cond++[x.right]).map Tm.enc))]) (λj=>j.1) (λj=>M33 c d (aH o (iJ 16 (oQ (x.left::(x.cond++[x.right]))) x.line x.col)) x s j.1 p r f) ?_ ?_
 .have z:=m.gp;simp only[Eqn.cs]at z
  (try simp only[go_sem,z])
  (refine bX (OT.l [0,1,2,4,5,6,3,7,8] .nil) [(3,[5])] ?_;simp only[go_sem,z]);refine⟨by decide,λy U=>jP U,aEl (mA (tk:=none) (es:=[]) (λ_=>rfl) (λt h=>by cases h) (λy U=>by cases U) (by simp only[aW,bQ];omega) (λc4 bt bp=>?_))⟩
  (try simp only[go_sem,z])
  refine⟨by decide,λy U=>(by rw[bS.1 U];rfl),aEl (mA (λh=>by simpa using bt h) (λt ht=>by rw[tK t ht];simp) (λy U=>jP (gQ U)) (by simp only[aW,bB,bQ,bE];omega) (λc9 bv bq=>?_))⟩;obtain⟨t2,rfl⟩:=aMu bv;generalize bm:gs (gs S c4 _ _) (some t2) _ _=S2;have br:S2.ge S:=by rw[<-bm];exact vC (aC _) bp (λt h=>(bq t h).imp id (λh=>⟨_,h⟩))
  clear bm bt bp bv bq;have eL:(List.map Tm.enc x.cond++[A.agg x.right.cs])=(x.cond++[x.right]).map Tm.enc:=by simp only[cB,cC,eZ,fZ]
  simp only[Tm.cs]at eL;have z:=br.ob _ _ z;have m2:=m.to br
  (try simp only[go_sem,z,ev,eL])
  refine .inr λt bz=>⟨by decide,λy U=>jP U,λy U=>(by rw[bS.1 U];rfl),by simp only[bB,bQ,aW,bw];omega,?_⟩
  generalize bn:St.setT _ t _=S3;have bb:S3.ge S2:=by rw[<-bn];simp only[oI];exact eJ (tk:=some t) (aC S2) (λu hu=>by cases hu;exact bz)
  have z:=bb.ob _ _ z;have m3:=m2.to bb;clear bn;have eM:(A.agg x.left.cs::List.map Tm.enc (x.cond++[x.right]))=(x.left::(x.cond++[x.right])).map Tm.enc:=by simp only[cC,fZ]
  simp only[Tm.cs]at eM
  (try simp only[go_sem,z,eM])
  refine cU (aMf (x.left::(x.cond++[x.right])) (by simp only[cC,cB,eZ,fZ,Tm.cs,bL,bE]) (λt ht=>hW t ((aMK x t).1 ht)) (by rw[aL2];exact hP) ?_)
  (try simp only[go_sem,z])
  generalize oQ (x.left::(x.cond++[x.right]))=Q;obtain⟨v,b⟩:=Q;cases b<;>(try simp only[go_sem,z])
  .exact⟨(S3,t2),by rw[iJ,aE (λh=>by cases h),jG];exact m3,rfl,aC _⟩
  .refine cU (eA ⟨16,v,x.line,x.col⟩ m3.gck hz ?_)
   (try simp only[go_sem])
   exact⟨(S3.setO c _,t2),by rw[iJ,aF rfl];exact m3.fail,rfl,aC _⟩
 clear m S;rintro⟨S,t2⟩ m;simp only at m;generalize b4:iJ 16 (oQ (x.left::(x.cond++[x.right]))) x.line x.col=P1 at T m⊢;have G:NZ (aH o P1):=by rw[<-b4];exact aMM hz _ _ _ cT
 rw[<-dR]at T;clear b4 hz;generalize aH o P1=o1 at T m G;simp only[eV,eS];refine Ex.cut (V:=xX) 1 (ι:=St) (λ_=>[(0,.ptr c 0),(3,.ptr p 0),(5,.ptr r 0),(8,.bool true)]) (λj=>j) (λj=>M33 c d (aH o1 (iJ 17 (oG (x.cond++[x.right]) [x.left]) x.line x.col)) x s j p r f) ?_ ?_
 .have z:=m.gp;simp only[Eqn.cs]at z
  (try simp only[go_sem,z])
  refine .inl (cU (aKW (x.cond++[x.right]) [x.left] rfl (by simp only[cC,eZ,fZ,Tm.cs]) (λt ht=>hW t ((aMK x t).1 (by simp only[cR,bT,gX,dW]at ht⊢;exact Or.comm.1 ht))) (by rw[<-aL2,aP,aG]at hP;simp only[aP,cK];omega) ?_))
  (try simp only[go_sem,z])
  generalize oG (x.cond++[x.right]) [x.left]=Q;obtain⟨v,b⟩:=Q;cases b<;>(try simp only[go_sem,z])
  .exact⟨S,by rw[iJ,aE (λh=>by cases h),jG];exact m,aC _⟩
  .refine cU (eA ⟨17,v,x.line,x.col⟩ m.gck G ?_)
   (try simp only[go_sem])
   exact⟨S.setO c _,by rw[iJ,aF rfl];exact m.fail,aC _⟩
 clear m S;rintro S m;generalize b4:iJ 17 (oG (x.cond++[x.right]) [x.left]) x.line x.col=P1 at T m⊢;have bl:NZ (aH o1 P1):=by rw[<-b4];exact aMM G _ _ _ cT
 rw[<-dR]at T;clear b4 G;generalize aH o1 P1=o2 at T m bl;simp only[eV,eS];refine aQ (V:=xX) _ _ _ _ ?_;have B:=m.gck;have z:=m.gp;have gr:=m.gr;simp only[go_sem,bU]at B;simp only[go_sem]at z gr
 (try simp only[go_sem,B,z,gr])
 refine Ex.loop (ι:=Nat) (λi=>[(0,.ptr c 0),(3,.ptr p 0),(5,.ptr r 0),(8,.bool ((x.cond.take i).all λt=>eH d.sig t [66,111,111,108])),(159,.list none (x.cond.map Tm.enc)),(160,.int .i64 (x.cond.length:Nat)),(161,.int .i64 (i:Nat))]) (λ_=>S) (λi=>i<=x.cond.length) (λi=>x.cond.length-i) 0 (aN _) ?_ (aC _) ?_
 .simp only[go_sem,B,z,gr]
  try exact rfl
  try exact⟨rfl,rfl⟩
  try exact⟨trivial,rfl⟩
 .intro i hi;refine aQ (V:=xX) _ _ _ _ ?_;simp only[go_sem,B,z,gr]
  (apply aI<;>intro h)<;>simp only[go_sem,h,B,z,gr]
  .have ix:i<x.cond.length:=gQ h;clear h;obtain⟨y,U⟩:=aU ix;have ym:=bA U
   (try simp only[go_sem,U,ix,B,z,gr])
   (refine bP λz1 G=>?_);have e1:=aM B (aJ G);have ez:=aM z (aJ G)
   (try simp only[go_sem,B,z,gr,U,ix,G,e1,ez])
   have O:(S.setO z1 (.cells 67 y.cs)).ge S:=aZ (aJ G) (aC _);simp only[Tm.cs]at O;have et:((x.cond.take (i+1)).all λt=>eH d.sig t [66,111,111,108])=((x.cond.take i).all (λt=>eH d.sig t [66,111,111,108])&&eH d.sig y [66,111,111,108]):=by rw[dC U,kP,eG,nF,dT]
   cases hB:((x.cond.take i).all λt=>eH d.sig t [66,111,111,108])<;>(try simp only[go_sem,B,z,gr,G,e1,ez])
   .refine⟨i+1,ix,by omega,?_,O⟩
    try simp only[et,hB,eY]
    try exact aR i aB
    try exact⟨trivial,aR i aB⟩
    try exact⟨rfl,aR i aB⟩
   .refine cU (cJ (yL y [66,111,111,108] (O.ob _ _ m.gck) hw ?_))
    (try simp only[go_sem,B,z,gr,G,e1,ez])
    refine⟨i+1,ix,by omega,?_,O⟩
    try simp only[et,hB,dD]
    try exact aR i aB
    try exact⟨trivial,aR i aB⟩
    try exact⟨rfl,aR i aB⟩
  .have ie:=bI hi h;clear h;subst ie;simp only[bK]
   (try simp only[go_sem,B,z,gr])
   cases hB:(x.cond.all λt=>eH d.sig t [66,111,111,108])<;>(try simp only[go_sem,B,z,gr])<;>rw[hB]at T
   .refine cU (eA ⟨16,f.name,x.line,x.col⟩ m.gck bl ?_)
    (try simp only[go_sem])
    exact aD T (m.ov _)
   .refine cU (cJ (yL x.right f.sort m.gck hw ?_));cases hC:eH d.sig x.right f.sort<;>(try simp only[go_sem,B,z,gr])<;>rw[hC]at T
    .refine cU (eA ⟨16,f.name,x.line,x.col⟩ m.gck bl ?_)
     (try simp only[go_sem])
     exact aD T (m.ov _)
    .rw[show bC (!(true&&true)) (⟨16,f.name,x.line,x.col⟩:Fault)=none from rfl,jG]at T;exact aD T (m.ov.fin m.gck)
end
end
section
theorem aHH(o:Option Fault)(b h:Bool)(g:Fault):aH (aH o (bC b g)) (bC h g)=aH o (bC (b||h) g):=by rw[dR,aAU]
theorem oh{a b c:Option Fault}{f:Fault}(h:aH a (aH (some f) b)=c):aH (aH a (some f)) b=c:=by rw[dR];exact h
theorem aQm{sg:Sig}{b:List aA}{l:List Cel}{i:Nat}{x:Cel}(h:l[i]?=some x):pG sg b (l.drop i)=aH (aCY sg b x) (pG sg (b++[x.name]) (l.drop (i+1))):=by
 rw[gM h];rfl
theorem aTk{l:List Cel}{x:aA}:(l.any λy=>decide (x=y.name))=decide (x∈l.map Cel.name):=by
 rw[fG,iW];simp only[bR,cW];exact⟨λ⟨y,h,u⟩=>⟨y,h,u.symm⟩,λ⟨y,h,u⟩=>⟨y,h,u.symm⟩⟩
structure M34 (c:Nat) (d:Dfn) (o:Option Fault) (q:Nat) (x:Cel) (s S:St):Prop where
 gck:S.getO c=some (bU d o)
 gq:S.getO q=some (.cells 96 x.cs)
 ov:OV c s S
 nz:NZ o
 nq:c≠q
theorem M34.fail{c q:Nat}{d:Dfn}{o:Option Fault}{x:Cel}{s S:St}{g:Fault}(h:M34 c d o q x s S)(u:g.code≠0:=by simp):M34 c d (aH o (some g)) q x s (S.setO c (bU d (aH o (some g)))) :=
 ⟨by rw[aX,aF rfl],tL h.gq h.nq,h.ov.set _,h.nz.snoc u,h.nq⟩
theorem M34.to{c q:Nat}{d:Dfn}{o:Option Fault}{x:Cel}{s S S':St}(h:M34 c d o q x s S)(g:S'.ge S):M34 c d o q x s S' :=
 ⟨g.ob _ _ h.gck,g.ob _ _ h.gq,h.ov.ge g,h.nz,h.nq⟩
section
variable {s S S':St} {KV Kp:St->A->Prop} {c:Nat} {d:Dfn} {o:Option Fault}
theorem aQj(hc:s.getO c=some (bU d o))(hz:NZ o)(hw:d.sig.below.length<=4294967000)(hN:d.once.length+d.many.length<=4294967000)(hT:∀x,x∈d.once++d.many->TmW x.init/\x.init.pre.length<=4294967000)
  (hk:KV (s.setO c (bU d (aH o (pG d.sig [] (d.once++d.many))))) (.tuple [])):Den cx 34 [.ptr c 0] KV Kp s:=by
 have bj:=hc;simp only[go_sem,bU]at hc;(refine aO func34 aFk ?_;simp only[go_sem,ntmps34,f34]);(refine bX (OT.l [0,1,2,3,4,5,7,8,9,10,11,6,12,13] .nil) [(6,[11])] ?_;simp only[go_sem,hc]);refine⟨by decide,λy O=>tI O,mA (tk:=none) (es:=[]) (λ_=>rfl) (λt h=>by cases h) (λy O=>by cases O) (by simp only[aW,bQ];omega) (λbn bd bb=>?_)⟩
 (try simp only[go_sem,hc])
 refine⟨by decide,λy O=>tI O,mA (λh=>by simpa using bd h) (λt ht=>by rw[tK t ht];simp) (λy O=>tI (gQ O)) (by simp only[aW,bQ,bE];omega) (λb4 b9 bc=>?_)⟩
 (try simp only[go_sem,hc,aAX b9])
 have bf:b4=none->d.once++d.many=[]:=λh=>by
  have:=b9 h;simpa using this
 have hV:∀(i:Nat) (y:Cel),(d.once++d.many)[i]?=some y->∃u,ev b4 (List.map Cel.enc d.once++List.map Cel.enc d.many)=.list (some u) ((d.once++d.many).map Cel.enc):=λi y O=>by
  cases b4 with
  | none =>
   rw[bf rfl]at O;cases O
  | some u=>exact⟨u,by rw[cB];rfl⟩
 have bk:(d.once++d.many).length<=4294967000:=by rw[aG];exact hN
 generalize bm:ev b4 (List.map Cel.enc d.once++List.map Cel.enc d.many)=V at hV⊢;generalize hQ:aH o (pG d.sig [] (d.once++d.many))=Q at hk
 refine Ex.loop (ι:=Nat × Option Fault) (λk=>[(0,.ptr c 0),(2,V),(22,V),(23,.int .i64 ((d.once++d.many).length:Nat)),(24,.int .i64 (k.1:Nat))]) (λk=>s.setO c (bU d k.2))
  (λk=>k.1<=(d.once++d.many).length/\NZ k.2/\aH k.2 (pG d.sig (((d.once++d.many).take k.1).map Cel.name) ((d.once++d.many).drop k.1))=Q) (λk=>(d.once++d.many).length-k.1) (0,o) ⟨aN _,hz,hQ⟩ ?_ (by exact(vC (aC _) bb (λt h=>(bc t h).imp id (λh=>⟨_,h⟩))).trans (ge_same bj)) ?_
 ·(simp only[go_sem,hc];try simp)
 .clear bb bc bd b9 hQ;rintro⟨i,o1⟩ ⟨hi,H,hI⟩;simp only at hi H hI;refine aQ (V:=aFk) _ _ _ _ ?_;have b0:(s.setO c (bU d o1)).getO c=some (bU d o1):=by rw[aX,aF rfl]
  have ov:OV c s (s.setO c (bU d o1)):=(OV.of (aC s)).set _;simp only;generalize s.setO c (bU d o1)=S at b0 ov⊢;have z:=b0;simp only[go_sem,bU]at z;simp only[go_sem,z]
  (apply aI<;>intro h)<;>simp only[go_sem,h,z]
  .have ix:i<(d.once++d.many).length:=gQ h;clear h;obtain⟨x,hx⟩:=aU ix;have xm:=bA hx
   (try simp only[go_sem,hx,ix,z])
   obtain⟨u,hu⟩:=hV i x hx;rw[aQm hx]at hI;simp only[go_sem,z,hu,hx,ix];(refine bP λq hq=>?_);have f1:=aM z (aJ hq);simp only[go_sem,z,hu,hx,ix,hq,f1];obtain⟨S1,B,b3,b8⟩:=gZ S q (.cells 96 x.cs) (aJ hq)
   try simp only[go_sem]at b8 B
   rw[b8];clear b8;have z:=b3.ob _ _ z;have b5:S1.getO c=some (bU d o1):=b3.ob _ _ b0;have bg:=ov.ge b3;have nq:c≠q:=f1.1;clear hq f1 b3
   (try simp only[go_sem,z,B,hu])
   rw[<-lC];refine⟨λy O=>tI O,hi,?_⟩;obtain⟨M,hM⟩:∃M,M=(d.once++d.many).take i:=⟨_,rfl⟩
   rw[<-hM]at hI⊢;have bl:M.length<=4294967000:=by rw[hM,dG];omega
   refine Ex.loop (ι:=Nat × Option Fault × St) (λk=>[(0,.ptr c 0),(2,V),(4,.ptr q 0),(22,V),(23,.int .i64 ((d.once++d.many).length:Nat)),(24,.int .i64 (i:Nat)),(31,.list none (M.map Cel.enc)),(32,.int .i64 (M.length:Nat)),(33,.int .i64 (k.1:Nat))]) (λk=>k.2.2)
    (λk=>k.1<=M.length/\M34 c d k.2.1 q x s k.2.2/\k.2.1=aH o1 (bC ((M.take k.1).any λy=>decide (x.name=y.name)) ⟨14,x.name,x.line,x.col⟩)) (λk=>M.length-k.1) (0,o1,S1) ⟨aN _,⟨b5,B,bg,H,nq⟩,(jG o1).symm⟩ ?_ (by exact aC _) ?_
   .simp only[go_sem,z,B]
    try exact rfl
    try exact⟨rfl,rfl⟩
    try exact⟨trivial,rfl⟩
    try exact⟨hu.symm,hu.symm,rfl⟩
   .clear b5 B bg z H nq b0 ov;rintro⟨j,o2,S2⟩ ⟨hj,m,Y⟩;simp only at hj m Y;refine aQ (V:=aFk) _ _ _ _ ?_;have z:=m.gck;have B:=m.gq;simp only[go_sem,bU]at z B;simp only[go_sem,z,B]
    (apply aI<;>intro h)<;>simp only[go_sem,h,z,B]
    .have jx:j<M.length:=gQ h;clear h;obtain⟨y,O⟩:=aU jx;have ym:=bA O
     (try simp only[go_sem,O,jx,z,B])
     (refine bP λz1 H=>?_);have e1:=aM z (aJ H);have ez:=aM B (aJ H)
     (try simp only[go_sem,z,B,O,jx,H,e1,ez])
     obtain⟨S3,b6,b1,b2⟩:=gZ S2 z1 (.cells 96 y.cs) (aJ H)
     try simp only[go_sem]at b2 b6
     rw[b2];clear b2;have Z:=m.to b1;have B:=b1.ob _ _ B;have z:=b1.ob _ _ z;clear H e1 ez
     (try simp only[go_sem,z,B,b6])
     have et:((M.take (j+1)).any λy=>decide (x.name=y.name))=(((M.take j).any λy=>decide (x.name=y.name))||decide (x.name=y.name)):=by rw[dC O,oY,oZ,aJe,iZ]
     cases c1:decide (x.name=y.name)<;>(try simp only[go_sem,z,B,b6,c1])
     .exact⟨(j+1,o2,S3),⟨jx,Z,by rw[et,c1,iZ];exact Y⟩,bD,aR j aB,aC _⟩
     .refine eA ⟨14,x.name,x.line,x.col⟩ Z.gck Z.nz ?_
      (try simp only[go_sem])
      exact⟨(j+1,_,_),⟨jx,Z.fail,by rw[et,c1,Y];exact aHH o1 _ true _⟩,bD,aR j aB,aC _⟩
    .have je:=bI hj h;clear h;subst je;simp only[bK]at Y;rw[aTk]at Y
     have G:aH o2 (aH (if cD d.sig x.sort=false then some ⟨13,x.name,x.line,x.col⟩ else
      aH (bC (!(dM d.sig x.init&&eH d.sig x.init x.sort)) ⟨16,x.name,x.line,x.col⟩) (bO (λs=>bC (!decide (s=[36])) ⟨17,s,x.line,x.col⟩) (iQ [x.init]))) (pG d.sig (M.map Cel.name++[x.name]) ((d.once++d.many).drop (i+1))))=Q:=by
      rw[Y,<-hI];unfold aCY;simp only[dR]
     clear hI Y
     (try simp only[go_sem,z,B])
     refine aJj x.sort m.gck ?_;cases cE:cD d.sig x.sort<;>(try simp only[go_sem,z,B])<;>rw[cE]at G
     .refine eA ⟨13,x.name,x.line,x.col⟩ m.gck m.nz ?_
      (try simp only[go_sem])
      rw[<-G]at hk;exact aD hk (m.ov _)
     ·rw[aE cT] at G;generalize hR:pG d.sig (M.map Cel.name++[x.name]) ((d.once++d.many).drop (i+1))=R at G;(refine bX (OT.r 0 18) [(7,[12,14])] ?_;simp only[go_sem,z,B]);refine cJ (wL d.sig hw x.init (hT x xm).1 ?_);cases cI:dM d.sig x.init<;>simp only[go_sem,z,B]<;>rw[cI] at G
      rotate_left
      focus
       refine cJ (yL x.init x.sort m.gck hw ?_);cases cM:eH d.sig x.init x.sort<;>simp only[go_sem,z,B]<;>rw[cM]at G
       focus
        refine eA ⟨16,x.name,x.line,x.col⟩ m.gck m.nz ?_;have Z:=m.fail (g:=⟨16,x.name,x.line,x.col⟩) (by show(16:Int)≠0;decide);have T:aH (aH o2 (some ⟨16,x.name,x.line,x.col⟩)) (aH (bO (λs=>bC (!decide (s=[36])) ⟨17,s,x.line,x.col⟩) (iQ [x.init])) R)=Q:=by rw[<-G];simp only[dR];rfl
        obtain⟨S3,b7⟩:∃S3,S3=S2.setO c (bU d (aH o2 (some ⟨16,x.name,x.line,x.col⟩))):=⟨_,rfl⟩
        rw[<-b7]at Z⊢;generalize aH o2 (some ⟨16,x.name,x.line,x.col⟩)=o3 at Z T
       rotate_left
       focus
        have Z:=m;have T:aH o2 (aH (bO (λs=>bC (!decide (s=[36])) ⟨17,s,x.line,x.col⟩) (iQ [x.init])) R)=Q:=G
       rotate_left
      rotate_left;rotate_left
      focus
       refine eA ⟨16,x.name,x.line,x.col⟩ m.gck m.nz ?_;have Z:=m.fail (g:=⟨16,x.name,x.line,x.col⟩) (by show(16:Int)≠0;decide);have T:aH (aH o2 (some ⟨16,x.name,x.line,x.col⟩)) (aH (bO (λs=>bC (!decide (s=[36])) ⟨17,s,x.line,x.col⟩) (iQ [x.init])) R)=Q:=by rw[<-G];simp only[dR];rfl
       obtain⟨S3,b7⟩:∃S3,S3=S2.setO c (bU d (aH o2 (some ⟨16,x.name,x.line,x.col⟩))):=⟨_,rfl⟩
       rw[<-b7]at Z⊢;generalize aH o2 (some ⟨16,x.name,x.line,x.col⟩)=o3 at Z T
      all_goals
       clear m G z B;have z:=Z.gck;have B:=Z.gq;simp only[go_sem,bU]at z B
       (try simp only[go_sem,z,B])
       refine gL (show gO _ [.list none (([]:List aA).map .str),.agg x.init.cs] from⟨A.le.nil,by simp only[Tm.cs];exact cN _,trivial⟩) (aGi _ x.init [] _ _ _ (dZ _) (hT x xm).1 .nil (by have:=(hT x xm).2;simp only[bQ];omega) ?_);have eT:iG [] x.init=iQ [x.init]:=rfl
       have bh:(iQ [x.init]).length<=4294967000:=by
        have h1:=aKF [] x.init;have h2:=(hT x xm).2;rw[eT,bQ]at h1;omega
       rw[eT];generalize iQ [x.init]=L at T bh⊢;clear eT
       (try simp only[go_sem,z,B])
       refine Ex.loop (ι:=Nat × Option Fault × St) (λk=>[(0,.ptr c 0),(2,V),(4,.ptr q 0),(22,V),(23,.int .i64 ((d.once++d.many).length:Nat)),(24,.int .i64 (i:Nat)),(92,.list none (L.map .str)),(93,.int .i64 (L.length:Nat)),(94,.int .i64 (k.1:Nat))]) (λk=>k.2.2)
        (λk=>k.1<=L.length/\M34 c d k.2.1 q x s k.2.2/\aH k.2.1 (aH (bO (λs=>bC (!decide (s=[36])) ⟨17,s,x.line,x.col⟩) (L.drop k.1)) R)=Q) (λk=>L.length-k.1) (0,_,_) ⟨aN _,Z,T⟩ ?_ (by exact aC _) ?_
       .simp only[go_sem,z,B]
        try exact rfl
        try exact⟨rfl,rfl⟩
       .clear Z z B T;rintro⟨j,o4,S4⟩ ⟨hj,m,U⟩;simp only at hj m U;refine aQ (V:=aFk) _ _ _ _ ?_;have z:=m.gck;have B:=m.gq;simp only[go_sem,bU]at z B;simp only[go_sem,z,B]
        (apply aI<;>intro h)<;>simp only[go_sem,h,z,B]
        .have jx:j<L.length:=gQ h;clear h;obtain⟨v,hv⟩:=aU jx;have vm:=bA hv
         (try simp only[go_sem,hv,jx,z,B])
         rw[gM hv,bO]at U;cases c1:decide (v=[36])<;>(try simp only[go_sem,z,B,c1])<;>rw[c1]at U
         .refine eA ⟨17,v,x.line,x.col⟩ m.gck m.nz ?_
          (try simp only[go_sem])
          exact⟨(j+1,aH o4 (some ⟨17,v,x.line,x.col⟩),S4.setO c _),⟨jx,m.fail,by rw[<-U];simp only[dR];rfl⟩,bD,aR j aB,aC _⟩
         .exact⟨(j+1,o4,S4),⟨jx,m,U⟩,bD,aR j aB,aC _⟩
        .have je:=bI hj h;clear h;subst je;rw[dB (bF _)]at U;have eM:((d.once++d.many).take (i+1)).map Cel.name=M.map Cel.name++[x.name]:=by rw[dC hx,cB,hM];rfl
         exact⟨(i+1,o4),⟨ix,m.nz,by rw[eM,hR];exact U⟩,bD,⟨hu,hu,aR i aB⟩,m.ov.fin m.gck⟩
  .have ie:=bI hi h;clear h;rw[ie,dB (bF _)]at hI;have G:o1=Q:=by rw[<-hI];exact(jG o1).symm
   rw[<-G]at hk;exact aD hk (ov.fin b0)
end
end
section
theorem gBy{f:FuncId}{c:Code}{args:List A}{KV Kp:St->A->Prop}{s:St}{fn:Func}(z:cx.P.funcs[f]?=some fn)
  (h:Ex cx fn.ntmps c (kK cx fn.results.toList (DK KV) (DK Kp)) (kW 0 args) s)
  (y:fn.body=some c:=by exact rfl)
  (u : (fn.name == "runtime.NumGoroutine") = false := by exact rfl) (B : args.length ≤ fn.ntmps := by exact eQ rfl) : Den cx f args KV Kp s :=
 Den.drop (aAq z y u B h)
structure BX (c:Nat) (d:Dfn) (L:List (Nat × TypeId × List A)) (s:St) (o:Option Fault) (S:St):Prop where
 gck:S.getO c=some (bU d o)
 gb:∀b,b∈L->c≠b.1/\S.getO b.1=some (.cells b.2.1 b.2.2)
 ov:OV c s S
 nz:NZ o
section
variable {c:Nat} {d:Dfn} {L M:List (Nat × TypeId × List A)} {s S S':St} {o:Option Fault}
theorem BX.fail{g:Fault}(h:BX c d L s o S)(y:g.code≠0:=by simp):BX c d L s (aH o (some g)) (S.setO c (bU d (aH o (some g)))) :=
 ⟨by rw[aX,aF rfl],λb u=>⟨(h.gb b u).1,tL (h.gb b u).2 (h.gb b u).1⟩,h.ov.set _,h.nz.snoc y⟩
theorem BX.set{y:Option Fault}(h:BX c d L s o S)(z:NZ y):BX c d L s y (S.setO c (bU d y)) :=
 ⟨by rw[aX,aF rfl],λb u=>⟨(h.gb b u).1,tL (h.gb b u).2 (h.gb b u).1⟩,h.ov.set _,z⟩
theorem BX.to(h:BX c d L s o S)(g:S'.ge S):BX c d L s o S' :=
 ⟨g.ob _ _ h.gck,λb u=>⟨(h.gb b u).1,g.ob _ _ (h.gb b u).2⟩,h.ov.ge g,h.nz⟩
theorem BX.none(h:BX c d L s o S):BX c d L s (aH o none) S:=by rw[jG];exact h
theorem BX.add{r:Nat}{T:TypeId}{cs:List A}(h:BX c d L s o S)(g:S'.ge S)(y:c≠r)(gr:S'.getO r=some (.cells T cs)):BX c d ((r,T,cs)::L) s o S' :=
 ⟨g.ob _ _ h.gck,λb u=>by rcases List.mem_cons.1 u with rfl|u;exact⟨y,gr⟩;exact⟨(h.gb b u).1,g.ob _ _ (h.gb b u).2⟩,h.ov.ge g,h.nz⟩
theorem BX.tl{b:Nat × TypeId × List A}(h:BX c d (b::L) s o S):BX c d L s o S:=⟨h.gck,λb u=>h.gb b (cZ _ u),h.ov,h.nz⟩
theorem BX.g0{r:Nat}{T:TypeId}{cs:List A}(h:BX c d ((r,T,cs)::L) s o S):S.getO r=some (.cells T cs):=(h.gb _ (bY ..)).2
theorem BX.g1{r:Nat}{T:TypeId}{cs:List A}{a}(h:BX c d (a::(r,T,cs)::L) s o S):S.getO r=some (.cells T cs):=h.tl.g0
theorem BX.g2{r:Nat}{T:TypeId}{cs:List A}{a b}(h:BX c d (a::b::(r,T,cs)::L) s o S):S.getO r=some (.cells T cs):=h.tl.g1
theorem BX.eqo{u:Option Fault}(h:BX c d L s o S)(e:o=u):BX c d L s u S:=e▸h
end
section
variable {s S S':St} {KV Kp:St->A->Prop} {c:Nat} {d:Dfn} {o:Option Fault}
theorem aQU(x:Rul)(i:Nat)(y:Part)(hi:x.parts[i]?=some y)(hc:s.getO c=some (bU d o))(hz:NZ o)(ho:d.once.length<=4294967000)(hm:d.many.length<=4294967000)(hw:d.sig.below.length<=4294967000)
  (bg:x.parts.length<=4294967000)(bh:y.right.length<=4294967000)(hW:∀t,t∈y.left::y.right->TmW t)(hP:y.left.pre.length<=4294967000)
  (Y:KV (s.setO c (bU d (aH o (tZ d (x.parts.take i) y)))) (.tuple [])):Den cx 102 [.ptr c 0,.agg x.cs,.int .i64 (i:Nat)] KV Kp s:=by
 have bc:=hc;have ix:i<x.parts.length:=(cX.1 hi).1;have n0:(0:Int)<=(i:Int):=by omega
 unfold tZ at Y;simp only[go_sem,bU]at hc;(refine gBy func102 ?_;simp only[go_sem,ntmps102,f102]);refine Ex.cut (V:=xM) 3 (ι:=St × Nat × Nat × Nat) (λj=>[(0,.ptr c 0),(2,.int .i64 (i:Nat)),(4,.ptr j.2.1 0),(6,.ptr j.2.2.1 0),(7,.ptr j.2.2.2 0),(8,.bool (cP d y.cell).2.1),(10,.bool (cP d y.cell).2.2)]) (λj=>j.1) (λj=>BX c d [(j.2.2.2,96,(sG d y.cell).cs),(j.2.2.1,101,y.cs),(j.2.1,50,x.cs)] s o j.1) ?_ ?_
 ·(try simp only[go_sem])
  (refine bP λq hq=>?_);have f1:=aM hc (aJ hq)
  (try simp only[go_sem,hc,f1,hq])
  obtain⟨S0,O,bb,b7⟩:=gZ s q (.cells 50 x.cs) (aJ hq)
  try simp only[go_sem]at b7 O
  rw[b7];clear b7;have m0:BX c d [(q,50,x.cs)] s o S0:=BX.add (L:=[]) ⟨bc,λb hb=>(by cases hb),OV.of (aC s),hz⟩ bb f1.1 (by simp only[go_sem];exact O);have u:=bb.ob _ _ hc;clear hq f1
  (try simp only[go_sem,u,O,hi,ix,n0])
  (refine bP λp hp=>?_);have f1:=aM u (aJ hp);have f2:=aM O (aJ hp)
  (try simp only[go_sem,u,O,hp,f1,f2,hi,ix,n0])
  obtain⟨S1,B,b4,b6⟩:=gZ S0 p (.cells 101 y.cs) (aJ hp)
  try simp only[go_sem]at b6 B
  rw[b6];clear b6;have m1:=m0.add b4 f1.1 B;have u:=b4.ob _ _ u;have O:=b4.ob _ _ O;clear hp f1 f2 m0
  (try simp only[go_sem,u,B,O])
  (refine bX (OT.l [0,1,2,3,4,5] (.alt (.node 6 (OT.l [7,8,9,10,11,12,13,14,15,16] .nil)) (.node 12 (OT.l [6,7,8,9,10,11,13,14,15,16] .nil)))) [(12,[3,5])] ?_;simp only[go_sem,u,B,O]);obtain⟨w,b9⟩:∃w,w=sG d y.cell:=⟨_,rfl⟩
  rw[<-b9];refine⟨?_,?_⟩
  .refine cJ (aB0 (d:=d) y.cell ho hm ?_);rw[<-b9]
   (try simp only[go_sem,u,B,O])
   (refine bP λr hr=>?_);have f1:=aM u (aJ hr);have f2:=aM B (aJ hr);have f3:=aM O (aJ hr)
   (try simp only[go_sem,u,B,O,hr,f1,f2,f3])
   obtain⟨S2,gr,b5,Z⟩:=gZ S1 r (.cells 96 w.cs) (aJ hr)
   try simp only[go_sem]at Z gr
   rw[Z];clear Z;exact⟨(S2,q,p,r),m1.add b5 f1.1 gr,⟨rfl,rfl,rfl⟩,aC _⟩
  ·(refine bP λr hr=>?_);have f1:=aM u (aJ hr);have f2:=aM B (aJ hr);have f3:=aM O (aJ hr)
   (try simp only[go_sem,u,B,O,hr,f1,f2,f3])
   refine cJ (aB0 (d:=d) y.cell ho hm ?_);rw[<-b9]
   (try simp only[go_sem,u,B,O,hr,f1,f2,f3])
   obtain⟨S2,gr,b5,Z⟩:=gZ S1 r (.cells 96 w.cs) (aJ hr)
   try simp only[go_sem]at Z gr
   rw[Z];clear Z;exact⟨(S2,q,p,r),m1.add b5 f1.1 gr,⟨rfl,rfl,rfl⟩,aC _⟩
 rintro⟨S,q,p,r⟩ m;simp only at m;simp only[eV,eS];refine Ex.cut (V:=xM) 1 (ι:=Unit) (λ_=>[(0,.ptr c 0),(2,.int .i64 (i:Nat)),(4,.ptr q 0),(6,.ptr p 0),(7,.ptr r 0)]) (λ_=>S) (λ_=>(cP d y.cell).2.2=true/\((cP d y.cell).2.1 == decide (y.at_=[]))=false) ?_ ?_
 .have u:=m.gck;have gr:=m.g0;have B:=m.g1;have O:=m.g2;simp only[go_sem,bU]at u gr B O;cases c2:(cP d y.cell).2.2<;>(try simp only[go_sem,u,B,O,gr])
  .rw[aF c2]at Y;refine eA ⟨13,y.cell,y.line,y.col⟩ m.gck hz ?_
   (try simp only[go_sem])
   exact aD Y (m.ov _)
  .rw[aE (by rw[c2];decide)]at Y;cases c3:((cP d y.cell).2.1 == decide (y.at_=[]))<;>(try simp only[go_sem,u,B,O,gr,c3])
   .exact⟨(),aC _⟩
   .rw[aF (gQ c3)]at Y;refine eA ⟨15,y.cell,y.line,y.col⟩ m.gck hz ?_
    (try simp only[go_sem])
    exact aD Y (m.ov _)
 rintro⟨⟩ ⟨c2,c3⟩;rw[aE (by rw[c2];decide),aE (λe=>by rw[e]at c3;simp at c3)]at Y;have bd:(sG d y.cell).sort=(cP d y.cell).1:=aKk d _;rw[<-bd]at Y;generalize sG d y.cell=w at m Y;clear bd c2 c3 hc bc hz;simp only[eV,eS];obtain⟨M,hM⟩:∃M,M=x.parts.take i:=⟨_,rfl⟩
 rw[<-hM]at Y;have bf:M.length<=4294967000:=by rw[hM,dG];omega
 refine Ex.cut (V:=xM) 1 (ι:=St) (λj=>[(0,.ptr c 0),(6,.ptr p 0),(7,.ptr r 0)]) (λj=>j) (λj=>BX c d [(r,96,w.cs),(p,101,y.cs)] s (aH o (bC (M.any λz=>decide (z.cell=y.cell)&&decide (z.at_=y.at_)) ⟨14,y.cell,y.line,y.col⟩)) j) ?_ ?_
 .have u:=m.gck;have gr:=m.g0;have B:=m.g1;have O:=m.g2;simp only[go_sem,bU]at u gr B O;have m:=(BX.mk m.gck (λb hb=>m.gb b (by simp only[cR,gX,dW]at hb⊢;rcases hb with rfl|rfl<;>simp)) m.ov m.nz:BX c d [(r,96,w.cs),(p,101,y.cs)] s o S)
  (try simp only[go_sem,u,gr,B,O])
  rw[<-lC,<-hM];refine⟨λz hz=>aMV hz,Nat.le_of_lt ix,?_⟩;generalize hQ:bC (M.any λz=>decide (z.cell=y.cell)&&decide (z.at_=y.at_)) ⟨14,y.cell,y.line,y.col⟩=Q
  refine Ex.loop (ι:=Nat × Option Fault × St) (λk=>[(0,.ptr c 0),(6,.ptr p 0),(7,.ptr r 0),(61,.list none (M.map Part.enc)),(62,.int .i64 (M.length:Nat)),(63,.int .i64 (k.1:Nat))]) (λk=>k.2.2)
   (λk=>k.1<=M.length/\BX c d [(r,96,w.cs),(p,101,y.cs)] s k.2.1 k.2.2/\k.2.1=aH o (bC ((M.take k.1).any λz=>decide (z.cell=y.cell)&&decide (z.at_=y.at_)) ⟨14,y.cell,y.line,y.col⟩)) (λk=>M.length-k.1) (0,o,S) ⟨aN _,m,(jG o).symm⟩ ?_ (by exact aC _) ?_
  .simp only[go_sem,u,gr,B]
   try exact rfl
   try exact⟨rfl,rfl⟩
  .clear u gr B O m;rintro⟨j,o2,S2⟩ ⟨hj,m,b2⟩;simp only at hj m b2;refine aQ (V:=xM) _ _ _ _ ?_;have u:=m.gck;have gr:=m.g0;have B:=m.g1;simp only[go_sem,bU]at u gr B;simp only[go_sem,u,gr,B]
   (apply aI<;>intro h)<;>simp only[go_sem,h,u,gr,B]
   .have jx:j<M.length:=gQ h;clear h;obtain⟨z,hz⟩:=aU jx;have zm:=bA hz
    (try simp only[go_sem,hz,jx,u,gr,B])
    (refine bP λz1 H=>?_);have e1:=aM u (aJ H);have e2:=aM gr (aJ H);have e3:=aM B (aJ H)
    (try simp only[go_sem,u,gr,B,hz,jx,H,e1,e2,e3])
    obtain⟨S3,U,G,T⟩:=gZ S2 z1 (.cells 101 z.cs) (aJ H)
    try simp only[go_sem]at T U
    rw[T];clear T;have m3:=m.to G;have B:=G.ob _ _ B;have gr:=G.ob _ _ gr;have u:=G.ob _ _ u;clear H e1 e2 e3
    (try simp only[go_sem,u,gr,B,U])
    have et:((M.take (j+1)).any λz=>decide (z.cell=y.cell)&&decide (z.at_=y.at_))=(((M.take j).any λz=>decide (z.cell=y.cell)&&decide (z.at_=y.at_))||(decide (z.cell=y.cell)&&decide (z.at_=y.at_))):=by rw[dC hz,oY,oZ,aJe,iZ]
    have b8:(decide (z.cell=y.cell)&&decide (z.at_=y.at_))=true->aH o2 (some ⟨14,y.cell,y.line,y.col⟩)=aH o (bC ((M.take (j+1)).any λz=>decide (z.cell=y.cell)&&decide (z.at_=y.at_)) ⟨14,y.cell,y.line,y.col⟩):=λh=>by rw[et,h,b2];exact aHH o _ true _
    have b3:(decide (z.cell=y.cell)&&decide (z.at_=y.at_))=false->o2=aH o (bC ((M.take (j+1)).any λz=>decide (z.cell=y.cell)&&decide (z.at_=y.at_)) ⟨14,y.cell,y.line,y.col⟩):=λh=>by rw[et,h,iZ];exact b2
    cases c1:decide (z.cell=y.cell)<;>(try simp only[go_sem,u,gr,B,U,c1])<;>rw[c1]at b8 b3
    .exact⟨(j+1,o2,S3),⟨jx,m3,b3 rfl⟩,bD,aR j aB,aC _⟩
    .cases c2:decide (z.at_=y.at_)<;>(try simp only[go_sem,u,gr,B,U,c2])<;>rw[c2]at b8 b3
     .exact⟨(j+1,o2,S3),⟨jx,m3,b3 rfl⟩,bD,aR j aB,aC _⟩
     .refine eA ⟨14,y.cell,y.line,y.col⟩ m3.gck m3.nz ?_
      (try simp only[go_sem])
      exact⟨(j+1,_,_),⟨jx,m3.fail,b8 rfl⟩,bD,aR j aB,aC _⟩
   .have je:=bI hj h;clear h;subst je;simp only[bK]at b2;rw[hQ]at b2;exact⟨S2,m.eqo b2,aC _⟩
 generalize hQ:bC (M.any λz=>decide (z.cell=y.cell)&&decide (z.at_=y.at_)) ⟨14,y.cell,y.line,y.col⟩=Q at Y⊢;rw[<-dR]at Y;generalize aH o Q=o1 at Y⊢;clear hQ m bf hM;rintro S m;simp only[eV,eS];refine Ex.cut (V:=xM) 1 (ι:=Unit) (λ_=>[(0,.ptr c 0),(6,.ptr p 0),(7,.ptr r 0),(13,.bool (decide (y.right.length<=1)&&(nJ d.sig y.left&&eH d.sig y.left w.sort)))]) (λ_=>S) (λ_=>True) ?_ ?_
 .have u:=m.gck;have gr:=m.g0;have B:=m.g1;simp only[go_sem,bU]at u gr B;have e1:decide ((y.right.length:Int)<=1)=decide (y.right.length<=1):=bW.2 aB;cases c1:decide (y.right.length<=1)
  ·(refine bX (OT.r 0 23) [(12,[17,19])] ?_;simp only[go_sem,u,gr,B,e1,c1]);exact⟨(),aC _⟩
  ·(refine bX (OT.r 0 23) [(12,[17,19])] ?_;simp only[go_sem,u,gr,B,e1,c1]);refine cJ (aIW d.sig hw y.left (hW _ (bY ..)) hP ?_);cases c2:nJ d.sig y.left<;>(try simp only[go_sem,u,gr,B])
   .exact⟨(),aC _⟩
   .refine cJ (yL y.left w.sort m.gck hw ?_)
    (try simp only[go_sem,u,gr,B])
    exact⟨(),aC _⟩
 generalize (decide (y.right.length<=1)&&(nJ d.sig y.left&&eH d.sig y.left w.sort))=b0 at Y⊢;rintro⟨⟩ -;simp only[eV,eS];refine Ex.cut (V:=xM) 1 (ι:=Unit) (λ_=>[(0,.ptr c 0),(6,.ptr p 0),(13,.bool (b0&&y.right.all λt=>dM d.sig t&&eH d.sig t w.sort))]) (λ_=>S) (λ_=>True) ?_ ?_
 .have u:=m.gck;have gr:=m.g0;have B:=m.g1;simp only[go_sem,bU]at u gr B
  (try simp only[go_sem,u,gr,B])
  refine Ex.loop (ι:=Nat) (λk=>[(0,.ptr c 0),(6,.ptr p 0),(7,.ptr r 0),(13,.bool (b0&&(y.right.take k).all λt=>dM d.sig t&&eH d.sig t w.sort)),(111,.list none (y.right.map Tm.enc)),(112,.int .i64 (y.right.length:Nat)),(113,.int .i64 (k:Nat))]) (λ_=>S)
   (λk=>k<=y.right.length) (λk=>y.right.length-k) 0 (aN _) ?_ (by exact aC _) ?_
  .simp only[go_sem,u,gr,B]
   try simp only[iD,nF,dT,rY]
   exact⟨trivial,rfl⟩
  .intro j hj;refine aQ (V:=xM) _ _ _ _ ?_;simp only[go_sem,u,gr,B]
   (apply aI<;>intro h)<;>simp only[go_sem,h,u,gr,B]
   .have jx:j<y.right.length:=gQ h;clear h;obtain⟨z,hz⟩:=aU jx;have zm:=bA hz
    (try simp only[go_sem,hz,jx,u,gr,B])
    (refine bP λz1 H=>?_);have e1:=aM u (aJ H);have e2:=aM gr (aJ H);have e3:=aM B (aJ H)
    (try simp only[go_sem,u,gr,B,hz,jx,H,e1,e2,e3])
    obtain⟨S3,U,G,T⟩:=gZ S z1 (.cells 67 z.cs) (aJ H)
    try simp only[go_sem]at T U
    rw[T];clear T;have m3:=m.to G;have B:=G.ob _ _ B;have gr:=G.ob _ _ gr;have u:=G.ob _ _ u;clear H e1 e2 e3;have et:(b0&&(y.right.take (j+1)).all λt=>dM d.sig t&&eH d.sig t w.sort)=((b0&&(y.right.take j).all λt=>dM d.sig t&&eH d.sig t w.sort)&&(dM d.sig z&&eH d.sig z w.sort)):=by rw[dC hz,kP,eG,nF,dT,Bool.and_assoc]
    cases hB:(b0&&(y.right.take j).all λt=>dM d.sig t&&eH d.sig t w.sort)<;>rw[hB]at et
    ·(refine bX (OT.r 0 18) [(8,[12,14])] ?_;simp only[go_sem,u,gr,B,U,hB]);exact⟨j+1,jx,by omega,⟨et.symm,aR j aB⟩,G⟩
    ·(refine bX (OT.r 0 18) [(8,[12,14])] ?_;simp only[go_sem,u,gr,B,U,hB]);refine cJ (wL d.sig hw z (hW z (cZ _ zm)) ?_);cases c1:dM d.sig z<;>(try simp only[go_sem,u,gr,B,U])<;>rw[c1] at et
     .exact⟨j+1,jx,by omega,⟨et.symm,aR j aB⟩,G⟩
     .refine cJ (yL z w.sort m3.gck hw ?_)
      (try simp only[go_sem,u,gr,B,U])
      exact⟨j+1,jx,by omega,⟨et.symm,aR j aB⟩,G⟩
   .have je:=bI hj h;clear h;subst je;simp only[bK];exact⟨(),trivial,aC _⟩
 generalize (b0&&y.right.all λt=>dM d.sig t&&eH d.sig t w.sort)=b1 at Y⊢;rintro⟨⟩ -;simp only[eV,eS];refine aQ (V:=xM) _ _ _ _ ?_;have u:=m.gck;have B:=m.g1;simp only[go_sem,bU]at u B;cases b1<;>(try simp only[go_sem,u,B])
 .refine eA ⟨16,y.cell,y.line,y.col⟩ m.gck m.nz ?_
  (try simp only[go_sem])
  exact aD Y (m.ov _)
 .have Y:KV (s.setO c (bU d (aH o1 none))) (.tuple []):=Y;rw[jG]at Y;exact aD Y (m.ov.fin m.gck)
end
end
section
theorem aU2{S S':St}{u:Nat}(h:S.ge S')(y:S.getT u=none):S'.getT u=none:=by
 cases e:S'.getT u with
 | none=>rfl
 | some m=>rw[h.tk u m e]at y;cases y
theorem aHa{X S:St}{l:List iB}(h:OwnOk X l)(y:S.ge (fF X l)){k:Nat}{o:iB}(z:l[k]?=some o){t n:Nat}(B:o.1=some t\/o.1=none/\S.getT t=none) :
  OwnOk X (l.set k (some t,n,o.2.2))/\(S.setT t (n,o.2.2)).ge (fF X (l.set k (some t,n,o.2.2))):=by
 have u:=aVa h z (t:=t) (B.imp id λe=>⟨e.1,aU2 y e.2⟩) (λ_=>rfl) n;exact⟨u,(dV y).trans (aU6 h z u (λ_=>rfl))⟩
theorem aHS{X S:St}{l:List iB}(h:OwnOk X l)(u:S.ge (fF X l)){k:Nat}{o:iB}(y:l[k]?=some o):mN S o.1 o.2.1 o.2.2:=yT (aU8 h y) u
theorem aU9{X:St}{l:List iB}(h:OwnOk X l){k:Nat}{o:iB}(O:l[k]?=some o):(fF X l).ge (gs X o.1 o.2.1 o.2.2):=by
 refine⟨λb x B=>by rw[mM]at B;rw[pY];exact B,λu m y=>?_,λx G=>by rw[aNQ]at G;rw[aHT];exact G⟩;rw[sA]at y;by_cases e:o.1=some u
 .rw[aF e]at y;cases y;exact aI5 h O e
 .rw[aE e]at y;rw[aQy λa H z=>by rw[h.free a H u z]at y;cases y];exact y
theorem aQ0{d:Dfn}{b l:List Part}{i:Nat}{x:Part}(h:l[i]?=some x):qR d b (l.drop i)=aH (tZ d b x) (qR d (b++[x]) (l.drop (i+1))):=by
 rw[gM h];rfl
theorem tE{u y:Type}{f:u->List y}{l:List u}{i:Nat}{x:u}(h:l[i]?=some x):(l.take (i+1)).flatMap f=(l.take i).flatMap f++f x:=by
 rw[dC h,qF];simp
theorem wM{u y:Type}{f:u->y}{l:List u}{i:Nat}{x:u}(h:l[i]?=some x):(l.take (i+1)).map f=(l.take i).map f++[f x]:=by
 rw[dC h,cB];rfl
theorem aWv{l:List Rul}{y:A}(h:y∈l.map Rul.enc):y.cells.length=7:=by
 obtain⟨z,_,rfl⟩:=cW.1 h;rfl
def qX(x:Rul)(k:Nat)(t:Option Nat × Option Nat × Option Nat):List iB:=[(t.1,((x.parts.take k).map Part.left).length,67),(t.2.1,((x.parts.take k).flatMap Part.right).length,67),(t.2.2,((x.parts.take k).map Part.at_).length,9)]
theorem aLX{d:Dfn}{b:List Part}{x:Part}:NZ (tZ d b x):=nY (lQ aV) (nY (lQ aV) (cY (fC aV) (fC aV)))
theorem aGE:∀l:List Part,(l.flatMap Part.right).length<=(l.flatMap λp=>p.left::p.right).length
 | []=>bF _
 | x::r=>by simp only[gR,aG,bB];have:=aGE r;omega
theorem aUm(x:Rul):(dL x).length<=(fD x).length:=by
 have:=aGE x.parts;simp only[dL,fD,aG]at this⊢;omega
theorem aM3{S:St}{u:Nat}{v:Nat × TypeId}(h:S.getT u=none):(S.setT u v).ge S:=eJ (tk:=some u) (n:=v.1) (e:=v.2) (aC S) λt e=>by cases e;exact h
theorem aKB:∀l:List Part,(aP (l.map Part.left)).length+(aP (l.flatMap Part.right)).length=(aP (l.flatMap λp=>p.left::p.right)).length
 | []=>rfl
 | x::r=>by
  have:=aKB r;simp only[cC,gR,bL,aP,dP,aG];omega
theorem aUl(x:Rul):(aP (fH x++dL x)).length=(aP (fD x)).length:=by
 have:=aKB x.parts;simp only[fH,dL,fD,dP,aG];omega
theorem aTM{u y:Type}{f:u->List y}{l:List u}{x:u}(h:x∈l):(f x).length<=(l.flatMap f).length:=by
 obtain⟨a,b,rfl⟩:=List.append_of_mem h;simp only[qF,gR,aG];omega
structure RulB (r:Rul):Prop where
 pl:r.parts.length<=4294967000
 nl:r.new.length<=4294967000
 dl:r.drop.length<=4294967000
 tm:∀t,t∈fD r->TmW t
 pr:(aP (fD r)).length<=4294967000
section
variable {s S S':St} {KV Kp:St->A->Prop} {c:Nat} {d:Dfn} {o:Option Fault}
theorem aR1(i:Nat)(x:Rul)(hi:d.rules[i]?=some x)(hc:s.getO c=some (bU d o))(hz:NZ o)(ho:d.once.length<=4294967000)(hm:d.many.length<=4294967000)(hw:d.sig.below.length<=4294967000)(ff:d.rules.length<=4294967000)(hB:RulB x)
  (hk:KV (s.setO c (bU d (aH o (xK d ((d.rules.take i).map Rul.name) x)))) (.tuple [])):Den cx 36 [.ptr c 0,.int .i64 (i:Nat)] KV Kp s:=by
 have c5:=hc;have ix:i<d.rules.length:=(cX.1 hi).1;have n0:(0:Int)<=(i:Int):=by omega
 unfold xK at hk;simp only[go_sem,bU]at hc;(refine gBy func36 ?_;simp only[go_sem,ntmps36,f36]);obtain⟨M,hM⟩:∃M,M=d.rules.take i:=⟨_,rfl⟩
 have cq:M.length<=4294967000:=by rw[hM,dG];omega
 have bw:decide (x.name∈M.map Rul.name)=M.any λz=>decide (x.name=z.name):=by
  rw[fG,iW];simp only[bR,cW];exact⟨λ⟨y,h1,h2⟩=>⟨y,h1,h2.symm⟩,λ⟨y,h1,h2⟩=>⟨y,h1,h2.symm⟩⟩
 rw[<-hM,bw]at hk;refine Ex.cut (V:=kM) 2 (ι:=St × Nat) (λj=>[(0,.ptr c 0),(4,.ptr j.2 0)]) (λj=>j.1) (λj=>BX c d [(j.2,50,x.cs)] s (aH o (bC (M.any λz=>decide (x.name=z.name)) ⟨14,x.name,x.line,x.col⟩)) j.1) ?_ ?_
 ·(try simp only[go_sem,hc,hi,ix,n0])
  (refine bP λq hq=>?_);have f1:=aM hc (aJ hq)
  (try simp only[go_sem,hc,f1,hq,hi,ix,n0])
  obtain⟨S0,B,bd,bj⟩:=gZ s q (.cells 50 x.cs) (aJ hq)
  try simp only[go_sem]at bj B
  rw[bj];clear bj;have m:BX c d [(q,50,x.cs)] s o S0:=BX.add (L:=[]) ⟨c5,λb hb=>(by cases hb),OV.of (aC s),hz⟩ bd f1.1 (by simp only[go_sem];exact B);have G:=bd.ob _ _ hc;clear hq f1
  (try simp only[go_sem,G,B,ix,n0])
  rw[<-lC,<-hM];refine⟨λz hz=>aWv hz,Nat.le_of_lt ix,?_⟩;generalize hQ:bC (M.any λz=>decide (x.name=z.name)) ⟨14,x.name,x.line,x.col⟩=Q
  refine Ex.loop (ι:=Nat × Option Fault × St) (λk=>[(0,.ptr c 0),(4,.ptr q 0),(44,.list none (M.map Rul.enc)),(45,.int .i64 (M.length:Nat)),(46,.int .i64 (k.1:Nat))]) (λk=>k.2.2)
   (λk=>k.1<=M.length/\BX c d [(q,50,x.cs)] s k.2.1 k.2.2/\k.2.1=aH o (bC ((M.take k.1).any λz=>decide (x.name=z.name)) ⟨14,x.name,x.line,x.col⟩)) (λk=>M.length-k.1) (0,o,S0) ⟨aN _,m,(jG o).symm⟩ ?_ (by exact aC _) ?_
  .simp only[go_sem,G,B]
   try exact rfl
   try exact⟨rfl,rfl⟩
  .clear G B m bd;rintro⟨j,o2,S2⟩ ⟨hj,m,b5⟩;simp only at hj m b5;refine aQ (V:=kM) _ _ _ _ ?_;have G:=m.gck;have B:=m.g0;simp only[go_sem,bU]at G B;simp only[go_sem,G,B]
   (apply aI<;>intro h)<;>simp only[go_sem,h,G,B]
   .have jx:j<M.length:=gQ h;clear h;obtain⟨z,hz⟩:=aU jx;have zm:=bA hz
    (try simp only[go_sem,hz,jx,G,B])
    (refine bP λz1 H=>?_);have e1:=aM G (aJ H);have e2:=aM B (aJ H)
    (try simp only[go_sem,G,B,hz,jx,H,e1,e2])
    obtain⟨S3,Y,U,Z⟩:=gZ S2 z1 (.cells 50 z.cs) (aJ H)
    try simp only[go_sem]at Z Y
    rw[Z];clear Z;have T:=m.to U;have B:=U.ob _ _ B;have G:=U.ob _ _ G;clear H e1 e2
    (try simp only[go_sem,G,B,Y])
    have et:((M.take (j+1)).any λz=>decide (x.name=z.name))=(((M.take j).any λz=>decide (x.name=z.name))||decide (x.name=z.name)):=by rw[dC hz,oY,oZ,aJe,iZ]
    cases c1:decide (x.name=z.name)<;>(try simp only[go_sem,G,B,Y,c1])
    .exact⟨(j+1,o2,S3),⟨jx,T,by rw[et,c1,iZ];exact b5⟩,bD,aR j aB,aC _⟩
    .refine eA ⟨14,x.name,x.line,x.col⟩ T.gck T.nz ?_
     (try simp only[go_sem])
     exact⟨(j+1,aH o2 (some ⟨14,x.name,x.line,x.col⟩),S3.setO c _),⟨jx,T.fail,by rw[et,c1,b5];exact aHH o _ true _⟩,bD,aR j aB,aC _⟩
   .have je:=bI hj h;clear h;subst je;simp only[bK]at b5;rw[hQ]at b5;exact⟨(S2,q),m.eqo b5,rfl,aC _⟩
 generalize bC (M.any λz=>decide (x.name=z.name)) ⟨14,x.name,x.line,x.col⟩=Q at hk⊢;rw[<-dR]at hk;generalize aH o Q=o1 at hk⊢;clear hM cq bw hc c5 hz;rintro⟨S,q⟩ m;simp only at m;simp only[eV,eS];refine Ex.cut (V:=kM) 1 (ι:=St) (λj=>[(0,.ptr c 0),(4,.ptr q 0)]) (λj=>j) (λj=>BX c d [(q,50,x.cs)] s (aH o1 (bC (decide (x.parts.length=0)) ⟨15,x.name,x.line,x.col⟩)) j) ?_ ?_
 .have G:=m.gck;have B:=m.g0;simp only[go_sem,bU]at G B;have e0:decide ((x.parts.length:Int)=0)=decide (x.parts.length=0):=bW.2 aB
  (try simp only[go_sem,G,B,e0])
  cases c1:decide (x.parts.length=0)<;>(try simp only[go_sem,G,B,c1])
  .exact⟨S,m.none,aC _⟩
  .refine eA ⟨15,x.name,x.line,x.col⟩ m.gck m.nz ?_
   (try simp only[go_sem])
   exact⟨S.setO c _,m.fail,aC _⟩
 have bc:aH o1 (bC (decide (x.parts.length=0)) ⟨15,x.name,x.line,x.col⟩)=none->x.parts≠[]:=λh e=>by
  rw[e]at h;cases o1<;>cases h
 generalize bC (decide (x.parts.length=0)) ⟨15,x.name,x.line,x.col⟩=Q at hk bc⊢;rw[<-dR]at hk;generalize aH o1 Q=o2 at hk bc⊢;clear m S;rintro S m;simp only[eV,eS]
 refine Ex.cut (V:=kM) 3 (ι:=(St × Option Fault) × Option Nat × Option Nat × Option Nat) (λj=>[(0,.ptr c 0),(4,.ptr q 0),(7,gv j.2.1 ((x.parts.map Part.left).map Tm.enc)),(8,gv j.2.2.1 ((x.parts.flatMap Part.right).map Tm.enc)),(9,gv j.2.2.2 ((x.parts.map Part.at_).map .str))]) (λj=>gs j.1.1 j.2.2.1 (x.parts.flatMap Part.right).length 67)
  (λj=>BX c d [(q,50,x.cs)] s j.1.2 j.1.1/\j.1.2=aH o2 (qR d [] x.parts)/\(j.2.1=none->x.parts=[])/\(j.2.2.2=none->x.parts=[])/\(j.2.2.1=none->(x.parts.flatMap Part.right).length=0)/\∀t,j.2.2.1=some t->j.1.1.getT t=none) ?_ ?_
 .have G:=m.gck;have B:=m.g0;simp only[go_sem,bU]at G B
  (try simp only[go_sem,G,B])
  generalize hQ:aH o2 (qR d [] x.parts)=Q
  refine Ex.loop (ι:=Nat × (St × Option Fault) × Option Nat × Option Nat × Option Nat)
   (λk=>[(0,.ptr c 0),(4,.ptr q 0),(7,gv k.2.2.1 (((x.parts.take k.1).map Part.left).map Tm.enc)),(8,gv k.2.2.2.1 (((x.parts.take k.1).flatMap Part.right).map Tm.enc)),(9,gv k.2.2.2.2 (((x.parts.take k.1).map Part.at_).map .str)),(77,.list none (x.parts.map Part.enc)),(78,.int .i64 (x.parts.length:Nat)),(79,.int .i64 (k.1:Nat))])
   (λk=>fF k.2.1.1 (qX x k.1 k.2.2))
   (λk=>k.1<=x.parts.length/\BX c d [(q,50,x.cs)] s k.2.1.2 k.2.1.1/\aH k.2.1.2 (qR d (x.parts.take k.1) (x.parts.drop k.1))=Q/\OwnOk k.2.1.1 (qX x k.1 k.2.2)) (λk=>x.parts.length-k.1) (0,(S,o2),none,none,none)
   ⟨aN _,m,hQ,⟨fun a ha t ht => (by simp only [qX,cR,gX,dW] at ha; rcases ha with rfl | rfl | rfl <;> cases ht),fun a ha _ => (by simp only [qX,cR,gX,dW] at ha; rcases ha with rfl | rfl | rfl <;> rfl),fun a b e f t h1 h2 h3 => (by
    have:=bA h1;simp only[qX,cR,gX,dW]at this;rcases this with rfl|rfl|rfl<;>cases h3)⟩⟩ ?_ (by exact aC _) ?_
  .simp only[go_sem,G,B];exact⟨rfl,rfl,rfl,rfl⟩
  .clear G B m hQ;rintro⟨j,⟨S2,o3⟩,tl,tr,ta⟩ ⟨hj,m,hI,hO⟩;simp only at hj m hI hO;refine aQ (V:=kM) _ _ _ _ ?_;have G:=m.gck;have B:=m.g0;simp only[go_sem,bU]at G B;simp only[go_sem,G,B]
   (apply aI<;>intro h)<;>simp only[go_sem,h,G,B]
   .have jx:j<x.parts.length:=gQ h;clear h;obtain⟨y,O⟩:=aU jx;have ym:=bA O
    (try simp only[go_sem,O,jx,G,B])
    intro z1 H;rw[pY]at H;have e1:=aM G H;have e2:=aM B H;simp only[go_sem,G,B,O,jx,H,e1,e2];have Y:(S2.setO z1 (.cells 101 y.cs)).getO z1=some (.cells 101 y.cs):=by rw[aX,aF rfl]
    have T:=m.add (aZ H (aC _)) e1.1 Y;have b6:OwnOk (S2.setO z1 (.cells 101 y.cs)) (qX x j (tl,tr,ta)):=hO.to λ_=>rfl
    generalize bf:S2.setO z1 (.cells 101 y.cs)=S3 at T b6;simp only[go_sem]at bf;rw[bf];clear bf m hO Y H e1 e2 G B;rw[aQ0 O,<-dR,<-dC O]at hI;have cg:=T.nz;have G:=T.gck;have gz:=T.g0;have B:=T.g1;simp only[go_sem,bU]at G B gz
    (try simp only[go_sem,G,B,gz])
    refine uU (by rw[pY];exact T.gck) T.nz ?_;rcases o3 with _|f
    rotate_left
    focus
     (try simp only[go_sem,G,B,gz,qG])
     have m4:=T;have b7:=b6;have b9:aH (some f) (qR d (x.parts.take (j+1)) (x.parts.drop (j+1)))=Q:=hI;generalize some f=o4 at m4 b9;clear T b6 cg hI
     rename St=>S4
    rotate_left
    focus
     (try simp only[go_sem,G,B,gz,yJ])
     have fj:(aP (y.left::y.right)).length<=4294967000:=by
      have h1:=aB7 (λp:Part=>p.left::p.right) ym;have h2:=hB.pr;rw[fD,dP,aG]at h2;omega
     have bv:=iP (y.left::y.right);rw[bB]at bv;refine cJ (aQU x j y O (by rw[pY];exact T.gck) T.nz ho hm hw hB.pl aB (λt ht=>hB.tm t (gN _ (jV.2 ⟨y,ym,ht⟩))) (by have:=wO (x:=y.left) (bY (l:=y.right));omega) ?_);have m4:=T.set (cY lP (aLX (d:=d) (b:=x.parts.take j) (x:=y)));have b7:OwnOk (S3.setO c (bU d (aH none (tZ d (x.parts.take j) y)))) (qX x j (tl,tr,ta)):=b6.to λ_=>rfl
     have cf:c≠z1:=(T.gb _ (bY ..)).1;have cd:c≠q:=(T.tl.gb _ (bY ..)).1
     (try simp only[go_sem,G,B,gz,cf,cd])
     generalize S3.setO c (bU d (aH none (tZ d (x.parts.take j) y)))=S4 at m4 b7⊢;have b9:=hI;generalize aH none (tZ d (x.parts.take j) y)=o4 at m4 b9;clear T b6 cg hI G B gz cf cd;have G:=m4.gck;have gz:=m4.g0;have B:=m4.g1;simp only[go_sem,bU]at G B gz
    all_goals
     have fh:=hB.pl;have f0:=hB.pr
     have bk:((x.parts.take (j+1)).flatMap Part.right).length<=4294967000:=by
      have h1:=aGE (x.parts.take (j+1));have h2:=iP (fD x)
      have h3:((x.parts.take (j+1)).flatMap λp=>p.left::p.right).length<=(x.parts.flatMap λp=>p.left::p.right).length:=by
       conv=>rhs;rw[<-lA (j+1) x.parts,qF,aG]
       omega
      rw[fD,aG]at h2;rw[fD]at f0;omega
     rw[tE O,aG]at bk;have cp:=gz;have cm:=G;have cn:=B;have bg:=aC (fF S4 (qX x j (tl,tr,ta)));generalize b1:((x.parts.take j).map Part.left)=A1 at *;generalize b4:((x.parts.take j).flatMap Part.right)=A2 at *;generalize bb:((x.parts.take j).map Part.at_)=A3 at *;have eL:qX x j (tl,tr,ta)=[(tl,A1.length,67),(tr,A2.length,67),(ta,A3.length,9)]:=by unfold qX;rw[b1,b4,bb]
     rw[eL]at b7 bg⊢;have l1:A1.length<=j:=by rw[<-b1,aW,dG];omega
     have l3:A3.length<=j:=by rw[<-bb,aW,dG];omega
     refine⟨by decide,λy O=>(by rw[bS.1 O];rfl),fJ rfl rfl (by rw[aW];exact aHS b7 bg (k:=0) (o:=(tl,A1.length,67)) rfl) (λy O=>hU O) (by simp only[aW,bB,bQ];omega) (λu1 f2=>?_)⟩;obtain⟨bz,b2⟩:OwnOk S4 [(some u1,A1.length+1,67),(tr,A2.length,67),(ta,A3.length,9)]/\((fF S4 [(tl,A1.length,67),(tr,A2.length,67),(ta,A3.length,9)]).setT u1 (A1.length+1,67)).ge (fF S4 [(some u1,A1.length+1,67),(tr,A2.length,67),(ta,A3.length,9)]):=aHa b7 bg (k:=0) (o:=(tl,A1.length,67)) rfl f2;have en:(A1.map Tm.enc).length=A1.length:=aW _;simp only[en,rB];generalize St.setT _ u1 _=S5 at b2;have gz:=b2.ob _ _ (show(fF S4 _).getO z1=_ by rw[pY];exact gz);have G:=b2.ob _ _ (show(fF S4 _).getO c=_ by rw[pY];exact G);have B:=b2.ob _ _ (show(fF S4 _).getO q=_ by rw[pY];exact B)
     (try simp only[go_sem,G,B,gz])
     refine⟨by decide,λy O=>hU O,fJ rfl rfl (by rw[aW];exact aHS bz b2 (k:=1) (o:=(tr,A2.length,67)) rfl) (λy O=>hU O) (by simp only[aW];omega) (λu2 f3=>?_)⟩;obtain⟨c0,b3⟩:OwnOk S4 [(some u1,A1.length+1,67),(some u2,A2.length+y.right.length,67),(ta,A3.length,9)]/\(S5.setT u2 (A2.length+y.right.length,67)).ge (fF S4 [(some u1,A1.length+1,67),(some u2,A2.length+y.right.length,67),(ta,A3.length,9)]):=aHa bz b2 (k:=1) (o:=(tr,A2.length,67)) rfl f3;have en:(A2.map Tm.enc).length=A2.length:=aW _;have cl:(y.right.map Tm.enc).length=y.right.length:=aW _;simp only[en,cl];generalize St.setT _ u2 _=S6 at b3;have gz:=b3.ob _ _ (show(fF S4 _).getO z1=_ by rw[pY];exact cp);have G:=b3.ob _ _ (show(fF S4 _).getO c=_ by rw[pY];exact cm);have B:=b3.ob _ _ (show(fF S4 _).getO q=_ by rw[pY];exact cn)
     (try simp only[go_sem,G,B,gz])
     refine⟨by decide,λy O=>(by rw[bS.1 O];rfl),fJ rfl rfl (by rw[aW];exact aHS c0 b3 (k:=2) (o:=(ta,A3.length,9)) rfl) (λy O=>eI O) (by simp only[aW,bB,bQ];omega) (λu3 f4=>?_)⟩;obtain⟨c3,bh⟩:OwnOk S4 [(some u1,A1.length+1,67),(some u2,A2.length+y.right.length,67),(some u3,A3.length+1,9)]/\(S6.setT u3 (A3.length+1,9)).ge (fF S4 [(some u1,A1.length+1,67),(some u2,A2.length+y.right.length,67),(some u3,A3.length+1,9)]):=aHa c0 b3 (k:=2) (o:=(ta,A3.length,9)) rfl f4;have en:(A3.map A.str).length=A3.length:=aW _;simp only[en,rB];generalize St.setT _ u3 _=S7 at bh
     have ck:qX x (j+1) (some u1,some u2,some u3)=[(some u1,A1.length+1,67),(some u2,A2.length+y.right.length,67),(some u3,A3.length+1,9)]:=by
      unfold qX;rw[wM O,tE O,wM O,b1,b4,bb,aG,aG,aG];rfl
     rw[<-ck]at c3 bh
     (try simp only[go_sem])
     refine⟨(j+1,(S4,o4),some u1,some u2,some u3),⟨jx,m4.tl,b9,c3⟩,bD,⟨?_,?_,?_,aR j aB⟩,bh⟩
     .rw[wM O,b1,cB];simp only[gv,cC,eZ,fZ,Tm.cs,bL,bE]
     .rw[tE O,b4,cB];rfl
     .rw[wM O,bb,cB];rfl
   .have je:=bI hj h;clear h;subst je;simp only[qX,bK]at hO⊢;refine⟨((S2,o3),tl,tr,ta),⟨m,?_,?_,?_,?_,?_⟩,⟨rfl,rfl,rfl⟩,aU9 hO (k:=1) rfl⟩
    .rw[dB (bF _),qR,jG]at hI;exact hI
    .intro h;have:=hO.nil _ (bY ..) h;simpa using this
    .intro h;have:=hO.nil _ (cZ _ (cZ _ (bY ..))) h;simpa using this
    .intro h;exact hO.nil _ (cZ _ (bY ..)) h
    .exact hO.free _ (cZ _ (bY ..))
 generalize hQ:aH o2 (qR d [] x.parts)=o3;rw[<-dR,hQ]at hk;have bp:o3=none->x.parts≠[]:=λh=>bc (by rw[h]at hQ;cases o2 with|none=>rfl|some f=>cases hQ)
 clear hQ bc m S;rintro⟨⟨S,oo⟩,tl,tr,ta⟩ ⟨m,rfl,br,bq,bt,bl⟩;simp only at m br bq bt bl;simp only[eV,eS]
 refine Ex.cut (V:=kM) 2 (ι:=St × Nat) (λj=>[(0,.ptr c 0),(4,.ptr q 0),(7,gv tl ((x.parts.map Part.left).map Tm.enc)),(8,.list (some j.2) ((dL x).map Tm.enc)),(9,gv ta ((x.parts.map Part.at_).map .str))]) (λj=>j.1)
  (λj=>BX c d [(q,50,x.cs)] s oo j.1) ?_ ?_
 .have hnl:=hB.nl
  have c9:(dL x).length<=4294967000:=by
   have h1:=aUm x;have h2:=iP (fD x);have h3:=hB.pr;omega
  unfold dL at c9;simp only[aG]at c9;have G:=m.gck;have B:=m.g0;simp only[go_sem,bU]at G B
  (try simp only[go_sem,G,B])
  refine⟨by decide,λy O=>hU O,fJ rfl rfl (by rw[aW];exact iS bt) (λy O=>hU O) (by simp only[aW];omega) (λu hu=>?_)⟩;have cw:=kB hu bl;rw[kF hu]
  (try simp only[go_sem,G,B])
  refine Ex.loop (ι:=Nat) (λk=>[(0,.ptr c 0),(4,.ptr q 0),(7,gv tl ((x.parts.map Part.left).map Tm.enc)),(8,.list (some u) ((x.parts.flatMap Part.right++x.cond++(x.new.take k).flatMap Fresh.cells).map Tm.enc)),(9,gv ta ((x.parts.map Part.at_).map .str)),(110,.list none (x.new.map Fresh.enc)),(111,.int .i64 (x.new.length:Nat)),(112,.int .i64 (k:Nat))])
   (λk=>S.setT u ((x.parts.flatMap Part.right++x.cond++(x.new.take k).flatMap Fresh.cells).length,67)) (λk=>k<=x.new.length) (λk=>x.new.length-k) 0 (aN _) ?_ ?_ ?_
  .simp only[go_sem,G,B];simp only[iD,rV,cK,cB];exact⟨trivial,rfl⟩
  .simp only[iD,rV,cK,aG];exact aC _
  .intro j hj;refine aQ (V:=kM) _ _ _ _ ?_;simp only[go_sem,G,B]
   (apply aI<;>intro h)<;>simp only[go_sem,h,G,B]
   .have jx:j<x.new.length:=gQ h;clear h;obtain⟨y,O⟩:=aU jx;have ym:=bA O
    (try simp only[go_sem,O,jx,G,B])
    (refine bP λz1 H=>?_);have e1:=aM G (aJ H);have e2:=aM B (aJ H)
    (try simp only[go_sem,G,B,O,jx,H,e1,e2])
    have bk:((x.new.take (j+1)).flatMap Fresh.cells).length<=(x.new.flatMap Fresh.cells).length:=by
     conv=>rhs;rw[<-lA (j+1) x.new,qF,aG]
     omega
    rw[tE O,aG]at bk;refine⟨by decide,λy O=>hU O,λy O=>hU O,by simp only[aG];omega,j+1,jx,by omega,⟨by rw[tE O];simp only[cB,dO],aR j aB⟩,?_⟩;rw[tE O,tF];have e:(x.parts.flatMap Part.right++x.cond++((x.new.take j).flatMap Fresh.cells++y.cells)).length=(x.parts.flatMap Part.right++x.cond++(x.new.take j).flatMap Fresh.cells).length+y.cells.length:=by simp only[aG];omega
    rw[e];exact dV (aZ H (aC _))
   .have je:=bI hj h;clear h;subst je;simp only[bK];exact⟨(_,u),m.to (aM3 cw),⟨rfl,rfl⟩,aC _⟩
 simp only at hk bp;clear m S bt bl tr;rintro⟨S,ur⟩ m;simp only at m;simp only[eV,eS];cases oo with
 | some f =>
  refine aQ (V:=kM) _ _ _ _ ?_;have G:=m.gck;have B:=m.g0;simp only[go_sem,bU]at G B;simp only[go_sem,G,B];refine uU m.gck m.nz ?_
  (try simp only[go_sem,qG])
  exact aD hk (m.ov.fin m.gck)
 | none =>
 have bn:=bp rfl;obtain⟨ul,rfl⟩:∃u,tl=some u:=by cases tl with|none=>exact cG (br rfl) bn|some u=>exact⟨u,rfl⟩
 obtain⟨ua,rfl⟩:∃u,ta=some u:=by cases ta with|none=>exact cG (bq rfl) bn|some u=>exact⟨u,rfl⟩
 clear bp br bq;have hk:KV (s.setO c (bU d (aDO d x))) (.tuple []):=hk;refine Ex.cut (V:=kM) 1 (ι:=Unit) (λ_=>[(0,.ptr c 0),(4,.ptr q 0),(7,.list (some ul) ((fH x).map Tm.enc)),(8,.list (some ur) ((dL x).map Tm.enc)),(9,.list (some ua) ((x.parts.map Part.at_).map .str))]) (λ_=>S) (λ_=>True) ?_ ?_
 .have G:=m.gck;have B:=m.g0;simp only[go_sem,bU]at G B
  (try simp only[go_sem,G,B])
  refine uU m.gck m.nz ?_
  (try simp only[go_sem,yJ])
  exact⟨(),⟨rfl,rfl⟩,aC _⟩
 rintro⟨⟩ -;have cz:=aUl x;have fb:=hB.pr;have hW:=aMZ hB.tm;have fg:=iP (fD x)
 have c8:(fH x).length+(dL x).length<=4294967000:=by
  have h1:=iP (fH x++dL x);rw[aG]at h1;omega
 have hnl:=hB.nl;have fd:=hB.dl;unfold aDO at hk;simp only[eV,eS];refine Ex.cut (V:=kM) 1 (ι:=St) (λ_=>[(0,.ptr c 0),(4,.ptr q 0),(7,.list (some ul) ((fH x).map Tm.enc)),(8,.list (some ur) ((dL x).map Tm.enc)),(9,.list (some ua) ((x.parts.map Part.at_).map .str))]) (λj=>j) (λj=>BX c d [(q,50,x.cs)] s (iJ 16 (oQ (fH x++dL x)) x.line x.col) j) ?_ ?_
 .have G:=m.gck;have B:=m.g0;simp only[go_sem,bU]at G B
  (try simp only[go_sem,G,B])
  refine⟨by decide,λy O=>hU O,mA (tk:=none) (es:=[]) (λ_=>rfl) (λt h=>by cases h) (λy O=>by cases O) (by simp only[aW,bQ];omega) (λf7 b1 c6=>?_)⟩
  (try simp only[go_sem,G,B])
  refine⟨by decide,λy O=>hU O,mA (λh=>by simpa using b1 h) (λt ht=>by rw[tK t ht];simp) (λy O=>hU (gQ O)) (by simp only[aW,bQ,bE];omega) (λcj b4 c7=>?_)⟩
  obtain⟨t2,rfl⟩:∃t,cj=some t:=by
   cases cj with
   | some t=>exact⟨t,rfl⟩
   | none =>
    have h1:=b4 rfl;simp only[bE,List.append_eq_nil_iff,List.map_eq_nil_iff,fH]at h1;exact cG h1.1 bn
  generalize c4:gs (gs S f7 _ _) (some t2) _ _=S2;have bm:S2.ge S:=by rw[<-c4];exact vC (aC _) c6 (λt h=>(c7 t h).imp id (λh=>⟨_,h⟩))
  clear c4 b1 c6 b4 c7;have m2:=m.to bm;have G:=bm.ob _ _ G;have B:=bm.ob _ _ B
  (try simp only[go_sem,G,B,ev])
  refine aMf (fH x++dL x) (by simp only[cB,bE]) hW aB ?_
  (try simp only[go_sem,G,B])
  generalize oQ (fH x++dL x)=Q;obtain⟨v,b⟩:=Q;cases b<;>(try simp only[go_sem,G,B])
  .exact⟨S2,by rw[iJ,aE (λh=>by cases h)];exact m2,aC _⟩
  .refine eA ⟨16,v,x.line,x.col⟩ m2.gck m2.nz ?_
   (try simp only[go_sem])
   exact⟨S2.setO c _,by rw[iJ,aF rfl];exact m2.fail,aC _⟩
 generalize (iJ 16 (oQ (fH x++dL x)) x.line x.col)=o1 at hk⊢;clear m S;rintro S m;simp only[eV,eS];refine Ex.cut (V:=kM) 1 (ι:=St) (λ_=>[(0,.ptr c 0),(4,.ptr q 0),(9,.list (some ua) ((x.parts.map Part.at_).map .str))]) (λj=>j) (λj=>BX c d [(q,50,x.cs)] s (aH o1 (iJ 17 (oG (dL x) (fH x)) x.line x.col)) j) ?_ ?_
 .have G:=m.gck;have B:=m.g0;simp only[go_sem,bU]at G B
  (try simp only[go_sem,G,B])
  refine aKW (dL x) (fH x) rfl rfl (λt ht=>hW t (bT.2 (bT.1 ht).symm)) (by rw[dP,aG]at cz;omega) ?_
  (try simp only[go_sem,G,B])
  generalize oG (dL x) (fH x)=Q;obtain⟨v,b⟩:=Q;cases b<;>(try simp only[go_sem,G,B])
  .exact⟨S,by rw[iJ,aE (λh=>by cases h)];exact m.none,aC _⟩
  .refine eA ⟨17,v,x.line,x.col⟩ m.gck m.nz ?_
   (try simp only[go_sem])
   exact⟨S.setO c _,by rw[iJ,aF rfl];exact m.fail,aC _⟩
 generalize (iJ 17 (oG (dL x) (fH x)) x.line x.col)=P at hk⊢;rw[<-dR]at hk;generalize aH o1 P=o2 at hk⊢;clear m S;rintro S m;simp only[eV,eS];have ct:∀t,t∈x.cond->TmW t:=λt ht=>hW t (by simp only[dL,bT];exact .inr (.inl (.inr ht)))
 have fc:x.cond.length<=4294967000:=by simp only[dL,aG]at c8;omega
 refine Ex.cut (V:=kM) 1 (ι:=St) (λ_=>[(0,.ptr c 0),(4,.ptr q 0),(9,.list (some ua) ((x.parts.map Part.at_).map .str))]) (λj=>j) (λj=>BX c d [(q,50,x.cs)] s (aH o2 (bO (λt=>bC (!(dM d.sig t&&eH d.sig t [66,111,111,108])) ⟨16,x.name,x.line,x.col⟩) x.cond)) j) ?_ ?_
 .have G:=m.gck;have B:=m.g0;simp only[go_sem,bU]at G B
  (try simp only[go_sem,G,B])
  generalize hQ:aH o2 (bO (λt=>bC (!(dM d.sig t&&eH d.sig t [66,111,111,108])) ⟨16,x.name,x.line,x.col⟩) x.cond)=Q
  refine Ex.loop (ι:=Nat × Option Fault × St) (λk=>[(0,.ptr c 0),(4,.ptr q 0),(9,.list (some ua) ((x.parts.map Part.at_).map .str)),(156,.list none ((x.cond).map Tm.enc)),(157,.int .i64 ((x.cond).length:Nat)),(158,.int .i64 (k.1:Nat))]) (λk=>k.2.2)
   (λk=>k.1<=(x.cond).length/\BX c d [(q,50,x.cs)] s k.2.1 k.2.2/\aH k.2.1 (bO (λt=>bC (!(dM d.sig t&&eH d.sig t [66,111,111,108])) ⟨16,x.name,x.line,x.col⟩) (x.cond.drop k.1))=Q) (λk=>(x.cond).length-k.1) (0,o2,S) ⟨aN _,m,hQ⟩ ?_ (by exact aC _) ?_
  .simp only[go_sem,G,B]
   first|exact rfl|exact⟨rfl,rfl⟩
  .clear G B m hQ;rintro⟨j,o',S2⟩ ⟨hj,m,hI⟩;simp only at hj m hI;refine aQ (V:=kM) _ _ _ _ ?_;have G:=m.gck;have B:=m.g0;simp only[go_sem,bU]at G B;simp only[go_sem,G,B]
   (apply aI<;>intro h)<;>simp only[go_sem,h,G,B]
   .have jx:j<x.cond.length:=gQ h;clear h;obtain⟨y,O⟩:=aU jx;have ym:=bA O
    (try simp only[go_sem,O,jx,G,B])
    (refine bP λz1 H=>?_);have e1:=aM G (aJ H);have e2:=aM B (aJ H)
    (try simp only[go_sem,G,B,O,jx,H,e1,e2])
    obtain⟨S3,Y,U,Z⟩:=gZ S2 z1 (.cells 67 y.cs) (aJ H)
    try simp only[go_sem]at Z Y
    rw[Z];clear Z;have T:=m.to U;have B:=U.ob _ _ B;have G:=U.ob _ _ G;clear H e1 e2
    (try simp only[go_sem,G,B,Y])
    rw[gM O,bO]at hI;(refine bX (OT.r 0 14) [(6,[10])] ?_;simp only[go_sem,G,B,Y]);refine cJ (wL d.sig hw y (ct y ym) ?_);cases c1:dM d.sig y<;>(try simp only[go_sem,G,B,Y])<;>rw[c1]at hI
    .refine eA ⟨16,x.name,x.line,x.col⟩ T.gck T.nz ?_
     (try simp only[go_sem])
     exact⟨(j+1,_,_),⟨jx,T.fail,oh hI⟩,bD,aR j aB,aC _⟩
    .refine cJ (yL y [66,111,111,108] T.gck hw ?_);cases c2:eH d.sig y [66,111,111,108]<;>(try simp only[go_sem,G,B,Y])<;>rw[c2]at hI
     .refine eA ⟨16,x.name,x.line,x.col⟩ T.gck T.nz ?_
      (try simp only[go_sem])
      exact⟨(j+1,_,_),⟨jx,T.fail,oh hI⟩,bD,aR j aB,aC _⟩
     .exact⟨(j+1,o',S3),⟨jx,T,hI⟩,bD,aR j aB,aC _⟩
   .have je:=bI hj h;clear h;subst je;rw[dB (bF _),bO,jG]at hI;exact⟨S2,m.eqo hI,aC _⟩
 generalize (bO (λt=>bC (!(dM d.sig t&&eH d.sig t [66,111,111,108])) ⟨16,x.name,x.line,x.col⟩) x.cond)=P at hk⊢;rw[<-dR]at hk;generalize aH o2 P=o3 at hk⊢;clear m S;rintro S m;simp only[eV,eS];refine Ex.cut (V:=kM) 1 (ι:=St) (λ_=>[(0,.ptr c 0),(4,.ptr q 0),(9,.list (some ua) ((x.parts.map Part.at_).map .str))]) (λj=>j) (λj=>BX c d [(q,50,x.cs)] s (aH o3 (bO (λy:Fresh=>bC (decide (d.kind=[])||!decide (y.cells.length=d.many.length)) ⟨15,x.name,x.line,x.col⟩) x.new)) j) ?_ ?_
 .have G:=m.gck;have B:=m.g0;simp only[go_sem,bU]at G B
  (try simp only[go_sem,G,B])
  generalize hQ:aH o3 (bO (λy:Fresh=>bC (decide (d.kind=[])||!decide (y.cells.length=d.many.length)) ⟨15,x.name,x.line,x.col⟩) x.new)=Q
  refine Ex.loop (ι:=Nat × Option Fault × St) (λk=>[(0,.ptr c 0),(4,.ptr q 0),(9,.list (some ua) ((x.parts.map Part.at_).map .str)),(186,.list none ((x.new).map Fresh.enc)),(187,.int .i64 ((x.new).length:Nat)),(188,.int .i64 (k.1:Nat))]) (λk=>k.2.2)
   (λk=>k.1<=(x.new).length/\BX c d [(q,50,x.cs)] s k.2.1 k.2.2/\aH k.2.1 (bO (λy:Fresh=>bC (decide (d.kind=[])||!decide (y.cells.length=d.many.length)) ⟨15,x.name,x.line,x.col⟩) (x.new.drop k.1))=Q) (λk=>(x.new).length-k.1) (0,o3,S) ⟨aN _,m,hQ⟩ ?_ (by exact aC _) ?_
  .simp only[go_sem,G,B]
   first|exact rfl|exact⟨rfl,rfl⟩
  .clear G B m hQ;rintro⟨j,o',S2⟩ ⟨hj,m,hI⟩;simp only at hj m hI;refine aQ (V:=kM) _ _ _ _ ?_;have G:=m.gck;have B:=m.g0;simp only[go_sem,bU]at G B;simp only[go_sem,G,B]
   (apply aI<;>intro h)<;>simp only[go_sem,h,G,B]
   .have jx:j<x.new.length:=gQ h;clear h;obtain⟨y,O⟩:=aU jx;have ym:=bA O
    (try simp only[go_sem,O,jx,G,B])
    (refine bP λz1 H=>?_);have e1:=aM G (aJ H);have e2:=aM B (aJ H)
    (try simp only[go_sem,G,B,O,jx,H,e1,e2])
    obtain⟨S3,Y,U,Z⟩:=gZ S2 z1 (.cells 103 y.cs) (aJ H)
    try simp only[go_sem]at Z Y
    rw[Z];clear Z;have T:=m.to U;have B:=U.ob _ _ B;have G:=U.ob _ _ G;clear H e1 e2
    (try simp only[go_sem,G,B,Y])
    rw[gM O,bO]at hI;have e1:decide ((y.cells.length:Int)=(d.many.length:Int))=decide (y.cells.length=d.many.length):=bW.2 aB;cases c1:decide (d.kind=[])<;>rw[c1]at hI
    ·(refine bX (OT.r 0 18) [] ?_;simp only[go_sem,G,B,Y,c1,e1]);cases c2:decide (y.cells.length=d.many.length)<;>(try simp only[go_sem,G,B,Y,c2])<;>rw[c2] at hI
     .refine eA ⟨15,x.name,x.line,x.col⟩ T.gck T.nz ?_
      (try simp only[go_sem])
      exact⟨(j+1,_,_),⟨jx,T.fail,oh hI⟩,bD,aR j aB,aC _⟩
     .exact⟨(j+1,o',S3),⟨jx,T,hI⟩,bD,aR j aB,aC _⟩
    ·(refine bX (OT.r 0 18) [] ?_;simp only[go_sem,G,B,Y,c1]);refine eA ⟨15,x.name,x.line,x.col⟩ T.gck T.nz ?_
     (try simp only[go_sem])
     exact⟨(j+1,_,_),⟨jx,T.fail,oh hI⟩,bD,aR j aB,aC _⟩
   .have je:=bI hj h;clear h;subst je;rw[dB (bF _),bO,jG]at hI;exact⟨S2,m.eqo hI,aC _⟩
 have b0:aH o3 (bO (λy:Fresh=>bC (decide (d.kind=[])||!decide (y.cells.length=d.many.length)) ⟨15,x.name,x.line,x.col⟩) x.new)=none->∀y,y∈x.new->y.cells.length=d.many.length:=λh y O=>by
  have h2:=aKt.1 (aCx.1 h).2 y O;by_cases e:y.cells.length=d.many.length
  .exact e
  .rw[bN e,fN,mP]at h2;cases h2
 generalize (bO (λy:Fresh=>bC (decide (d.kind=[])||!decide (y.cells.length=d.many.length)) ⟨15,x.name,x.line,x.col⟩) x.new)=P at hk b0⊢;rw[<-dR]at hk;generalize aH o3 P=o4 at hk b0⊢;clear m S;rintro S m;simp only[eV,eS];refine Ex.cut (V:=kM) 1 (ι:=St) (λ_=>[(0,.ptr c 0),(4,.ptr q 0),(9,.list (some ua) ((x.parts.map Part.at_).map .str))]) (λj=>j) (λj=>BX c d [(q,50,x.cs)] s (aH o4 (bO (λy:Fresh=>qQ d x.name x.line x.col y.cells d.many) x.new)) j) ?_ ?_
 .have G:=m.gck;have B:=m.g0;simp only[go_sem,bU]at G B
  (try simp only[go_sem,G,B])
  generalize hQ:aH o4 (bO (λy:Fresh=>qQ d x.name x.line x.col y.cells d.many) x.new)=Q
  refine Ex.loop (ι:=Nat × Option Fault × St) (λk=>[(0,.ptr c 0),(4,.ptr q 0),(9,.list (some ua) ((x.parts.map Part.at_).map .str)),(220,.list none (x.new.map Fresh.enc)),(221,.int .i64 (x.new.length:Nat)),(222,.int .i64 (k.1:Nat))]) (λk=>k.2.2)
   (λk=>k.1<=x.new.length/\BX c d [(q,50,x.cs)] s k.2.1 k.2.2/\aH k.2.1 (bO (λy:Fresh=>qQ d x.name x.line x.col y.cells d.many) (x.new.drop k.1))=Q/\(k.2.1=none->∀y,y∈x.new->y.cells.length=d.many.length)) (λk=>x.new.length-k.1) (0,o4,S) ⟨aN _,m,hQ,b0⟩ ?_ (by exact aC _) ?_
  .simp only[go_sem,G,B]
   first|exact rfl|exact⟨rfl,rfl⟩
  .clear G B m hQ b0;rintro⟨j,o',S2⟩ ⟨hj,m,hI,b0⟩;simp only at hj m hI b0;refine aQ (V:=kM) _ _ _ _ ?_;have G:=m.gck;have B:=m.g0;simp only[go_sem,bU]at G B;simp only[go_sem,G,B]
   (apply aI<;>intro h)<;>simp only[go_sem,h,G,B]
   .have jx:j<x.new.length:=gQ h;clear h;obtain⟨y,O⟩:=aU jx;have ym:=bA O
    (try simp only[go_sem,O,jx,G,B])
    (refine bP λz1 H=>?_);have e1:=aM G (aJ H);have e2:=aM B (aJ H)
    (try simp only[go_sem,G,B,O,jx,H,e1,e2])
    obtain⟨S3,Y,U,Z⟩:=gZ S2 z1 (.cells 103 y.cs) (aJ H)
    try simp only[go_sem]at Z Y
    rw[Z];clear Z;have T:=m.to U;have B:=U.ob _ _ B;have G:=U.ob _ _ G;clear H e1 e2
    (try simp only[go_sem,G,B,Y])
    rw[gM O,bO,<-dR]at hI;have bv:o'=none->y.cells.length=d.many.length:=λh=>b0 h y ym
    have fk:y.cells.length<=4294967000:=by
     have:=aTM (f:=Fresh.cells) ym;simp only[dL,aG]at c8;omega
    have f5:∀t,t∈y.cells->TmW t:=λt ht=>hW t (by simp only[dL,bT,jV];exact .inr (.inr ⟨y,ym,ht⟩))
    generalize hR:aH o' (qQ d x.name x.line x.col y.cells d.many)=R at hI;have cr:R=none->o'=none:=λh=>by rw[<-hR]at h;exact(aCx.1 h).1
    refine Ex.loop (ι:=Nat × Option Fault × St) (λk=>[(0,.ptr c 0),(4,.ptr q 0),(9,.list (some ua) ((x.parts.map Part.at_).map .str)),(220,.list none (x.new.map Fresh.enc)),(221,.int .i64 (x.new.length:Nat)),(222,.int .i64 (j:Nat)),(227,.list none (y.cells.map Tm.enc)),(228,.int .i64 (y.cells.length:Nat)),(229,.int .i64 (k.1:Nat))]) (λk=>k.2.2)
     (λk=>k.1<=y.cells.length/\BX c d [(q,50,x.cs)] s k.2.1 k.2.2/\aH k.2.1 (qQ d x.name x.line x.col (y.cells.drop k.1) (d.many.drop k.1))=R/\(k.2.1=none->o'=none)) (λk=>y.cells.length-k.1) (0,o',S3) ⟨aN _,T,hR,id⟩ ?_ (by exact aC _) ?_
    .simp only[go_sem,G,B]
     first|exact rfl|exact⟨rfl,rfl⟩
    .clear G B m T hR U Y;rintro⟨n,ch,S4⟩ ⟨hn,m,hR,b8⟩;simp only at hn m hR b8;refine aQ (V:=kM) _ _ _ _ ?_;have G:=m.gck;have B:=m.g0;simp only[go_sem,bU]at G B;simp only[go_sem,G,B]
     (apply aI<;>intro h)<;>simp only[go_sem,h,G,B]
     .have nx:n<y.cells.length:=gQ h;clear h;obtain⟨z,hz⟩:=aU nx;have zm:=bA hz
      (try simp only[go_sem,hz,nx,G,B])
      (refine bP λz1 H=>?_);have e1:=aM G (aJ H);have e2:=aM B (aJ H)
      (try simp only[go_sem,G,B,hz,nx,H,e1,e2])
      obtain⟨S5,Y,U,Z⟩:=gZ S4 z1 (.cells 67 z.cs) (aJ H)
      try simp only[go_sem]at Z Y
      rw[Z];clear Z;have T:=m.to U;have B:=U.ob _ _ B;have G:=U.ob _ _ G;clear H e1 e2;(refine bX (OT.r 0 27) [(1,[7,8,13,18,22]),(9,[13,18,22])] ?_;simp only[go_sem,G,B,Y]);refine uU T.gck T.nz ?_;cases ch with
      | some f =>
       (try simp only[go_sem,G,B,Y,qG])
       exact⟨(n+1,some f,S5),⟨nx,T,hR,λh=>by cases h⟩,bD,aR n aB,aC _⟩
      | none =>
       have f9:=bv (b8 rfl);have kl:n<d.many.length:=by omega
       have n1:(0:Int)<=(n:Int):=by omega
       obtain⟨w,cb⟩:=aU kl;rw[gM hz,gM cb,qQ]at hR
       (try simp only[go_sem,G,B,Y,yJ])
       refine cJ (wL d.sig hw z (f5 z zm) ?_);cases c1:dM d.sig z<;>(try simp only[go_sem,G,B,Y,cb,kl,n1,qH])<;>rw[c1]at hR
       .refine eA ⟨16,x.name,x.line,x.col⟩ T.gck T.nz ?_
        (try simp only[go_sem])
        exact⟨(n+1,_,_),⟨nx,T.fail,oh hR,λh=>by cases h⟩,bD,aR n aB,aC _⟩
       .refine cJ (yL z w.sort T.gck hw ?_);cases c2:eH d.sig z w.sort<;>(try simp only[go_sem,G,B,Y])<;>rw[c2]at hR
        .refine eA ⟨16,x.name,x.line,x.col⟩ T.gck T.nz ?_
         (try simp only[go_sem])
         exact⟨(n+1,_,_),⟨nx,T.fail,oh hR,λh=>by cases h⟩,bD,aR n aB,aC _⟩
        .exact⟨(n+1,none,S5),⟨nx,T,hR,λ_=>b8 rfl⟩,bD,aR n aB,aC _⟩
     .have ne:=bI hn h;clear h;subst ne;rw[dB (bF _)]at hR;have hR:aH ch none=R:=hR;rw[jG]at hR;exact⟨(j+1,R,S4),⟨jx,m.eqo hR,hI,λh=>b0 (cr h)⟩,bD,aR j aB,aC _⟩
   .have je:=bI hj h;clear h;subst je;rw[dB (bF _),bO,jG]at hI;exact⟨S2,m.eqo hI,aC _⟩
 generalize bO (λy:Fresh=>qQ d x.name x.line x.col y.cells d.many) x.new=P at hk⊢;rw[<-dR]at hk;generalize aH o4 P=o5 at hk⊢;clear m S b0;rintro S m;simp only[eV,eS];refine Ex.cut (V:=kM) 1 (ι:=St) (λ_=>[(0,.ptr c 0),(4,.ptr q 0)]) (λj=>j) (λj=>BX c d [(q,50,x.cs)] s (aH o5 (bO (λn=>bC (decide (n=[])||!decide (n∈x.parts.map Part.at_)) ⟨13,n,x.line,x.col⟩) x.drop)) j) ?_ ?_
 .have G:=m.gck;have B:=m.g0;simp only[go_sem,bU]at G B
  (try simp only[go_sem,G,B])
  generalize hQ:aH o5 (bO (λn=>bC (decide (n=[])||!decide (n∈x.parts.map Part.at_)) ⟨13,n,x.line,x.col⟩) x.drop)=Q
  refine Ex.loop (ι:=Nat × Option Fault × St) (λk=>[(0,.ptr c 0),(4,.ptr q 0),(9,.list (some ua) ((x.parts.map Part.at_).map .str)),(272,.list none (x.drop.map .str)),(273,.int .i64 (x.drop.length:Nat)),(274,.int .i64 (k.1:Nat))]) (λk=>k.2.2)
   (λk=>k.1<=x.drop.length/\BX c d [(q,50,x.cs)] s k.2.1 k.2.2/\aH k.2.1 (bO (λn=>bC (decide (n=[])||!decide (n∈x.parts.map Part.at_)) ⟨13,n,x.line,x.col⟩) (x.drop.drop k.1))=Q) (λk=>x.drop.length-k.1) (0,o5,S) ⟨aN _,m,hQ⟩ ?_ (by exact aC _) ?_
  .simp only[go_sem,G,B]
   first|exact rfl|exact⟨rfl,rfl⟩
  .clear G B m hQ;rintro⟨j,o',S3⟩ ⟨hj,T,hI⟩;simp only at hj T hI;refine aQ (V:=kM) _ _ _ _ ?_;have G:=T.gck;have B:=T.g0;simp only[go_sem,bU]at G B;simp only[go_sem,G,B]
   (apply aI<;>intro h)<;>simp only[go_sem,h,G,B]
   .have jx:j<x.drop.length:=gQ h;clear h;obtain⟨y,O⟩:=aU jx;have ym:=bA O
    (try simp only[go_sem,O,jx,G,B])
    rw[gM O,bO]at hI;cases c1:decide (y=[])<;>(try simp only[go_sem,G,B,c1])<;>rw[c1]at hI
    .refine gL (show gO _ [.list none ((x.parts.map Part.at_).map .str),.str y] from⟨A.le.forget _ _,cN _,trivial⟩) (lZ (x.parts.map Part.at_) y ?_);cases c2:decide (y∈x.parts.map Part.at_)<;>(try simp only[go_sem,G,B])<;>rw[c2]at hI
     .refine eA ⟨13,y,x.line,x.col⟩ T.gck T.nz ?_
      (try simp only[go_sem])
      exact⟨(j+1,_,_),⟨jx,T.fail,oh hI⟩,bD,aR j aB,aC _⟩
     .exact⟨(j+1,o',S3),⟨jx,T,hI⟩,bD,aR j aB,aC _⟩
    .refine eA ⟨13,y,x.line,x.col⟩ T.gck T.nz ?_
     (try simp only[go_sem])
     exact⟨(j+1,_,_),⟨jx,T.fail,oh hI⟩,bD,aR j aB,aC _⟩
   .have je:=bI hj h;clear h;subst je;rw[dB (bF _),bO,jG]at hI;exact⟨S3,T.eqo hI,aC _⟩
 generalize (bO (λn=>bC (decide (n=[])||!decide (n∈x.parts.map Part.at_)) ⟨13,n,x.line,x.col⟩) x.drop)=P at hk⊢;rw[<-dR]at hk;generalize aH o5 P=o6 at hk⊢;clear m S;rintro S m;simp only[eV,eS];refine aQ (V:=kM) _ _ _ _ ?_;have G:=m.gck;have B:=m.g0;simp only[go_sem,bU]at G B;simp only[go_sem,G,B];generalize hQ:aH o6 (mF x.line x.col [] x.drop)=Q at hk
 refine Ex.loop (ι:=Nat × Option Fault × St) (λk=>[(0,.ptr c 0),(4,.ptr q 0),(295,.list none (x.drop.map .str)),(296,.int .i64 (x.drop.length:Nat)),(297,.int .i64 (k.1:Nat))]) (λk=>k.2.2)
  (λk=>k.1<=x.drop.length/\BX c d [(q,50,x.cs)] s k.2.1 k.2.2/\aH k.2.1 (mF x.line x.col (x.drop.take k.1) (x.drop.drop k.1))=Q) (λk=>x.drop.length-k.1) (0,o6,S) ⟨aN _,m,hQ⟩ ?_ (by exact aC _) ?_
 .simp only[go_sem,G,B]
  first|exact rfl|exact⟨rfl,rfl⟩
 .clear G B m hQ;rintro⟨j,o',S3⟩ ⟨hj,T,hI⟩;simp only at hj T hI;refine aQ (V:=kM) _ _ _ _ ?_;have G:=T.gck;have B:=T.g0;simp only[go_sem,bU]at G B;have n1:(0:Int)<=(j:Int):=by omega
  simp only[go_sem,G,B]
  (apply aI<;>intro h)<;>simp only[go_sem,h,G,B]
  .have jx:j<x.drop.length:=gQ h;clear h;obtain⟨y,O⟩:=aU jx;have ym:=bA O
   (try simp only[go_sem,O,jx,G,B,n1,qH])
   rw[gM O,mF,<-dC O]at hI;rw[<-lC];refine⟨λz hz=>eI hz,Nat.le_of_lt jx,?_⟩;refine lZ (x.drop.take j) y ?_;cases c2:decide (y∈x.drop.take j)<;>(try simp only[go_sem,G,B])<;>rw[c2]at hI
   .exact⟨(j+1,o',S3),⟨jx,T,hI⟩,bD,aR j aB,aC _⟩
   .refine eA ⟨14,y,x.line,x.col⟩ T.gck T.nz ?_
    (try simp only[go_sem])
    exact⟨(j+1,_,_),⟨jx,T.fail,oh hI⟩,bD,aR j aB,aC _⟩
  .have je:=bI hj h;clear h;subst je;rw[dB (bF _),mF,jG]at hI;rw[<-hI]at hk;exact aD hk (T.ov.fin T.gck)
end
end
section
section
variable {s S S':St} {KV Kp:St->A->Prop} {c:Nat} {d:Dfn} {o:Option Fault}
theorem aP3(hl:(hH d).length<=4294967000)(bm:d.once.length+d.many.length<=4294967000)(bp:d.rules.length<=4294967000)(bj:∀r,r∈d.rules->r.parts.length<=4294967000)(hk:KV s (.list none ((hH d).map .str))):Den cx 88 [.agg d.cs] KV Kp s:=by
 (refine gBx func88 ?_;simp only[go_sem,ntmps88,f88]);obtain⟨U,O⟩:∃U,U=[d.name,d.start,d.watch]++(if d.kind=[] then [] else [d.kind]):=⟨_,rfl⟩
 have l0:U.length<=4:=by rw[O];split<;>simp
 refine Ex.cut (V:=aBD) 3 (ι:=St × Nat × Nat) (λj=>[(1,.ptr j.2.2 0),(3,.list (some j.2.1) (U.map .str))]) (λj=>j.1.setT j.2.1 (U.length,9)) (λj=>j.1.getO j.2.2=some (.cells 31 d.cs)/\j.1.ge s/\j.1.getT j.2.1=none) ?_ ?_
 ·(try simp only[go_sem])
  (refine aL λp hp=>?_)
  (try simp only[go_sem,hp])
  refine .inr λu hu=>?_
  have G:(s.setO p (.cells 31 d.cs)).getO p=some (.cells 31 d.cs):=by rw[aX,aF rfl]
  have Z:(s.setO p (.cells 31 d.cs)).ge s:=aZ hp (aC _)
  (try simp only[go_sem,G])
  cases c1:decide (d.kind=[])<;>(try simp only[go_sem,G,c1])
  .refine .inl ?_;rw[aE (of_decide_eq_false c1)]at O
   (try simp only[go_sem,G])
   refine⟨by decide,λy B=>(by rw[bS.1 B];rfl),λy B=>eI (l:=[d.name,d.start,d.watch]) B,(s.setO p (.cells 31 d.cs),u,p),⟨G,Z,hu⟩,⟨rfl,rfl,by rw[O];rfl⟩,?_⟩;rw[O,tF];exact aC _
  .rw[aF (eN c1)]at O;refine⟨(s.setO p (.cells 31 d.cs),u,p),⟨G,Z,hu⟩,⟨rfl,rfl,by rw[O];rfl⟩,?_⟩;rw[O];exact aC _
 rintro⟨S,u,p⟩ ⟨G,Z,hu⟩;simp only at G Z hu;simp only[eV,eS]
 have bh:U.length+(d.once.length+d.many.length)+(d.rules.flatMap jO).length<=4294967000:=by
  unfold hH at hl;rw[<-dO,<-O]at hl;simp only[aG,aW]at hl;omega
 have hN:hH d=U++((d.once++d.many).map Cel.name++d.rules.flatMap jO):=by
  unfold hH;rw[<-dO,<-O]
 rw[hN]at hk;clear hN hl l0 O;have bc:(d.once++d.many).length<=4294967000:=by rw[aG];omega
 refine Ex.cut (V:=aBD) 1 (ι:=Unit) (λ_=>[(1,.ptr p 0),(3,.list (some u) ((U++(d.once++d.many).map Cel.name).map .str))]) (λ_=>S.setT u ((U++(d.once++d.many).map Cel.name).length,9)) (λ_=>True) ?_ ?_
 .have G:=G;simp only[go_sem]at G;(refine bX (OT.l [0,1,2,4,5,8,3,6,7] .nil) [(3,[5])] ?_;simp only[go_sem,G]);refine⟨by decide,λy B=>tI B,aEl (mA (tk:=none) (es:=[]) (λ_=>rfl) (λt h=>by cases h) (λy B=>by cases B) (by simp only[aW,bQ];omega) (λbl b8 b5=>?_))⟩
  (try simp only[go_sem,G])
  refine⟨by decide,λy B=>tI B,aEl (mA (λh=>by simpa using b8 h) (λt ht=>by rw[tK t ht];simp) (λy B=>tI (gQ B)) (by simp only[aW,bQ,bE];omega) (λb0 b3 b6=>?_))⟩
  (try simp only[go_sem,G,aAX b3])
  have b1:b0=none->d.once++d.many=[]:=λh=>by
   have:=b3 h;simpa using this
  have hV:∀(i:Nat) (y:Cel),(d.once++d.many)[i]?=some y->∃u,ev b0 (List.map Cel.enc d.once++List.map Cel.enc d.many)=.list (some u) ((d.once++d.many).map Cel.enc):=λi y B=>by
   cases b0 with
   | none =>
    rw[b1 rfl]at B;cases B
   | some u=>exact⟨u,by rw[cB];rfl⟩
  generalize bf:ev b0 (List.map Cel.enc d.once++List.map Cel.enc d.many)=V at hV⊢;have b7:∀n1 n2,(gs (gs (S.setT u (U.length,9)) bl n1 96) b0 n2 96).ge (S.setT u (U.length,9)):=λn1 n2=>vC (aC _) b5 (λt h=>(b6 t h).imp id (λh=>⟨_,h⟩))
  refine Ex.loop (ι:=Nat) (λk=>[(1,.ptr p 0),(3,.list (some u) ((U++((d.once++d.many).take k).map Cel.name).map .str)),(31,V),(32,.int .i64 ((d.once++d.many).length:Nat)),(33,.int .i64 (k:Nat))]) (λk=>S.setT u ((U++((d.once++d.many).take k).map Cel.name).length,9))
   (λk=>k<=(d.once++d.many).length) (λk=>(d.once++d.many).length-k) 0 (aN _) ?_ ?_ ?_
  .simp only[go_sem,G];exact⟨by simp only[cK],by simp only[aG,aW],rfl⟩
  .simp only[iD,eZ,cK];exact b7 _ _
  .clear b7 b8 b3 b5 b6 bf b1;intro j hj;refine aQ (V:=aBD) _ _ _ _ ?_;simp only[go_sem,G]
   (apply aI<;>intro h)<;>simp only[go_sem,h,G]
   .have jx:j<(d.once++d.many).length:=gQ h;clear h;obtain⟨y,B⟩:=aU jx;have ym:=bA B
    (try simp only[go_sem,B,jx,G])
    obtain⟨v,hv⟩:=hV j y B;simp only[go_sem,G,hv,B,jx];(refine bP λz1 T=>?_);have e1:=aM G (aJ T);simp only[go_sem,G,hv,B,jx,T,e1];refine .inl ?_
    (try simp only[go_sem,G,hv,B,jx,T,e1])
    refine⟨by decide,λy B=>(by rw[bS.1 B];rfl),λy B=>eI B,by simp only[aG,aW,dG];omega,j+1,jx,by omega,⟨by rw[wM B,<-dO,cB (l₂:=[y.name])];rfl,aR j aB⟩,?_⟩;rw[wM B,<-dO,@aG _ _ [y.name],rB,tF];exact dV (aZ T (aC _))
   .have je:=bI hj h;rw[je,bK];exact⟨(),rfl,aC _⟩
 have bd:(U++(d.once++d.many).map Cel.name).length+(d.rules.flatMap jO).length<=4294967000:=by simp only[aG,aW];omega
 rw[<-dO]at hk;generalize U++(d.once++d.many).map Cel.name=N1 at hk bd⊢;clear bh bc U;rintro⟨⟩ -;simp only[eV,eS];refine aQ (V:=aBD) _ _ _ _ ?_;simp only[go_sem]at G;simp only[go_sem,G]
 refine Ex.loop (ι:=Nat) (λk=>[(1,.ptr p 0),(3,.list (some u) ((N1++(d.rules.take k).flatMap jO).map .str)),(44,.list none (d.rules.map Rul.enc)),(45,.int .i64 (d.rules.length:Nat)),(46,.int .i64 (k:Nat))]) (λk=>S.setT u ((N1++(d.rules.take k).flatMap jO).length,9))
  (λk=>k<=d.rules.length) (λk=>d.rules.length-k) 0 (aN _) ?_ ?_ ?_
 .simp only[go_sem,G];exact⟨by simp only[iD,rV,cK],rfl⟩
 .simp only[iD,rV,cK];exact aC _
 .intro j hj;refine aQ (V:=aBD) _ _ _ _ ?_;simp only[go_sem,G]
  (apply aI<;>intro h)<;>simp only[go_sem,h,G]
  .have jx:j<d.rules.length:=gQ h;clear h;obtain⟨y,B⟩:=aU jx;have ym:=bA B
   (try simp only[go_sem,B,jx,G])
   have bg:((d.rules.take (j+1)).flatMap jO).length<=(d.rules.flatMap jO).length:=by
    conv=>rhs;rw[<-lA (j+1) d.rules,qF,aG]
    omega
   rw[tE B,aG]at bg
   have bq:(jO y).length=1+((y.parts.map Part.at_).filter λx=>!decide (x=[])).length+y.drop.length:=by
    show(_::_++_:List aA).length=_;rw[aG,bB,Nat.add_comm 1]
   (refine bP λz1 T=>?_);have e1:=aM G (aJ T);simp only[go_sem,G,B,jx,T,e1];have H:(S.setO z1 (.cells 50 y.cs)).getO z1=some (.cells 50 y.cs):=by rw[aX,aF rfl]
   have b4:(S.setO z1 (.cells 50 y.cs)).ge S:=aZ T (aC _);have bk:(S.setO z1 (.cells 50 y.cs)).getT u=none:=hu;generalize b2:S.setO z1 (.cells 50 y.cs)=S1 at H b4 bk;simp only[go_sem]at b2 H;rw[b2];clear b2 T e1;have bn:=bj y ym;have e2:N1++(d.rules.take (j+1)).flatMap jO=(N1++(d.rules.take j).flatMap jO)++jO y:=by rw[tE B,dO]
   have bb:(N1++(d.rules.take j).flatMap jO).length+(jO y).length<=4294967000:=by rw[aG];omega
   generalize N1++(d.rules.take j).flatMap jO=L0 at e2 bb⊢
   have hG:∀n z,y.parts[n]?=some z->(((y.parts.take (n+1)).map Part.at_).filter λx=>!decide (x=[]))=(((y.parts.take n).map Part.at_).filter λx=>!decide (x=[]))++(if z.at_=[] then [] else [z.at_]):=λn z hz=>by
    rw[wM hz,List.filter_append];by_cases e:z.at_=[]<;>simp[e]
   have b9:∀n,(((y.parts.take n).map Part.at_).filter λx=>!decide (x=[])).length<=((y.parts.map Part.at_).filter λx=>!decide (x=[])).length:=λn=>(((List.take_sublist n y.parts).map Part.at_).filter _).length_le
   (try simp only[go_sem,H])
   refine .inl ?_
   (try simp only[go_sem,H])
   refine⟨by decide,λy B=>(by rw[bS.1 B];rfl),λy B=>eI B,by omega,?_⟩
   refine Ex.loop (ι:=Nat) (λk=>[(1,.ptr p 0),(3,.list (some u) ((L0++[y.name]++((y.parts.take k).map Part.at_).filter λx=>!decide (x=[])).map .str)),(7,.ptr z1 0),(44,.list none (d.rules.map Rul.enc)),(45,.int .i64 (d.rules.length:Nat)),(46,.int .i64 (j:Nat)),(56,.list none (y.parts.map Part.enc)),(57,.int .i64 (y.parts.length:Nat)),(58,.int .i64 (k:Nat))]) (λk=>S1.setT u ((L0++[y.name]++((y.parts.take k).map Part.at_).filter λx=>!decide (x=[])).length,9))
    (λk=>k<=y.parts.length) (λk=>y.parts.length-k) 0 (aN _) ?_ ?_ ?_
   .simp only[go_sem,H];exact⟨by simp only[iD,eZ,List.filter_nil,cK,cB,cC],rfl⟩
   .rw[tF];simp only[iD,eZ,List.filter_nil,cK,aG,bB,bQ];exact aC _
   .intro n hn;refine aQ (V:=aBD) _ _ _ _ ?_;simp only[go_sem,H]
    (apply aI<;>intro h)<;>simp only[go_sem,h,H]
    .have nx:n<y.parts.length:=gQ h;clear h;obtain⟨z,hz⟩:=aU nx;have zm:=bA hz
     (try simp only[go_sem,hz,nx,H])
     have gl:=b9 n;have gs:=hG n z hz;(refine bP λz2 Y=>?_);have e1:=aM H (aJ Y);simp only[go_sem,H,hz,nx,Y,e1];cases c1:decide (z.at_=[])<;>(try simp only[go_sem,H,hz,nx,Y,e1,c1])
     .refine .inl ?_
      (try simp only[go_sem,H,hz,nx,Y,e1,c1])
      rw[aE (of_decide_eq_false c1)]at gs;refine⟨by decide,λy B=>(by rw[bS.1 B];rfl),λy B=>eI B,by simp only[aG,rB];omega,n+1,nx,by omega,⟨by rw[gs,<-dO,cB (l₂:=[z.at_])];rfl,aR n aB⟩,?_⟩;rw[gs,<-dO,@aG _ _ [z.at_],rB,tF];exact dV (aZ Y (aC _))
     .rw[aF (eN c1),cK]at gs;refine⟨n+1,nx,by omega,⟨by rw[gs],aR n aB⟩,?_⟩;rw[gs];exact dV (aZ Y (aC _))
    .have ne:=bI hn h;clear h;subst ne;rw[bK]
     (try simp only[go_sem,H])
     have e3:L0++[y.name]++((y.parts.map Part.at_).filter λx=>!decide (x=[]))++y.drop=N1++(d.rules.take (j+1)).flatMap jO:=by
      rw[e2];unfold jO;simp only[dO,bL,bE]
     refine⟨by decide,λy B=>eI B,λy B=>eI B,by simp only[aG,rB];omega,j+1,jx,by omega,⟨by rw[<-e3,cB (l₂:=y.drop)],aR j aB⟩,?_⟩;rw[<-e3,@aG _ _ y.drop,tF];exact dV b4
  .have je:=bI hj h;clear h;subst je;rw[bK];refine DK.mk hk ?_ (A.le.forget _ _);exact(aM3 hu).trans Z
end
end
structure DfnB (d:Dfn):Prop where
 cc:DfnC d
 sg:SigB d.sig
 eq:d.eqs.length<=4294967000
 ru:d.rules.length<=4294967000
 rl:∀r,r∈d.rules->RulB r
 nm:∀x,x∈hH d->x.length<=4294967000
 nn:(hH d).length<=4294967000
theorem aRT(d:Dfn)(x:aA):x∈hH d↔x∈gE d:=by
 have h:∀r:Rul,x∈jO r↔x∈mK r:=λr=>by
  unfold jO mK;simp only[bL,cR,bT];exact or_congr_right Or.comm
 unfold hH gE;simp only[bT,jV,h]
theorem aRS(d:Dfn):(hH d).length=(gE d).length:=by
 have u:∀r:Rul,(jO r).length=(mK r).length:=λr=>by
  show(_::_++_:List aA).length=(_::_++_:List aA).length;rw[aG,bB,aG,bB];exact(Nat.add_right_comm _ _ _).trans ((jF (·+1) (Nat.add_comm _ _)).trans (Nat.add_right_comm _ _ _))
 have h:∀l:List Rul,(l.flatMap jO).length=(l.flatMap mK).length:=λl=>by
  induction l with
  | nil=>rfl
  | cons a r y=>simp only[gR,aG,y,u]
 unfold hH gE;simp only[aG,h]
theorem aRZ(p:Piece):p.enc.bulk=p.text.length+p.sort.length:=by
 simp only[Piece.enc,Piece.cs,A.bulk,dI];omega
theorem aLg{l:List Opr}{o:Opr}(u:o∈l)(G:dE (l.map Opr.enc)<=100000000):OprB o:=by
 have g1:=jZ Opr.enc u;rw[aL0]at g1;have g2:=fW Piece.enc o.pieces;have z:=fW A.str o.args;have B:=fW (A.int .i64) o.strict;refine⟨by omega,by omega,by omega,λx y=>?_,by omega⟩;have h:=jZ Piece.enc y;rw[aRZ]at h;omega
theorem aSr(d:Dfn)(T:dI d.cs<=100000000):DfnB d:=by
 have G:=aGN d T;have H:(hH d).length<=4294967000:=by rw[aRS];exact G.nm
 rw[aG5,aL8]at T;have l1:=fW A.str d.sig.sorts;have l2:=fW Below.enc d.sig.below;have l3:=fW Opr.enc d.sig.ops;have l4:=fW Opr.enc d.sig.funs;have l5:=fW A.str d.sig.values;have l6:=fW Eqn.enc d.eqs;have l7:=fW Rul.enc d.rules;refine⟨G,⟨by omega,λa U=>?_,by omega,by omega,by omega,λo u=>?_⟩,by omega,by omega,λr z=>?_,λx h=>?_,H⟩
 .have:=aMa U;omega
 .rcases bT.1 u with u|u
  .exact aLg u aB
  .exact aLg u aB
 .have g:=jZ Rul.enc z;rw[aCg]at g;have m1:=fW Part.enc r.parts;have m3:=fW Fresh.enc r.new;have m4:=fW A.str r.drop;have O:=G.pr;have Z:=aB7 fD z;rw[bZ,dP,dP,aG,aG]at O;exact⟨by omega,by omega,by omega,λt Y=>G.tm t (lL _ (lL _ (jV.2 ⟨r,z,Y⟩))),by omega⟩
 .rw[aRT]at h;unfold gE at h;simp only[bT,cR,gX,dW,cW,jV]at h;rcases h with(rfl|rfl|rfl)|h|⟨y,B,rfl⟩|⟨r,z,h⟩
  .omega
  .omega
  .omega
  .split at h
   .cases h
   .rw[bS.1 h];omega
  .rcases B with B|B
   .have g:=jZ Cel.enc B;rw[aDV]at g;omega
   .have g:=jZ Cel.enc B;rw[aDV]at g;omega
  .have g:=jZ Rul.enc z;rw[aCg]at g;unfold mK at h;simp only[bL,cR,bT,List.mem_filter,cW]at h;rcases h with rfl|h|⟨⟨p,O,rfl⟩,_⟩
   .omega
   .have:=aMa h;omega
   .have g2:=jZ Part.enc O;rw[aGV]at g2;omega
section
theorem aDR{u:Type}{f:u->Bool}{l:List u}{i:Nat}{x:u}{b:Bool}(h:l[i]?=some x):(b&&(l.take (i+1)).all f)=((b&&(l.take i).all f)&&f x):=by rw[dC h,kP,eG,nF,dT,Bool.and_assoc]
section
variable {s S S':St} {KV Kp:St->A->Prop} {c:Nat} {d:Dfn} {o:Option Fault}
theorem aRF(hd:DfnB d)(hc:s.getO c=some (bU d o))(hz:NZ o)(hk:KV (s.setO c (bU d (aH o (zF d)))) (.tuple [])):Den cx 31 [.ptr c 0] KV Kp s:=by
 have bf:=hc;have bj:=hd.cc.cl;have bk:=hd.eq;have bm:=hd.ru;unfold zF at hk;simp only[go_sem,bU]at hc;(refine gBy func31 ?_;simp only[go_sem,ntmps31,f31]);refine Ex.cut (V:=sS) 2 (ι:=St × Nat) (λj=>[(0,.ptr c 0),(2,.ptr j.2 0),(3,.bool (decide (d.once.length<=12)&&(decide (d.many.length<=12)&&(decide (d.eqs.length<=300)&&decide (d.rules.length<=300)))))]) (λj=>j.1) (λj=>BX c d [(j.2,31,d.cs)] s o j.1) ?_ ?_
 ·(try simp only[go_sem,hc])
  (refine bP λp hp=>?_);have f1:=aM hc (aJ hp)
  (try simp only[go_sem,hc,f1,hp])
  obtain⟨S,u,b7,b6⟩:=gZ s p (.cells 31 d.cs) (aJ hp)
  try simp only[go_sem]at b6 u
  rw[b6];clear b6;have m:BX c d [(p,31,d.cs)] s o S:=BX.add (L:=[]) ⟨bf,λb hb=>(by cases hb),OV.of (aC s),hz⟩ b7 f1.1 (by simp only[go_sem];exact u);have z:=b7.ob _ _ hc;clear hp f1;have e1:decide ((d.once.length:Int)<=12)=decide (d.once.length<=12):=bW.2 aB;have e2:decide ((d.many.length:Int)<=12)=decide (d.many.length<=12):=bW.2 aB;have e3:decide ((d.eqs.length:Int)<=300)=decide (d.eqs.length<=300):=bW.2 aB;have e4:decide ((d.rules.length:Int)<=300)=decide (d.rules.length<=300):=bW.2 aB;cases c1:decide (d.once.length<=12)<;>cases c2:decide (d.many.length<=12)<;>cases c3:decide (d.eqs.length<=300)<;>cases c4:decide (d.rules.length<=300)<;>(try simp only[go_sem,z,u,e1,e2,e3,e4,c1,c2,c3,c4])<;>exact⟨(S,p),m,rfl,aC _⟩
 generalize b8:(decide (d.once.length<=12)&&(decide (d.many.length<=12)&&(decide (d.eqs.length<=300)&&decide (d.rules.length<=300))))=b0
 have b5:wQ d=((((b0&&(hH d).all cA)&&d.eqs.all λx=>decide (x.cond.length<=20))&&d.rules.all (λr=>decide (r.parts.length<=20)&&(decide (r.cond.length<=20)&&(decide (r.new.length<=20)&&decide (r.drop.length<=20)))))&&(bZ d).all λt=>(Tm.val 60 t 0).isSome):=by
  unfold wQ;rw[b8];simp only[Bool.and_assoc]
 clear b8;rintro⟨S,p⟩ m;simp only at m;simp only[eV,eS];refine Ex.cut (V:=sS) 1 (ι:=St) (λ_=>[(0,.ptr c 0),(2,.ptr p 0),(3,.bool (b0&&(hH d).all cA))]) (λj=>j) (λj=>BX c d [(p,31,d.cs)] s o j) ?_ ?_
 .have z:=m.gck;have u:=m.g0;simp only[go_sem,bU]at z u
  (try simp only[go_sem,z,u])
  refine aP3 hd.nn hd.cc.cl hd.ru (λr hr=>(hd.rl r hr).pl) ?_
  (try simp only[go_sem,z,u])
  have bl:=hd.nn;refine Ex.loop (ι:=Nat) (λk=>[(0,.ptr c 0),(2,.ptr p 0),(3,.bool (b0&&((hH d).take k).all cA)),(39,.list none ((hH d).map A.str)),(40,.int .i64 ((hH d).length:Nat)),(41,.int .i64 (k:Nat))]) (λ_=>S) (λk=>k<=(hH d).length) (λk=>(hH d).length-k) 0 (aN _) ?_ (by exact aC _) ?_
  .simp only[go_sem,z,u];simp only[iD,nF,dT]
   first|exact rfl|exact⟨rfl,rfl⟩|exact⟨trivial,rfl⟩
  .intro j hj;refine aQ (V:=sS) _ _ _ _ ?_;simp only[go_sem,z,u]
   (apply aI<;>intro h)<;>simp only[go_sem,h,z,u]
   .have T:j<(hH d).length:=gQ h;clear h;obtain⟨y,U⟩:=aU T;have ym:=bA U
    (try simp only[go_sem,U,T,z,u])
    have Z:=aDR (f:=cA) (b:=b0) U;cases Y:(b0&&((hH d).take j).all cA)<;>(try simp only[go_sem,z,u,Y])<;>rw[Y]at Z
    .exact⟨j+1,T,by omega,⟨Z.symm,aR j aB⟩,aC _⟩
    .refine sZ _ y _ _ (by have:=hd.nm y ym;omega) ?_
     (try simp only[go_sem,z,u,Y])
     exact⟨j+1,T,by omega,⟨Z.symm,aR j aB⟩,aC _⟩
   .have je:=bI hj h;rw[je,bK];exact⟨S,m,rfl,aC _⟩
 clear m S;rintro S m;generalize b9:(b0&&(hH d).all cA)=b1 at b5⊢;clear b9 b0;simp only[eV,eS];refine Ex.cut (V:=sS) 1 (ι:=St) (λ_=>[(0,.ptr c 0),(2,.ptr p 0),(3,.bool (b1&&(d.eqs).all (λx=>decide (x.cond.length<=20))))]) (λj=>j) (λj=>BX c d [(p,31,d.cs)] s o j) ?_ ?_
 .have z:=m.gck;have u:=m.g0;simp only[go_sem,bU]at z u
  (try simp only[go_sem,z,u])
  refine Ex.loop (ι:=Nat) (λk=>[(0,.ptr c 0),(2,.ptr p 0),(3,.bool (b1&&((d.eqs).take k).all (λx=>decide (x.cond.length<=20)))),(52,.list none ((d.eqs).map Eqn.enc)),(53,.int .i64 ((d.eqs).length:Nat)),(54,.int .i64 (k:Nat))]) (λ_=>S) (λk=>k<=(d.eqs).length) (λk=>(d.eqs).length-k) 0 (aN _) ?_ (by exact aC _) ?_
  .simp only[go_sem,z,u];simp only[iD,nF,dT]
   first|exact rfl|exact⟨rfl,rfl⟩|exact⟨trivial,rfl⟩
  .intro j hj;refine aQ (V:=sS) _ _ _ _ ?_;simp only[go_sem,z,u]
   (apply aI<;>intro h)<;>simp only[go_sem,h,z,u]
   .have T:j<(d.eqs).length:=gQ h;clear h;obtain⟨y,U⟩:=aU T;have ym:=bA U
    (try simp only[go_sem,U,T,z,u])
    have Z:=aDR (f:=(λx=>decide (x.cond.length<=20))) (b:=b1) U;(refine bP λz1 H=>?_);have e1:=aM z (aJ H);have e2:=aM u (aJ H)
    (try simp only[go_sem,z,u,U,T,H,e1,e2])
    obtain⟨S3,O,B,G⟩:=gZ S z1 (.cells 69 y.cs) (aJ H)
    try simp only[go_sem]at G O
    rw[G];clear G;have m3:=m.to B;have u:=B.ob _ _ u;have z:=B.ob _ _ z;clear H e1 e2;have e1:decide ((y.cond.length:Int)<=20)=decide (y.cond.length<=20):=bW.2 aB;cases Y:(b1&&(d.eqs.take j).all (λx=>decide (x.cond.length<=20)))<;>rw[Y]at Z
    ·(try simp only[go_sem,z,u,O,Y])
     exact⟨j+1,T,by omega,⟨Z.symm,aR j aB⟩,B⟩
    ·(try simp only[go_sem,z,u,O,Y,e1])
     exact⟨j+1,T,by omega,⟨Z.symm,aR j aB⟩,B⟩
   .have je:=bI hj h;rw[je,bK];exact⟨S,m,rfl,aC _⟩
 clear m S;rintro S m;generalize bb:(b1&&(d.eqs).all (λx=>decide (x.cond.length<=20)))=b2 at b5⊢;clear bb b1;simp only[eV,eS];refine Ex.cut (V:=sS) 1 (ι:=St) (λ_=>[(0,.ptr c 0),(2,.ptr p 0),(3,.bool (b2&&(d.rules).all (λr=>decide (r.parts.length<=20)&&(decide (r.cond.length<=20)&&(decide (r.new.length<=20)&&decide (r.drop.length<=20))))))]) (λj=>j) (λj=>BX c d [(p,31,d.cs)] s o j) ?_ ?_
 .have z:=m.gck;have u:=m.g0;simp only[go_sem,bU]at z u
  (try simp only[go_sem,z,u])
  refine Ex.loop (ι:=Nat) (λk=>[(0,.ptr c 0),(2,.ptr p 0),(3,.bool (b2&&((d.rules).take k).all (λr=>decide (r.parts.length<=20)&&(decide (r.cond.length<=20)&&(decide (r.new.length<=20)&&decide (r.drop.length<=20)))))),(67,.list none ((d.rules).map Rul.enc)),(68,.int .i64 ((d.rules).length:Nat)),(69,.int .i64 (k:Nat))]) (λ_=>S) (λk=>k<=(d.rules).length) (λk=>(d.rules).length-k) 0 (aN _) ?_ (by exact aC _) ?_
  .simp only[go_sem,z,u];simp only[iD,nF,dT]
   first|exact rfl|exact⟨rfl,rfl⟩|exact⟨trivial,rfl⟩
  .intro j hj;refine aQ (V:=sS) _ _ _ _ ?_;simp only[go_sem,z,u]
   (apply aI<;>intro h)<;>simp only[go_sem,h,z,u]
   .have T:j<(d.rules).length:=gQ h;clear h;obtain⟨y,U⟩:=aU T;have ym:=bA U
    (try simp only[go_sem,U,T,z,u])
    have Z:=aDR (f:=(λr=>decide (r.parts.length<=20)&&(decide (r.cond.length<=20)&&(decide (r.new.length<=20)&&decide (r.drop.length<=20))))) (b:=b2) U;(refine bP λz1 H=>?_);have e1:=aM z (aJ H);have e2:=aM u (aJ H)
    (try simp only[go_sem,z,u,U,T,H,e1,e2])
    obtain⟨S3,O,B,G⟩:=gZ S z1 (.cells 50 y.cs) (aJ H)
    try simp only[go_sem]at G O
    rw[G];clear G;have m3:=m.to B;have u:=B.ob _ _ u;have z:=B.ob _ _ z;clear H e1 e2;have e1:decide ((y.parts.length:Int)<=20)=decide (y.parts.length<=20):=bW.2 aB;have e2:decide ((y.cond.length:Int)<=20)=decide (y.cond.length<=20):=bW.2 aB;have e3:decide ((y.new.length:Int)<=20)=decide (y.new.length<=20):=bW.2 aB;have e4:decide ((y.drop.length:Int)<=20)=decide (y.drop.length<=20):=bW.2 aB;cases Y:(b2&&(d.rules.take j).all (λr=>decide (r.parts.length<=20)&&(decide (r.cond.length<=20)&&(decide (r.new.length<=20)&&decide (r.drop.length<=20)))))<;>rw[Y]at Z
    ·(try simp only[go_sem,z,u,O,Y])
     exact⟨j+1,T,by omega,⟨Z.symm,aR j aB⟩,B⟩
    ·(try simp only[go_sem,z,u,O,Y,e1])
     cases c1:decide (y.parts.length<=20)<;>cases c2:decide (y.cond.length<=20)<;>cases c3:decide (y.new.length<=20)<;>cases c4:decide (y.drop.length<=20)<;>rw[c1,c2,c3,c4]at Z<;>(try simp only[go_sem,z,u,O,Y,e1,e2,e3,e4,c1,c2,c3,c4])<;>exact⟨j+1,T,by omega,⟨Z.symm,aR j aB⟩,B⟩
   .have je:=bI hj h;rw[je,bK];exact⟨S,m,rfl,aC _⟩
 clear m S;rintro S m;generalize bc:(b2&&(d.rules).all (λr=>decide (r.parts.length<=20)&&(decide (r.cond.length<=20)&&(decide (r.new.length<=20)&&decide (r.drop.length<=20)))))=b3 at b5⊢;clear bc b2;simp only[eV,eS];refine Ex.cut (V:=sS) 1 (ι:=St) (λ_=>[(0,.ptr c 0),(2,.ptr p 0),(3,.bool (b3&&(bZ d).all (λt=>(Tm.val 60 t 0).isSome)))]) (λj=>j) (λj=>BX c d [(p,31,d.cs)] s o j) ?_ ?_
 .have z:=m.gck;have u:=m.g0;simp only[go_sem,bU]at z u
  (try simp only[go_sem,z,u])
  refine aGv d (by have:=iP (bZ d);have:=hd.cc.pr;omega) _ _ _ ?_
  (try simp only[go_sem,z,u])
  have bg:=iP (bZ d);have bh:=hd.cc.pr;refine Ex.loop (ι:=Nat) (λk=>[(0,.ptr c 0),(2,.ptr p 0),(3,.bool (b3&&((bZ d).take k).all (λt=>(Tm.val 60 t 0).isSome))),(100,.list none ((bZ d).map Tm.enc)),(101,.int .i64 ((bZ d).length:Nat)),(102,.int .i64 (k:Nat))]) (λ_=>S) (λk=>k<=(bZ d).length) (λk=>(bZ d).length-k) 0 (aN _) ?_ (by exact aC _) ?_
  .simp only[go_sem,z,u];simp only[iD,nF,dT]
   first|exact rfl|exact⟨rfl,rfl⟩|exact⟨trivial,rfl⟩
  .intro j hj;refine aQ (V:=sS) _ _ _ _ ?_;simp only[go_sem,z,u]
   (apply aI<;>intro h)<;>simp only[go_sem,h,z,u]
   .have T:j<(bZ d).length:=gQ h;clear h;obtain⟨y,U⟩:=aU T;have ym:=bA U
    (try simp only[go_sem,U,T,z,u])
    have Z:=aDR (f:=(λt=>(Tm.val 60 t 0).isSome)) (b:=b3) U;(refine bP λz1 H=>?_);have e1:=aM z (aJ H);have e2:=aM u (aJ H)
    (try simp only[go_sem,z,u,U,T,H,e1,e2])
    obtain⟨S3,O,B,G⟩:=gZ S z1 (.cells 67 y.cs) (aJ H)
    try simp only[go_sem]at G O
    rw[G];clear G;have m3:=m.to B;have u:=B.ob _ _ u;have z:=B.ob _ _ z;clear H e1 e2;cases Y:(b3&&((bZ d).take j).all (λt=>(Tm.val 60 t 0).isSome))<;>rw[Y]at Z
    ·(try simp only[go_sem,z,u,O,Y])
     exact⟨j+1,T,by omega,⟨Z.symm,aR j aB⟩,B⟩
    ·(try simp only[go_sem,z,u,O,Y])
     refine cJ (aKa y (hd.cc.tm y ym) ?_)
     (try simp only[go_sem,z,u,O,Y])
     exact⟨j+1,T,by omega,⟨Z.symm,aR j aB⟩,B⟩
   .have je:=bI hj h;rw[je,bK];exact⟨S,m,rfl,aC _⟩
 clear m S;rintro S m;generalize bd:(b3&&(bZ d).all (λt=>(Tm.val 60 t 0).isSome))=b4 at b5⊢;clear bd b3;simp only[eV,eS];rw[<-b5]at *;clear b5;rw[<-dR]at hk;refine Ex.cut (V:=sS) 1 (ι:=St) (λ_=>[(0,.ptr c 0),(2,.ptr p 0)]) (λj=>j) (λj=>BX c d [(p,31,d.cs)] s (aH o (bC (!wQ d) ⟨2,[],0,0⟩)) j) ?_ ?_
 .cases c1:wQ d<;>(try simp only[go_sem])
  .refine eA ⟨2,[],0,0⟩ m.gck m.nz ?_
   (try simp only[go_sem])
   exact⟨S.setO c _,m.fail (by show(2:Int)≠0;decide),aC _⟩
  .exact⟨S,m.none,aC _⟩
 generalize aH o (bC (!wQ d) ⟨2,[],0,0⟩)=o1 at hk⊢;clear m S;rintro S m;simp only[eV,eS];refine aQ (V:=sS) _ _ _ _ ?_;have z:=m.gck;have u:=m.g0;simp only[go_sem,bU]at z u;simp only[go_sem,z,u];refine cJ (aRi d.sig hd.sg ?_);cases c1:aBb d.sig<;>(try simp only[go_sem,z,u])<;>rw[c1]at hk
 .refine eA ⟨16,[],0,0⟩ m.gck m.nz ?_
  (try simp only[go_sem])
  exact aD hk (m.ov _)
 .have hk:KV (s.setO c (bU d (aH o1 none))) (.tuple []):=hk;rw[jG]at hk;exact aD hk (m.ov.fin m.gck)
end
end
section
structure MB (c:Nat) (d:Dfn) (o:Option Fault) (p:Nat) (T:TypeId) (cs:List A) (s S:St):Prop where
 gck:S.getO c=some (bU d o)
 gp:S.getO p=some (.cells T cs)
 ov:OV c s S
 nz:NZ o
 np:c≠p
theorem MB.fail{c p:Nat}{d:Dfn}{o:Option Fault}{T:TypeId}{cs:List A}{s S:St}{g:Fault}(h:MB c d o p T cs s S)(u:g.code≠0:=by simp):MB c d (aH o (some g)) p T cs s (S.setO c (bU d (aH o (some g)))) :=
 ⟨by rw[aX,aF rfl],tL h.gp h.np,h.ov.set _,h.nz.snoc u,h.np⟩
theorem MB.to{c p:Nat}{d:Dfn}{o:Option Fault}{T:TypeId}{cs:List A}{s S S':St}(h:MB c d o p T cs s S)(g:S'.ge S):MB c d o p T cs s S' :=
 ⟨g.ob _ _ h.gck,g.ob _ _ h.gp,h.ov.ge g,h.nz,h.np⟩
theorem MB.none{c p:Nat}{d:Dfn}{o:Option Fault}{T:TypeId}{cs:List A}{s S:St}(h:MB c d o p T cs s S):MB c d (aH o none) p T cs s S:=by rw[jG];exact h
section
variable {s S S':St} {KV Kp:St->A->Prop} {c:Nat} {d:Dfn} {o:Option Fault}
theorem aRm(hc:s.getO c=some (bU d o))(hz:NZ o)(ho:d.once.length<=4294967000)(hm:d.many.length<=4294967000)(bl:d.sig.ops.length<=4294967000)(hw:d.sig.below.length<=4294967000)(bj:d.sig.values.length<=4294967000)
  (hk:KV (s.setO c (bU d (aH o (xE d)))) (.tuple [])):Den cx 35 [.ptr c 0] KV Kp s:=by
 have bh:=hc;unfold xE at hk;simp only[<-dR]at hk;simp only[go_sem,bU]at hc;(refine gBx func35 ?_;simp only[go_sem,ntmps35,f35]);refine Ex.cut (V:=aBx) 2 (ι:=St × Nat) (λj=>[(0,.ptr c 0),(2,.ptr j.2 0)]) (λj=>j.1) (λj=>MB c d (aH o (bC (!cD d.sig d.start) ⟨13,d.start,0,0⟩)) j.2 31 d.cs s j.1) ?_ ?_
 ·(try simp only[go_sem,hc])
  (refine bP λp hp=>?_);have Z:=aM hc (aJ hp)
  (try simp only[go_sem,hc,Z,hp])
  obtain⟨S,u,b6,b7⟩:=gZ s p (.cells 31 d.cs) (aJ hp)
  try simp only[go_sem]at b7 u
  rw[b7];clear b7;have b4:=b6.ob _ _ bh;have z:=b6.ob _ _ hc;have m:MB c d o p 31 d.cs s S:=⟨b4,by simp only[go_sem];exact u,OV.of b6,hz,Z.1⟩;clear hp Z
  (try simp only[go_sem,z,u])
  refine cU (aJj d.start b4 ?_);cases cE:cD d.sig d.start<;>(try simp only[go_sem,z,u])
  .refine cU (eA ⟨13,d.start,0,0⟩ b4 hz ?_)
   (try simp only[go_sem])
   exact⟨(S.setO c _,p),m.fail,rfl,aC _⟩
  .exact⟨(S,p),m.none,rfl,aC _⟩
 generalize aH o (bC (!cD d.sig d.start) ⟨13,d.start,0,0⟩)=o1 at hk⊢;rintro⟨S,p⟩ m;simp only at m;simp only[eV,eS];refine Ex.cut (V:=aBx) 2 (ι:=St) (λj=>[(0,.ptr c 0),(2,.ptr p 0)]) (λj=>j) (λj=>MB c d (aH o1 (bC (!(cP d d.watch).2.2||(cP d d.watch).2.1) ⟨13,d.watch,0,0⟩)) p 31 d.cs s j) ?_ ?_
 .have z:=m.gck;have u:=m.gp;simp only[go_sem,bU]at z u
  (try simp only[go_sem,z,u])
  refine cU (cJ (aB0 (d:=d) d.watch ho hm ?_));generalize bm:cP d d.watch=W;obtain⟨a,b1,b2⟩:=W
  (try simp only[go_sem,z,u])
  (refine bP λr Y=>?_);have Z:=aM z (aJ Y);have f2:=aM u (aJ Y)
  (try simp only[go_sem,z,u,Y,Z,f2])
  generalize bb:S.setO r _=S2;have b5:S2.ge S:=by rw[<-bb];exact aZ (aJ Y) (aC _)
  have m2:=m.to b5;have z:=b5.ob _ _ z;have u:=b5.ob _ _ u;clear bb Y Z f2;cases b2<;>(try simp only[go_sem,z,u])
  .refine cU (eA ⟨13,d.watch,0,0⟩ m2.gck m2.nz ?_)
   (try simp only[go_sem])
   exact⟨S2.setO c _,m2.fail,aC _⟩
  .cases b1<;>(try simp only[go_sem,z,u])
   .exact⟨S2,m2.none,aC _⟩
   .refine cU (eA ⟨13,d.watch,0,0⟩ m2.gck m2.nz ?_)
    (try simp only[go_sem])
    exact⟨S2.setO c _,m2.fail,aC _⟩
 clear m S;generalize aH o1 (bC (!(cP d d.watch).2.2||(cP d d.watch).2.1) ⟨13,d.watch,0,0⟩)=o2 at hk⊢;rintro S m;simp only[eV,eS];refine Ex.cut (V:=aBx) 1 (ι:=St) (λj=>[(0,.ptr c 0),(2,.ptr p 0)]) (λj=>j) (λj=>MB c d (aH o2 (bC (!(decide (d.kind=[]) == decide (d.many.length=0))) ⟨15,d.kind,0,0⟩)) p 31 d.cs s j) ?_ ?_
 .have z:=m.gck;have u:=m.gp;simp only[go_sem,bU]at z u;have e0:decide ((d.many.length:Int)=0)=decide (d.many.length=0):=bW.2 aB
  (try simp only[go_sem,z,u,e0])
  have bc:(false == false)=true:=rfl;have bd:(false == true)=false:=rfl;have bf:(true == false)=false:=rfl;have bg:(true == true)=true:=rfl;cases c1:decide (d.kind=[])<;>cases c2:decide (d.many.length=0)<;>(try simp only[go_sem,z,u,c1,c2,bc,bd,bf,bg,eO,fN])
  all_goals first
   | exact⟨S,m.none,aC _⟩
   | (refine cU (eA ⟨15,d.kind,0,0⟩ m.gck m.nz ?_);(try simp only[go_sem]);exact⟨S.setO c _,m.fail,aC _⟩)
 clear m S;generalize aH o2 (bC (!(decide (d.kind=[]) == decide (d.many.length=0))) ⟨15,d.kind,0,0⟩)=o3 at hk⊢;rintro S m;simp only[eV,eS];refine aQ (V:=aBx) _ _ _ _ ?_;have z:=m.gck;have u:=m.gp;simp only[go_sem,bU]at z u
 (try simp only[go_sem,z,u])
 refine cU (cJ (aB0 (d:=d) [107] ho hm ?_))
 (try simp only[go_sem,z,u])
 (refine bP λr Y=>?_);have Z:=aM z (aJ Y);have f2:=aM u (aJ Y)
 (try simp only[go_sem,z,u,Y,Z,f2])
 obtain⟨w,b9⟩:∃w,w=sG d [107]:=⟨_,rfl⟩
 rw[<-b9];obtain⟨S1,gr,b0,b8⟩:=gZ S r (.cells 96 w.cs) (aJ Y)
 try simp only[go_sem]at b8 gr
 rw[b8];clear b8;have m1:=m.to b0;have u:=b0.ob _ _ u;have z:=b0.ob _ _ z;have nr:c≠r:=Z.1;clear Y Z f2
 (try simp only[go_sem,z,u,gr])
 have bk:w.sort=(cP d [107]).1:=by rw[b9];exact aKk d _
 clear b9 m;generalize (cP d [107]).2.2=is at hk⊢;rw[<-bk]at hk;generalize hQ:aH (aH o3 (bO (λo:Opr=>bC (decide (0<o.strict.length)&&(!is||!decide (w.sort=[76,105,115,116]))) ⟨13,[107],0,0⟩) d.sig.ops)) (bO (λo:Opr=>bC (decide (0<o.strict.length)&&tG d.sig o.sort) ⟨16,o.name,0,0⟩) d.sig.ops)=Q at hk
 refine Ex.loop (ι:=Nat × Option Fault × St) (λk=>[(0,.ptr c 0),(2,.ptr p 0),(7,.ptr r 0),(6,.bool is),(66,.list none (d.sig.ops.map Opr.enc)),(67,.int .i64 (d.sig.ops.length:Nat)),(68,.int .i64 (k.1:Nat))]) (λk=>k.2.2)
  (λk=>k.1<=d.sig.ops.length/\(MB c d k.2.1 p 31 d.cs s k.2.2/\k.2.2.getO r=some (.cells 96 w.cs))/\aH (aH k.2.1 (bO (λo:Opr=>bC (decide (0<o.strict.length)&&(!is||!decide (w.sort=[76,105,115,116]))) ⟨13,[107],0,0⟩) (d.sig.ops.drop k.1))) (bO (λo:Opr=>bC (decide (0<o.strict.length)&&tG d.sig o.sort) ⟨16,o.name,0,0⟩) d.sig.ops)=Q) (λk=>d.sig.ops.length-k.1) (0,o3,S1) ⟨aN _,⟨m1,gr⟩,hQ⟩ ?_ (by exact aC _) ?_
 .simp only[go_sem,z,u,gr]
  try exact rfl
  try exact⟨rfl,rfl⟩
 .clear hQ m1 gr z u b0;rintro⟨i,o4,S2⟩ ⟨hi,⟨m,gr⟩,hI⟩;simp only at hi m gr hI;refine aQ (V:=aBx) _ _ _ _ ?_;have z:=m.gck;have u:=m.gp;simp only[go_sem,bU]at z u gr;simp only[go_sem,z,u,gr]
  (apply aI<;>intro h)<;>simp only[go_sem,h,z,u,gr]
  .have T:i<d.sig.ops.length:=gQ h;clear h;obtain⟨y,hy⟩:=aU T;have ym:=bA hy
   (try simp only[go_sem,hy,T,z,u,gr])
   (refine bP λz1 G=>?_);have e1:=aM z (aJ G);have e2:=aM u (aJ G);have e3:=aM gr (aJ G)
   (try simp only[go_sem,z,u,gr,hy,T,G,e1,e2,e3])
   obtain⟨S3,O,B,H⟩:=gZ S2 z1 (.cells 80 y.cs) (aJ G)
   try simp only[go_sem]at H O
   rw[H];clear H;have U:=m.to B;have u:=B.ob _ _ u;have z:=B.ob _ _ z;have gr:=B.ob _ _ gr;clear G e1 e2 e3;have b3:S3.getO r=some (.cells 96 w.cs):=by simp only[go_sem];exact gr
   (try simp only[go_sem,z,u,gr,O])
   rw[gM hy,bO]at hI;have e1:decide ((0:Int)<(y.strict.length:Int))=decide (0<y.strict.length):=bW.2 aB;rw[e1];cases c1:decide (0<y.strict.length)<;>(try simp only[go_sem,z,u,gr,O,c1])<;>rw[c1]at hI
   .exact⟨(i+1,o4,S3),⟨T,⟨U,b3⟩,hI⟩,bD,aR i aB,aC _⟩
   .cases is<;>(try simp only[go_sem,z,u,gr,O])
    .refine cU (eA ⟨13,[107],0,0⟩ U.gck U.nz ?_)
     (try simp only[go_sem])
     exact⟨(i+1,aH o4 (some ⟨13,[107],0,0⟩),S3.setO c _),⟨T,⟨U.fail,tL b3 nr⟩,by rw[<-hI];simp only[dR];rfl⟩,bD,aR i aB,aC _⟩
    .cases c2:decide (w.sort=[76,105,115,116])<;>(try simp only[go_sem,z,u,gr,O,c2])<;>rw[c2]at hI
     .refine cU (eA ⟨13,[107],0,0⟩ U.gck U.nz ?_)
      (try simp only[go_sem])
      exact⟨(i+1,aH o4 (some ⟨13,[107],0,0⟩),S3.setO c _),⟨T,⟨U.fail,tL b3 nr⟩,by rw[<-hI];simp only[dR];rfl⟩,bD,aR i aB,aC _⟩
     .exact⟨(i+1,o4,S3),⟨T,⟨U,b3⟩,hI⟩,bD,aR i aB,aC _⟩
  .have ie:=bI hi h;clear h;subst ie;rw[dB (bF _),bO,jG]at hI
   refine Ex.loop (ι:=Nat × Option Fault × St) (λk=>[(0,.ptr c 0),(2,.ptr p 0),(90,.list none (d.sig.ops.map Opr.enc)),(91,.int .i64 (d.sig.ops.length:Nat)),(92,.int .i64 (k.1:Nat))]) (λk=>k.2.2)
    (λk=>k.1<=d.sig.ops.length/\MB c d k.2.1 p 31 d.cs s k.2.2/\aH k.2.1 (bO (λo:Opr=>bC (decide (0<o.strict.length)&&tG d.sig o.sort) ⟨16,o.name,0,0⟩) (d.sig.ops.drop k.1))=Q) (λk=>d.sig.ops.length-k.1) (0,o4,S2) ⟨aN _,m,hI⟩ ?_ (by exact aC _) ?_
   .simp only[go_sem,z,u]
    try exact rfl
    try exact⟨rfl,rfl⟩
   .clear hI m gr z u hi;rintro⟨i,o4,S2⟩ ⟨hi,m,hI⟩;simp only at hi m hI;refine aQ (V:=aBx) _ _ _ _ ?_;have z:=m.gck;have u:=m.gp;simp only[go_sem,bU]at z u;simp only[go_sem,z,u]
    (apply aI<;>intro h)<;>simp only[go_sem,h,z,u]
    .have T:i<d.sig.ops.length:=gQ h;clear h;obtain⟨y,hy⟩:=aU T;have ym:=bA hy
     (try simp only[go_sem,hy,T,z,u])
     (refine bP λz1 G=>?_);have e1:=aM z (aJ G);have e2:=aM u (aJ G)
     (try simp only[go_sem,z,u,hy,T,G,e1,e2])
     obtain⟨S3,O,B,H⟩:=gZ S2 z1 (.cells 80 y.cs) (aJ G)
     try simp only[go_sem]at H O
     rw[H];clear H;have U:=m.to B;have u:=B.ob _ _ u;have z:=B.ob _ _ z;clear G e1 e2
     (try simp only[go_sem,z,u,O])
     rw[gM hy,bO]at hI;have e1:decide ((0:Int)<(y.strict.length:Int))=decide (0<y.strict.length):=bW.2 aB;rw[e1];cases c1:decide (0<y.strict.length)<;>(try simp only[go_sem,z,u,O,c1])<;>rw[c1]at hI
     .exact⟨(i+1,o4,S3),⟨T,U,hI⟩,bD,aR i aB,aC _⟩
     .refine cU (cJ (aPl d.sig y.sort hw bj ?_));cases c2:tG d.sig y.sort<;>(try simp only[go_sem,z,u,O])<;>rw[c2]at hI
      .exact⟨(i+1,o4,S3),⟨T,U,hI⟩,bD,aR i aB,aC _⟩
      .refine cU (eA ⟨16,y.name,0,0⟩ U.gck U.nz ?_)
       (try simp only[go_sem])
       exact⟨(i+1,aH o4 (some ⟨16,y.name,0,0⟩),S3.setO c _),⟨T,U.fail,by rw[<-hI];simp only[dR];rfl⟩,bD,aR i aB,aC _⟩
    .have ie:=bI hi h;clear h;subst ie;rw[dB (bF _),bO,jG]at hI;rw[<-hI]at hk;exact aD hk (m.ov.fin m.gck)
end
end
section
theorem aD1{k l c:Int}{q:aA × Bool}(h:k≠0):NZ (iJ k q l c):=nY (lQ h) lP
theorem aT5{d:Dfn}:NZ (zF d):=cY (fC aV) (fC aV)
theorem aVl{sg:Sig}{x:Eqn}:NZ (rO sg x):=by
 unfold rO;split
 .exact lQ aV
 .exact nY (lQ aV) (cY (aD1 cT) (cY (aD1 cT) (fC aV)))
theorem aLb{sg:Sig}:∀(l:List Cel) (b:List aA),NZ (pG sg b l)
 | [],_=>lP
 | x::r,b=>cY (cY (fC aV) (nY (lQ aV) (cY (fC aV) (lO (λ_=>fC aV) _)))) (aLb r _)
theorem aSQ{d:Dfn}:NZ (xE d):=cY (fC aV) (cY (fC aV) (cY (fC aV) (cY (lO (λ_=>fC aV) _) (lO (λ_=>fC aV) _))))
theorem aLd{d:Dfn}:∀(l b:List Part),NZ (qR d b l)
 | [],_=>lP
 | x::r,b=>cY aLX (aLd r _)
theorem aLc{d:Dfn}{n:aA}{l c:Int}:∀(ts:List Tm) (m:List Cel),NZ (qQ d n l c ts m)
 | [],_=>lP
 | _::_,[]=>lP
 | t::r,x::m=>cY (fC aV) (aLc r m)
theorem aT6{d:Dfn}{b:List aA}{r:Rul}:NZ (xK d b r) :=
 cY (fC aV) (cY (fC aV) (cY (aLd _ _) (cY (aD1 cT) (cY (aD1 cT) (cY (lO (λ_=>fC aV) _) (cY (lO (λ_=>fC aV) _) (cY (lO (λ_=>aLc _ _) _) (cY (lO (λ_=>fC aV) _) (aHF _ _)))))))))
theorem aQ4{d:Dfn}{b:List aA}{l:List Rul}{i:Nat}{x:Rul}(h:l[i]?=some x):sD d b (l.drop i)=aH (xK d b x) (sD d (b++[x.name]) (l.drop (i+1))):=by
 rw[gM h];rfl
section
variable {s S S':St} {KV Kp:St->A->Prop} {d:Dfn}
theorem aRz(G:DfnB d)(H:KV s ((aA4 d).getD Fault.none).enc):Den cx 8 [.agg d.cs] KV Kp s:=by
 have b5:=G.cc.cl;have b9:=G.eq;have b7:=G.ru;have hw:=G.sg.be;have b6:=G.cc.pr;have hB:∀t,t∈bZ d->TmW t/\t.pre.length<=4294967000:=λt ht=>⟨G.cc.tm t ht,by have:=wO ht;omega⟩
 unfold aA4 at H;(refine gBy func8 ?_;simp only[go_sem,ntmps8,Tryz.f8]);refine Ex.cut (V:=yE) 3 (ι:=St × Nat × Nat × Nat) (λj=>[(1,.ptr j.2.1 0),(2,.ptr j.2.2.1 0),(3,.ptr j.2.2.2 0)]) (λj=>j.1) (λj=>BX j.2.2.2 d [(j.2.1,31,d.cs),(j.2.2.1,36,Fault.none.cs)] s (zF d) j.1/\s.getO j.2.2.2=none/\s.getO j.2.2.1=none) ?_ ?_
 ·(try simp only[go_sem])
  (refine aL λp hp=>?_)
  (try simp only[go_sem,hp])
  obtain⟨S0,u,b0,b2⟩:=gZ s p (.cells 31 d.cs) (hp)
  try simp only[go_sem]at b2 u
  rw[b2];clear b2
  (try simp only[go_sem,u])
  (refine bP λr hr=>?_);have f1:=aM u (aJ hr)
  (try simp only[go_sem,u,hr,f1])
  have gr:(S0.setO r (.cells 36 [.int .i64 0,.str [],.int .i64 0,.int .i64 0])).getO r=some (.cells 36 [.int .i64 0,.str [],.int .i64 0,.int .i64 0]):=by rw[aX,aF rfl]
  have U:(S0.setO r (.cells 36 [.int .i64 0,.str [],.int .i64 0,.int .i64 0])).ge S0:=aZ (aJ hr) (aC _);generalize S0.setO r (.cells 36 [.int .i64 0,.str [],.int .i64 0,.int .i64 0])=S1 at gr U⊢;have u:=U.ob _ _ u;intro c hc;have b3:=aM u hc;have f2:=aM gr hc
  have Y:s.getO r=none:=by
   cases e:s.getO r with
   | none=>rfl
   | some x =>
    have h1:=b0.ob _ _ e
    first|(rw[h1]at hr;cases hr)|(rw[h1]at hr;cases hr.2)
  clear hr f1
  have hcs:s.getO c=none:=by
   cases e:s.getO c with
   | none=>rfl
   | some x=>rw[(U.trans b0).ob _ _ e]at hc;cases hc
  have m:BX c d [(p,31,d.cs),(r,36,Fault.none.cs)] s none (S1.setO c (bU d none)) :=
   ⟨by rw [aX,aF rfl],fun b hb => (by
    simp only[cR,gX,dW]at hb;rcases hb with rfl|rfl
    .exact⟨b3.2,tL u b3.2⟩
    .exact⟨f2.2,tL gr f2.2⟩),(OV.of (U.trans b0)).set _,lP⟩
  have e0:bU d none=.cells 74 (d.cs++Fault.none.cs):=rfl;simp only[Dfn.cs,Sig.cs,Fault.cs,Fault.none,bL,bE]at e0;rw[<-e0];clear e0;generalize S1.setO c (bU d none)=Z at m⊢
  (try simp only[go_sem])
  refine aRF G m.gck m.nz ?_
  (try simp only[go_sem])
  exact⟨(Z.setO c _,p,r,c),⟨m.set aT5,hcs,Y⟩,⟨rfl,rfl,rfl⟩,aC _⟩
 generalize hP:zF d=o1 at H⊢;clear hP;rintro⟨S,p,r,c⟩ ⟨m,hcs,Y⟩;simp only at m hcs Y;simp only[eV,eS];refine Ex.cut (V:=yE) 1 (ι:=St) (λ_=>[(1,.ptr p 0),(2,.ptr r 0),(3,.ptr c 0)]) (λj=>j) (λj=>BX c d [(p,31,d.cs),(r,36,Fault.none.cs)] s (aH o1 (bO (rO d.sig) d.eqs)) j) ?_ ?_
 .have u:=m.g0;simp only[go_sem]at u
  (try simp only[go_sem,u])
  generalize hQ:aH o1 (bO (rO d.sig) d.eqs)=Q
  refine Ex.loop (ι:=Nat × Option Fault × St) (λk=>[(1,.ptr p 0),(2,.ptr r 0),(3,.ptr c 0),(13,.list none (d.eqs.map Eqn.enc)),(14,.int .i64 (d.eqs.length:Nat)),(15,.int .i64 (k.1:Nat))]) (λk=>k.2.2)
   (λk=>k.1<=d.eqs.length/\BX c d [(p,31,d.cs),(r,36,Fault.none.cs)] s k.2.1 k.2.2/\aH k.2.1 (bO (rO d.sig) (d.eqs.drop k.1))=Q) (λk=>d.eqs.length-k.1) (0,o1,S) ⟨aN _,m,hQ⟩ ?_ (by exact aC _) ?_
  .simp only[go_sem,u]
   first|exact rfl|exact⟨rfl,rfl⟩
  .clear u m hQ;rintro⟨j,o',Z⟩ ⟨hj,m,hI⟩;simp only at hj m hI;refine aQ (V:=yE) _ _ _ _ ?_;have u:=m.g0;simp only[go_sem]at u;simp only[go_sem,u]
   (apply aI<;>intro h)<;>simp only[go_sem,h,u]
   .have T:j<d.eqs.length:=gQ h;clear h;obtain⟨y,O⟩:=aU T;have ym:=bA O
    (try simp only[go_sem,O,T,u])
    (refine bP λz1 B=>?_);have e1:=aM u (aJ B);have e2:=aM m.gck (aJ B)
    (try simp only[go_sem,u,O,T,B,e1])
    obtain⟨S3,b1,b4,z⟩:=gZ Z z1 (.cells 69 y.cs) (aJ B)
    try simp only[go_sem]at z b1
    rw[z];clear z;have m3:=m.to b4;clear B e1 e2;refine uU m3.gck m3.nz ?_;rw[gM O,bO,<-dR]at hI;cases o' with
    | some f =>
     (try simp only[go_sem,b1,qG])
     exact⟨(j+1,some f,S3),⟨T,m3,hI⟩,bD,aR j aB,aC _⟩
    | none =>
     (try simp only[go_sem,b1,yJ])
     have b8:∀t,t∈dH y->t∈bZ d:=λt ht=>gN _ (jV.2 ⟨y,ym,ht⟩)
     have bb:=aB7 dH ym;rw[bZ,dP,aG]at b6;refine cJ (aPh y m3.gck m3.nz hw (λt ht=>(hB t (b8 t ht)).1) aB ?_)
     (try simp only[go_sem])
     exact⟨(j+1,aH none (rO d.sig y),S3.setO c _),⟨T,m3.set (cY lP aVl),hI⟩,bD,aR j aB,aC _⟩
   .have je:=bI hj h;clear h;subst je;rw[dB (bF _),bO,jG]at hI;exact⟨Z,m.eqo hI,aC _⟩
 rw[<-dR]at H;generalize aH o1 (bO (rO d.sig) d.eqs)=o2 at H⊢;clear m S;rintro S m;simp only[eV,eS];refine Ex.cut (V:=yE) 1 (ι:=St) (λ_=>[(1,.ptr p 0),(2,.ptr r 0),(3,.ptr c 0)]) (λj=>j) (λj=>BX c d [(p,31,d.cs),(r,36,Fault.none.cs)] s (aH o2 (pG d.sig [] (d.once++d.many))) j) ?_ ?_
 ·(try simp only[go_sem])
  refine uU m.gck m.nz ?_;cases o2 with
  | some f =>
   (try simp only[go_sem,qG])
   exact⟨S,m,aC _⟩
  | none =>
   (try simp only[go_sem,yJ])
   refine aQj m.gck m.nz hw b5 (λx hx=>hB x.init (lL _ (gN _ (cW.2 ⟨x,hx,rfl⟩)))) ?_
   (try simp only[go_sem])
   exact⟨S.setO c _,m.set (cY lP (aLb _ _)),aC _⟩
 rw[<-dR]at H;generalize aH o2 (pG d.sig [] (d.once++d.many))=o3 at H⊢;clear m S;rintro S m;simp only[eV,eS];refine Ex.cut (V:=yE) 1 (ι:=St) (λ_=>[(1,.ptr p 0),(2,.ptr r 0),(3,.ptr c 0)]) (λj=>j) (λj=>BX c d [(p,31,d.cs),(r,36,Fault.none.cs)] s (aH o3 (xE d)) j) ?_ ?_
 ·(try simp only[go_sem])
  refine uU m.gck m.nz ?_;cases o3 with
  | some f =>
   (try simp only[go_sem,qG])
   exact⟨S,m,aC _⟩
  | none =>
   (try simp only[go_sem,yJ])
   refine aRm m.gck m.nz aB aB (by have:=G.sg.op;omega) hw G.sg.va ?_
   (try simp only[go_sem])
   exact⟨S.setO c _,m.set (cY lP aSQ),aC _⟩
 rw[<-dR]at H;generalize aH o3 (xE d)=o4 at H⊢;clear m S;rintro S m;simp only[eV,eS];refine Ex.cut (V:=yE) 1 (ι:=St) (λ_=>[(1,.ptr p 0),(2,.ptr r 0),(3,.ptr c 0)]) (λj=>j) (λj=>BX c d [(p,31,d.cs),(r,36,Fault.none.cs)] s (aH o4 (sD d [] d.rules)) j) ?_ ?_
 .have u:=m.g0;simp only[go_sem]at u
  (try simp only[go_sem,u])
  generalize hQ:aH o4 (sD d [] d.rules)=Q
  refine Ex.loop (ι:=Nat × Option Fault × St) (λk=>[(1,.ptr p 0),(2,.ptr r 0),(3,.ptr c 0),(35,.int .i64 (d.rules.length:Nat)),(36,.int .i64 (k.1:Nat))]) (λk=>k.2.2)
   (λk=>k.1<=d.rules.length/\BX c d [(p,31,d.cs),(r,36,Fault.none.cs)] s k.2.1 k.2.2/\aH k.2.1 (sD d ((d.rules.take k.1).map Rul.name) (d.rules.drop k.1))=Q) (λk=>d.rules.length-k.1) (0,o4,S) ⟨aN _,m,hQ⟩ ?_ (by exact aC _) ?_
  .simp only[go_sem,u]
   first|exact rfl|exact⟨rfl,rfl⟩
  .clear u m hQ;rintro⟨j,o',Z⟩ ⟨hj,m,hI⟩;simp only at hj m hI;refine aQ (V:=yE) _ _ _ _ ?_;simp only[go_sem]
   (apply aI<;>intro h)<;>simp only[go_sem,h]
   .have T:j<d.rules.length:=gQ h;clear h;obtain⟨y,O⟩:=aU T;have ym:=bA O
    (try simp only[go_sem,O,T])
    refine uU m.gck m.nz ?_;rw[aQ4 O,<-dR,<-wM O]at hI;cases o' with
    | some f =>
     (try simp only[go_sem,qG])
     exact⟨(j+1,some f,Z),⟨T,m,hI⟩,bD,aR j aB,aC _⟩
    | none =>
     (try simp only[go_sem,yJ])
     refine aR1 j y O m.gck m.nz aB aB hw b7 (G.rl y ym) ?_
     (try simp only[go_sem])
     exact⟨(j+1,aH none (xK d ((d.rules.take j).map Rul.name) y),Z.setO c _),⟨T,m.set (cY lP aT6),hI⟩,bD,aR j aB,aC _⟩
   .have je:=bI hj h;clear h;subst je;rw[dB (bF _),sD,jG]at hI;exact⟨Z,m.eqo hI,aC _⟩
 generalize aH o4 (sD d [] d.rules)=o5 at H⊢;clear m S;rintro S m;simp only[eV,eS];refine aQ (V:=yE) _ _ _ _ ?_;have gc:=m.gck;have gr:=m.g1;simp only[go_sem,bU]at gc gr;simp only[go_sem,gc,gr];exact aD H (aCD (aCt Y (aKX ((m.ov.fin m.gck).trans (aZ hcs (aC _))) _ _)))
theorem aGu(B:DfnB d)(G:KV s (.bool (decide (((aA4 d).getD Fault.none).code=0)))):Den cx 10 [.agg d.cs] KV Kp s:=by
 (refine aO func10 [0,1,2] ?_;simp only[go_sem,ntmps10,f10]);(refine aL λp z=>?_)
 (try simp only[go_sem,z])
 obtain⟨S,y,u,h⟩:=gZ s p (.cells 31 d.cs) (z)
 try simp only[go_sem]at h y
 rw[h];clear h
 (try simp only[go_sem,y])
 refine cJ (aRz B ?_)
 (try simp only[go_sem])
 exact aD G u
end
end
section
section
variable {s:St} {KV Kp:St->A->Prop} {d:Dfn}
def aCK(d:Dfn):Bool:=decide (((aA4 d).getD Fault.none).code=0)
theorem aGY(d:Dfn):aCK d=gU d:=by unfold aCK;rw[aTE];rfl
def aBf(d:Dfn)(n:aA):A:=if gU d=true then(if(cP d n).2.2=true then .tuple [.bool (cP d n).2.1,.int .i64 (aBg d n:Nat),.int .i64 0] else .tuple [.bool false,.int .i64 0,.int .i64 4]) else .tuple [.bool false,.int .i64 0,.int .i64 2]
theorem aQ2(O:DfnB d)(n:aA)(y:KV s (aBf d n)):Den cx 17 [.agg d.cs,.str n] KV Kp s:=by
 have Z:=O.cc.cl;unfold aBf at y;(refine aO func17 [0,1,2,4,5,6,8,9,10,13,23] ?_;simp only[go_sem,ntmps17,f17]);(refine aL λp T=>?_)
 (try simp only[go_sem,T])
 obtain⟨S,h,z,u⟩:=gZ s p (.cells 31 d.cs) (T)
 try simp only[go_sem]at u h
 rw[u];clear u
 (try simp only[go_sem,h])
 refine dU (aGu O ?_) (by simp only[Dfn.cs,Sig.cs,bL,bE]);have e:=aGY d;unfold aCK at e;rw[e];cases U:gU d<;>rw[U]at y<;>(try simp only[go_sem,h])
 .exact aD y z
 refine dU (aB0 (d:=d) n aB aB ?_) (by simp only[Dfn.cs,Sig.cs,bL,bE])
 (try simp only[go_sem,h])
 (refine bP λr G=>?_);have H:=aM h (aJ G)
 (try simp only[go_sem,h,G,H])
 have B:∀o,(S.setO r o).ge s:=λo=>(aZ (aJ G) (aC _)).trans z
 cases Y:(cP d n).2.2<;>rw[Y]at y<;>(try simp only[go_sem,h,H])
 .exact aD y (B _)
 .exact aD y (B _)
def rK(l:List Eqn)(n:aA):List Tm:=l.flatMap λx=>if decide (x.left.text=n)=true then x.cond++[x.right] else []
def aEr(d:Dfn)(n:aA):List aA:=((rK d.eqs n).foldl gG []).filter λx=>(fQ d.sig.funs x).isSome
def aCB(d:Dfn)(n:aA):A:=if gU d=true then(if(fQ d.sig.funs n).isSome=true then .tuple [.list none ((aEr d n).map .str),.int .i64 0] else .tuple [.list none [],.int .i64 4]) else .tuple [.list none [],.int .i64 2]
def LiS(v:A)(l:List aA):Prop:=(v=.nils/\l=[])\/v=.list none (l.map .str)
theorem LiS.le{v:A}{l:List aA}(h:LiS v l):v.le (.list none (l.map .str)):=by
 rcases h with⟨rfl,rfl⟩|rfl
 .exact A.le.nil
 .exact cN _
theorem LiS.lenS{v:A}{l:List aA}(h:LiS v l):lenS v=some (.int .i64 (l.length:Nat)):=by
 rcases h with⟨rfl,rfl⟩|rfl
 .rfl
 .simp only[Go.AV.lenS,aW]
theorem aKq{l:List Eqn}{i:Nat}{x:Eqn}(h:l[i]?=some x)(n:aA):rK (l.take (i+1)) n=rK (l.take i) n++(if decide (x.left.text=n)=true then x.cond++[x.right] else []):=tE h
theorem aKp(l:List Eqn)(n:aA):(aP (rK l n)).length<=(aP (l.flatMap dH)).length:=by
 induction l with
 | nil=>exact bF _
 | cons x r h =>
  unfold rK at h⊢;rw[gR,gR,dP,dP,aG,aG];split
  .simp only[dH,aP,dP,aG,cK];omega
  .simp only[aP,bQ];omega
theorem aGh(hd:DfnB d)(n:aA)(hk:KV s (aCB d n)):Den cx 12 [.agg d.cs,.str n] KV Kp s:=by
 have bz:=hd.eq;have bt:=hd.cc.pr;rw[bZ,dP,aG]at bt;unfold aCB at hk;(refine aO func12 aFf ?_;simp only[go_sem,ntmps12,f12]);(refine aL λp hp=>?_)
 (try simp only[go_sem,hp])
 obtain⟨S,z,b9,b4⟩:=gZ s p (.cells 31 d.cs) (hp)
 try simp only[go_sem]at b4 z
 rw[b4];clear b4
 (try simp only[go_sem,z])
 refine dU (aGu hd ?_) (by simp only[Dfn.cs,Sig.cs,bL,bE]);have e:=aGY d;unfold aCK at e;rw[e];cases c1:gU d<;>rw[c1]at hk<;>(try simp only[go_sem,z])
 .exact DK.mk hk b9 (A.le.tuple ⟨A.le.nil,cN _,trivial⟩)
 refine aAu d.sig.funs n ?_;generalize hw:(fQ d.sig.funs n).getD kX=w
 (try simp only[go_sem,z])
 (refine bP λr hr=>?_);have f1:=aM z (aJ hr)
 (try simp only[go_sem,z,hr,f1])
 obtain⟨S1,gr,bb,b5⟩:=gZ S r (.cells 80 w.cs) (aJ hr)
 try simp only[go_sem]at b5 gr
 rw[b5];clear b5;have z:=bb.ob _ _ z;have bj:=bb.trans b9;clear hr f1 gr;cases c2:(fQ d.sig.funs n).isSome<;>rw[c2]at hk<;>(try simp only[go_sem,z])
 .exact DK.mk hk bj (A.le.tuple ⟨A.le.nil,cN _,trivial⟩)
 simp only[dJ]at hk;unfold aEr at hk;generalize b0:(rK d.eqs n).foldl gG []=All at hk
 refine Ex.loop (ι:=Nat × A) (λk=>[(1,.str n),(2,.ptr p 0),(8,k.2),(9,.nils),(32,.list none (d.eqs.map Eqn.enc)),(33,.int .i64 (d.eqs.length:Nat)),(34,.int .i64 (k.1:Nat))]) (λ_=>S1)
  (λk=>k.1<=d.eqs.length/\LiS k.2 ((rK (d.eqs.take k.1) n).foldl gG [])) (λk=>d.eqs.length-k.1) (0,.nils) ⟨aN _,.inl ⟨rfl,rfl⟩⟩ ?_ (by exact aC _) ?_
 .simp only[go_sem,z];exact rfl
 .rintro⟨i,v⟩ ⟨hi,hL⟩;simp only at hi hL;refine aQ (V:=aFf) _ _ _ _ ?_;simp only[go_sem,z]
  (apply aI<;>intro h)<;>simp only[go_sem,h,z]
  .have ix:i<d.eqs.length:=gQ h;clear h;obtain⟨y,T⟩:=aU ix;have ym:=bA T
   (try simp only[go_sem,T,ix,z])
   (refine bP λr2 b7=>?_);have f2:=aM z (aJ b7)
   (try simp only[go_sem,z,T,ix,b7,f2])
   obtain⟨S2,Y,Z,b1⟩:=gZ S1 r2 (.cells 69 y.cs) (aJ b7)
   try simp only[go_sem]at b1 Y
   rw[b1];clear b1;have z:=Z.ob _ _ z;cases c3:decide (y.left.text=n)<;>(try simp only[go_sem,z,c3])
   .exact⟨(i+1,v),⟨ix,by rw[aKq T,c3,aE cT,cK];exact hL⟩,bD,⟨rfl,aR i aB⟩,Z⟩
   .have b8:∀k,(aP ((d.eqs.take k).flatMap dH)).length<=(aP (d.eqs.flatMap dH)).length:=λk=>by
     have e:=jF (λl=>(aP (l.flatMap dH)).length) (lA k d.eqs);simp only[qF,dP,aG]at e;omega
    have c4:=b8 (i+1);have b6:=aKp (d.eqs.take (i+1)) n;have b2:=aKq T n;rw[c3,aF rfl]at b2;rw[b2,dP,aG]at b6;have bm:=iP (y.cond++[y.right]);rw[aG,rB]at bm;(refine bX (OT.l [0,1,2,4,5,6,9,3,7,8] .nil) [(3,[5])] ?_;simp only[go_sem,z,Y]);refine⟨by decide,λy T=>jP T,mA (tk:=none) (es:=[]) (λ_=>rfl) (λt h=>by cases h) (λy T=>by cases T) (by simp only[aW,bQ];omega) (λbv bk bf=>?_)⟩
    (try simp only[go_sem,z,Y])
    refine⟨by decide,λy T=>(by rw[bS.1 T];rfl),mA (λh=>by simpa using bk h) (λt ht=>by rw[tK t ht];simp) (λy T=>jP (gQ T)) (by simp only[aW,bB,bQ,bE];omega) (λc7 bl bg=>?_)⟩;obtain⟨t2,rfl⟩:=aMu bl;generalize bd:gs (gs S2 bv _ _) (some t2) _ _=S3;have G:S3.ge S2:=by rw[<-bd];exact vC (aC _) bf (λt h=>(bg t h).imp id (λh=>⟨_,h⟩))
    clear bd bk bf bl bg;have eL:(List.map Tm.enc y.cond++[A.agg y.right.cs])=(y.cond++[y.right]).map Tm.enc:=by simp only[cB,cC,eZ,fZ]
    simp only[Tm.cs]at eL;have z:=G.ob _ _ z;have Y:=G.ob _ _ Y
    (try simp only[go_sem,z,Y,ev,eL])
    clear eL;have br:=G.trans Z;clear G;generalize bc:y.cond++[y.right]=L at b2 b6 bm⊢
    have bn:∀t,t∈L->TmW t:=λt ht=>hd.cc.tm t (by
     subst bc;unfold bZ;have:t∈dH y:=by unfold dH;simp only[bT,cR,gX,dW]at ht⊢;rcases ht with h|h<;>simp only[h,true_or,or_true]
     exact gN _ (jV.2 ⟨y,ym,this⟩))
    have hq:y.cond.length+1=L.length:=by rw[<-bc,aG];rfl
    generalize hB:rK (d.eqs.take i) n=B at hL b2 b6
    refine Ex.loop (ι:=Nat × A) (λk=>[(1,.str n),(2,.ptr p 0),(8,k.2),(9,.nils),(32,.list none (d.eqs.map Eqn.enc)),(33,.int .i64 (d.eqs.length:Nat)),(34,.int .i64 (i:Nat)),(50,.list (some t2) (L.map Tm.enc)),(51,.int .i64 (L.length:Nat)),(52,.int .i64 (k.1:Nat))]) (λ_=>S3)
     (λk=>k.1<=L.length/\LiS k.2 ((B++L.take k.1).foldl gG [])) (λk=>L.length-k.1) (0,v) ⟨aN _,by rw[iD,cK];exact hL⟩ ?_ (by exact aC _) ?_
    .simp only[go_sem,z,hq];exact rfl
    .rintro⟨j,v2⟩ ⟨hj,b3⟩;simp only at hj b3;refine aQ (V:=aFf) _ _ _ _ ?_;simp only[go_sem,z]
     (apply aI<;>intro h)<;>simp only[go_sem,h,z]
     .have jx:j<L.length:=gQ h;clear h;obtain⟨x,hx⟩:=aU jx;have xm:=bA hx
      (try simp only[go_sem,hx,jx,z])
      (refine bP λr3 H=>?_);have f3:=aM z (aJ H)
      (try simp only[go_sem,z,hx,jx,H,f3])
      have G:(S3.setO r3 (.cells 67 x.cs)).ge S3:=aZ (aJ H) (aC _);simp only[Tm.cs]at G;have c6:=uZ hx;have bp:=aCb (B++L.take j) [];rw[dP,aG,bQ]at bp;refine gL (show gO _ [.list none (((B++L.take j).foldl gG []).map .str),.agg x.cs] from⟨b3.le,by simp only[Tm.cs];exact cN _,trivial⟩) (aKh _ x _ _ _ _ (dZ _) (bn x xm) (aDv _ .nil) aB ?_);have e:gG ((B++L.take j).foldl gG []) x=(B++L.take (j+1)).foldl gG []:=by rw[lW,lW,<-aGL hx]
      rw[e]
      (try simp only[go_sem,z,H,f3])
      exact⟨(j+1,.list none (((B++L.take (j+1)).foldl gG []).map .str)),⟨jx,.inr rfl⟩,bD,⟨rfl,aR j aB⟩,G⟩
     .have je:=bI hj h;clear h;subst je;rw[bK]at b3;exact⟨(i+1,v2),⟨ix,by rw[b2];exact b3⟩,bD,⟨rfl,aR i aB⟩,br⟩
  .have ie:=bI hi h;clear h;subst ie;rw[bK,b0]at hL
   (try simp only[go_sem,z,hL.lenS])
   have bw:All.length<=4294967000:=by
    have h1:=aCb (rK d.eqs n) [];have h2:=aKp d.eqs n;rw[b0,bQ]at h1;omega
   clear b0
   refine Ex.loop (ι:=(List aA × Option Nat) × Nat) (λc=>[(2,.ptr p 0),(9,gv c.1.2 (c.1.1.map .str)),(61,v),(62,.int .i64 (All.length:Nat)),(63,.int .i64 (c.2:Nat))])
    (λc=>gs S1 c.1.2 c.1.1.length 9)
    (λc=>((c.1.2=none->c.1.1=[])/\∀t,c.1.2=some t->S1.getT t=none)/\c.2<=All.length/\c.1.1=(All.take c.2).filter λx=>(fQ d.sig.funs x).isSome) (λc=>All.length-c.2) (([],none),0) ⟨⟨λ_=>rfl,λt h=>by cases h⟩,aN _,rfl⟩ ?_ (by exact aC _) ?_
   .simp only[go_sem,z];exact⟨rfl,rfl⟩
   .rintro⟨⟨l,tk⟩,i⟩ ⟨⟨U,O⟩,hi,hl⟩;simp only at U O hi hl;have c0:l.length<=i:=by rw[hl];exact rE (List.length_filter_le _ _) (List.length_take_le _ _)
    refine aQ (V:=aFf) _ _ _ _ ?_;simp only[go_sem,z]
    (apply aI<;>intro h)<;>simp only[go_sem,h,z]
    .have hv:v=.list none (All.map .str):=by
      rcases hL with⟨_,e⟩|e
      .rw[e]at h;simp at h
      .exact e
     subst hv;have ix:i<All.length:=gQ h;clear h;obtain⟨x,hx⟩:=aU ix;have xm:=bA hx
     (try simp only[go_sem,hx,ix,z])
     refine aAu d.sig.funs x ?_
     (try simp only[go_sem,z])
     (refine oS λr3 H=>?_)
     (try simp only[go_sem,z,H])
     have bh:(All.take (i+1)).filter (λx=>(fQ d.sig.funs x).isSome)=l++(if(fQ d.sig.funs x).isSome=true then [x] else []):=by
      rw[dC hx,List.filter_append,<-hl];cases c:(fQ d.sig.funs x).isSome<;>simp[List.filter,c]
     cases c5:(fQ d.sig.funs x).isSome<;>(try simp only[go_sem,z,H,c5])
     .refine⟨((l,tk),i+1),⟨⟨U,O⟩,ix,by simp only;rw[bh,c5,aE cT,cK]⟩,bD,⟨rfl,aR i aB⟩,?_⟩;refine(show(gs (S1.setO r3 _) tk l.length 9).ge (gs S1 tk l.length 9) from ?_);rw[<-aEd];exact aZ (by rw[mM];first|exact H|exact H.2) (aC _)
     .refine⟨by decide,λy T=>by simp only[bS]at T;subst T;rfl,fJ rfl rfl (by rw[aW];exact iS λe=>by rw[U e];rfl) (λy T=>eI T) (by simp only[aW,bB,bQ];omega) (λu hu=>?_)⟩;have bq:=kB hu O;rw[kF hu];simp only[go_sem,z,H];refine⟨((l++[x],some u),i+1),⟨⟨λh=>(by cases h),λt h=>by cases h;exact bq⟩,ix,by simp only;rw[bh,c5,aF rfl]⟩,bD,?_,?_⟩
      .simp only[go_sem,aR i aB,nW,cB]
      .rw[show l.length+1=(l++[x]).length by simp only[aG,bB,bQ]];exact dV (eW (And.intro z H))
    .have ie:=bI hi h;clear h;subst ie;rw[bK]at hl;subst hl
     (try simp only[go_sem,z])
     exact DK.mk hk (eJ bj O) (A.le.tuple ⟨nM _ _ (λe=>by rw[U e];rfl),cN _,trivial⟩)
end
end
section
section
variable {s:St} {KV Kp:St->A->Prop} {d:Dfn}
def jR(U:List aA)(out:List aA)(o:Opr):List aA:=if(decide (o.pieces.length=0)&&!decide (o.name∈U))=true then fR out o.name else out
def aEo(d:Dfn):List aA:=(d.sig.ops++d.sig.funs).foldl (jR ((bZ d).foldl gG [])) []
def aEn(d:Dfn):A:=if gU d=true then .tuple [.list none ((aEo d).map .str),.int .i64 0] else .tuple [.list none [],.int .i64 2]
theorem aMg(U:List aA):∀(l:List Opr) (o:List aA),(l.foldl (jR U) o).length<=o.length+l.length
 | [],o=>bF _
 | x::r,o=>by
  have h:=aMg U r (jR U o x);have u:=aDQ o x.name;have y:(jR U o x).length<=o.length+1:=by unfold jR;split<;>omega
  rw[lM,bB];omega
theorem aGx(U:List aA):∀(l:List Opr) {o:List aA},(o.Pairwise λa b=>a<=b)->(l.foldl (jR U) o).Pairwise λa b=>a<=b
 | [],o,h=>h
 | x::r,o,h=>aGx U r (by unfold jR;split<;>first|exact aDu _ h|exact h)
theorem aJa(hd:DfnB d)(hk:KV s (aEn d)):Den cx 15 [.agg d.cs] KV Kp s:=by
 have bk:=hd.cc.pr;have bj:=hd.cc.op;have bg:=iP (bZ d);unfold aEn at hk;(refine aO func15 aIC ?_;simp only[go_sem,ntmps15,f15]);(refine aL λp hp=>?_)
 (try simp only[go_sem,hp])
 obtain⟨S,z,b5,b1⟩:=gZ s p (.cells 31 d.cs) (hp)
 try simp only[go_sem]at b1 z
 rw[b1];clear b1
 (try simp only[go_sem,z])
 refine dU (aGu hd ?_) (by simp only[Dfn.cs,Sig.cs,bL,bE]);have e:=aGY d;unfold aCK at e;rw[e];cases c1:gU d<;>rw[c1]at hk<;>(try simp only[go_sem,z])
 .exact DK.mk hk b5 (A.le.tuple ⟨A.le.nil,cN _,trivial⟩)
 simp only[dJ]at hk;refine dU (aGv d (by have:=iP (bZ d);omega) _ _ _ ?_) (by simp only[Dfn.cs,Sig.cs,bL,bE])
 (try simp only[go_sem,z])
 unfold aEo at hk;generalize Z:(bZ d).foldl gG []=All at hk
 refine Ex.loop (ι:=Nat × A) (λk=>[(1,.ptr p 0),(4,k.2),(5,.nils),(14,.list none ((bZ d).map Tm.enc)),(15,.int .i64 ((bZ d).length:Nat)),(16,.int .i64 (k.1:Nat))]) (λ_=>S)
  (λk=>k.1<=(bZ d).length/\LiS k.2 (((bZ d).take k.1).foldl gG [])) (λk=>(bZ d).length-k.1) (0,.nils) ⟨aN _,.inl ⟨rfl,rfl⟩⟩ ?_ (by exact aC _) ?_
 .simp only[go_sem,z];exact rfl
 .rintro⟨i,v⟩ ⟨hi,hL⟩;simp only at hi hL;refine aQ (V:=aIC) _ _ _ _ ?_;simp only[go_sem,z]
  (apply aI<;>intro h)<;>simp only[go_sem,h,z]
  .have H:i<(bZ d).length:=gQ h;clear h;obtain⟨x,O⟩:=aU H;have xm:=bA O
   (try simp only[go_sem,O,H,z])
   (refine bP λr3 U=>?_);have f3:=aM z (aJ U)
   (try simp only[go_sem,z,O,H,U,f3])
   have b0:(S.setO r3 (.cells 67 x.cs)).ge S:=aZ (aJ U) (aC _);simp only[Tm.cs]at b0;have bl:=uZ O;have bd:=aCb ((bZ d).take i) [];rw[bQ]at bd;refine gL (show gO _ [.list none ((((bZ d).take i).foldl gG []).map .str),.agg x.cs] from⟨hL.le,by simp only[Tm.cs];exact cN _,trivial⟩) (aKh _ x _ _ _ _ (dZ _) (hd.cc.tm x xm) (aDv _ .nil) aB ?_);rw[<-aGL O]
   (try simp only[go_sem,z,U,f3])
   exact⟨(i+1,.list none ((((bZ d).take (i+1)).foldl gG []).map .str)),⟨H,.inr rfl⟩,bD,⟨rfl,aR i aB⟩,b0⟩
  .have ie:=bI hi h;clear h;subst ie;rw[bK,Z]at hL;clear Z;(refine bX (OT.l [0,1,2,3,5,6,7,10,4,8,9] .nil) [(4,[7])] ?_;simp only[go_sem,z]);refine⟨by decide,λy T=>aA0 T,mA (tk:=none) (es:=[]) (λ_=>rfl) (λt h=>by cases h) (λy T=>by cases T) (by simp only[aW,bQ];omega) (λbn b8 b6=>?_)⟩
   (try simp only[go_sem,z])
   refine⟨by decide,λy T=>aA0 T,mA (λh=>by simpa using b8 h) (λt ht=>by rw[tK t ht];simp) (λy T=>aA0 (gQ T)) (by simp only[aW,bQ,bE];omega) (λY b4 b7=>?_)⟩
   (try simp only[go_sem,z,aAX b4])
   have b9:Y=none->d.sig.ops++d.sig.funs=[]:=λh=>by
    have:=b4 h;simpa using this
   have hV:∀(i:Nat) (y:Opr),(d.sig.ops++d.sig.funs)[i]?=some y->∃u,ev Y (List.map Opr.enc d.sig.ops++List.map Opr.enc d.sig.funs)=.list (some u) ((d.sig.ops++d.sig.funs).map Opr.enc):=λi y T=>by
    cases Y with
    | none =>
     rw[b9 rfl]at T;cases T
    | some u=>exact⟨u,by rw[cB];rfl⟩
   have bh:(d.sig.ops++d.sig.funs).length=d.sig.ops.length+d.sig.funs.length:=aG;refine Ex.loop (ι:=Nat × A) (λk=>[(4,v),(5,k.2),(32,ev Y (List.map Opr.enc d.sig.ops++List.map Opr.enc d.sig.funs)),(33,.int .i64 ((d.sig.ops++d.sig.funs).length:Nat)),(34,.int .i64 (k.1:Nat))]) (λ_=>S) (λk=>k.1<=(d.sig.ops++d.sig.funs).length/\LiS k.2 (((d.sig.ops++d.sig.funs).take k.1).foldl (jR All) [])) (λk=>(d.sig.ops++d.sig.funs).length-k.1) (0,.nils) ⟨aN _,.inl ⟨rfl,rfl⟩⟩ ?_ (by exact vC (aC _) b6 (λt h=>(b7 t h).imp id (λh=>⟨_,h⟩))) ?_
   ·(simp only[go_sem,z];try simp)
   .clear b6 b7 b8 b4;rintro⟨i,v2⟩ ⟨hi,B⟩;simp only at hi B;refine aQ (V:=aIC) _ _ _ _ ?_;simp only[go_sem,z]
    (apply aI<;>intro h)<;>simp only[go_sem,h,z]
    .have H:i<(d.sig.ops++d.sig.funs).length:=gQ h;clear h;obtain⟨x,O⟩:=aU H;obtain⟨u,hu⟩:=hV i x O;simp only[go_sem,z,hu,O,H];(refine bP λr hr=>?_);have f2:=aM z (aJ hr)
     (try simp only[go_sem,z,hu,O,H,hr,f2])
     obtain⟨S2,gr,bc,b2⟩:=gZ S r (.cells 80 x.cs) (aJ hr)
     try simp only[go_sem]at b2 gr
     rw[b2];clear b2;have bf:=aMg All ((d.sig.ops++d.sig.funs).take i) [];have bm:=List.length_take_le i (d.sig.ops++d.sig.funs);have G:((d.sig.ops++d.sig.funs).take (i+1)).foldl (jR All) []=jR All (((d.sig.ops++d.sig.funs).take i).foldl (jR All) []) x:=by rw[dC O,lW];rfl
     rw[bQ]at bf;have hus:=aGx All ((d.sig.ops++d.sig.funs).take i) .nil
     have bb:jR All (((d.sig.ops++d.sig.funs).take i).foldl (jR All) []) x=if(decide ((x.pieces.length:Int)=0)&&!decide (x.name∈All))=true then fR (((d.sig.ops++d.sig.funs).take i).foldl (jR All) []) x.name else((d.sig.ops++d.sig.funs).take i).foldl (jR All) []:=by
      unfold jR;have:decide (x.pieces.length=0)=decide ((x.pieces.length:Int)=0):=by rw[bW];omega
      rw[this]
     rw[bb]at G;clear bb;have b3:S2.ge S:=bc;cases c2:decide ((x.pieces.length:Int)=0)<;>rw[c2]at G<;>(try simp only[go_sem,gr,c2])
     .exact⟨(i+1,v2),⟨H,by simp only;rw[G];exact B⟩,bD,⟨rfl,aR i aB⟩,b3⟩
     .refine gL (show gO _ [.list none (All.map .str),.str x.name] from⟨hL.le,cN _,trivial⟩) (lZ All x.name ?_);cases c3:decide (x.name∈All)<;>rw[c3]at G<;>(try simp only[go_sem,gr,c2])
      .refine gL (show gO _ [.list none ((((d.sig.ops++d.sig.funs).take i).foldl (jR All) []).map .str),.str x.name] from⟨B.le,cN _,trivial⟩) (aGJ _ x.name hus aB ?_)
       (try simp only[go_sem,gr])
       exact⟨(i+1,.list none ((fR (((d.sig.ops++d.sig.funs).take i).foldl (jR All) []) x.name).map .str)),⟨H,by simp only;rw[G];exact .inr rfl⟩,bD,⟨rfl,aR i aB⟩,b3⟩
      .exact⟨(i+1,v2),⟨H,by simp only;rw[G];exact B⟩,bD,⟨rfl,aR i aB⟩,b3⟩
    .have ie:=bI hi h;clear h;rw[ie,bK]at B
     (try simp only[go_sem,z])
     exact DK.mk hk b5 (A.le.tuple ⟨B.le,cN _,trivial⟩)
end
end
end Go.AV
section
open Go.Proofs.Tryz
namespace Go.Proofs
open Go.Shelf
def Tryz.laysZ_ren:Go.Shelf.Ren:=⟨λ|6=>39|7=>40|8=>105|9=>45|10=>106|11=>164|n=>n,λ|3=>4|23=>83|24=>22|26=>9|27=>86|28=>87|33=>104|n=>n,λn=>n⟩
theorem Tryz.laysZ6:SlLaysZ.n6 Tryz.prog Tryz.laysZ_ren:={
 mixed:=by kernel_rfl
 f6:=⟨Tryz.f39.name,by kernel_rfl,Tryz.func39.trans (congrArg some (by kernel_rfl))⟩
 f8:=⟨Tryz.f105.name,by kernel_rfl,Tryz.func105.trans (congrArg some (by kernel_rfl))⟩
 f11:=⟨Tryz.f164.name,by kernel_rfl,Tryz.func164.trans (congrArg some (by kernel_rfl))⟩
 t0:=Tryz.underlying0
 a0:=Tryz.isAgg0
 z0:=Tryz.sizeOf0
 v0:=Tryz.zeroValue0
 t24:=Tryz.underlying22
 a24:=Tryz.isAgg22
 z24:=Tryz.sizeOf22
 v24:=Tryz.zeroValue22
 t26:=Tryz.underlying9
 a26:=Tryz.isAgg9
 z26:=Tryz.sizeOf9
 v26:=Tryz.zeroValue9
 t28:=Tryz.underlying87
 a28:=Tryz.isAgg87
 z28:=Tryz.sizeOf87
 v28:=Tryz.zeroValue87
 i26:=by kernel_rfl }
theorem Tryz.laysZ10:SlLaysZ.n10 Tryz.prog Tryz.laysZ_ren:={
 mixed:=by kernel_rfl
 f10:=⟨Tryz.f106.name,by kernel_rfl,Tryz.func106.trans (congrArg some (by kernel_rfl))⟩
 t0:=Tryz.underlying0
 a0:=Tryz.isAgg0
 z0:=Tryz.sizeOf0
 v0:=Tryz.zeroValue0
 t4:=Tryz.underlying4
 a4:=Tryz.isAgg4
 z4:=Tryz.sizeOf4
 v4:=Tryz.zeroValue4
 t23:=Tryz.underlying83
 a23:=Tryz.isAgg83
 z23:=Tryz.sizeOf83
 v23:=Tryz.zeroValue83
 t26:=Tryz.underlying9
 a26:=Tryz.isAgg9
 z26:=Tryz.sizeOf9
 v26:=Tryz.zeroValue9
 t33:=Tryz.underlying104
 a33:=Tryz.isAgg104
 z33:=Tryz.sizeOf104
 v33:=Tryz.zeroValue104 }
open Go.RowKit Go.Maps Go.Sort
theorem Tryz.sortsZ(m:Nat):AnyZ.SortsIn Tryz.prog Tryz.laysZ_ren Fence.wide m :=
 ⟨λu off cap ss W hH h y=>callsIn_wide.2 (Tryz.sort_str u off cap ss W hH h y),λp cap W=>callsIn_wide.2 (Tryz.sort_none p cap W)⟩
theorem Tryz.sortedZ{H:Type}(q b O:Nat)(u:DataW H)(R:Value->Option (DataW H × List MemPlace))(w:World)(G:q<w.heap.size)(T:w.cell? ⟨q,0,none⟩=some (.map (some b)))(B:w.ownsMap Tryz.prog 9 R b O u)(z:Maps.size u<=maxLen)(h:Maps.size u * 16<=140737488355328) :
  Calls Tryz.prog 39 #[.func (.func 106) #[] #[.pointer (some ⟨q,0,none⟩)]] w λe w'=>∃(v:Value) (ss:List (List UInt8)),e=.returned v/\ss.Perm (strKeys u) /\
   w'.ownsRow w.heap.size 9 1 v ss.length ((ss.mergeSort (λx y=>decide (x<=y))).map encStr)/\(v=.slice none 0 0↔ss=[])/\Below w.heap.size w w' :=
 callsIn_wide.1 (AnyZ.sorted_in Tryz.laysZ6 Fence.wide 5 trivial trivial trivial trivial rfl (by omega) (Tryz.sortsZ _) (enters_of Tryz.func45 (by kernel_rfl) rfl) 106 #[.pointer (some ⟨q,0,none⟩)] trivial (enters_of Tryz.func106 (by kernel_rfl) rfl) _ _ z h _
  (AnyZ.keys_gives Tryz.laysZ10 Fence.wide _ trivial rfl (by omega) q b O u w G T B))
end Go.Proofs
namespace Go.AV
open Go Go.Proofs Go.Maps
theorem MRz.keys{g:Gh}:∀{K:List aA} {u:List MapEntry},MRz g 0 (K.map λx=>(MK.str x,A.bool true)) u->u.map (·.key)=K.map gW
 | [],[],_=>rfl
 | _::_,_::_,h=>by
  have y:=h.1.2.1;rw[cC,cC,MRz.keys h.2,y];rfl
 | [],_::_,h=>h.elim
 | _::_,[],h=>h.elim
theorem aLN:∀{l m:List aA},l.map gW=m.map gW->l=m
 | [],[],_=>rfl
 | x::l,y::m,h=>by
  simp only[cC,List.cons.injEq]at h;rw[aLN h.2,show x=y by simpa [gW]using h.1]
 | [],_::_,h=>by cases h
 | _::_,[],h=>by cases h
theorem Rz.strs{g:Gh}{b cap:Nat}{l:List aA}(B:g.pi b=some (l.map gW))(u:l.length<=cap)(T:cap<=maxLen):Rz g (.list none (l.map .str)) (.slice (some ⟨b,0,none⟩) l.length cap):=by
 have key:Rz g (.list none (l.map .str)) (.slice (some ⟨b,0,none⟩) (l.map A.str).length cap):=by
  refine .list none _ b 0 1 cap _ B aV (gQ u) T ?_ ?_ ?_ (λt h=>by cases h)
  .intro y G;obtain⟨p,_,rfl⟩:=cW.1 G;rfl
  .intro y G c u;obtain⟨p,_,rfl⟩:=cW.1 G;simp only[A.cells,bS]at u;subst u;rfl
  .intro i y j c v H z O;rw[jU]at H;obtain⟨p,B,rfl⟩:=kN.1 H;simp only[A.cells]at z
   obtain rfl:j=0:=by
    have:=(cX.1 z).1;simp at this;omega
   simp only[iO,bM]at z;subst z;simp only[gK,Nat.mul_one,jA,jU,B,gS,bM]at O;subst O;exact .str p
 rw[aW]at key;exact key
theorem aP5{s:St}{KV Kp:St->A->Prop}{q b clk:Nat}{K:List aA}{st:List Nat}(hq:s.getO q=some (.cells 83 [.mp b]))(hb:s.getO b=some (.maps 0 (K.map λx=>(MK.str x,A.bool true)) st clk))
  (hl:K.length<=4294967296)(hs:∀x,x∈K->x.length<=4294967296)(G:KV s (.list none ((kY K).map .str))):Den cx 39 [.fn 106 [] [.ptr q 0]] KV Kp s:=by
 intro F g w vals hR hv;change OutV cx F g KV Kp ((callFunc 39 vals.toArray).run prog w);rw[aAD (P:=prog) func39 rfl rfl vals.toArray w];obtain⟨kq,q1,⟨vs,rest,q2,q3,_⟩,_⟩:=hR.obj q _ hq;obtain⟨kb,b1,⟨h,b2,b3,_,b4⟩,_⟩:=hR.obj b _ hb
 match vals,hv.1,hv with
 | [x],_,hv =>
 have Y:=hv.2 0 _ x rfl rfl;cases Y with
 | fn f fs cs us ws bk bh hf hc =>
 match us,bk with
 | [],_ =>
 match ws,bh,hc with
 | [y],_,hc =>
 have hy:=hc 0 _ y rfl rfl;cases hy with
 | ptr _ _ k b5 =>
 rw[q1]at b5;cases b5
 match vs,q3 with
 | [z],q3 =>
 have hz:=q3.2 0 _ z rfl rfl;cases hz with
 | mp _ k2 b6 =>
 rw[b1]at b6;cases b6;have B:=b3.keys;have H:h.size=K.length:=by have:=jF List.length B;simpa using this
 have bb:∀x∈h.toList,∃k,k∈K/\x.key=gW k:=λx Y=>by
  have:x.key∈h.toList.map (·.key):=List.mem_map_of_mem Y;rw[B]at this;obtain⟨k,G,e⟩:=cW.1 this;exact⟨k,G,e.symm⟩
 have b7:∀k:aA,k∈K->keyOf prog 9 (gW k)=some (.string k):=λk G=>by
  have:=hs k G;simp only[keyOf,underlying9,mapKey,gW];rw[aF (show(ByteArray.mk k.toArray).size<=maxLen by simp only[ByteArray.size,List.size_toArray,maxLen];omega)]
 let u:Value->Option (DataW Unit × List MemPlace):=λ_=>some (.lit (.bool true),[])
 have bl:∀x∈h.toList,gW (strOf (Go.WideElems.rg prog 9 u x).1)=x.key:=λx Y=>by
  obtain⟨k,G,e⟩:=bb x Y;simp only[Go.WideElems.rg,Go.WideElems.rd,e,b7 k G,u,rC,gS,oX,strOf]
 have b8:w.ownsMap prog 9 u kb h.size (.map ((h.toList.map (Go.WideElems.rg prog 9 u)).foldr DataW.insert [])) :=
  ⟨h,clk,b2,⟨by rw [H]; simp only [maxLen]; omega,b4,fun x Y => by
   obtain⟨k,G,e⟩:=bb x Y;exact⟨(.string k,.lit (.bool true)),by simp only[Go.WideElems.rd,e,b7 k G,u,rC,gS]⟩⟩,bF _,rfl⟩
 have b9:=Go.WideShapes.sorted_perm (h.toList.map (Go.WideElems.rg prog 9 u))
 have bc:Maps.size (DataW.map ((h.toList.map (Go.WideElems.rg prog 9 u)).foldr DataW.insert []):DataW Unit)=K.length:=by
  rw[size_eq,b9.length_eq,aW,<-H];simp
 have bf:(strKeys (DataW.map ((h.toList.map (Go.WideElems.rg prog 9 u)).foldr DataW.insert []):DataW Unit)).Perm K:=by
  have h1:=b9.map λp=>strOf p.1
  refine h1.trans (.of_eq ?_);rw[List.map_map];have h2:(h.toList.map λx=>gW (strOf (Go.WideElems.rg prog 9 u x).1))=K.map gW:=by rw[<-B];exact List.map_congr_left bl
  have h3:((h.toList.map ((λp=>strOf p.1) ∘ Go.WideElems.rg prog 9 u)).map gW)=K.map gW:=by rw[List.map_map];exact h2
  exact aLN h3
 refine Calls.mono (sortedZ kq kb h.size _ u w (fU.1 q2).1 (by simp only[World.cell?,q2];rfl) b8 (by rw[bc];simp only[maxLen];omega) (by rw[bc];omega)) λe w' hp=>?_
 obtain⟨v,ss,rfl,h1,h2,h3,h4⟩:=hp;have hp:=h1.trans bf
 have e1:(ss.mergeSort λx y=>decide (x<=y))=kY K:=by
  rw[<-aD7];exact Go.mergeSort_of_perm hp
 rw[e1]at h2;have O:∀b,b<w.heap.size->w'.heap[b]?=w.heap[b]?:=h4.block
 have he:(w'.os,w'.output)=(w.os,w.output):=by rw[h4.os,h4.output]
 rcases h2.2 with⟨rfl,hz⟩|⟨gb,cap,T,rfl,U,b0,r1,r2,r3,r4⟩
 .obtain rfl:=eK hz;obtain rfl:=hp.nil_eq.symm;exact⟨g,_,s,dQ g,hR.keep O he,A.le.nil _ _ .nils,G⟩
 .have Z:T=((kY K).map gW++T.toList.drop (ss.length * 1)).toArray:=by
   have:=lA (ss.length * 1) T.toList;rw[r4]at this;have e2:(kY K).map gW=(kY K).map encStr:=rfl;rw[e2,this]
  rw[Z]at b0;obtain⟨bd,bj⟩:=hR.known O he U b0;refine⟨_,_,s,bj,bd,?_,G⟩;have bg:ss.length=(kY K).length:=by rw[hp.length_eq,(lY K).length_eq]
  rw[bg]at r1⊢;exact Rz.strs (by simp[Gh.know]) r1 r2
end Go.AV
end
namespace Go.AV
open Go Go.Proofs Tryz
section
section
variable {s:St} {KV Kp:St->A->Prop} {d:Dfn}
def mI(l:List Eqn)(n:aA):List Tm:=l.flatMap λx=>if decide (x.left.text=n)=true then x.right::x.cond else []
theorem aSs{l:List Eqn}{i:Nat}{x:Eqn}(h:l[i]?=some x)(n:aA):mI (l.take (i+1)) n=mI (l.take i) n++(if decide (x.left.text=n)=true then x.right::x.cond else []):=tE h
theorem aDJ(l:List Eqn)(n:aA):(aP (mI l n)).length<=(aP (l.flatMap dH)).length:=by
 induction l with
 | nil=>exact bF _
 | cons x r h =>
  unfold mI at h⊢;rw[gR,gR,dP,dP,aG,aG];split
  .simp only[dH,aP,dP,aG,cK];omega
  .simp only[aP,bQ];omega
theorem aF6:∀(l:List Tm) (a:List aA),a.Nodup->(l.foldl qO a).Nodup
 | [],_,h=>h
 | x::l,a,h=>by
  refine aF6 l _ ?_;unfold qO;split
  .split
   .exact h
   .rename_i u;rw[List.nodup_append];exact⟨h,by simp,λy B z hz e=>by rw[bS.1 hz]at e;exact u (e▸B)⟩
  .exact h
theorem aRL(b:Nat)(u:∀q,s.getO q=none->KV (s.setO q (.cells 83 [.mp b])) (.fn 106 [] [.ptr q 0])):Den cx 40 [.mp b] KV Kp s:=by
 (refine aO func40 [0,1,2] ?_;simp only[go_sem,ntmps40,f40]);(refine aL λq h=>?_);simp only[go_sem,h];exact aD (u q (by first|exact h|exact h.1)) (aC _)
theorem aLI{a:aA}:∀{K:List aA} {j:Nat},K.Nodup->K[j]?=some a->(eC MK.str K).findIdx? (λe=>decide (MK.str a=e.1))=some j
 | [],j,_,h=>by simp at h
 | y::r,0,u,h=>by
  simp only[iO,bM]at h;subst h;simp[eC,List.findIdx?_cons]
 | y::r,j+1,u,h=>by
  simp only[List.getElem?_cons_succ]at h;rw[List.nodup_cons]at u;have B:=aLI u.2 h;have z:¬ a=y:=by rintro rfl;exact u.1 (bA h)
  simp only[eC]at B;simp only[eC,cC,List.findIdx?_cons,MK.str.injEq,z,tA,cV,dY,B,gS]
theorem aR5(K:List aA)(j:Nat):(eC MK.str K).eraseIdx j=eC MK.str (K.eraseIdx j):=by
 induction K generalizing j with
 | nil=>rfl
 | cons y r h=>cases j with
  | zero=>rfl
  | succ j=>simp only[eC,cC,List.eraseIdx_cons_succ]at h⊢;rw[h]
theorem aU3{s:St}{b r q:Nat}{x y z v:Ob}(G:b≠r)(H:((s.setO b x).setO r y).getO q=none)(O:q≠b):((((s.setO b x).setO r y).setO q z).setO b v).ge ((s.setO b v).setO r y):=by
 refine⟨λa o u=>?_,λ_ _ h=>h,λ_ h=>h⟩;simp only[aX]at H u⊢;by_cases B:b=a
 .subst B;rw[aE (Ne.symm G),aF rfl]at u;rw[aF rfl];exact u
 .rw[aE B,aE B];rw[aE B]at u;by_cases T:q=a
  .subst T;rw[aE (Ne.symm O)]at H;rw[H]at u;cases u
  .rw[aE T];exact u
theorem aGm:∀(l:List Tm) (a:List aA),(l.foldl qO a).length<=a.length+l.length
 | [],_=>bF _
 | x::l,a=>by
  have h:=aGm l (qO a x)
  have u:(qO a x).length<=a.length+1:=by
   unfold qO;split
   .split
    .omega
    .rw[aG];exact bF _
   .omega
  rw[lM,bB];omega
theorem aLp{st z u:List Nat}{x:Nat}(O:st.Sublist z)(T:x∈z)(H:x ∉ u):(st.filter λy=>decide (y ∉ u++[x])).length<(z.filter λy=>decide (y ∉ u)).length:=by
 have G:(st.filter λy=>decide (y ∉ u++[x])).Sublist (z.filter λy=>decide (y ∉ u)):=by
  have e:(st.filter λy=>decide (y ∉ u++[x]))=(st.filter λy=>decide (y ∉ u)).filter λy=>decide (y≠x):=by
   rw[List.filter_filter];refine List.filter_congr λy _=>?_
   simp only[bT,bS,not_or,Bool.decide_and,mT];rw[Bool.and_comm]
  rw[e];exact List.filter_sublist.trans (O.filter _)
 rcases aGe (st.filter λy=>decide (y ∉ u++[x])).length (z.filter λy=>decide (y ∉ u)).length with h|h
 .exact h
 .have:=G.eq_of_length_le h;have B:x∈z.filter λy=>decide (y ∉ u):=List.mem_filter.2 ⟨T,gQ H⟩
  rw[<-this,List.mem_filter]at B;simp at B
def zD(d:Dfn)(n:aA):List aA:=kY ((gV (mI d.eqs n)).filter λa=>(dA d.sig.funs a).isSome)
theorem aGg(hd:DfnB d)(n:aA)(hk:KV s (if gU d=true then(if(dA d.sig.funs n).isSome=true then .tuple [.list none ((zD d n).map .str),.int .i64 0] else .tuple [.list none [],.int .i64 4]) else .tuple [.list none [],.int .i64 2])):Den cx 11 [.agg d.cs,.str n] KV Kp s:=by
 have c7:=hd.cc.pr;(refine aO func11 aFe ?_;simp only[go_sem,ntmps11,f11]);(refine aL λp hp=>?_)
 (try simp only[go_sem,hp])
 obtain⟨S,G,bd,b7⟩:=gZ s p (.cells 31 d.cs) (hp)
 try simp only[go_sem]at b7 G
 rw[b7];clear b7
 (try simp only[go_sem,G])
 refine dU (yM hd.cc ?_) (by simp only[Dfn.cs,Sig.cs,bL,bE]);cases c1:gU d<;>rw[c1]at hk<;>(try simp only[go_sem,G])
 .exact DK.mk hk bd (A.le.tuple ⟨A.le.nil,cN _,trivial⟩)
 simp only[dJ]at hk;refine cJ (aDL d.sig (by have:=hd.sg.be;omega) (by have:=hd.sg.so;omega) _ _ _ (λS2 q bg hB=>?_));have G:=bg.ob _ _ G;have bq:=bg.trans bd
 (try simp only[go_sem,G])
 refine rG hB n ?_;generalize hw:(dA d.sig.funs n).getD kX=w
 (try simp only[go_sem,G])
 (refine bP λr hr=>?_);have f1:=aM G (aJ hr)
 (try simp only[go_sem,G,hr,f1])
 obtain⟨S3,gr,b6,b8⟩:=gZ S2 r (.cells 80 w.cs) (aJ hr)
 try simp only[go_sem]at b8 gr
 rw[b8];clear b8;have G:=b6.ob _ _ G;have bl:=b6.trans bq;have hB:=hB.ge b6;clear hr f1 gr;cases c2:(dA d.sig.funs n).isSome<;>rw[c2]at hk<;>(try simp only[go_sem,G])
 .exact DK.mk hk bl (A.le.tuple ⟨A.le.nil,cN _,trivial⟩)
 simp only[dJ]at hk;have c8:=hd.eq;rw[bZ,dP,aG]at c7
 have bc:∀k,(aP ((d.eqs.take k).flatMap dH)).length<=(aP (d.eqs.flatMap dH)).length:=λk=>by
  have e:=jF (λl=>(aP (l.flatMap dH)).length) (lA k d.eqs);simp only[qF,dP,aG]at e;omega
 refine Ex.loop (ι:=(List Tm × Option Nat) × Nat) (λc=>[(1,.str n),(6,.ptr q 0),(9,gv c.1.2 (c.1.1.map Tm.enc)),(31,.list none (d.eqs.map Eqn.enc)),(32,.int .i64 (d.eqs.length:Nat)),(33,.int .i64 (c.2:Nat))])
  (λc=>gs S3 c.1.2 c.1.1.length 67)
  (λc=>((c.1.2=none->c.1.1=[])/\∀t,c.1.2=some t->S3.getT t=none)/\c.2<=d.eqs.length/\c.1.1=mI (d.eqs.take c.2) n) (λc=>d.eqs.length-c.2) (([],none),0) ⟨⟨λ_=>rfl,λt h=>by cases h⟩,aN _,rfl⟩ ?_ (by exact aC _) ?_
 .simp only[go_sem,G];exact⟨rfl,rfl⟩
 .rintro⟨⟨l,tk⟩,i⟩ ⟨⟨b1,O⟩,hi,hl⟩;simp only at b1 O hi hl;refine aQ (V:=aFe) _ _ _ _ ?_;simp only[go_sem,G]
  (apply aI<;>intro h)<;>simp only[go_sem,h,G]
  .have ix:i<d.eqs.length:=gQ h;clear h;obtain⟨x,hx⟩:=aU ix;have xm:=bA hx
   (try simp only[go_sem,hx,ix,G])
   (refine oS λr3 b0=>?_)
   (try simp only[go_sem,G,hx,ix,b0])
   have c9:=bc (i+1);have cb:=aDJ (d.eqs.take (i+1)) n;have b2:=aSs hx n;have cd:=iP (mI (d.eqs.take (i+1)) n);rw[<-hl]at b2;cases c3:decide (x.left.text=n)<;>rw[c3]at b2<;>(try simp only[go_sem,G,b0,c3])
   .refine⟨((l,tk),i+1),⟨⟨b1,O⟩,ix,by simp only;rw[b2,aE cT,cK]⟩,bD,⟨rfl,aR i aB⟩,?_⟩;refine(show(gs (S3.setO r3 _) tk l.length 67).ge (gs S3 tk l.length 67) from ?_);rw[<-aEd];exact aZ (by rw[mM];first|exact b0|exact b0.2) (aC _)
   .rw[aF rfl]at b2;have bz:(mI (d.eqs.take (i+1)) n).length=l.length+(x.cond.length+1):=by rw[b2,aG,bB]
    (refine bX (OT.l [0,1,2,3,5,6,4,7,8] .nil) [(4,[6])] ?_;simp only[go_sem,G,b0]);refine⟨by decide,λy hy=>by simp only[bS]at hy;subst hy;rfl,fJ rfl rfl (by rw[aW];exact iS λe=>by rw[b1 e];rfl) (λy hy=>hU hy) (by simp only[aW,bB,bQ];omega) (λu hu=>?_)⟩;have bv:=kB hu O;rw[kF hu]
    (try simp only[go_sem,G,b0])
    refine⟨by decide,λy hy=>hU hy,by simp only[aG,aW,bB,bQ],λy hy=>(by rcases bT.1 hy with h|h;exact hU h;rw[bS.1 h];rfl),by simp only[aG,aW,bB,bQ];omega,?_⟩;refine⟨((mI (d.eqs.take (i+1)) n,some u),i+1),⟨⟨λh=>(by cases h),λt h=>by cases h;exact bv⟩,ix,rfl⟩,bD,?_,?_⟩
    .simp only[b2];simp only[go_sem,aR i aB,nW,cB];rw[dO];rfl
    .have Z:∀(Y:St) (a b:Nat × TypeId),(Y.setT u a).setT u b=Y.setT u b:=λY a b=>by simp only[St.setT,aAW]
     rw[Z];refine(show(St.setT (S3.setO r3 _) u (_,67)).ge (S3.setT u ((mI (d.eqs.take (i+1)) n).length,67)) from ?_);simp only[aG,aW,bB,bQ,gK,bz];rw[show l.length+(x.cond.length+1)=l.length+1+x.cond.length by omega];exact dV (eW (And.intro G b0))
  .have ie:=bI hi h;clear h;subst ie;rw[bK]at hl;subst hl
   (try simp only[go_sem,G])
   refine gL (show gO _ [.list none ((mI d.eqs n).map Tm.enc)] from⟨nM _ _ (λe=>by rw[b1 e];rfl),trivial⟩) (aF7 (mI d.eqs n) (by have:=aDJ d.eqs n;omega) (λS4 b bj bt hb=>?_));have b3:S4.ge S3:=bt.trans (eJ (aC _) O)
   (try simp only[go_sem,hb])
   rw[mM]at bj;intro st c bp c6 c0;(refine bP λr4 U=>?_);have f4:=aM hb (aJ U)
   (try simp only[go_sem,hb,U,f4])
   have b9:∀K st z,((S4.setO b (.maps 0 (eC .str K) st c)).setO r4 (.mit b c c z)).ge S3:=λK st z=>by
    refine⟨λa o ho=>?_,λt m ht=>b3.tk t m ht,λy hy=>b3.ls y hy⟩;have h1:=b3.ob a o ho;rw[aX,aX];rw[aE,aE]
    .exact h1
    .rintro rfl;rw[bj]at ho;cases ho
    .rintro rfl
     first|(rw[U]at h1;cases h1)|(rw[U.2]at h1;cases h1)|(rw[U.1]at h1;cases h1)
   generalize hA:gV (mI d.eqs n)=A at hb bp⊢;have bf:A.Nodup:=by rw[<-hA];exact aF6 _ _ aV
   refine Ex.loop (ι:=List aA × List Nat × List Nat) (λk=>[(6,.ptr q 0),(12,.mp b),(54,.ptr r4 0)]) (λk=>(S4.setO b (.maps 0 (eC .str k.1) k.2.1 c)).setO r4 (.mit b c c k.2.2))
    (λk=>k.1.length=k.2.1.length/\k.2.1.Nodup/\(∀x,x∈k.2.1->x<c)/\k.1.Nodup/\k.1.Sublist A/\(∀a,a∈A->(dA d.sig.funs a).isSome=true->a∈k.1)/\(∀(j:Nat) (a:aA) (x:Nat),k.1[j]?=some a->k.2.1[j]?=some x->x∈k.2.2->(dA d.sig.funs a).isSome=true))
    (λk=>(k.2.1.filter λx=>decide (x ∉ k.2.2)).length) (A,st,[]) ⟨by simpa [eC]using bp.symm,c6,c0,bf,List.Sublist.refl _,λa h _=>h,λj a x _ _ h=>by cases h⟩ ?_ (by exact aC _) ?_
   ·(try simp only[go_sem,hb,U])
   .rintro⟨K,B,z⟩ ⟨q1,q2,q3,q4,q5,q6,q7⟩;simp only at q1 q2 q3 q4 q5 q6 q7;refine aQ (V:=aFe) _ _ _ _ ?_;simp only[go_sem,U];refine⟨q3,λbk=>?_,λj k v x hj hx=>?_⟩
    .have c5:b≠r4:=f4.1
     have H:((S4.setO b (Ob.maps 0 (eC MK.str K) B c)).setO r4 (Ob.mit b c c z)).getO b=some (.maps 0 (K.map λx=>(MK.str x,.bool true)) B c):=by
      rw[aX,aE (Ne.symm c5),aX,aF rfl];rfl
     refine aRL b (λq2 bb=>?_)
     (try simp only[go_sem,H])
     have b5:∀a,a∈K->(dA d.sig.funs a).isSome=true:=λa ha=>by
      obtain⟨j,hj,rfl⟩:=iC ha;have T:j<B.length:=by omega
      exact q7 j _ _ (cO hj) (cO T) (bk _ (iX T))
     have br:kY K=zD d n:=by
      have hp:K.Perm (A.filter λa=>(dA d.sig.funs a).isSome):=(List.perm_ext_iff_of_nodup q4 (bf.filter _)).2 λa=>by
       rw[List.mem_filter];exact⟨λh=>⟨q5.subset h,b5 a h⟩,λh=>q6 a h.1 h.2⟩
      unfold zD;rw[hA,<-aD7,<-aD7];exact Go.mergeSort_of_perm hp
     refine aP5 (b:=b) (clk:=c) (K:=K) (st:=B) (by rw[aX,aF rfl]) (by
      rw[aX,aE (by rintro rfl;rw[H]at bb;cases bb)];exact H) ?_ ?_ ?_
     .have h1:=q5.length_le;have h2:=aGm (aP (mI d.eqs n)) [];have h3:=aDJ d.eqs n;rw[<-hA]at h1;unfold gV at h1;simp only[bQ]at h2;omega
     .intro a ha;obtain⟨o,ho⟩:=Option.isSome_iff_exists.1 (b5 a ha);obtain⟨o1,o2⟩:=aAx ho;have:=(hd.sg.or o (lL _ o1)).nm;rw[<-o2];omega
     rw[br]
     (try simp only[go_sem,H])
     exact aD hk ((aZ bb (aC _)).trans ((b9 _ _ _).trans bl))
    .obtain⟨bn,T⟩:=hj;rw[eC,jU]at bn;obtain⟨a,ha,e0⟩:=kN.1 bn;cases e0;rw[List.getLast?_concat];refine⟨rfl,j,.str a,.bool true,⟨by rw[eC,jU,ha];rfl,T⟩,?_⟩;refine rG (hB.ge (b9 _ _ _)) a ?_;generalize cf:(dA d.sig.funs a).getD kX=w2
     (try simp only[go_sem,U])
     have H:((S4.setO b (Ob.maps 0 (eC MK.str K) B c)).setO r4 (Ob.mit b c c (z++[x]))).getO b=some (.maps 0 (eC MK.str K) B c):=by
      rw[aX,aE (Ne.symm f4.1),aX,aF rfl]
     have bh:=b9 K B (z++[x]);generalize hW:(S4.setO b (Ob.maps 0 (eC MK.str K) B c)).setO r4 (Ob.mit b c c (z++[x]))=W at H bh⊢;(refine bP λr5 b4=>?_);have f5:=aM H (aJ b4)
     (try simp only[go_sem,H,b4,f5])
     cases c4:(dA d.sig.funs a).isSome<;>(try simp only[go_sem,H,b4,f5,c4])
     .rw[aLI q4 ha];simp only;refine⟨(K.eraseIdx j,B.eraseIdx j,z++[x]),⟨by simp only[List.length_eraseIdx,q1],q2.sublist (List.eraseIdx_sublist ..),λy hy=>q3 y (List.mem_of_mem_eraseIdx hy),q4.sublist (List.eraseIdx_sublist ..),(List.eraseIdx_sublist ..).trans q5,λa' h1 h2=>?_,λi a' x' Z e2 e3=>?_⟩,aLp (List.eraseIdx_sublist ..) (bA T) hx,?_⟩
      .obtain⟨i,hi⟩:=List.getElem?_of_mem (q6 a' h1 h2);refine List.mem_eraseIdx_iff_getElem?.2 ⟨i,?_,hi⟩;rintro rfl;rw[ha]at hi;cases hi;rw[c4]at h2;cases h2
      .rw[List.getElem?_eraseIdx]at Z e2
       have key:∀i',i'≠j->K[i']?=some a'->B[i']?=some x'->(dA d.sig.funs a').isSome=true:=λi' bw Z e2=>by
        rcases bT.1 e3 with e3|e3
        .exact q7 i' a' x' Z e2 e3
        .rw[bS.1 e3,<-T]at e2;exact cG ((List.getElem?_inj (by rw[<-q1];exact(cX.1 Z).1) q2).1 e2) bw
       by_cases bm:i<j
       .rw[aF bm]at Z e2;exact key i aB Z e2
       .rw[aE bm]at Z e2;exact key (i+1) aB Z e2
      .rw[aR5];subst hW;exact aU3 f4.1 b4 f5.2
     .refine⟨(K,B,z++[x]),⟨q1,q2,q3,q4,q5,q6,λi a' x' Z e2 e3=>?_⟩,aLp (List.Sublist.refl _) (bA T) hx,?_⟩
      .rcases bT.1 e3 with e3|e3
       .exact q7 i a' x' Z e2 e3
       .simp only at Z e2;rw[bS.1 e3,<-T]at e2;have hi:=(List.getElem?_inj (by rw[<-q1];exact(cX.1 Z).1) q2).1 e2;subst hi;rw[ha]at Z;cases Z;exact c4
      .simp only[hW];exact aZ b4 (aC _)
end
end
section
section
variable {s:St} {KV Kp:St->A->Prop} {d:Dfn}
theorem aQ1(hd:DfnC d)(n:aA)(z:KV s (aBf d n)):Den cx 16 [.agg d.cs,.str n] KV Kp s:=by
 have b0:=hd.cl;unfold aBf at z;(refine aO func16 aC6 ?_;simp only[go_sem,ntmps16,f16]);(refine aL λp hp=>?_)
 (try simp only[go_sem,hp])
 obtain⟨S,u,T,Z⟩:=gZ s p (.cells 31 d.cs) (hp)
 try simp only[go_sem]at Z u
 rw[Z];clear Z
 (try simp only[go_sem,u])
 refine dU (yM hd ?_) (by simp only[Dfn.cs,Sig.cs,bL,bE]);cases c1:gU d<;>rw[c1]at z<;>(try simp only[go_sem,u])
 .exact aD z T
 simp only[dJ]at z;unfold cP aBg at z;refine Ex.loop (ι:=Nat) (λi=>[(1,.str n),(2,.ptr p 0),(15,.list none ((d.once).map Cel.enc)),(16,.int .i64 ((d.once).length:Nat)),(17,.int .i64 (i:Nat))]) (λ_=>S) (λi=>i<=(d.once).length/\(∀y,y∈d.once.take i->y.name≠n)) (λi=>(d.once).length-i) 0 ⟨aN _,λy h=>(by cases h)⟩ ?_ (aC _) ?_
 .simp only[go_sem,u]
  try exact rfl
  try exact⟨rfl,rfl⟩
 .rintro i ⟨hi,O⟩;refine aQ (V:=aC6) _ _ _ _ ?_;simp only[go_sem,u]
  (apply aI<;>intro h)<;>simp only[go_sem,h,u]
  .have Y:i<d.once.length:=gQ h;clear h;obtain⟨x,H⟩:=aU Y;have xm:=bA H
   (try simp only[go_sem,H,Y,u])
   (refine bP λr G=>?_);have f1:=aM u (aJ G)
   (try simp only[go_sem,u,H,Y,G,f1])
   have B:=(aZ (o:=.cells 96 x.cs) (aJ G) (aC S)).trans T;simp only[Cel.cs,Tm.cs,bL,bE]at B
   (apply aI<;>intro h)<;>simp only[go_sem,h,u,G,f1]
   .have he:x.name=n:=gQ h;obtain⟨h1,h2⟩:=aEb H he O;rw[h1,h2]at z;exact aD z B
   .have he:¬ x.name=n:=gQ h;refine⟨i+1,⟨Y,λy U=>?_⟩,by omega,aR i aB,aZ (aJ G) (aC _)⟩;rw[dC H,bT,bS]at U;rcases U with U|rfl
    .exact O y U
    .exact he
  .have ie:=bI hi h;clear h;subst ie;rw[bK]at O;obtain⟨n1,n2⟩:=aEc O;rw[n1,n2]at z
   (try simp only[go_sem,u])
   refine Ex.loop (ι:=Nat) (λi=>[(1,.str n),(29,.list none ((d.many).map Cel.enc)),(30,.int .i64 ((d.many).length:Nat)),(31,.int .i64 (i:Nat))]) (λ_=>S) (λi=>i<=(d.many).length/\(∀y,y∈d.many.take i->y.name≠n)) (λi=>(d.many).length-i) 0 ⟨aN _,λy h=>(by cases h)⟩ ?_ (aC _) ?_
   .simp only[go_sem,u]
    try exact rfl
    try exact⟨rfl,rfl⟩
   .rintro i ⟨hi,O⟩;refine aQ (V:=aC6) _ _ _ _ ?_;simp only[go_sem,u]
    (apply aI<;>intro h)<;>simp only[go_sem,h,u]
    .have Y:i<d.many.length:=gQ h;clear h;obtain⟨x,H⟩:=aU Y;have xm:=bA H
     (try simp only[go_sem,H,Y,u])
     (refine bP λr G=>?_);have f1:=aM u (aJ G)
     (try simp only[go_sem,u,H,Y,G,f1])
     have B:=(aZ (o:=.cells 96 x.cs) (aJ G) (aC S)).trans T;simp only[Cel.cs,Tm.cs,bL,bE]at B
     (apply aI<;>intro h)<;>simp only[go_sem,h,u,G,f1]
     .have he:x.name=n:=gQ h;obtain⟨h1,h2⟩:=aEb H he O;rw[h1,h2]at z;exact aD z B
     .have he:¬ x.name=n:=gQ h;refine⟨i+1,⟨Y,λy U=>?_⟩,by omega,aR i aB,aZ (aJ G) (aC _)⟩;rw[dC H,bT,bS]at U;rcases U with U|rfl
      .exact O y U
      .exact he
    .have ie:=bI hi h;clear h;subst ie;rw[bK]at O;obtain⟨n3,n4⟩:=aEc O;rw[n3,n4]at z;exact aD z T
end
end
section
section
variable {s:St} {KV Kp:St->A->Prop} {d:Dfn}
theorem SL.app{s0:St}{B:List aA}{v:A}{s:St}{KV:St->A->Prop}{te:TI}(z:s.ge s0)(b4:SL s v B)(b3:∀b,zL v=some b->s0.getO b=none)(b5:B.length+1<=4294967296)(x:aA)(hs:te.sz=1)
  (hk:∀s' v',s'.ge s0->SL s' v' (B++[x])->(∀b,zL v'=some b->s0.getO b=none)->KV s' v'):oL mZ s 9 te [.str x] KV v:=by
 have key:∀(b n' h:Nat) (u:List A),s0.getO b=none->n'=(B++[x]).length->n'<=h->u.length=h-n'->(∀c,c∈u->c.one=true) ->
   KV (s.setO b (.cells 9 ((B++[x]).map .str++u))) (.mg b n' h):=by
  intro b n' h u Y b2 T H G;subst b2;refine hk _ _ ⟨λq o hq=>?_,λt m hm=>z.tk t m hm,λy hy=>z.ls y hy⟩ (.mg b h _ u (by rw[aX,aF rfl]) T H G aV) (λc Z=>by cases Z;exact Y);rw[aX,aE (λe=>by rw[<-e,Y]at hq;cases hq)];exact z.ob q o hq
 have b0:∀b,s.getO b=none->s0.getO b=none:=λb U=>by
  cases h0:s0.getO b with
  | none=>rfl
  | some o=>rw[z.ob b o h0]at U;cases U
 cases b4 with
 | nil =>
  refine⟨by simp,?_⟩;rw[aLB,hs];refine⟨by simp,λb cap J U Z hJ h1=>?_⟩;have e1:dF [A.str x]++J=(([]:List aA)++[x]).map .str++J:=by simp[dF,A.cells]
  rw[e1];exact key b 1 cap J (b0 b U) rfl (gQ Z) (gQ hJ) h1
 | mg b cap _ J U Z hJ h1 hn =>
  show tX _ _ _ _ _ _ _ _ _ _ _;rw[U];have b1:(B.map A.str++J).length=cap * 1:=by rw[aG,aW,hJ];omega
  rw[hs];refine⟨⟨rfl,rfl,b1,Z,by simp only[rB];omega,by simp⟩,λb' h u O T H G=>?_⟩
  have e1:(B.map A.str++J).take (B.length * 1)++(dF [A.str x]++u)=(B++[x]).map .str++u:=by
   rw[Nat.mul_one,List.take_left' aV];simp[dF,A.cells]
  rw[e1];refine key _ _ h u ?_ aV (gQ T) (gQ H) G;rcases O with⟨rfl,_⟩|O
  .exact b3 _ rfl
  .exact b0 _ O
def pX(U:List aA)(o:Opr):Bool:=!decide (o.name∈U)&&decide (o.pieces.length=0)
def aA3(d:Dfn):List aA:=kY (((d.sig.ops++d.sig.funs).filter (pX (gV (bZ d)))).map Opr.name)
theorem aI9(hd:DfnB d)(U:KV s (if gU d=true then .tuple [.list none ((aA3 d).map .str),.int .i64 0] else .tuple [.list none [],.int .i64 2])):Den cx 14 [.agg d.cs] KV Kp s:=by
 have hd:=hd.cc;refine Den.drop (Den.frz ?_);(refine gBm func14 aFg ?_;simp only[go_sem,ntmps14,f14]);(refine aL λp hp=>?_)
 (try simp only[go_sem,hp])
 obtain⟨S,gp,b3,Z⟩:=gZ s p (.cells 31 d.cs) (hp)
 try simp only[go_sem]at Z gp
 rw[Z];clear Z
 (try simp only[go_sem,gp])
 refine dU (pK (yM hd ?_)) (by simp only[Dfn.cs,Sig.cs,bL,bE]);cases c1:gU d<;>rw[c1]at U<;>(try simp only[go_sem,gp])
 .exact aS (.inl (DK.mk U b3 (A.le.tuple ⟨A.le.nil,cN _,trivial⟩)))
 simp only[dJ]at U;have bg:(bZ d).length<=4294967000:=rE (iP _) hd.pr;refine dU (pK (aGw d (by rw[yZ];omega) hd.cl S _ _ ?_)) (by simp only[Dfn.cs,Sig.cs,bL,bE]);rw[yZ]
 (try simp only[go_sem,gp])
 refine pK (aF7 (bZ d) hd.pr (λS2 b _ b5 hb=>?_));have b4:=b5.ob _ _ gp;have b8:=b5.trans b3
 (try simp only[go_sem,b4])
 have b6:[d.sig.ops,d.sig.funs].flatten=d.sig.ops++d.sig.funs:=by simp
 have bc:(d.sig.ops++d.sig.funs).length<=4294967000:=by rw[aG];exact hd.op
 refine pK (aJh [d.sig.ops,d.sig.funs] (by rw[b6];omega) _ _ _ ?_);rw[b6];unfold aA3 at U;generalize d.sig.ops++d.sig.funs=L at U bc
 (try simp only[go_sem,b4])
 refine Ex.loop (ι:=Nat × A × St) (λc=>[(1,.ptr p 0),(4,.mp b),(5,c.2.1),(21,.list none (L.map Opr.enc)),(22,.int .i64 (L.length:Nat)),(23,.int .i64 (c.1:Nat))]) (λc=>c.2.2)
  (λc=>c.1<=L.length/\c.2.2.ge S2/\SL c.2.2 c.2.1 (((L.take c.1).filter (pX (gV (bZ d)))).map Opr.name)/\∀b,zL c.2.1=some b->S2.getO b=none) (λc=>L.length-c.1) (0,.nils,S2) ⟨aN _,aC _,.nil,λb h=>by cases h⟩ ?_ (aC _) ?_
 .simp only[go_sem]
  try exact rfl
 .rintro⟨i,v,s1⟩ ⟨hi,G,B,T⟩;simp only at hi G B T;have bk:=B.one;refine aQ (V:=aFg) _ _ _ _ ?_;simp only[go_sem]
  (apply aI<;>intro h)<;>simp only[go_sem,h]
  .have ix:i<L.length:=gQ h;clear h;obtain⟨x,hx⟩:=aU ix;have xm:=bA hx
   (try simp only[go_sem,hx,ix])
   have gb:=G.ob _ _ hb;(refine bP λc hc=>?_);have f1:=aM gb (aJ hc);have H:=aCv MK.str (λx y e=>by cases e;rfl) x.name (gV (bZ d));have z:decide (((x.pieces.length:Nat):Int)=0)=decide (x.pieces.length=0):=by rw[bW];omega
   have O:(s1.setO c (.cells 80 x.cs)).ge s1:=aZ (aJ hc) (aC _)
   have u:((L.take (i+1)).filter (pX (gV (bZ d)))).map Opr.name=((L.take i).filter (pX (gV (bZ d)))).map Opr.name++(if pX (gV (bZ d)) x=true then [x.name] else []):=by
    rw[dC hx,List.filter_append,cB,List.filter_cons,List.filter_nil];split<;>rfl
   have b2:(((L.take i).filter (pX (gV (bZ d)))).map Opr.name).length<=i:=by
    rw[aW];exact rE (List.length_filter_le _ _) (by rw[dG];omega)
   generalize ((L.take i).filter (pX (gV (bZ d)))).map Opr.name=ws at B u b2;unfold pX at u
   have Y:((L.take (i+1)).filter (pX (gV (bZ d)))).map Opr.name=ws->∃k:Nat × A × St,(k.1<=L.length/\k.2.2.ge S2/\SL k.2.2 k.2.1 (((L.take k.1).filter (pX (gV (bZ d)))).map Opr.name)/\∀b,zL k.2.1=some b->S2.getO b=none)/\L.length-k.1<L.length-i/\(v=k.2.1/\((IntKind.i64.wrap (((i:Nat):Int)+1))=((k.1:Nat):Int)))/\(s1.setO c (.cells 80 x.cs)).ge k.2.2:=λh =>
    ⟨(i+1,v,s1),⟨ix,G,by rw[h];exact B,T⟩,bD,⟨rfl,aR i aB⟩,O⟩
   simp only[Opr.cs]at O Y;by_cases hm:x.name∈gV (bZ d)
   .rw[aF hm]at H;rw[cF hm,aE aV,cK]at u;simp only[go_sem,hx,ix,hc,f1,gb,H,z,iY];exact Y u
   .rw[aE hm]at H;rw[bN hm]at u;cases h0:decide (x.pieces.length=0)
    .rw[h0,aE cT,cK]at u;simp only[go_sem,hx,ix,hc,f1,gb,H,z,h0,iY];exact Y u
    .rw[h0,aF cT]at u;simp only[go_sem,hx,ix,hc,f1,gb,H,z,h0,iY];refine⟨by decide,λy hy=>by rw[bS.1 hy];rfl,SL.app (s0:=S2) (O.trans G) (B.ge O) T aB x.name rfl (λs' v' h1 h2 h3=>?_)⟩;rw[<-u]at h2;simp only[go_sem];exact⟨(i+1,v',s'),⟨ix,h1,h2,h3⟩,bD,⟨rfl,aR i aB⟩,aC _⟩
  .have ie:=bI hi h;clear h;subst ie;rw[bK]at B
   have b2:((L.filter (pX (gV (bZ d)))).map Opr.name).length<=L.length:=by
    rw[aW];exact List.length_filter_le _ _
   generalize (L.filter (pX (gV (bZ d)))).map Opr.name=ws at B U b2;have b1:=G.trans b8;cases B with
   | nil =>
    refine pK (aDE ?_);simp only[go_sem];exact aS (.inl (DK.mk U b1 (A.le.tuple ⟨A.le.nil,cN _,trivial⟩)))
   | mg b' cap ws J b9 bh bf bd bj =>
    have bb:=T b' rfl;refine pK (aGG b9 aB ?_);simp only[go_sem];refine aS (.inr ⟨b',cap,9,(kY ws).map .str,J,λx=>.tuple [x,.int .i64 0],.inr ⟨_,rfl⟩,by rw[aW,(lY ws).length_eq],by rw[aX,aF rfl],λy hy=>?_,aD U ⟨λq o hq=>?_,λt m hm=>b1.tk t m hm,λy hy=>b1.ls y hy⟩⟩)
    .obtain⟨z,_,rfl⟩:=cW.1 hy;rfl
    .have b0:=b8.ob q o hq;have b7:q≠b':=λe=>by rw[e,bb]at b0;cases b0
     rw[aBS,aE b7,aX,aE (Ne.symm b7)];exact G.ob q o b0
end
end
section
theorem aVX(N:Nat):∀t:Tm,SizeOf.sizeOf t<N->Shaped t->∀a,a∈t.ap↔∃x,x∈t.pre/\x.kind=5/\x.text=a:=by
 induction N with
 | zero=>intro t h;omega
 | succ N U =>
  intro t ht O a
  have hl:∀l:List Tm,(∀k,k∈l->k∈t.kids)->(a∈qP l↔∃k,k∈l/\a∈k.ap):=λl=>by
   induction l with
   | nil=>intro _;simp[qP]
   | cons y r T =>
    intro Z;rw[qP,bT,T λk Y=>Z k (cZ _ Y)];simp only[cR,exists_eq_or_imp]
  rw[Tm.ap_eq,bT,hl t.kids λk h=>h,fP];constructor
  .rintro(h|⟨k,z,B⟩)
   .split at h
    .rename_i G;exact⟨t,bY ..,gQ G,(bS.1 h).symm⟩
    .cases h
   .obtain⟨x,H,u⟩:=(U k (by have:=kR z;omega) (O.kid z) a).1 B;exact⟨x,cZ _ (kS.2 ⟨k,gN _ z,H⟩),u⟩
  .rintro⟨x,z,B,H⟩;rcases List.mem_cons.1 z with rfl|z
   .rw[aF (gQ B)];exact .inl (by rw[H];exact bS.2 rfl)
   .obtain⟨k,u,G⟩:=kS.1 z;rcases bT.1 u with u|u
    .exact .inr ⟨k,u,(U k (by have:=kR u;omega) (O.kid u) a).2 ⟨x,G,B,H⟩⟩
    .obtain⟨q1,q2,q3⟩:=aAA O.self k u;rw[fP,q2,q3]at G;simp only[cK,aP,bS]at G;rw[G,q1]at B;cases B
theorem aTs{l:List Tm}(h:∀t,t∈l->Shaped t)(a:aA):a∈l.foldl gG []↔∃x,x∈aP l/\x.kind=5/\x.text=a:=by
 rw[<-aCc,(aCk _ _ .nil).2 a]
 have:∀l:List Tm,(∀t,t∈l->Shaped t)->(a∈qP l↔∃x,x∈aP l/\x.kind=5/\x.text=a):=λl=>by
  induction l with
  | nil=>intro _;simp[qP,aP]
  | cons y r B =>
   intro u;rw[qP,aP,bT,B λt z=>u t (cZ _ z),aVX _ y (dZ _) (u y (bY ..))];simp only[bT,or_and_right,exists_or]
 rw[this l h];simp
theorem aJI(a:aA):∀(l:List Tm) (o:List aA),a∈l.foldl qO o↔a∈o\/∃x,x∈l/\x.kind=5/\x.text=a
 | [],o=>by simp
 | y::r,o=>by
  rw[lM,aJI a r]
  have:a∈qO o y↔a∈o\/(y.kind=5/\y.text=a):=by
   unfold qO;split
   .rename_i u;split
    .rename_i z;exact⟨.inl,λh=>h.elim id λh=>h.2▸z⟩
    .rw[bT,bS];exact⟨λh=>h.imp id λe=>⟨u,e.symm⟩,λh=>h.imp id λe=>e.2.symm⟩
   .rename_i u;exact⟨.inl,λh=>h.elim id λh=>cG h.1 u⟩
  rw[this];simp only[cR,exists_eq_or_imp,or_assoc]
theorem aKK{l m:List Tm}(h:∀t,t∈l->Shaped t)(e:∀t,t∈l↔t∈m)(a:aA):a∈gV m↔a∈l.foldl gG []:=by
 rw[aTs h];unfold gV;rw[aJI];simp only[gX,false_or];constructor<;>rintro⟨x,z,B⟩<;>(obtain⟨y,u,G⟩:=kS.1 z)<;>exact⟨x,kS.2 ⟨y,by first|exact(e y).2 u|exact(e y).1 u,G⟩,B⟩
theorem aKe{l:List aA}(s:aA)(h:l.Nodup):(fR l s).Nodup:=by
 unfold fR;split
 .exact h
 .rename_i u;exact(aAE s l).nodup_iff.2 (List.nodup_cons.2 ⟨u,h⟩)
theorem aKf:∀(m l:List aA),l.Nodup->(m.foldl fR l).Nodup
 | [],_,h=>h
 | x::r,l,h=>aKf r _ (aKe x h)
theorem aJ6{l m:List aA}(hl:l.Pairwise λa b=>a<=b)(z:m.Pairwise λa b=>a<=b)(nl:l.Nodup)(B:m.Nodup)(h:∀a,a∈l↔a∈m):l=m :=
 List.Perm.eq_of_pairwise (λa b _ _ u y=>List.le_antisymm u y) hl z ((List.perm_ext_iff_of_nodup nl B).2 h)
section
variable {d:Dfn}
theorem aJx(h:gU d=true):∀t,t∈bZ d->Shaped t:=λt y=>by
 have u:=(aBX h).1;unfold pE at u;simp only[aY,cL]at u;exact aB1 (u.2.2.2.2.2.2.2 t y)
theorem aTB(h:gU d=true)(n:aA):zD d n=aEr d n:=by
 have ok:=aEQ (aBX h).2
 have B:∀t,t∈rK d.eqs n->Shaped t:=λt G=>by
  refine aJx h t ?_;obtain⟨x,y,u⟩:=jV.1 G;refine gN _ (jV.2 ⟨x,y,?_⟩);split at u
  .rcases bT.1 u with u|u
   .exact cZ _ (cZ _ u)
   .rw[bS.1 u];exact cZ _ (bY ..)
  .cases u
 have z:∀t,t∈rK d.eqs n↔t∈mI d.eqs n:=λt=>by
  unfold rK mI;simp only[jV];refine exists_congr λx=>and_congr_right λ_=>?_
  split
  .simp only[bT,cR,gX,dW];exact Or.comm
  .exact Iff.rfl
 unfold zD aEr;refine aJ6 (aAp _) ((aDv _ .nil).filter _) ((lY _).nodup_iff.2 ((aF6 _ _ .nil).filter _)) ((by rw[<-aCc];exact aKf _ _ .nil:List.Nodup _).filter _) λa=>?_
 rw[(lY _).mem_iff,List.mem_filter,List.mem_filter,aKK B z,yQ ok.nf]
theorem aMh(U:List aA)(a:aA):∀(l:List Opr) (o:List aA),a∈l.foldl (jR U) o↔a∈o\/∃x,x∈l/\(x.pieces.length=0/\x.name ∉ U)/\x.name=a
 | [],o=>by simp
 | y::r,o=>by
  rw[lM,aMh U a r]
  have:a∈jR U o y↔a∈o\/((y.pieces.length=0/\y.name ∉ U)/\y.name=a):=by
   unfold jR;split
   .rename_i u;simp only[aY,bR,fV,eF]at u;rw[aLs];exact⟨λh=>h.imp id λe=>⟨u,e.symm⟩,λh=>h.imp id λe=>e.2.symm⟩
   .rename_i u;simp only[aY,bR,fV,eF]at u;exact⟨.inl,λh=>h.elim id λh=>cG h.1 u⟩
  rw[this];simp only[cR,exists_eq_or_imp,or_assoc]
theorem aKG(U:List aA):∀(l:List Opr) (o:List aA),o.Nodup->(l.foldl (jR U) o).Nodup
 | [],_,h=>h
 | x::r,o,h=>aKG U r _ (by unfold jR;split<;>first|exact aKe _ h|exact h)
theorem aTe(h:gU d=true):aA3 d=aEo d:=by
 have ok:=aEQ (aBX h).2
 have B:((d.sig.ops++d.sig.funs).map Opr.name).Nodup:=by
  rw[cB,List.nodup_append];refine⟨ok.no,ok.nf,λa u b z e=>?_⟩;obtain⟨x,G,rfl⟩:=cW.1 u;obtain⟨y,H,rfl⟩:=cW.1 z;exact ok.nd x y G H e
 unfold aA3 aEo;refine aJ6 (aAp _) (aGx _ _ .nil) ((lY _).nodup_iff.2 (B.sublist (List.filter_sublist.map _))) (aKG _ _ _ .nil) λa=>?_
 rw[(lY _).mem_iff,aMh,cW];simp only[gX,false_or];refine exists_congr λx=>?_
 rw[List.mem_filter,and_assoc];refine and_congr_right λ_=>and_congr_left λ_=>?_
 unfold pX;rw[aY,fV,eF,bR,aKK (aJx h) (λ_=>Iff.rfl)];exact And.comm
end
end
theorem aSu(x:Dfn)(U:zT x<=4294967296)(Y:x.sig.ops.length+x.sig.funs.length<=4294967296)(s:St)(KV Kp:St->A->Prop)(G:∀b:Bool,KV s (.bool b)):Den cx 5 [.agg x.cs] KV Kp s:=by
 refine gC λB=>?_
 have O:=B _ (bY ..);have H:Rlz (.list none (x.rules.map Rul.enc)):=O.cell (by simp[Dfn.cs]);clear B;simp only[go_sem];(refine aO func5 [0,1,2,3,5,28,30,31,32,33,54] ?_;simp only[go_sem,ntmps5,Tryz.f5]);(refine aL λp u=>?_);simp only[go_sem,u]
 (apply aI<;>intro h)<;>simp only[go_sem,h,u]
 .exact aD (G _) aK
 clear h;refine aSw x.sig Y _ _ _ (λb1=>?_);simp only[go_sem,u]
 (apply aI<;>intro h)<;>simp only[go_sem,h,u]
 .exact aD (G _) aK
 clear h;generalize IntKind.i64.wrap (IntKind.i64.wrap (IntKind.i64.wrap ((x.eqs.length:Int)+(x.once.length:Int))+(x.many.length:Int))+(x.rules.length:Int))=n0
 refine Ex.loop (ι:=Int × Nat) (λc=>[(1,.ptr p 0),(3,.int .i64 c.1),(30,.list none (x.rules.map Rul.enc)),(31,.int .i64 x.rules.length),(32,.int .i64 (c.2:Nat))]) (λ_=>s.setO p (.cells 31 x.cs))
  (λc=>c.2<=x.rules.length) (λc=>x.rules.length-c.2) (n0,0) (aN _) ?_ (by exact aC _) ?_
 ·(simp only[go_sem,u];first|done|exact rfl|exact⟨rfl,rfl⟩)
 .rintro⟨l,i⟩ Z;simp only at Z;refine aQ (V:=[0,1,2,3,5,28,30,31,32,33,54]) _ _ _ _ ?_;simp only[go_sem,u]
  (apply aI<;>intro h)<;>simp only[go_sem,h,u]
  .have y:i<x.rules.length:=gQ h;obtain⟨e,T⟩:=aU y;clear h;simp only[go_sem,u,T,y];(refine aL λb5 z=>?_);simp only[go_sem,u,T,y,z]
   (apply aI<;>intro h)<;>simp only[go_sem,h,u,z]
   .exact aD (G _) aK
   exact⟨(_,i+1),y,bD,⟨rfl,H.wrap (i:=i) (gQ y)⟩,(eW (And.intro u z))⟩
  .clear h;refine aRe x U _ _ _ (λxs=>?_);simp only[go_sem,u];refine aSv xs _ _ _ _ (λb2=>?_);simp only[go_sem,u];exact aD (G _) aK
section
section
variable {s:St} {KV Kp:St->A->Prop}
end
end
section
section
variable {s:St} {KV Kp:St->A->Prop}
theorem aKC(l:List aA)(hl:l.length<=4294967296)(B:KV s (.bool true)):Den cx 13 [.list none (l.map .str),.list none (l.map .str)] KV Kp s:=by
 (refine aO func13 aBv ?_;simp only[go_sem,ntmps13,f13])
 (try simp only[go_sem])
 refine Ex.loop (ι:=Nat) (λi=>[(1,.list none (l.map .str)),(0,.list none ((l).map A.str)),(12,.int .i64 ((l).length:Nat)),(13,.int .i64 (i:Nat))]) (λ_=>s) (λi=>i<=(l).length/\True) (λi=>(l).length-i) 0 ⟨aN _,trivial⟩ ?_ (aC _) ?_
 .simp only[go_sem]
  try exact rfl
  try exact⟨rfl,rfl⟩
 .rintro i ⟨z,H⟩;refine aQ (V:=aBv) _ _ _ _ ?_;simp only[go_sem]
  (apply aI<;>intro h)<;>simp only[go_sem,h]
  .have u:i<l.length:=gQ h;clear h;obtain⟨x,y⟩:=aU u;have O:=bA y
   (try simp only[go_sem,y,u])
   (refine bX (OT.r 0 9) [] ?_;simp only[go_sem,y,u]);exact⟨i+1,u,by omega,aR i aB,aC _⟩
  .have G:=bI z h;clear h;subst G;exact aD B (aC _)
theorem aRw{d:Dfn}(y:DfnB d)(n:aA):∃(L:List aA) (c:Int),L.length<=4294967296/\(∀{s:St} {KV Kp:St->A->Prop},KV s (.tuple [.list none (L.map .str),.int .i64 c])->Den cx 11 [.agg d.cs,.str n] KV Kp s) /\
  ∀{s:St} {KV Kp:St->A->Prop},KV s (.tuple [.list none (L.map .str),.int .i64 c])->Den cx 12 [.agg d.cs,.str n] KV Kp s:=by
 cases u:gU d with
 | false=>exact⟨[],2,aN _,λh=>aGg y n (by rw[u];exact h),λh=>aGh y n (by unfold aCB;rw[u];exact h)⟩
 | true =>
  have ok:=aEQ (aBX u).2;cases z:(dA d.sig.funs n).isSome with
  | false=>exact⟨[],4,aN _,λh=>aGg y n (by rw[u,z];exact h),λh=>aGh y n (by unfold aCB;rw[u,yQ ok.nf,z];exact h)⟩
  | true =>
   refine⟨zD d n,0,?_,λh=>aGg y n (by rw[u,z];exact h),λh=>aGh y n (by unfold aCB;rw[u,yQ ok.nf,z,<-aTB u];exact h)⟩;have B:=y.cc.pr;have G:=aGm (aP (mI d.eqs n)) [];have O:=aDJ d.eqs n;have H:=List.length_filter_le (λa=>(dA d.sig.funs a).isSome) (gV (mI d.eqs n));rw[bZ,dP,aG]at B;unfold zD;rw[(lY _).length_eq];unfold gV at H⊢;simp only[bQ]at G;omega
theorem aRf{d:Dfn}(y:DfnB d):∃(L:List aA) (c:Int),L.length<=4294967296/\(∀{s:St} {KV Kp:St->A->Prop},KV s (.tuple [.list none (L.map .str),.int .i64 c])->Den cx 14 [.agg d.cs] KV Kp s) /\
  ∀{s:St} {KV Kp:St->A->Prop},KV s (.tuple [.list none (L.map .str),.int .i64 c])->Den cx 15 [.agg d.cs] KV Kp s:=by
 cases u:gU d with
 | false=>exact⟨[],2,aN _,λh=>aI9 y (by rw[u];exact h),λh=>aJa y (by unfold aEn;rw[u];exact h)⟩
 | true =>
  refine⟨aA3 d,0,?_,λh=>aI9 y (by rw[u];exact h),λh=>aJa y (by unfold aEn;rw[u,<-aTe u];exact h)⟩;have z:=List.length_filter_le (pX (gV (bZ d))) (d.sig.ops++d.sig.funs);have B:=y.cc.op;unfold aA3;rw[(lY _).length_eq,aW];rw[aG]at z;omega
theorem aR9(d:Dfn)(n:aA)(hb:dI d.cs<=100000000)(Y:zT d<=4294967296)(hS:d.sig.ops.length+d.sig.funs.length<=4294967296)(O:KV s (.bool true)):Den cx 4 [.agg d.cs,.str n] KV Kp s:=by
 have z:=aSr d hb;(refine aO func4 [0,1,2,4,5,6,7,8,9,10,11,12,15,37,56] ?_;simp only[go_sem,ntmps4,Tryz.f4]);(refine aL λp T=>?_)
 (try simp only[go_sem,T])
 obtain⟨S,h,y,u⟩:=gZ s p (.cells 31 d.cs) (T)
 try simp only[go_sem]at u h
 rw[u];clear u
 (try simp only[go_sem,h])
 refine dU (aSu d Y hS _ _ _ (λb=>?_)) (by simp only[Dfn.cs,Sig.cs,bL,bE]);cases b<;>(try simp only[go_sem,h])
 .refine aJM ?_
  (try simp only[go_sem])
  exact aD O y
 obtain⟨L,c,hL,p1,r1⟩:=aRw z n;refine dU (p1 ?_) (by simp only[Dfn.cs,Sig.cs,bL,bE])
 (try simp only[go_sem,h])
 refine dU (r1 ?_) (by simp only[Dfn.cs,Sig.cs,bL,bE])
 (try simp only[go_sem,h])
 refine aKC L hL ?_
 (try simp only[go_sem,h])
 obtain⟨M,e,Z,p2,r2⟩:=aRf z;refine dU (p2 ?_) (by simp only[Dfn.cs,Sig.cs,bL,bE])
 (try simp only[go_sem,h])
 refine dU (r2 ?_) (by simp only[Dfn.cs,Sig.cs,bL,bE])
 (try simp only[go_sem,h])
 refine aKC M Z ?_
 (try simp only[go_sem,h])
 refine dU (aQ1 z.cc n ?_) (by simp only[Dfn.cs,Sig.cs,bL,bE])
 obtain⟨U,i1,c1,H⟩:∃(b:Bool) (i c:Int),aBf d n=.tuple [.bool b,.int .i64 i,.int .i64 c]:=by
  unfold aBf;split
  .split<;>exact⟨_,_,_,rfl⟩
  .exact⟨_,_,_,rfl⟩
 rw[H]
 (try simp only[go_sem,h])
 refine dU (aQ2 z n ?_) (by simp only[Dfn.cs,Sig.cs,bL,bE]);rw[H]
 (try simp only[go_sem,h])
 have B:(false == false)=true:=rfl;have G:(true == true)=true:=rfl;cases U<;>(try simp only[go_sem,h,B,G])
 all_goals
  refine aJM ?_
  (try simp only[go_sem,h])
  exact aD O y
end
end
mutual
def A.ir:A->Prop
 | .int .i64 i=>-9223372036854775808<=i/\i<=9223372036854775807
 | .list _ es=>sF es
 | .agg cs=>sF cs
 | _=>True
def sF:List A->Prop
 | []=>True
 | a::r=>A.ir a/\sF r
end
theorem aMG{l r:List A}(h:sF l)(u:sF r):sF (l++r):=by
 induction l with
 | nil=>exact u
 | cons a l y=>exact⟨h.1,y h.2⟩
theorem aSC{a:A}(h:sF a.cells):a.ir:=by
 cases a<;>first|exact h.1|exact h
end Go.AV
