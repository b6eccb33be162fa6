/-
  Of DefRenamed.
-/
import Derived.Test.YtamikhobdffnfaaGreatDoorRe14
import Derived.RangeFuncBox
import Derived.RangeFuncLeaves
import Derived.Shelf.Abstract
import Derived.OwnWalkIn
import Derived.TacticsInMore
import Derived.LoopNIn
import Derived.LoopIn
import Derived.Maps.AppendAt
import Derived.RegionIn
set_option linter.all false
set_option maxRecDepth 99999
set_option maxHeartbeats 0
namespace Go.AV
open Go Go.Proofs Tryz
def bA(c:List Wd):List aC:=c.map (·.1)
def tw(l:List Tok):List aC:=l.map Tok.word
theorem cP(c:List Wd)(x:aC):bA (aL c x)=bA c++[x]:=by simp[bA,aL]
theorem eO(l:List aC):∀c:List Wd,bA (bM c l)=bA c++l:=by
 induction l with
 | nil=>intro c;simp[bM]
 | cons x r ih=>intro c;show bA (bM (aL c x) r)=_;rw[ih,cP,bI];rfl
theorem aCJ(c:List Wd)(l:List aC):bA (lW c l)=bA c++l:=by
 cases l with
 | nil=>simp[lW]
 | cons x r =>
  have:∀(r:List aC) (c:List Wd),bA (r.foldl (λc s=>c++[(s,true)]) c)=bA c++r:=by
   intro r
   induction r with
   | nil=>intro c;simp
   | cons y r ih=>intro c;rw[List.foldl_cons,ih];simp[bA]
  show bA (r.foldl _ (aL c x))=_;rw[this,cP,bI];rfl
theorem kT(a b:List Tok):tw (a++b)=tw a++tw b:=by simp[tw]
theorem jY:tw []=[]:=rfl
theorem kU(x:aC)(l:List Tok):tw (aR x::l)=x::tw l:=rfl
theorem lZ(x:aC)(l:List Tok):tw (bE x::l)=x::tw l:=rfl
def tkt(x:aC):Tok:=⟨3,x,0,0,0⟩
def rX(n:Int):Tok:=⟨2,[],n,0,0⟩
theorem aT3(x:aC)(l:List Tok):tw (tkt x::l)=([34]++x++[34])::tw l:=rfl
def tK(t:Tm):List Tok:=bH t.pc
def iV{α:Type}(one:α->List Tok):Bool->List α->List Tok
 | _,[]=>[]
 | b,x::r=>(if b=true then [aR [44]] else [])++(one x++iV one true r)
theorem uV{α:Type}(one:List Wd->α->List Wd)(oneK:α->List Tok):∀(l:List α) (b:Bool) (c:List Wd),(∀x,x∈l->∀c,bA (one c x)=bA c++tw (oneK x))->bA (eE one b c l)=bA c++tw (iV oneK b l)
 | [],b,c,_=>by simp[eE,iV,tw]
 | x::r,b,c,h=>by
  rw[eE,uV one oneK r true _ (λy hy=>h y (cT _ hy)),h x (bY ..),iV];cases b
  .simp[tw]
  .simp only[if_true,cP,kT,kU,jY,bI]
theorem aLN(b:Bool):∀l:List Tm,bH (eS b l)=iV tK b l:=by
 intro l
 induction l generalizing b with
 | nil=>rfl
 | cons t r ih =>
  rw[eS,iV,lF,lF,ih];cases b<;>rfl
theorem aI1{S:aC}{rs:List Tm}(h:sL S rs)(e:Bool)(c:List Wd):bA (mG c rs)=bA c++tw (bH (gV e rs)):=by
 rcases h with rfl|⟨x,rfl,_,_⟩
 .simp[mG,gV,bH,tw]
 .simp only[mG,eO,Tm.text];cases e<;>rfl
theorem aJy:∀(m:Nat) (l:List Tm) (b:Bool) (c:List Wd),l.length<=m->l.length % 2=0->(∀t,t∈l->∀c,bA (cI c t)=bA c++tw (tK t))->bA (fQ b c l)=bA c++tw (bH (fA b l))
 | _,[],b,c,_,_,_=>by simp[fQ,fA,bH,tw]
 | _,[_],b,c,_,h,_=>by simp at h
 | 0,x::y::r,b,c,h,_,_=>by simp at h
 | m+1,x::y::r,b,c,hm,he,h=>by
  simp only[aE]at hm he;rw[fQ,aJy m r true _ aB aB (λt ht=>h t (cT _ (cT _ ht))),h y (cT _ (bY ..)),cP,h x (bY ..)];cases b
  .simp only[cJ,if_false,fA,oE,aW,lF,bH,kT,kU,tK,bI,aV]
  .simp only[if_true,cP,fA,oE,lF,bH,kT,kU,jY,tK,bI,aV,aW]
theorem xC{t:Tm}(h:Gd t):∀c:List Wd,bA (cI c t)=bA c++tw (tK t):=by
 induction h with
 | int n h1 h2 =>
  intro c;unfold tK;rw[cI,if_pos rfl,pc1];by_cases hn:n<0
  .rw[if_pos hn,if_pos hn,aCJ];have e:Lib.itoa n=45::Lib.decDigits n.natAbs:=by unfold Lib.itoa;rw[if_pos hn]
   have e2:Lib.itoa (-n)=Lib.decDigits n.natAbs:=by unfold Lib.itoa;rw[if_neg aB];congr 1;omega
   rw[e];simp only[bH,kU];show _=bA c++([45]::[Lib.itoa (-n)]);rw[e2];rfl
  .rw[if_neg hn,if_neg hn,cP];rfl
 | bool n h =>
  intro c;unfold tK;rw[cI,if_neg aD,if_pos rfl,pc2,cP];rfl
 | text x h =>
  intro c;unfold tK;rw[cI,if_neg aD,if_neg aD,if_pos rfl,pc3,cP];rfl
 | id x h hr =>
  intro c;unfold tK;rw[cI,if_neg aD,if_neg aD,if_neg aD,if_pos rfl,pc4,eO];rfl
 | app x ks h hr hl hk ih =>
  intro c;unfold tK;rw[cI,if_neg aD,if_neg aD,if_neg aD,if_neg aD,if_pos rfl,pc5,cP,<-aBP,uV cI tK ks false _ (λy hy=>ih y hy),eO];simp only[bH,lF,aLN,lZ,kU,kT,jY,bI,aV,aW]
 | opn x h =>
  intro c;unfold tK;rw[cI,if_neg aD,if_neg aD,if_neg aD,if_neg aD,if_neg aD,if_pos rfl,if_pos h,wC,if_pos h,cP];rfl
 | var x s hx hr hs hrs =>
  intro c;unfold tK;obtain⟨_,_,_,_,_,h6,h7⟩:=vK hx;rw[cI,if_neg aD,if_neg aD,if_neg aD,if_neg aD,if_neg aD,if_pos rfl,if_neg (by simp[h6,h7]),wC,if_neg (by simp[h6,h7]),aCJ];rfl
 | list ks rs hk hr ih =>
  intro c;unfold tK;rw[cI,if_neg aD,if_neg aD,if_neg aD,if_neg aD,if_neg aD,if_neg aD,if_pos rfl,pc7,cP,aI1 hr ks.isEmpty,<-aBP,uV cI tK ks false _ (λy hy=>ih y hy),cP];simp only[bH,lF,aLN,lZ,kU,kT,jY,bI,aV,aW]
 | map ks rs he hk hr ih =>
  intro c;unfold tK;rw[cI,if_neg aD,if_neg aD,if_neg aD,if_neg aD,if_neg aD,if_neg aD,if_neg aD,if_pos rfl,pc8,cP,aI1 hr ks.isEmpty,aJy _ ks false _ (bT _) he (λy hy=>ih y hy),cP];simp only[bH,lF,lZ,kU,kT,jY,bI,aV,aW]
mutual
def A.bulk:A->Nat
 | .str x=>x.length
 | .list _ es=>bQ es
 | .agg cs=>cZ cs
 | _=>0
def bQ:List A->Nat
 | []=>0
 | a::r=>A.bulk a+1+bQ r
def cZ:List A->Nat
 | []=>0
 | a::r=>A.bulk a+cZ r
end
theorem aMJ(a:A):cZ a.cells=a.bulk:=by
 cases a<;>simp[A.cells,cZ,A.bulk]
theorem tL:∀l r:List A,cZ (l++r)=cZ l+cZ r
 | [],r=>by simp[cZ]
 | a::l,r=>by simp[cZ,tL l r,oX]
theorem aER:∀l r:List A,bQ (l++r)=bQ l+bQ r
 | [],r=>by simp[bQ]
 | a::l,r=>by simp[bQ,aER l r,oX]
theorem aIJ:∀l:List A,l.length<=bQ l
 | []=>bT _
 | a::l=>by have:=aIJ l;simp only[aE,bQ];omega
theorem eK{α:Type}(en:α->A)(l:List α):l.length<=bQ (l.map en):=by have:=aIJ (l.map en);rwa[aH]at this
structure OprI (o:Opr):Prop where
 s:∀n,n∈o.strict->-9223372036854775808<=n/\n<=9223372036854775807
 p:o.prec<=9223372036854775807
theorem aAn(t:Tm):t.enc.bulk=t.text.length+(t.sort.length+(bQ (t.kids.map Tm.enc)+bQ (t.rest.map Tm.enc))):=by
 rw[dH];simp only[A.bulk,Tm.cs,cZ,Nat.add_zero,gI]
theorem gJ{α:Type}(en:α->A):∀{l:List α} {x:α},x∈l->(en x).bulk+1<=bQ (l.map en)
 | y::r,x,h=>by
  simp only[bS,bQ];rcases List.mem_cons.1 h with rfl|h
  .omega
  .have:=gJ en h;omega
theorem aQS{l:List aC}{x:aC}(h:x∈l):x.length+1<=bQ (l.map .str):=gJ (en:=A.str) h
theorem aOR(N:Nat):(∀t:Tm,SizeOf.sizeOf t<N->t.cnt<=1+t.enc.bulk)/\∀l:List Tm,(∀t,t∈l->SizeOf.sizeOf t<N)->dL l<=bQ (l.map Tm.enc):=by
 induction N with
 | zero=>exact⟨λt h=>by omega,λl h=>by
   cases l with
   | nil=>simp[dL]
   | cons t r=>exact absurd (h t (bY ..)) aB⟩
 | succ N ih =>
  have key:∀t:Tm,SizeOf.sizeOf t<N+1->t.cnt<=1+t.enc.bulk:=λt ht=>by
   have h1:=ih.2 t.kids (λx hx=>by have:=aBS hx;omega);have h2:=ih.2 t.rest (λx hx=>by have:=aBT hx;omega);have:=aAn t;have:=aAQ t;omega
  refine⟨key,λl h=>?_⟩
  induction l with
  | nil=>simp[dL]
  | cons t r ihl =>
   have h1:=key t (h t (bY ..));have h2:=ihl (λx hx=>h x (cT _ hx));simp only[dL,bS,bQ];omega
theorem xD(t:Tm):t.cnt<=1+t.enc.bulk:=(aOR _).1 t (jB _)
theorem aDu(l:List Tm):dL l<=bQ (l.map Tm.enc):=by
 induction l with
 | nil=>simp[dL]
 | cons t r ih=>have:=xD t;simp only[dL,bS,bQ];omega
theorem aJC(N:Nat):∀t:Tm,SizeOf.sizeOf t<N->t.enc.bulk<=100000000->TmW t:=by
 induction N with
 | zero=>intro t h;omega
 | succ N ih =>
  intro t ht hb;have e:=aAn t;have k1:=λx (hx:x∈t.kids)=>(show TmW x from ih x (by have:=aBS hx;omega) (by have:=gJ Tm.enc hx;omega))
  have k2:=λx (hx:x∈t.rest)=>(show TmW x from ih x (by have:=aBT hx;omega) (by have:=gJ Tm.enc hx;omega))
  have l1:=eK Tm.enc t.kids;have l2:=eK Tm.enc t.rest;obtain⟨k,n,x,y,a,b⟩:=t;simp only[Tm.text,Tm.sort,Tm.kids,Tm.rest]at e k1 k2 l1 l2;exact .mk k n x y a b aB aB k1 k2 aB aB
theorem aAV(t:Tm)(hb:t.enc.bulk<=100000000):TmB t:=⟨aJC _ t (jB _) hb,by have:=xD t;omega⟩
theorem aCk(l:List Tm)(hb:bQ (l.map Tm.enc)<=100000000):TmsB l:=⟨by have:=eK Tm.enc l;omega,λt ht=>aAV t (by have:=gJ Tm.enc ht;omega)⟩
theorem aB4(l:List aC)(hb:bQ (l.map .str)<=100000000):StrsB l:=⟨by have:=eK A.str l;omega,λt ht=>by have:=aQS ht;omega⟩
theorem aIS(o:Opr)(hb:o.enc.bulk<=100000000):OprB o:=by
 simp only[Opr.enc,Opr.cs,A.bulk,cZ]at hb;have h1:=aB4 o.args aB;have h2:=eK Piece.enc o.pieces;have h3:=eK (.int .i64) o.strict;refine⟨by omega,by omega,h1.n,h1.s,by omega,λx hx=>?_,by omega⟩;have:=gJ Piece.enc hx;simp only[Piece.enc,Piece.cs,A.bulk,cZ]at this;omega
theorem aPf(x:Sig)(hb:cZ x.cs<=100000000):SigB x:=by
 simp only[Sig.cs,A.bulk,cZ]at hb;have h1:=eK Below.enc x.below;have h2:=eK Opr.enc x.ops;have h3:=eK Opr.enc x.funs;refine⟨aB4 _ aB,aB4 _ aB,by omega,λy hy=>?_,by omega,λy hy=>aIS y ?_,by omega,λy hy=>aIS y ?_⟩
 .have:=gJ Below.enc hy;simp only[Below.enc,Below.cs,A.bulk,cZ]at this;exact⟨by omega,by omega⟩
 .have:=gJ Opr.enc hy;omega
 .have:=gJ Opr.enc hy;omega
theorem aFs(t:Tm):cZ t.cs=t.enc.bulk:=by rw[dH];rfl
theorem xM(e:Eqn):e.enc.bulk=e.left.enc.bulk+(e.right.enc.bulk+bQ (e.cond.map Tm.enc)):=by
 simp only[Eqn.enc,Eqn.cs,A.bulk,tL,cZ,aFs,Nat.add_zero]
theorem xE(c:Cel):c.enc.bulk=c.name.length+(c.sort.length+c.init.enc.bulk):=by
 simp only[Cel.enc,Cel.cs,A.bulk,tL,cZ,aFs,Nat.add_zero]
theorem wZ(p:Part):p.enc.bulk=p.cell.length+(p.at_.length+(p.left.enc.bulk+bQ (p.right.map Tm.enc))):=by
 simp only[Part.enc,Part.cs,A.bulk,tL,cZ,aFs,Nat.add_zero]
theorem wU(f:Fresh):f.enc.bulk=bQ (f.cells.map Tm.enc):=by
 simp only[Fresh.enc,Fresh.cs,A.bulk,cZ,Nat.add_zero]
theorem vA(r:Rul):r.enc.bulk=r.name.length+(bQ (r.parts.map Part.enc)+(bQ (r.cond.map Tm.enc)+(bQ (r.new.map Fresh.enc)+bQ (r.drop.map .str)))):=by
 simp only[Rul.enc,Rul.cs,A.bulk,cZ,Nat.add_zero]
theorem aPg(r:Rul)(hb:r.enc.bulk<=100000000):RulB r:=by
 rw[vA]at hb;have h1:=eK Part.enc r.parts;have h2:=eK Fresh.enc r.new;have h3:=aB4 r.drop aB;refine⟨by omega,by omega,λp hp=>?_,aCk _ aB,by omega,λf hf=>?_,h3.n,h3.s⟩
 .have:=gJ Part.enc hp;rw[wZ]at this;exact⟨by omega,by omega,aAV _ aB,aCk _ aB⟩
 .have:=gJ Fresh.enc hf;rw[wU]at this;exact aCk _ aB
theorem vB(d:Dfn):cZ d.cs=d.name.length+(cZ d.sig.cs+(bQ (d.eqs.map Eqn.enc)+(bQ (d.once.map Cel.enc)+(d.kind.length+(bQ (d.many.map Cel.enc)+(bQ (d.rules.map Rul.enc)+(d.start.length+d.watch.length))))))):=by
 simp only[Dfn.cs,A.bulk,tL,cZ,Nat.add_zero]
theorem aIp(c:Cel)(hb:c.enc.bulk<=100000000):CelB c:=by
 rw[xE]at hb;exact⟨by omega,by omega,aAV _ aB⟩
theorem aFm(d:Dfn)(hb:cZ d.cs<=100000000):DfnC d:=by
 rw[vB]at hb;have h1:=eK Eqn.enc d.eqs;have h2:=eK Cel.enc d.once;have h3:=eK Cel.enc d.many;have h4:=eK Rul.enc d.rules;refine⟨by omega,by omega,by omega,by omega,aPf _ aB,by omega,λe he=>?_,by omega,λc hc=>aIp c ?_,by omega,λc hc=>aIp c ?_,by omega,λr hr=>aPg r ?_⟩
 .have:=gJ Eqn.enc he;rw[xM]at this;exact⟨aAV _ aB,aAV _ aB,aCk _ aB⟩
 .have:=gJ Cel.enc hc;omega
 .have:=gJ Cel.enc hc;omega
 .have:=gJ Rul.enc hr;omega
theorem aCs{f g:Tm->Nat->Option Nat}{P:Tm->Prop}:∀(l:List Tm) (m n:Nat),(∀x a b,x∈l->f x a=some b->P x/\g x a=some b)->dU f l m=some n->(∀x,x∈l->P x)/\dU g l m=some n
 | [],m,n,_,h=>⟨λx hx=>(by cases hx),h⟩
 | t::r,m,n,hf,h=>by
  simp only[dU]at h⊢;cases hx:f t m with
  | none=>rw[hx]at h;cases h
  | some c =>
   rw[hx]at h;obtain⟨h1,h2⟩:=hf t m c (bY ..) hx;obtain⟨h3,h4⟩:=aCs r c n (λx a b hx=>hf x a b (cT _ hx)) h;refine⟨λx hx=>?_,by rw[h2];exact h4⟩;rcases List.mem_cons.1 hx with rfl|hx
   .exact h1
   .exact h3 x hx
theorem aJg{x:aC}(h:dM x=true):x.length<=40:=by
 obtain⟨c,r,rfl,_,_,h3⟩:=aFl h;exact h3
theorem aFT:∀(m n:Nat),n<10 ^ m->0<m->(Lib.decDigits n).length<=m
 | 0,n,h,h0=>by omega
 | m+1,n,h,_=>by
  rw[Lib.decDigits];split
  .simp
  .have h10:n / 10<10 ^ m:=by rw[Nat.pow_succ]at h;omega
   have hm:0<m:=by
    cases m with
    | zero=>simp at h;omega
    | succ m=>omega
   have:=aFT m (n / 10) h10 hm;simp;omega
def sl:List aC->Nat
 | []=>0
 | x::r=>x.length+1+sl r
theorem dF:∀a b:List aC,sl (a++b)=sl a+sl b
 | [],b=>by simp[sl]
 | x::a,b=>by rw[aV,sl,sl,dF a b];omega
theorem aGo:∀a:List aC,a.length<=sl a
 | []=>bT _
 | x::a=>by have:=aGo a;simp only[aE,sl];omega
theorem aJ3{n:Int}(m:Nat)(h1:-(10 ^ m:Nat)<n)(h2:n<(10 ^ m:Nat))(hm:0<m):(Lib.itoa n).length<=m+1:=by
 unfold Lib.itoa;split
 .have:=aFT m n.natAbs aB hm;simp only[aE];omega
 .have:=aFT m n.toNat aB hm;omega
theorem wY{α:Type}(one:List Wd->α->List Wd)(en:α->A)(B:Nat):∀(l:List α) (b:Bool) (c:List Wd),(∀x,x∈l->∀c,sl (bA (one c x))+2<=sl (bA c)+B * ((en x).bulk+1))->sl (bA (eE one b c l))<=sl (bA c)+B * bQ (l.map en)
 | [],b,c,_=>by simp[eE,bQ]
 | x::r,b,c,h=>by
  have h1:=wY one en B r true (one (if b=true then aL c [44] else c) x) (λy hy=>h y (cT _ hy));have h2:=h x (bY ..) (if b=true then aL c [44] else c)
  have h3:sl (bA (if b=true then aL c [44] else c))<=sl (bA c)+2:=by
   cases b
   .simp
   .simp[cP,dF,sl]
  rw[eE,bS,bQ,Nat.mul_add];omega
theorem aKj:∀(l:List Tm) (c:List Wd),sl (bA (mG c l))<=sl (bA c)+3 * bQ (l.map Tm.enc)
 | [],c=>by simp[mG,bQ]
 | t::r,c=>by
  have h1:=aKj r (bM c [[124],t.text]);have h2:=aAn t;rw[eO,dF]at h1;simp only[sl,aE,aF]at h1;simp only[mG,bS,bQ];omega
theorem aKm:∀(k:Nat) (t:Tm) (m n:Nat),Tm.val k t m=some n->∀c,sl (bA (cI c t))<=sl (bA c)+(14+17 * t.enc.bulk)
 | 0,_,_,_,h=>by cases h
 | k+1,.mk kd nn x y ks rs,m,n,h=>λc=>by
  unfold Tm.val at h;split at h
  .rename_i h2;split at h
   .rename_i hs
    have hv:∀t,t∈ks->∃a b,Tm.val k t a=some b:=by
     cases hl:dU (Tm.val k) ks (m+1)with
     | none=>rw[Tm.kids,hl]at h;cases h
     | some c =>
      have:=aCs (P:=λt=>∃a b,Tm.val k t a=some b) (g:=Tm.val k) ks (m+1) c (λx a b hx hv=>⟨⟨a,b,hv⟩,hv⟩) hl;exact this.1
    have ih:∀t,t∈ks->∀c,sl (bA (cI c t))<=sl (bA c)+(14+17 * t.enc.bulk):=λt ht=>by
     obtain⟨a,b,e⟩:=hv t ht;exact aKm k t a b e
    have hk:∀c,sl (bA (gK false c ks))<=sl (bA c)+17 * bQ (ks.map Tm.enc):=λc=>by
     rw[<-aBP];exact wY cI Tm.enc 17 ks false c (λt ht c=>by have:=ih t ht c;omega)
    have e:=aAn (.mk kd nn x y ks rs);simp only[Tm.text,Tm.sort,Tm.kids,Tm.rest]at e;rw[cI];by_cases h1:kd=1
    .rw[if_pos h1]
     have hi:-2147483647<=nn/\nn<=2147483647:=by
      unfold Tm.shape at hs;rw[if_pos (show(Tm.mk kd nn x y ks rs).kind=1 from h1)]at hs;simp only[aAl,cL,qB,cU]at hs;have h3:((-2147483647<=nn/\nn<=2147483647)\/(nn=0\/nn=1)):=hs.1.2;omega
     have hl:=aJ3 (n:=nn) 10 aB aB aD;by_cases hn:nn<0
     .rw[if_pos hn,aCJ,dF];simp only[sl,dR,aE,aF];omega
     .rw[if_neg hn,cP,dF];simp only[sl];omega
    rw[if_neg h1];by_cases h1:kd=2
    .rw[if_pos h1,cP,dF];split<;>simp only[sl,aE,aF]<;>omega
    rw[if_neg h1];by_cases h1:kd=3
    .rw[if_pos h1,cP,dF];simp only[sl,aE,aF,aG];omega
    rw[if_neg h1];by_cases h1:kd=4
    .rw[if_pos h1,eO,dF];simp only[sl,aE,aF];omega
    rw[if_neg h1];by_cases h1:kd=5
    .rw[if_pos h1,cP,dF];have:=hk (bM c [x,[40]]);rw[eO,dF]at this;simp only[sl,aE,aF]at this⊢;omega
    rw[if_neg h1];by_cases h1:kd=6
    .rw[if_pos h1];split
     .rw[cP,dF];simp only[sl];omega
     .rw[aCJ,dF];simp only[sl,aE,aF];omega
    rw[if_neg h1];have hr:=aKj rs;by_cases h1:kd=7
    .rw[if_pos h1,cP,dF];have g1:=hk (aL c [91]);have g2:=hr (gK false (aL c [91]) ks);rw[cP,dF]at g1;simp only[sl,aE,aF]at g1⊢;omega
    rw[if_neg h1];by_cases h1:kd=8
    ·rw [if_pos h1,cP,dF]
     have he:∀(q:Nat) (l:List Tm) (b:Bool) (c:List Wd),l.length<=q->(∀t,t∈l->∀c,sl (bA (cI c t))<=sl (bA c)+(14+17 * t.enc.bulk))->sl (bA (fQ b c l))<=sl (bA c)+17 * bQ (l.map Tm.enc):=by
      intro q
      induction q with
      | zero =>
       intro l b c hl _;cases l with
       | nil=>simp[fQ,bQ]
       | cons x l=>simp at hl
      | succ q ihq =>
       intro l b c hl hi
       match l,hl,hi with
       | [],_,_=>simp[fQ,bQ]
       | [_],_,_=>simp[fQ]
       | u::v::r,hl,hi =>
        have g1:=hi u (bY ..) (if b=true then aL c [44] else c);have g2:=hi v (cT _ (bY ..)) (aL (cI (if b=true then aL c [44] else c) u) [45,62]);have g3:=ihq r true (cI (aL (cI (if b=true then aL c [44] else c) u) [45,62]) v) (by simp only[aE]at hl;omega) (λt ht=>hi t (cT _ (cT _ ht)))
        have g4:sl (bA (if b=true then aL c [44] else c))<=sl (bA c)+2:=by
         cases b
         .simp
         .simp[cP,dF,sl]
        rw[cP,dF]at g2;simp only[sl,aE,aF]at g2;rw[fQ,bS,bS,bQ,bQ];omega
     have g1:=he _ ks false (aL c [123]) (bT _) ih;have g2:=hr (fQ false (aL c [123]) ks);rw[cP,dF]at g1;simp only[sl,aE,aF]at g1⊢;omega
    rw[if_neg h1];omega
   .cases h
  .cases h
theorem xG{t:Tm}(h:fR t=true)(c:List Wd):sl (bA (cI c t))<=sl (bA c)+(14+17 * t.enc.bulk):=by
 unfold fR at h;obtain⟨m,e⟩:=Option.isSome_iff_exists.1 h;exact aKm 60 t 0 m e c
theorem aJP{l:List Tm}(h:∀t,t∈l->fR t=true)(c:List Wd):sl (bA (qI c l))<=sl (bA c)+(3+17 * bQ (l.map Tm.enc)):=by
 unfold qI;split
 .omega
 .have:=wY cI Tm.enc 17 l false (aL c [105,102]) (λt ht c=>by have:=xG (h t ht) c;omega);rw[cP,dF]at this;simp only[sl,aE,aF]at this;omega
theorem aTX{e:Eqn}(h:∀t,t∈iR e->fR t=true):sl (bA (sR e))<=64 * (e.enc.bulk+1):=by
 have g1:=xG (h e.left (by simp[iR])) (aL [] [108,101,116]);have g2:=xG (h e.right (by simp[iR])) (aL (cI (aL [] [108,101,116]) e.left) [61]);have g3:=aJP (l:=e.cond) (λt ht=>h t (by simp[iR,ht])) (cI (aL (cI (aL [] [108,101,116]) e.left) [61]) e.right);rw[xM];unfold sR;rw[cP,dF]at g1 g2⊢;simp only[sl,bA,cY,aE,aF]at g1 g2 g3⊢;omega
theorem aKX{x:Cel}(h:fR x.init=true)(c:List Wd):sl (bA (jF c x))+40<=sl (bA c)+64 * (x.enc.bulk+1):=by
 have g1:=xG h (bM c [x.name,[58],x.sort,[61]]);rw[xE];unfold jF;rw[eO,dF]at g1;simp only[sl,aE,aF]at g1⊢;omega
theorem aRI{x:Cel}(h:fR x.init=true):sl (bA (aL (jF (aL [] [99,101,108,108]) x) [46]))<=64 * (x.enc.bulk+1):=by
 have g1:=aKX h (aL [] [99,101,108,108]);rw[cP,dF]at g1⊢;simp only[sl,bA,cY,aE,aF]at g1⊢;omega
theorem aKp(l:List aC):sl l<=bQ (l.map .str):=by
 induction l with
 | nil=>simp[sl]
 | cons x r ih=>simp only[sl,bS,bQ,A.bulk];omega
theorem aPS(l:List Piece):sl (l.map oL)<=3 * bQ (l.map Piece.enc):=by
 induction l with
 | nil=>simp[sl]
 | cons x r ih =>
  have e:(Piece.enc x).bulk=x.text.length+x.sort.length:=by simp only[Piece.enc,Piece.cs,A.bulk,cZ,Nat.add_zero]
  simp only[sl,bS,bQ]
  have e2:(oL x).length<=x.text.length+x.sort.length+2:=by
   unfold oL;split<;>(try simp only[aG,aE,aF])<;>omega
  omega
theorem aLj{n:Int}(h:-9223372036854775808<=n/\n<=9223372036854775807):(Lib.itoa n).length<=20:=aJ3 19 aB aB aD
theorem aTU{o:Opr}(h:OprI o):sl (bA (qT o))<=64 * (o.enc.bulk+1):=by
 have e:o.enc.bulk=o.name.length+(bQ (o.args.map .str)+(o.sort.length+(bQ (o.pieces.map Piece.enc)+bQ (o.strict.map (.int .i64))))):=by
  simp only[Opr.enc,Opr.cs,A.bulk,cZ,Nat.add_zero,gI]
 have g1:=aKp o.args;have g2:=aPS o.pieces
 have e1:∀c:List Wd,sl (bA (if o.strict=[] then c else aL (eE (λc n=>aL c (Lib.itoa n)) false (bM c [[115,116,114,105,99,116],[40]]) o.strict) [41]))<=sl (bA c)+(11+24 * bQ (o.strict.map (.int .i64))):=by
  intro c;split
  .omega
  .have:=wY (λc n=>aL c (Lib.itoa n)) (A.int .i64) 24 o.strict false (bM c [[115,116,114,105,99,116],[40]]) (λx hx c=>by
    have:=aLj (h.s x hx);rw[cP,dF];simp only[sl,A.bulk];omega)
   rw[eO,dF]at this;rw[cP,dF];simp only[sl,aE,aF]at this⊢;omega
 have e2:∀c:List Wd,sl (bA (if o.assoc=1 then aL c [108,101,102,116] else if o.assoc=2 then aL c [114,105,103,104,116] else c))<=sl (bA c)+6:=by
  intro c;split
  .rw[cP,dF];simp only[sl,aE,aF];omega
  .split
   .rw[cP,dF];simp only[sl,aE,aF];omega
   .omega
 have e3:∀c:List Wd,sl (bA (if 0<o.prec then bM c [[112,114,101,99],Lib.itoa o.prec] else c))<=sl (bA c)+26:=by
  intro c;split
  .rename_i h0;have:=aLj (n:=o.prec) ⟨by omega,h.p⟩;rw[eO,dF];simp only[sl,aE,aF];omega
  .omega
 have e4:∀c:List Wd,sl (bA (if o.pieces=[] then bM c o.args else c))<=sl (bA c)+sl o.args:=by
  intro c;split
  .rw[eO,dF];exact bT _
  .omega
 unfold qT;simp only[];rw[cP,dF];refine nM (Nat.add_le_add_right (e1 _) _) ?_;refine nM (Nat.add_le_add_right (Nat.add_le_add_right (e2 _) _) _) ?_;refine nM (Nat.add_le_add_right (Nat.add_le_add_right (Nat.add_le_add_right (e3 _) _) _) _) ?_;rw[eO,dF];refine nM (Nat.add_le_add_right (Nat.add_le_add_right (Nat.add_le_add_right (Nat.add_le_add_right (Nat.add_le_add_right (e4 _) _) _) _) _) _) ?_;rw[eO,dF,eO,dF];simp only[sl,bA,cY,aE,aF];omega
theorem aTe(o:Opr):sl (bA (uJ o))<=64 * (o.enc.bulk+1):=by
 have e:o.enc.bulk=o.name.length+(bQ (o.args.map .str)+(o.sort.length+(bQ (o.pieces.map Piece.enc)+bQ (o.strict.map (.int .i64))))):=by
  simp only[Opr.enc,Opr.cs,A.bulk,cZ,Nat.add_zero,gI]
 have g1:=aKp o.args;unfold uJ;rw[cP,dF,eO,dF,eO,dF,eO,dF];simp only[sl,bA,cY,aE,aF];omega
theorem aGi(n:Nat)(c:List Wd):sl (bA (iP n c))<=sl (bA c)+2:=by
 unfold iP;split
 .rw[cP,dF];simp only[sl,aE,aF];omega
 .omega
theorem aC4{α:Type}(one:Nat->List Wd->α->List Wd)(en:α->A):∀(l:List α) (n:Nat) (c:List Wd),(∀x,x∈l->∀n c,sl (bA (one n c x))<=sl (bA c)+64 * ((en x).bulk+1))->sl (bA (gM one n c l))<=sl (bA c)+64 * bQ (l.map en)
 | [],n,c,_=>by simp[gM,bQ]
 | x::r,n,c,h=>by
  have h1:=aC4 one en r (n+1) (one n c x) (λy hy=>h y (cT _ hy));have h2:=h x (bY ..) n c;rw[gM,bS,bQ];omega
theorem aIX:∀(l:List Tm) (c:List Wd),(∀t,t∈l->fR t=true)->sl (bA (jX c l))<=sl (bA c)+17 * bQ (l.map Tm.enc)
 | [],c,_=>by simp[jX,bQ]
 | t::r,c,h=>by
  have h1:=aIX r (cI (aL c [61,62]) t) (λy hy=>h y (cT _ hy));have h2:=xG (h t (bY ..)) (aL c [61,62]);rw[cP,dF]at h2;simp only[sl,aE,aF]at h2;rw[jX,bS,bQ];omega
theorem aRT{p:Part}(h:∀t,t∈jK p->fR t=true)(n:Nat)(c:List Wd):sl (bA (lS n c p))<=sl (bA c)+64 * (p.enc.bulk+1):=by
 have e2:∀c:List Wd,sl (bA (if p.at_=[] then c else bM c [[64],p.at_]))<=sl (bA c)+(3+p.at_.length):=by
  intro c;split
  .omega
  .rw[eO,dF];simp only[sl,aE,aF];omega
 have g0:=aGi n c;have g1:=e2 (aL (iP n c) p.cell);have g2:=xG (h p.left (by simp[jK])) (aL (if p.at_=[] then aL (iP n c) p.cell else bM (aL (iP n c) p.cell) [[64],p.at_]) [58]);have g3:=aIX p.right (cI (aL (if p.at_=[] then aL (iP n c) p.cell else bM (aL (iP n c) p.cell) [[64],p.at_]) [58]) p.left) (λt ht=>h t (by simp[jK,ht]));rw[cP,dF]at g2;generalize hX:(if p.at_=[] then aL (iP n c) p.cell else bM (aL (iP n c) p.cell) [[64],p.at_])=X at g1 g2 g3;rw[cP,dF]at g1;rw[wZ];unfold lS;simp only[];rw[hX];simp only[sl,aE,aF]at g1 g2 g3⊢;omega
theorem aTI{f:Fresh}(h:∀t,t∈f.cells->fR t=true)(n:Nat)(c:List Wd):sl (bA (lV n c f))<=sl (bA c)+64 * (f.enc.bulk+1):=by
 have g0:=aGi n c;have:=wY cI Tm.enc 17 f.cells false (bM (iP n c) [[110,101,119],[40]]) (λt ht c=>by have:=xG (h t ht) c;omega);rw[eO,dF]at this;rw[wU];unfold lV;rw[cP,dF];simp only[sl,aE,aF]at this⊢;omega
theorem aRX(x:aC)(n:Nat)(c:List Wd):sl (bA (lT n c x))<=sl (bA c)+64 * ((A.str x).bulk+1):=by
 have g0:=aGi n c;unfold lT;rw[eO,dF];simp only[sl,aE,aF,A.bulk];omega
theorem aTu{r:Rul}(h:∀t,t∈hH r->fR t=true):sl (bA (rL r))<=64 * (r.enc.bulk+1):=by
 have hp:∀p,p∈r.parts->∀t,t∈jK p->fR t=true:=λp hp t ht=>h t (by simp only[hH,cW,List.mem_flatMap];exact .inl ⟨p,hp,ht⟩)
 have hf:∀f,f∈r.new->∀t,t∈f.cells->fR t=true:=λf hf t ht=>h t (by simp only[hH,cW,List.mem_flatMap];exact .inr (.inr ⟨f,hf,ht⟩))
 have hc:∀t,t∈r.cond->fR t=true:=λt ht=>h t (by simp only[hH,cW];exact .inr (.inl ht))
 unfold rL;simp only[];have g1:=aC4 lS Part.enc r.parts 0 (bM [] [[114,117,108,101],r.name,[58]]) (λp hp' n c=>aRT (hp p hp') n c);generalize gM lS 0 (bM [] [[114,117,108,101],r.name,[58]]) r.parts=X at g1⊢;have g2:=aC4 lV Fresh.enc r.new r.parts.length X (λp hp' n c=>aTI (hf p hp') n c);generalize gM lV r.parts.length X r.new=Y at g2⊢;have g3:=aC4 lT A.str r.drop (r.parts.length+r.new.length) Y (λp hp' n c=>aRX p n c);generalize gM lT (r.parts.length+r.new.length) Y r.drop=Z at g3⊢;have g4:=aJP hc Z;rw[eO,dF]at g1;rw[cP,dF,vA];simp only[sl,bA,cY,aE,aF]at g1 g2 g3 g4⊢;omega
theorem xL{α:Type}(f:α->List Wd)(en:α->A):∀l:List α,(∀x,x∈l->sl (bA (f x))<=64 * ((en x).bulk+1))->sl (dJ (l.map f))<=64 * bQ (l.map en)
 | [],_=>by simp[dJ,sl]
 | x::r,h=>by
  have h1:=xL f en r (λy hy=>h y (cT _ hy));have h2:=h x (bY ..);have e:dJ ((x::r).map f)=bA (f x)++dJ (r.map f):=rfl;rw[e,dF,bS,bQ];omega
theorem aJr(k:aC)(l:List aC):sl (dJ (nP k l))<=k.length+3+3 * bQ (l.map .str):=by
 unfold nP;split
 .simp[dJ,sl]
 .have:=wY aL A.str 3 l false (aL [] k) (λx hx c=>by
   rw[cP,dF];simp only[sl,A.bulk];omega)
  have e:∀x:List Wd,dJ [x]=bA x:=λx=>by simp[dJ,bA]
  rw[cP,dF]at this;rw[e,cP,dF];simp only[sl,bA,cY,aE,aF]at this⊢;omega
theorem aI4(k x:aC):sl (dJ (mY k x))<=k.length+x.length+4:=by
 unfold mY;split
 .simp[dJ,sl]
 .have e:∀x:List Wd,dJ [x]=bA x:=λx=>by simp[dJ,bA]
  rw[e,cP,dF,eO,dF];simp only[sl,bA,cY,aE,aF];omega
theorem aJA{d:Dfn}(h:iW d=true):∀t,t∈iQ d->fR t=true:=by
 simp only[iW,cL]at h;exact iH.1 h.2
theorem aS9{d:Dfn}(h:iW d=true)(hI:∀o,o∈d.sig.ops->OprI o):sl (dJ (fI d))<=128+64 * cZ d.cs:=by
 have hv:=aJA h;have he:∀e,e∈d.eqs->∀t,t∈iR e->fR t=true:=λe he t ht=>hv t (by simp only[iQ,cW,List.mem_flatMap];exact .inl ⟨e,he,ht⟩)
 have hc:∀c,c∈d.once\/c∈d.many->fR c.init=true:=λc hc=>hv _ (by simp only[iQ,cW,List.mem_flatMap];exact .inr (.inl ⟨c,hc,by simp[kW]⟩))
 have hr:∀r,r∈d.rules->∀t,t∈hH r->fR t=true:=λr hr t ht=>hv t (by simp only[iQ,cW,List.mem_flatMap];exact .inr (.inr ⟨r,hr,ht⟩))
 have g1:=aJr [115,111,114,116] d.sig.sorts
 have g2:=xL (λx:Below=>aL (bM [] [[115,117,98,115,111,114,116],x.low,[60],x.high]) [46]) Below.enc d.sig.below (λx hx=>by
  rw[cP,dF,eO,dF];simp only[sl,bA,cY,aE,aF,Below.enc,Below.cs,A.bulk,cZ];omega)
 have g3:=aJr [118,97,108,117,101] d.sig.values;have g4:=xL qT Opr.enc d.sig.ops (λx hx=>aTU (hI x hx));have g5:=xL uJ Opr.enc d.sig.funs (λx hx=>aTe x);have g6:=xL sR Eqn.enc d.eqs (λx hx=>aTX (he x hx));have g7:=xL (λc=>aL (jF (aL [] [99,101,108,108]) c) [46]) Cel.enc d.once (λx hx=>aRI (hc x (.inl hx)));have g8:=xL rL Rul.enc d.rules (λx hx=>aTu (hr x hx));have g9:=aI4 [115,116,97,114,116] d.start;have g10:=aI4 [119,97,116,99,104] d.watch;have e:∀x:List Wd,dJ [x]=bA x:=λx=>by simp[dJ,bA]
 have g11:sl (dJ (if d.kind=[] then [] else [aL (aL (eE jF false (bM [] [[109,97,110,121],d.kind,[40]]) d.many) [41]) [46]]))<=12+d.kind.length+64 * bQ (d.many.map Cel.enc):=by
  split
  .simp[dJ,sl]
  .have:=wY jF Cel.enc 64 d.many false (bM [] [[109,97,110,121],d.kind,[40]]) (λx hx c=>by have:=aKX (hc x (.inr hx)) c;omega);rw[eO,dF]at this;rw[e,cP,dF,cP,dF];simp only[sl,bA,cY,aE,aF]at this⊢;omega
 have es:cZ d.sig.cs=bQ (d.sig.sorts.map .str)+(bQ (d.sig.below.map Below.enc)+(bQ (d.sig.ops.map Opr.enc)+(bQ (d.sig.funs.map Opr.enc)+bQ (d.sig.values.map .str)))):=by
  simp only[Sig.cs,A.bulk,cZ,Nat.add_zero]
 have wa:∀a b:List (List Wd),dJ (a++b)=dJ a++dJ b:=λa b=>by simp[dJ]
 rw[vB,es];unfold fI uE;simp only[wa,dF];rw[e,cP,dF,eO,dF];simp only[sl,bA,cY,aE,aF]at g1 g2 g3 g4 g5 g6 g7 g8 g9 g10 g11⊢;omega
end Go.AV
section
open Go.AV Go.Proofs.Tryz
namespace Go.Proofs
open Go.RowKit Go.Shelf
attribute [local go_sem] Oper.semAt_some
abbrev SlV:=Option Addr × Nat × Nat
def slV(x:SlV):Value:=.slice x.1 x.2.1 x.2.2
theorem infoE41:(prog.info? 41).map (λi=>(i.zero,i.size,i.bytes))=some (some (.slice none 0 0),1,24):=by kernel_rfl
set_option maxHeartbeats 2000000 in
theorem appendSeq_in(F:Fence)(n:Nat)(h294:F.fn 294)(hro:F.round=none)(hn:3<=n)(g:Nat)(lb:Array Value)(hFg:F.fn g)(eg:∀args w,(callFunc g args).run prog w=.ok (.enter g args) w)
  (xs:List SlV)(hlen:xs.length<=maxLen)(hbytes:xs.length * 24<=140737488355328)(w:World)
  (hS:∀w',Below w.heap.size w w'->w.heap.size<=w'.heap.size->SeqStopsK F (n-1) prog g lb (λx:SlV=>#[slV x]) (Below w.heap.size) (λys=>ys=xs) (λpre=>pre <+: xs) xs.length w') :
  CallsIn F n prog 294 #[.slice none 0 0,.func (.func g) #[] lb] w λe W'=>∃v,e=.returned v/\W'.ownsRow w.heap.size 41 1 v xs.length (xs.map slV)/\(v=.slice none 0 0↔xs=[])/\Below w.heap.size w W':=by
 have h1:1<=n:=by omega
 obtain⟨i0,hi,hz0,hz1,hz2⟩:=info_parts infoE41;refine callsIn_of_wp_marks func294 rfl h294 ?_ hro;simp only[ntmps294,List.size_toArray,aE,aF,Nat.reduceAdd,Nat.reduceSub,Array.replicate_succ,Array.replicate_zero,List.push_toArray,List.append_toArray,aW,aV]
 gi_wp2
 have bO:=Boxed.new w 248 (.slice none 0 0);have hB0:Below w.heap.size w (w.alloc (.cells #[.slice none 0 0] 248)):=(Below.refl _ w).alloc (bT _) _
 refine wpIn_rangeFunc_ownG hro h1 (gf:=g) (lb:=lb) rfl hFg eg
  (hS _ hB0 bD) belowK_t (belowK_b bD) (Below.refl _ _) (λ_=>rfl)
  (λpre W=>(∃v,Boxed W w.heap.size 248 v/\W.ownsRow w.heap.size 41 1 v pre.length (pre.map slV)/\(v=.slice none 0 0↔pre=[]))/\Below w.heap.size w W)
  (λ_ _ _=>False)
  (OwnFrom.and (Own.from (holdsRow_own w.heap.size w.heap.size 248 41 1 (λpre=>pre.length) (λpre=>pre.map slV) (λpre v=>v=.slice none 0 0↔pre=[])) _) (ownFrom_below (bT _) bD))
  (λ_ _ _ _ _ hs _ _=>hs)
  ⟨⟨_,bO,World.ownsRow_nil _ _ _ _,by simp⟩,hB0⟩
  (λx=>{ tmps:=#[.slice none 0 0,.func (.func g) #[] lb,.pointer (some ⟨w.heap.size,0,none⟩),undef,.slice none 0 0,slV x,.func (.func g) #[] lb,slV x,undef,undef,undef,undef,undef],defers:=[] }) ?assign ?body ?done ?stop
 case assign =>
  intro l x W K hK
  gi_wp2
  exact hK
 case body =>
  rintro l pre ⟨xp,xn,xc⟩ W ⟨⟨v,hv,hrow,hnil⟩,hB⟩ hlt;have hq:slV (xp,xn,xc)=.slice xp xn xc:=rfl;rw[hq];have hc:=hv.cell
  gi_wp2_with (gi_at_builtin;refine wpListIn_append_own _ rfl _ _ 248 rfl w.heap.size 41 i0 (.slice none 0 0) 1 24 underlying248 hi hz0 hz1 hz2 rfl aD _ _ _ rfl (hrow.alloc _) ⟨W.heap.size,0,none⟩ 1 1 [.slice xp xn xc] rfl rfl (cell_one_new _ _ _) (by simp[Value.oneCell']) aB aB (by have:=hB.size;simp;omega) ?_;intro v' w1 hown' hgrow _;obtain⟨g',cap',rfl⟩:=ownsRow_succ hown';obtain⟨hv1,hv2,hr2,hk2,hb2⟩:=hv.appended aD hrow hB.size (bT _) hown' hgrow;have hc1:=hv1.cell;have hf1:=hv1.frozen)
  show _/\_;exact⟨hk2.from _,hb2,⟨_,hv2,by simpa [hq]using hr2,by simp⟩,hB.trans hb2⟩
 case done =>
  rintro D ys W hD rfl ⟨⟨v,hv,hrow,hnil⟩,hB⟩ hK;have hc:=hv.cell
  gi_wp2
  refine⟨by simp,.inl ⟨_,_,rfl,run_takeDeferred hK,?_⟩⟩;exact⟨_,results_tmp rfl _ _ _,v,rfl,ownsRow_putObj hrow _ hK rfl,hnil,hB.trans (belowK_b (w:=w) (bT _) W D _ _ (by simp at hD;omega) hK rfl rfl)⟩
 case stop =>
  rintro D c pre W _ _ h _;exact h.elim
set_option maxHeartbeats 2000000 in
theorem collect_in(F:Fence)(n:Nat)(h257:F.fn 257)(h294:F.fn 294)(hro:F.round=none)(hn:4<=n)(g:Nat)(lb:Array Value)(hFg:F.fn g)(eg:∀args w,(callFunc g args).run prog w=.ok (.enter g args) w)
  (xs:List SlV)(hlen:xs.length<=maxLen)(hbytes:xs.length * 24<=140737488355328)(w:World)
  (hS:∀w',Below w.heap.size w w'->w.heap.size<=w'.heap.size->SeqStopsK F (n-1-1) prog g lb (λx:SlV=>#[slV x]) (Below w.heap.size) (λys=>ys=xs) (λpre=>pre <+: xs) xs.length w') :
  CallsIn F n prog 257 #[.func (.func g) #[] lb] w λe W'=>∃v,e=.returned v/\W'.ownsRow w.heap.size 41 1 v xs.length (xs.map slV)/\(v=.slice none 0 0↔xs=[])/\Below w.heap.size w W':=by
 have h1:1<=n:=by omega
 refine callsIn_of_wp func257 rfl h257 ?_ hro;simp only[ntmps257,List.size_toArray,aE,aF,Nat.reduceAdd,Nat.reduceSub,Array.replicate_succ,Array.replicate_zero,List.push_toArray,List.append_toArray,aW,aV]
 gi_wp2_with (gi_at_call 294;refine(appendSeq_in F (n-1) h294 hro aB g lb hFg eg xs hlen hbytes _ hS).mono ?_;rintro e w' ⟨v,rfl,hrow,hnil,hb⟩)
 go_ret
 exact⟨v,rfl,hrow,hnil,hb⟩
end Go.Proofs
end
section
open Go.AV Go.Proofs.Tryz
namespace Go.Proofs
open Go.RowKit Go.Shelf
attribute [local go_sem] Oper.semAt_some
def prV(b off k:Nat):SlV:=(some ⟨b,off+2 * k * 6,none⟩,2,2)
def prU(b off m:Nat):List SlV:=(List.range m).map (prV b off)
theorem prU_succ(b off k:Nat):prU b off (k+1)=prU b off k++[prV b off k]:=by simp[prU,List.range_succ]
theorem prU_len(b off k:Nat):(prU b off k).length=k:=by simp[prU]
set_option maxHeartbeats 4000000 in
theorem chunk1_in(F:Fence)(n:Nat)(h295:F.fn 295)(hro:F.round=none)(hn:1<=n)(l B1 B2 n₀ b off m cap:Nat)(hcap:2 * m<=cap)(hm64:2 * m<=4294967296)(hcl:cap<=9223372036854775807)(h1:B1<n₀)(h2:B2<n₀)(J Jx:List SlV->World->Prop)
  (W:World)(hJ:AbidesFrom W.heap.size J)
  (hY : ∀ pre x W,J pre W → pre.length < m → YieldAt F (n - 1) prog l #[slV x] W fun e W' =>
   (e=.returned (.bool true)/\J (pre++[x]) W'/\Below n₀ W W')\/(e=.returned (.bool false)/\Jx (pre++[x]) W'))
  (hB1:W.cell? ⟨B1,0,none⟩=some (.slice (some ⟨b,off,none⟩) (2 * m) cap))(hB2:W.cell? ⟨B2,0,none⟩=some (.int .i64 2))(h0:J [] W) :
  CallsIn F n prog 295 #[.func (.yield l) #[] #[],.pointer (some ⟨B1,0,none⟩),.pointer (some ⟨B2,0,none⟩)] W λe W'=>(∃v,e=.returned v) /\
   ((∃ys,ys=prU b off m/\J ys W')\/(∃pre,(∃k,k<=m/\pre=prU b off k)/\Jx pre W')):=by
 refine callsIn_of_wp func295 rfl h295 ?_ hro;simp only[ntmps295,List.size_toArray,aE,aF,Nat.reduceAdd,Nat.reduceSub,Array.replicate_succ,Array.replicate_zero,List.push_toArray,List.append_toArray,aW,aV]
 gi_wp2
 gi_loopw [4] (λi wr=>∃k:Nat,k<=m/\i=.int .i64 ((2 * k:Nat):Int)/\J (prU b off k) wr/\Below n₀ W wr)
  (λi _=>2 * m-(intOf i).toNat)
 case atStart=>exact⟨0,aU _,rfl,h0,Below.refl _ _⟩
 case round =>
  obtain⟨k,hk,rfl,hJs,hnx⟩:=hrel;have hc1:wr.cell? ⟨B1,0,none⟩=some (.slice (some ⟨b,off,none⟩) (2 * m) cap):=(hnx.cell (p:=⟨B1,0,none⟩) h1).trans hB1;have hc2:wr.cell? ⟨B2,0,none⟩=some (.int .i64 2):=(hnx.cell (p:=⟨B2,0,none⟩) h2).trans hB2;by_cases hlt:k<m
  .obtain⟨fn,tmps,assign,body,hy,hR⟩:=hY _ (prV b off k) wr.drew (hJ _ wr wr.drew none hJs ⟨rfl,rfl,rfl,bT _,λ_ _ _=>rfl⟩ (λr e=>by cases e)) (by rw[prU_len];exact hlt);simp only[slV,prV]at hy
   gi_wp2
   gi_region
   all_goals (
    have hmin:min (2:Int) ((2 * m-2 * k:Nat):Int)=2:=by omega
    have hmin':min (2:Int) (2 * (m:Int)-2 * (k:Int))=2:=by omega
    simp only[hmin];have e2:((2 * k+2:Nat)-2 * k:Nat)=2:=by omega
    gi_wp2
    refine hR.mono ?_;rintro e W3 (⟨rfl,hJ3,hk3⟩|⟨rfl,hJx3⟩)
    .have hc3:W3.cell? ⟨B2,0,none⟩=some (.int .i64 2):=(hk3.cell (p:=⟨B2,0,none⟩) h2).trans hc2
     gi_wp2
     go_roundw
     case rel=>exact⟨k+1,by omega,by simp;omega,by rw[prU_succ];exact hJ3,hnx.trans ((Below.refl n₀ wr).drew.trans hk3)⟩
     case measure=>simp[intOf];omega
    ·gi_wp2
     refine bodyPost_ret (results_none rfl _ _ _) rfl ?_;exact⟨⟨_,rfl⟩,.inr ⟨_,⟨k+1,by omega,(prU_succ _ _ _).symm⟩,hJx3⟩⟩)
  .obtain rfl:k=m:=by omega
   gi_wp2
   go_end0
   exact⟨⟨_,rfl⟩,.inl ⟨_,rfl,hJs⟩⟩
theorem prU_pre(b off:Nat){k m:Nat}(h:k<=m):prU b off k <+: prU b off m:=by
 refine List.prefix_iff_eq_take.2 ?_;simp only[prU,aH,List.length_range,<-List.map_take,List.take_range,uR h]
set_option maxHeartbeats 4000000 in
theorem chunk0_in(F:Fence)(n:Nat)(h295:F.fn 295)(hro:F.round=none)(l B1 B2 cap:Nat)(q:Option Addr)(W:World)
  (hB1:W.cell? ⟨B1,0,none⟩=some (.slice q 0 cap))(Q:World->Prop)(h0:Q W) :
  CallsIn F n prog 295 #[.func (.yield l) #[] #[],.pointer (some ⟨B1,0,none⟩),.pointer (some ⟨B2,0,none⟩)] W λe W'=>(∃v,e=.returned v)/\Q W':=by
 refine callsIn_of_wp func295 rfl h295 ?_ hro;simp only[ntmps295,List.size_toArray,aE,aF,Nat.reduceAdd,Nat.reduceSub,Array.replicate_succ,Array.replicate_zero,List.push_toArray,List.append_toArray,aW,aV]
 gi_wp2
 gi_loopw [4] (λi wr=>i=.int .i64 0/\wr=W) (λi _=>0)
 case atStart=>exact⟨rfl,rfl⟩
 case round =>
  obtain⟨rfl,rfl⟩:=hrel
  gi_wp2
  go_end0
  exact⟨⟨_,rfl⟩,h0⟩
theorem chunk_stops(F:Fence)(n:Nat)(h295:F.fn 295)(hro:F.round=none)(hn:1<=n)(B1 B2 n₀ b off m cap:Nat)(q:Option Addr)(hq:q=some ⟨b,off,none⟩\/m=0)(hcap:2 * m<=cap)(hm64:2 * m<=4294967296)(hcl:cap<=9223372036854775807)(h1:B1<n₀)(h2:B2<n₀)
  (w:World)(hn0:n₀<=w.heap.size)(hB1:w.cell? ⟨B1,0,none⟩=some (.slice q (2 * m) cap))(hB2:w.cell? ⟨B2,0,none⟩=some (.int .i64 2)) :
  SeqStopsK F n prog 295 #[.pointer (some ⟨B1,0,none⟩),.pointer (some ⟨B2,0,none⟩)] (λx:SlV=>#[slV x]) (Below n₀) (λys=>ys=prU b off m) (λpre=>pre <+: prU b off m) m w:=λl J Jx W hW hJ _ hY h0=>by
 have hW1:W.cell? ⟨B1,0,none⟩=some (.slice q (2 * m) cap):=(hW.cell (p:=⟨B1,0,none⟩) (by simp only;omega)).trans hB1;have hW2:W.cell? ⟨B2,0,none⟩=some (.int .i64 2):=(hW.cell (p:=⟨B2,0,none⟩) (by simp only;omega)).trans hB2;by_cases hm:m=0
 .subst hm;refine(chunk0_in F n h295 hro l B1 B2 cap q W hW1 (J []) h0).mono ?_;rintro e W' ⟨he,hj⟩;exact⟨he,.inl ⟨[],rfl,hj⟩⟩
 .rcases hq with rfl|hq
  .refine(chunk1_in F n h295 hro hn l B1 B2 n₀ b off m cap hcap hm64 hcl h1 h2 J Jx W hJ hY hW1 hW2 h0).mono ?_;rintro e W' ⟨he,⟨ys,rfl,hj⟩|⟨pre,⟨k,hk,rfl⟩,hj⟩⟩
   .exact⟨he,.inl ⟨_,rfl,hj⟩⟩
   .exact⟨he,.inr ⟨_,prU_pre b off hk,hj⟩⟩
  .exact absurd hq hm
end Go.Proofs
end
section
open Go.AV Go.Proofs.Tryz
namespace Go.AV
open Go Go.Proofs Go.RowKit
theorem aJI:∀(l:List Tm) (i:Nat) (p:List Tm),(mD l)[i]?=some p->∃k v,p=[k,v]/\l[2 * i]?=some k/\l[2 * i+1]?=some v
 | [],i,p,h=>by cases h
 | [_],i,p,h=>by cases h
 | x::y::r,0,p,h=>by cases h;exact⟨x,y,rfl,rfl,rfl⟩
 | x::y::r,i+1,p,h=>aJI r i p h
theorem aHK{w:World}{k:Nat}{v:Value}{rest:List Value}{e:TypeId}(h:w.heap[k]?=some (.cells ([v]++rest).toArray e)):w.cell? ⟨k,0,none⟩=some v:=by
 simp[World.cell?,h]
set_option maxHeartbeats 1000000 in
theorem aN6:aIt:=by
 intro l p1 p2 s KV Kp h1 h2 he hm hk F g w vals hR hv;change OutV cx F g KV Kp ((callFunc 257 vals.toArray).run prog w);rw[aCg (P:=prog) func257 rfl rfl vals.toArray w];have hl:=hv.1
 match vals,hl,hv with
 | [x],_,hv =>
 have hx:=hv.2 0 _ x rfl rfl;obtain⟨us,vs,rfl,hu,hvs⟩:=hx.fn_inv;have hu0:us=[]:=fK hu.1;subst hu0
 match vs,hvs.1,hvs with
 | [a,b],_,hvs =>
 obtain⟨k1,rfl,hk1⟩:=(hvs.2 0 _ a rfl rfl).ptr_inv;obtain⟨k2,rfl,hk2⟩:=(hvs.2 1 _ b rfl rfl).ptr_inv;obtain⟨j1,e1,⟨c1,r1,o1,z1,_⟩,_,_⟩:=hR.obj p1 _ h1;obtain⟨j2,e2,⟨c2,r2,o2,z2,_⟩,_,_⟩:=hR.obj p2 _ h2;rw[hk1]at e1;cases e1;rw[hk2]at e2;cases e2
 match c1,z1.1,c2,z2.1 with
 | [v1],_,[v2],_ =>
 have y1:=z1.2 0 _ v1 rfl rfl;have y2:=(z2.2 0 _ v2 rfl rfl).int_inv;subst y2;obtain⟨q,cap,rfl,hcm,hcl,_,hq⟩:=y1.list_inv;rw[aH]at hcl o1;have d1:=aHK o1;have d2:=aHK o2;obtain⟨m,hm2⟩:∃m,l.length=2 * m:=⟨l.length / 2,by omega⟩
 rw[hm2]at d1 hcl;have l1:k1<w.heap.size:=(jA.1 o1).1;have l2:k2<w.heap.size:=(jA.1 o2).1;have hpl:=aFd l.length l (bT _) he
 obtain⟨bb,off,hq2⟩:∃bb off,q=some ⟨bb,off,none⟩\/m=0:=by
  rcases hq with hq|⟨bb,off,_,_,hq,_⟩
  .exact⟨0,0,.inr (by have:=congrArg List.length hq;simp at this;subst this;simp at hm2;omega)⟩
  .exact⟨bb,off,.inl hq⟩
 have hC:=collect_in Fence.wide 4 trivial trivial rfl aB 295 #[.pointer (some ⟨k1,0,none⟩),.pointer (some ⟨k2,0,none⟩)] trivial (aCg (P:=prog) func295 rfl rfl)
  (prU bb off m) (by rw[prU_len];simp only[maxLen];omega) (by rw[prU_len];omega) w
  (fun w' hb hs => Eq.mp (by rw [prU_len]) (chunk_stops Fence.wide (4 - 1 - 1) trivial rfl aB k1 k2 w.heap.size bb off m cap q hq2 hcl aB (by simp only [maxLen] at hcm; omega) l1 l2 w' hs
   ((hb.cell (p:=⟨k1,0,none⟩) l1).trans d1) ((hb.cell (p:=⟨k2,0,none⟩) l2).trans d2)))
 refine Calls.mono (callsIn_wide.1 hC) ?_;rintro e w' ⟨v,rfl,hrow,hnil,hb⟩;have hold:=λc (hc:c<w.heap.size)=>hb.block c hc
 have henv:(w'.os,w'.output)=(w.os,w.output):=by rw[hb.os,hb.output]
 rcases hrow.2 with⟨rfl,h0⟩|⟨gg,cap',cur,rfl,hgl,hgb,hn,hcm',hsz,htk⟩
 .rw[prU_len]at h0;subst h0;have:l=[]:=fK aB;subst this;exact⟨g,_,s,gR g,hR.keep hold henv,.list0 none none 0 (aU _) (λt h=>by cases h),hk⟩
 ·rw [prU_len] at *;obtain ⟨rest,hrest⟩ : ∃ rest,cur = ((prU bb off m).map slV ++ rest).toArray := ⟨cur.toList.drop (m * 1),by rw [← htk,List.take_append_drop]⟩
  rw[hrest]at hgb;obtain⟨hR',hle⟩:=hR.known hold henv hgl hgb;refine⟨_,_,s,hle,hR',?_,hk⟩;have hml:m=((mD l).map uF).length:=by rw[aH];omega
  suffices key:Rz (g.know gg ((prU bb off m).map slV)) (.list none ((mD l).map uF)) (.slice (some ⟨gg,0,none⟩) ((mD l).map uF).length cap')by rw[<-hml]at key;exact key
  refine .list none _ gg 0 1 cap' ((prU bb off m).map slV) (by simp[Gh.know]) (by rw[aH,aH,prU_len];omega) (by rw[<-hml];exact hn) hcm' ?_ ?_ ?_ (λt h=>by cases h)
  .intro e he';obtain⟨p,_,rfl⟩:=cC.1 he';rfl
  .intro e he' c hc;obtain⟨p,_,rfl⟩:=cC.1 he';simp only[uF,A.cells,bW]at hc;subst hc;rfl
  .intro i e j c v hi hj hv;rw[lB]at hi;obtain⟨p,hp,rfl⟩:=qV.1 hi;simp only[uF,A.cells]at hj
   obtain rfl:j=0:=by
    have:=(dV.1 hj).1;simp at this;omega
   simp only[kM,bJ]at hj;subst hj;have him:i<m:=by have:=(dV.1 hp).1;omega
   simp only[gI,Nat.mul_one,Nat.add_zero,prU,lB,List.getElem?_range him,mQ,bJ]at hv;subst hv;obtain⟨tk,tv,rfl,hk',hv'⟩:=aJI l i p hp;rcases hq with hq|⟨b2,off2,sz,pre,rfl,hpi,hlen,hsz',hone,hval⟩
   .have:=congrArg List.length hq;simp at this;subst this;simp at hk'
   rcases hq2 with hq2|hq2
   .cases hq2
    have hz6:sz=6:=by
     have:=hsz' tk.enc (cC.2 ⟨tk,cM hk',rfl⟩);rw[dH]at this;simp[A.cells,Tm.cs]at this;omega
    subst hz6;rw[aH]at hlen
    have hpi':(g.know gg ((prU bb off m).map slV)).pi bb=some pre:=by
     have:bb≠gg:=by have:=hR.lt_pi hpi;omega
     simp only[Gh.know,this,↓reduceIte];exact hpi
    simp only[slV,prV];refine .list none [tk.enc,tv.enc] bb (off+2 * i * 6) 6 2 pre hpi' (by simp only[aE,aF];omega) bD (by simp only[maxLen];omega) ?_ ?_ ?_ (λt h=>by cases h)
    .intro e he';simp only[eB,List.mem_nil_iff,fH]at he';rcases he' with rfl|rfl<;>(rw[dH];rfl)
    .intro e he';simp only[eB,List.mem_nil_iff,fH]at he';rcases he' with rfl|rfl
     .exact hone _ (cC.2 ⟨tk,cM hk',rfl⟩)
     .exact hone _ (cC.2 ⟨tv,cM hv',rfl⟩)
    .intro i' e j c v hi' hj' hv2
     match i',hi' with
     | 0,hi' =>
      cases hi';exact(hval (2 * i) tk.enc j c v (by rw[lB,hk'];rfl) hj' (by rw[<-hv2];congr 1<;>omega)).mono hle
     | 1,hi' =>
      cases hi';exact(hval (2 * i+1) tv.enc j c v (by rw[lB,hv'];rfl) hj' (by rw[<-hv2];congr 1<;>omega)).mono hle
     | i'+2,hi'=>simp at hi'
   .omega
end Go.AV
end
namespace Go.AV
open Go Go.Proofs Tryz
theorem aIV:∀(l:List aC) (x:aC),(kH x l).length<=sl l
 | [],x=>bT _
 | y::r,x=>by
  have:=aIV r y;rw[tN,sl];simp only[aG];split
  .simp only[aE,aF];omega
  .simp only[aF];omega
theorem aIC:∀LS:List (List Wd),(∀ws,ws∈LS->ws≠[])->LS.length<=(dJ LS).length
 | [],_=>aU _
 | x::r,h=>by
  have h1:=aIC r (λy hy=>h y (cT _ hy));have h2:=List.length_pos_iff.2 (h x (bY ..));simp only[dJ,nL,aG,aH,aE]at h1⊢;omega
theorem aJc:∀(LS:List (List Wd)) (ws:List Wd),ws∈LS->ws.length<=(dJ LS).length
 | x::r,ws,h=>by
  simp only[dJ,nL,aG,aH];rcases List.mem_cons.1 h with rfl|h
  .omega
  .have:=aJc r ws h;simp only[dJ]at this;omega
theorem aK6:∀(k:Nat) (t:Tm) (m n:Nat),Tm.val k t m=some n->ShT t
 | 0,_,_,_,h=>by cases h
 | k+1,t,m,n,h=>by
  unfold Tm.val at h;split at h
  .split at h
   .rename_i hs;refine .mk t hs ?_;cases hl:dU (Tm.val k) t.kids (m+1)with
    | none=>rw[hl]at h;cases h
    | some c=>exact(aCs (P:=ShT) (g:=Tm.val k) t.kids (m+1) c (λx a b hx hv=>⟨aK6 k x a b hv,hv⟩) hl).1
   .cases h
  .cases h
theorem vQ{t:Tm}(h:fR t=true):TwOk t:=by
 unfold fR at h;obtain⟨m,e⟩:=Option.isSome_iff_exists.1 h;exact aN3 aN6 t (aK6 60 t 0 m e)
theorem aBi{α:Type}(bd:α->Nat)(en:α->A)(B:Nat):∀l:List α,(∀x,x∈l->bd x+1<=B * ((en x).bulk+1))->fS bd l<=B * bQ (l.map en)
 | [],_=>by simp[fS]
 | x::r,h=>by
  have h1:=aBi bd en B r (λy hy=>h y (cT _ hy));have h2:=h x (bY ..);rw[fS,bS,bQ,Nat.mul_add];omega
theorem aCu(x:Sig):cZ x.cs=bQ (x.sorts.map .str)+(bQ (x.below.map Below.enc)+(bQ (x.ops.map Opr.enc)+(bQ (x.funs.map Opr.enc)+bQ (x.values.map .str)))):=by
 simp only[Sig.cs,A.bulk,cZ,Nat.add_zero]
theorem aCB(o:Opr):o.enc.bulk=o.name.length+(bQ (o.args.map .str)+(o.sort.length+(bQ (o.pieces.map Piece.enc)+bQ (o.strict.map (.int .i64))))):=by
 simp only[Opr.enc,Opr.cs,A.bulk,cZ,Nat.add_zero,gI]
theorem aP7(N:Nat){d:Dfn}(hb:cZ d.cs<=N):∀t,t∈iQ d->t.enc.bulk<=N:=by
 rw[vB]at hb;intro t ht;simp only[iQ,cW,List.mem_flatMap]at ht;rcases ht with⟨e,he,ht⟩|⟨c,he,ht⟩|⟨r,he,ht⟩
 .have h1:=gJ Eqn.enc he;rw[xM]at h1;simp only[iR,cW,eB,List.mem_nil_iff,fH]at ht;rcases ht with(rfl|rfl)|ht
  .omega
  .omega
  .have:=gJ Tm.enc ht;omega
 .have h1:c.enc.bulk<=bQ (d.once.map Cel.enc)+bQ (d.many.map Cel.enc):=by
   rcases he with he|he
   .have:=gJ Cel.enc he;omega
   .have:=gJ Cel.enc he;omega
  rw[xE]at h1;simp only[kW,bW]at ht;rw[ht];omega
 .have h1:=gJ Rul.enc he;rw[vA]at h1;simp only[hH,jK,cW,List.mem_flatMap,eB,List.mem_nil_iff,fH]at ht;rcases ht with⟨p,hp,ht⟩|ht|⟨f,hf,ht⟩
  .have h2:=gJ Part.enc hp;rw[wZ]at h2;rcases ht with rfl|ht
   .omega
   .have:=gJ Tm.enc ht;omega
  .have:=gJ Tm.enc ht;omega
  .have h2:=gJ Fresh.enc hf;rw[wU]at h2;have:=gJ Tm.enc ht;omega
theorem zQ{α:Type}(g:α->List Tm)(en:α->A):∀l:List α,(∀x,x∈l->(g x).length<=2 * ((en x).bulk+1))->(l.flatMap g).length<=2 * bQ (l.map en)
 | [],_=>by simp
 | x::r,h=>by
  have h1:=zQ g en r (λy hy=>h y (cT _ hy));have h2:=h x (bY ..);rw[nL,aG,bS,bQ];omega
theorem aRD{d:Dfn}:(iQ d).length<=2 * cZ d.cs:=by
 rw[vB]
 have g1:=zQ iR Eqn.enc d.eqs (λe _=>by
  have:=eK Tm.enc e.cond;rw[xM];simp only[iR,aG,aE,aF];omega)
 have g2:=zQ kW Cel.enc (d.once++d.many) (λc _=>by simp only[kW,aE,aF];omega)
 have g3:=zQ hH Rul.enc d.rules (λr _=>by
  have h1:=zQ jK Part.enc r.parts (λp _=>by
   have:=eK Tm.enc p.right;rw[wZ];simp only[jK,aG,aE,aF];omega)
  have h2:=zQ Fresh.cells Fresh.enc r.new (λf _=>by
   have:=eK Tm.enc f.cells;rw[wU];omega)
  have h3:=eK Tm.enc r.cond;rw[vA];simp only[hH,aG];omega)
 rw[cV,aER]at g2;simp only[iQ,aG];omega
theorem aLc{c:Cel}(hv:fR c.init=true)(hb:c.enc.bulk<=60000000):CelOk c:=by
 have:=xD c.init;rw[xE]at hb;exact⟨vQ hv,by omega⟩
theorem aSX{r:Rul}(hv:∀t,t∈hH r->fR t=true)(hb:r.enc.bulk<=60000000):RulOk2 r:=by
 rw[vA]at hb;have hm:∀p,p∈r.parts->∀t,t∈jK p->fR t=true:=λp hp t ht=>hv t (by simp only[hH,cW,List.mem_flatMap];exact .inl ⟨p,hp,ht⟩)
 refine⟨⟨λp hp=>vQ (hm p hp _ (by simp[jK])),λp hp t ht=>vQ (hm p hp t (by simp[jK,ht])),λf hf t ht=>vQ (hv t (by simp only[hH,cW,List.mem_flatMap];exact .inr (.inr ⟨f,hf,ht⟩))),λt ht=>vQ (hv t (by simp only[hH,cW];exact .inr (.inl ht)))⟩,?_⟩
 have g1:=aBi rI Part.enc 16 r.parts (λp _=>by
  have h1:=xD p.left;have h2:=aDu p.right;rw[wZ];unfold rI;omega)
 have g2:=aBi rN Fresh.enc 16 r.new (λp _=>by
  have h2:=aDu p.cells;rw[wU];unfold rN;omega)
 have g3:fS (λ_=>4) r.drop<=16 * bQ (r.drop.map .str):=aBi (λ_=>4) A.str 16 r.drop (λp _=>by omega);have g4:=aDu r.cond;omega
theorem aOu{d:Dfn}(hs:iW d=true)(hI:∀o,o∈d.sig.ops->OprI o)(hb:cZ d.cs<=60000000):DfnOk d:=by
 have hv:=aJA hs;have he:∀e,e∈d.eqs->∀t,t∈iR e->fR t=true:=λe he t ht=>hv t (by simp only[iQ,cW,List.mem_flatMap];exact .inl ⟨e,he,ht⟩)
 have hc:∀c,c∈d.once\/c∈d.many->fR c.init=true:=λc hc=>hv _ (by simp only[iQ,cW,List.mem_flatMap];exact .inr (.inl ⟨c,hc,by simp[kW]⟩))
 have hr:∀r,r∈d.rules->∀t,t∈hH r->fR t=true:=λr hr t ht=>hv t (by simp only[iQ,cW,List.mem_flatMap];exact .inr (.inr ⟨r,hr,ht⟩))
 rw[vB,aCu]at hb;have l1:=eK A.str d.sig.sorts;have l2:=eK Below.enc d.sig.below;have l3:=eK Opr.enc d.sig.ops;have l4:=eK Opr.enc d.sig.funs;have l5:=eK A.str d.sig.values;have l6:=eK Eqn.enc d.eqs;have l7:=eK Cel.enc d.once;have l8:=eK Rul.enc d.rules;refine⟨⟨by omega,by omega,λo ho=>?_,λo ho=>?_⟩,λe h=>?_,λc h=>aLc (hc c (.inl h)) ?_,λc h=>aLc (hc c (.inr h)) ?_,?_,λr h=>aSX (hr r h) ?_,by omega⟩
 .have h1:=gJ Opr.enc ho;rw[aCB]at h1;have m1:=eK Piece.enc o.pieces;have m2:=eK A.str o.args;have m3:=eK (A.int .i64) o.strict;refine⟨(hI o ho).s,(hI o ho).p,λp hp=>?_,by omega⟩;have h2:=gJ Piece.enc hp;simp only[Piece.enc,Piece.cs,A.bulk,cZ]at h2;omega
 .have h1:=gJ Opr.enc ho;rw[aCB]at h1;have m2:=eK A.str o.args;omega
 .have h1:=gJ Eqn.enc h;rw[xM]at h1;have c1:=xD e.left;have c2:=xD e.right;have c3:=aDu e.cond;exact⟨vQ (he e h _ (by simp[iR])),vQ (he e h _ (by simp[iR])),λt ht=>vQ (he e h t (by simp[iR,ht])),by omega⟩
 .have:=gJ Cel.enc h;omega
 .have:=gJ Cel.enc h;omega
 .have:=aBi rK Cel.enc 16 d.many (λc _=>by
   have h1:=xD c.init;rw[xE];unfold rK;omega)
  omega
 .have:=gJ Rul.enc h;omega
theorem aFc{d:Dfn}(hI:∀o,o∈d.sig.ops->OprI o)(hb:cZ d.cs<=60000000):DfnB d:=by
 have hw:iW d=true->sl (dJ (fI d))<=4294967280:=λhs=>by have:=aS9 hs hI;omega
 have ht:=aRD (d:=d);have hs2:=hb;rw[vB,aCu]at hs2;have l3:=eK Opr.enc d.sig.ops;have l4:=eK Opr.enc d.sig.funs;refine⟨by omega,λt h=>aJC _ t (jB _) (by have:=aP7 _ hb t h;omega),by omega,λr hr=>?_,λhs=>aOu hs hI hb,λhs=>?_,λhs=>?_,λhs ws h=>?_⟩
 .have h1:=gJ Rul.enc hr;rw[vA]at h1;have m1:=eK Part.enc r.parts;have m2:=eK Fresh.enc r.new;have m3:=eK A.str r.drop;omega
 .exact nM (aIV _ _) (hw hs)
 .have:=aIC (fI d) (aFW d);have:=aGo (dJ (fI d));have:=hw hs;omega
 .have:=aJc (fI d) ws h;have:=aGo (dJ (fI d));have:=hw hs;omega
theorem awP{x:aC}{d:Dfn}{g:Fault}(h:vN x=(d,g))(hx:x.length<=4294967280)(s:St)(KV Kp:St->A->Prop)(hk:KV s (.tuple [d.enc,g.enc])):Den cx 15 [.str x] KV Kp s :=
 aO7 x hx (by rw[h];exact hk)
theorem aLP{x:aC}{d:Tm}{g:Fault}(h:aAp x=(d,g))(hx:x.length<=4294967280)(s:St)(KV Kp:St->A->Prop)(hk:KV s (.tuple [d.enc,g.enc])):Den cx 18 [.str x] KV Kp s :=
 aPj x hx (by rw[h];exact hk)
def aBu:Dfn:=⟨[101],⟨[[65]],[],[⟨[98],[],[65],[⟨[97],[]⟩],0,0,[]⟩],[],[]⟩,[],[⟨[99],[65],.mk 6 0 [36] [65,110,121] [] [],1,52⟩],[],[],[],[65],[99]⟩
theorem aRt:iO [97] [98] jL=aBu:=by kernel_rfl
theorem aDt:DfnB jL:=aFc (λo ho=>by
 simp only[jL,bW]at ho;subst ho;exact⟨λn hn=>(by cases hn),by decide⟩) (by simp only[jL,Dfn.cs,Sig.cs];decide)
theorem aLz:DfnC jL:=aFm _ aD
theorem aUb:jE jL=true:=by kernel_rfl
theorem aT7:aDo jL=(aLE,0):=by kernel_rfl
theorem aT4:nD jL [97] [98]=true:=by kernel_rfl
theorem aT5:nD jL [73,110,116] [98]=false:=by kernel_rfl
theorem aUc:(jL.same jL)=true:=by kernel_rfl
theorem aUa:(jL.same aBu)=false:=by kernel_rfl
theorem aT8:(nU (fI jL)).length<=4294967296:=lM (by kernel_rfl)
theorem rst{KV:St->A->Prop}{s:St}{x:A}(h:∀S,S.ge s->(NoW s->NoW S)->KV S x):KV s x:=h s (aM _) id
theorem aEJ(s:St)(hN:NoW s)(KV Kp:St->A->Prop)(hk:KV s (.bool true)):Den cx 14 [] KV Kp s:=by
 have nw:∀(t:Nat) (cs:List A),t=33\/t=36\/t=43->lY (.cells t cs):=λt cs h=>by rcases h with rfl|rfl|rfl<;>(simp only[lY];decide)
 (refine aO func14 [0,1,2,3,4,5,7,9,10,11,13,15,16,17,19,20,78] ?_;simp only[go_sem,ntmps14,f14]);refine awP aUe aD _ _ _ ?_;simp only[go_sem];(intro p2 hp2;try simp only[aI,ne_eq]at hp2);simp only[go_sem,hp2];(intro p3 hp3;try simp only[aI,ne_eq]at hp3);simp only[go_sem,hp2,hp3];refine aOl jL aDt (λ_=>aT8) _ ?_ _ _ ?_
 ·repeat (refine NoW.set ?_ (nw _ _ aD) _)
  exact hN
 rw[aT7];simp only[go_sem,hp2,hp3];refine awP aT9 aD _ _ _ ?_;simp only[go_sem,hp2,hp3];(intro p6 hp6;try simp only[aI,ne_eq]at hp6);simp only[go_sem,hp2,hp3,hp6];(intro p7 hp7;try simp only[aI,ne_eq]at hp7);simp only[go_sem,hp2,hp3,hp6,hp7];refine awP aUf aD _ _ _ ?_;simp only[go_sem,hp2,hp3,hp6,hp7];(intro p8 hp8;try simp only[aI,ne_eq]at hp8);simp only[go_sem,hp2,hp3,hp6,hp7,hp8];(intro p9 hp9;try simp only[aI,ne_eq]at hp9);simp only[go_sem,hp2,hp3,hp6,hp7,hp8,hp9];refine aLP aUd aD _ _ _ ?_;simp only[go_sem,hp2,hp3,hp6,hp7,hp8,hp9];(intro p10 hp10;try simp only[aI,ne_eq]at hp10);simp only[go_sem,hp2,hp3,hp6,hp7,hp8,hp9,hp10];(intro p11 hp11;try simp only[aI,ne_eq]at hp11);simp only[go_sem,hp2,hp3,hp6,hp7,hp8,hp9,hp10,hp11];refine aLP aUh aD _ _ _ ?_;simp only[go_sem,hp2,hp3,hp6,hp7,hp8,hp9,hp10,hp11];(intro p12 hp12;try simp only[aI,ne_eq]at hp12);simp only[go_sem,hp2,hp3,hp6,hp7,hp8,hp9,hp10,hp11,hp12];(intro p13 hp13;try simp only[aI,ne_eq]at hp13);simp only[go_sem,hp2,hp3,hp6,hp7,hp8,hp9,hp10,hp11,hp12,hp13];refine awP aUi aD _ _ _ ?_;simp only[go_sem,hp2,hp3,hp6,hp7,hp8,hp9,hp10,hp11,hp12,hp13];(intro p14 hp14;try simp only[aI,ne_eq]at hp14);simp only[go_sem,hp2,hp3,hp6,hp7,hp8,hp9,hp10,hp11,hp12,hp13,hp14];(intro p15 hp15;try simp only[aI,ne_eq]at hp15);simp only[go_sem,hp2,hp3,hp6,hp7,hp8,hp9,hp10,hp11,hp12,hp13,hp14,hp15];refine aBU jL aDt aLz [97] [98] aD aD _ ?_ _ _ (rst λS hS hM=>?_)
 ·repeat (refine NoW.set ?_ (nw _ _ aD) _)
  exact hN
 have hNS:NoW S:=hM (by
  repeat (refine NoW.set ?_ (nw _ _ aD) _)
  exact hN)
 have g2:S.getO p2=some (.cells 33 jL.cs):=hS.ob p2 _ gH;have g3:S.getO p3=some (.cells 36 [.int .i64 0,.str [],.int .i64 0,.int .i64 0]):=hS.ob p3 _ gH;have g7:S.getO p7=some (.cells 36 [.int .i64 12,.str [],.int .i64 1,.int .i64 17]):=hS.ob p7 _ gH;have g9:S.getO p9=some (.cells 36 [.int .i64 11,.str [66],.int .i64 2,.int .i64 8]):=hS.ob p9 _ gH;have g10:S.getO p10=some (.cells 43 awT.cs):=hS.ob p10 _ gH;have g11:S.getO p11=some (.cells 36 [.int .i64 0,.str [],.int .i64 0,.int .i64 0]):=hS.ob p11 _ gH;have g13:S.getO p13=some (.cells 36 [.int .i64 11,.str [53],.int .i64 1,.int .i64 3]):=hS.ob p13 _ gH;have g15:S.getO p15=some (.cells 36 [.int .i64 14,.str [115,116,97,114,116],.int .i64 1,.int .i64 22]):=hS.ob p15 _ gH;have z2:s.getO p2=none:=by simp only[hp2]
 have z3:s.getO p3=none:=by simp only[hp3]
 have z6:s.getO p6=none:=by simp only[hp6]
 have z7:s.getO p7=none:=by simp only[hp7]
 have z8:s.getO p8=none:=by simp only[hp8]
 have z9:s.getO p9=none:=by simp only[hp9]
 have z10:s.getO p10=none:=by simp only[hp10]
 have z11:s.getO p11=none:=by simp only[hp11]
 have z12:s.getO p12=none:=by simp only[hp12]
 have z13:s.getO p13=none:=by simp only[hp13]
 have z14:s.getO p14=none:=by simp only[hp14]
 have z15:s.getO p15=none:=by simp only[hp15]
 have hSs:S.ge s:=hS.trans (by
  repeat (refine eC (by assumption) ?_)
  exact aM _)
 clear z2 z3 z6 z7 z8 z9 z10 z11 z12 z13 z14 z15;clear hS hM hp2 hp3 hp6 hp7 hp8 hp9 hp10 hp11 hp12 hp13 hp14 hp15;rw[aT4,aRt];simp only[if_true];have g10':S.getO p10=some (.cells 43 awT.cs):=g10;simp only[Dfn.cs,Sig.cs,aV,aW]at g2;simp only[Tm.cs]at g10;have nq:∀{T:St} {q b:Nat} {o:Ob},T.getO q=some o->T.getO b=none->¬ b=q:=λh1 h2 e=>by rw[e,h1]at h2;cases h2
 simp only[go_sem,g2];(intro p16 hp16;try simp only[aI,ne_eq]at hp16);have n2:=nq g2 hp16;simp only[go_sem,hp16,g2,n2];refine aBU jL aDt aLz [73,110,116] [98] aD aD _ ?_ _ _ (rst λS2 hS hM=>?_)
 ·repeat (refine NoW.set ?_ (nw _ _ aD) _)
  exact hNS
 have hN2:NoW S2:=hM (by
  repeat (refine NoW.set ?_ (nw _ _ aD) _)
  exact hNS)
 have hb:S2.ge S:=hS.trans cS;have g16:S2.getO p16=some (.cells 33 aBu.cs):=hS.ob p16 _ gH
 replace g2:=hb.ob p2 _ g2
 replace g3:=hb.ob p3 _ g3
 replace g7:=hb.ob p7 _ g7
 replace g9:=hb.ob p9 _ g9
 replace g10:=hb.ob p10 _ g10
 replace g11:=hb.ob p11 _ g11
 replace g13:=hb.ob p13 _ g13
 replace g15:=hb.ob p15 _ g15
 have hs2:S2.ge s:=hb.trans hSs;clear hb hS hM hp16 n2 hNS g10';rw[aT5];simp only[cJ,if_false];simp only[go_sem,g2];(intro p18 hp18;try simp only[aI,ne_eq]at hp18);have n2:=nq g2 hp18;have n3:=nq g3 hp18;have n7:=nq g7 hp18;have n9:=nq g9 hp18;have n10:=nq g10 hp18;have n11:=nq g11 hp18;have n13:=nq g13 hp18;have n15:=nq g15 hp18;have n16:=nq g16 hp18;have l1:(List.map Opr.enc jL.sig.ops)=[Opr.enc ⟨[97],[],[65],[⟨[97],[]⟩],0,0,[]⟩]:=rfl;have l2:(List.map Opr.enc aBu.sig.ops)=[Opr.enc ⟨[98],[],[65],[⟨[97],[]⟩],0,0,[]⟩]:=rfl;have l3:(List.map Cel.enc jL.once)=[Cel.enc ⟨[99],[65],.mk 6 0 [36] [65,110,121] [] [],1,52⟩]:=rfl;have l4:(List.map Tm.enc awT.kids)=[(Tm.mk 6 0 [88] [73,110,116] [] []).enc,(Tm.mk 7 0 [] [] [.mk 1 (-1) [] [] [] []] [.mk 6 0 [76] [76,105,115,116] [] []]).enc]:=rfl;have c1:((1:Nat):Int)=1:=rfl;have c2:((2:Nat):Int)=2:=rfl;have t1:Int.toNat 1=1:=rfl;have z1:((0:Int)<=1/\(1:Nat)<2)=True:=eq_true aD;simp only[Dfn.cs,Sig.cs,aV,aW,l1,l3]at g2;simp only[Dfn.cs,Sig.cs,aV,aW,l2]at g16;simp only[Tm.cs,l4]at g10;simp only[go_sem,hp18,g2,g3,g7,g9,g10,g11,g13,g15,g16,n2,n3,n7,n9,n10,n11,n13,n15,n16];simp only[go_sem,hp18,g2,g3,g7,g9,g10,g11,g13,g15,g16,n2,n3,n7,n9,n10,n11,n13,n15,n16,c1,c2,Int.reduceEq];simp only[go_sem,hp18,g2,g3,g7,g9,g10,g11,g13,g15,g16,n2,n3,n7,n9,n10,n11,n13,n15,n16,c1,c2,t1,z1,Int.reduceEq,List.append_eq,aV,aW,aLE,List.lookup,eq_self,uU,Bool.and_self,gL,sX,Tm.text,Tm.kids,Tm.n,bS,cY,List.getElem?_cons_succ,kM,iT,jV];refine⟨by decide,?_⟩;refine aEN jL aDt _ ?_ _ _ ?_
 ·repeat (refine NoW.set ?_ (nw _ _ aD) _)
  exact hN2
 rw[aUb];simp only[go_sem,hp18,g2,g16,n2,n16];refine aBY jL jL _ _ _ ?_;rw[aUc];simp only[go_sem,hp18,g2,g16,n2,n16];refine aBY jL aBu _ _ _ ?_;rw[aUa];clear g2 g3 g7 g9 g10 g11 g13 g15 g16 n2 n3 n7 n9 n10 n11 n13 n15 n16 l1 l2 l3 l4 c1 c2 t1 z1 nq nw;simp only[go_sem,fM];exact aP hk (St.ge.trans cS hs2)
theorem aNC(d:Dfn)(a b:aC)(ha:a.length<=140737488355328)(hb:b.length<=140737488355328)(hW:yH d<=4294967296)(hS:d.sig.ops.length+d.sig.funs.length<=4294967296)(hB:DfnB d)(hC:DfnC d)
  (hr:nD d a b=true->DfnB (iO a b d)/\DfnC (iO a b d)/\nD (iO a b d) a b=true/\(iO a b (iO a b d)).same d=true)(s:St)(hN:NoW s)(KV Kp:St->A->Prop)(hk:KV s (.bool true)):Den cx 10 [d.enc,.str a,.str b] KV Kp s:=by
 have nw:∀(cs:List A),lY (.cells 33 cs):=λcs=>by simp only[lY];decide
 rw[show d.enc=.agg d.cs from rfl];(refine aO func10 [0,1,2,3,6,7,8,9,10,13,23] ?_;simp only[go_sem,ntmps10,f10]);(intro p hp;try simp only[aI,ne_eq]at hp);simp only[go_sem,hp];refine aPL d hW hS _ _ _ (λb1=>?_);simp only[go_sem,hp];(refine aQ (λh=>?_) (λh=>?_))<;>simp only[go_sem,h,hp]
 .refine aEJ _ (by(repeat (refine NoW.set ?_ (nw _) _));exact hN) _ _ ?_;simp only[go_sem,hp];exact aP hk cS
 clear h;refine aBU d hB hC a b ha hb _ (hN.set (nw _) _) _ _ ?_;cases hcan:nD d a b with
 | false =>
  simp only[go_sem,hp];(intro q hq;try simp only[aI,ne_eq]at hq);simp only[go_sem,hp,hq,Int.reduceEq];refine aEJ _ (by(repeat (refine NoW.set ?_ (nw _) _));exact hN) _ _ ?_;simp only[go_sem];exact aP hk cS
 | true =>
  obtain⟨r1,r2,r3,r4⟩:=hr hcan;have r5:jE (iO a b d)=true:=by unfold nD at r3;simp only[cL]at r3;exact r3.1
  simp only[if_true];obtain⟨r,hre⟩:∃r,r=iO a b d:=⟨_,rfl⟩
  rw[<-hre]at r1 r2 r3 r4 r5⊢;simp only[go_sem,hp];(intro q hq;try simp only[aI,ne_eq]at hq);simp only[go_sem,hp,hq,Int.reduceEq];refine aBU r r1 r2 a b ha hb _ ((hN.set (nw _) _).set (nw _) _) _ _ ?_;rw[r3];simp only[if_true];simp only[go_sem,hp,hq];(intro q2 hq2;try simp only[aI,ne_eq]at hq2);simp only[go_sem,hp,hq,hq2,Int.reduceEq];refine aBY (iO a b r) d _ _ _ ?_;rw[r4];simp only[go_sem,hp,hq,hq2];refine aEN r r1 _ (((hN.set (nw _) _).set (nw _) _).set (nw _) _) _ _ ?_;rw[r5];simp only[go_sem,hp,hq,hq2];refine aEJ _ (by(repeat (refine NoW.set ?_ (nw _) _));exact hN) _ _ ?_;simp only[go_sem,hp,hq,hq2];exact aP hk cS
abbrev Lt:=List (Tok × aC)
def fF:Lt->aC
 | []=>[]
 | x::r=>x.1.word++(x.2++fF r)
def aSZ(z:aC):Prop:=∀c r,z=c::r->eY c.toNat=false
def aBw:Lt->Prop
 | []=>True
 | x::r=>TokG x.1/\(x.2=[]\/x.2=[32]\/x.2=[10])/\(x.1.kind=4->x.1.text=[45]->x.2=[])/\(x.2=[]->x.1.kind=1\/x.1.kind=2->aSZ (fF r))/\aBw r
theorem aLL{P:Lt}(h:aBw P):aGs (fF P):=by
 cases P with
 | nil=>exact .inl rfl
 | cons x P =>
  obtain⟨c,r,e,h1,h2⟩:=aA5 h.1;exact .inr ⟨c,_,by rw[fF,e];rfl,h1,h2⟩
theorem aH9{x:aC}(h:aGs x){b:UInt8}(hb:b=32\/b=10):eZ (b::x)=1:=by
 unfold eZ;show oB (x.length+1) (b::x)=1;simp only[oB];rcases hb with rfl|rfl
 .rw[if_pos aD,aDa h]
 .rw[if_pos aD,aDa h]
theorem aTi(f:Nat):∀(P:Lt) (p:Nat × Nat) (acc:List Tok),aBw P->(fF P).length<=f ->
  ∃T',kX dG true f (fF P) p acc=.ok (acc++T')/\Mv (P.map (·.1)) T'/\∀v z,T'=v::z->v.line=p.1/\v.col=p.2:=by
 induction f with
 | zero =>
  intro P p acc hok hf;cases P with
  | nil=>exact⟨[],by simp only[fF,kX,eM],.nil,λv z h=>by cases h⟩
  | cons x P =>
   obtain⟨c,r,e,_⟩:=aA5 hok.1;rw[fF,e]at hf;simp at hf
 | succ f ih =>
  intro P p acc hok hf;cases P with
  | nil=>exact⟨[],by simp only[fF,kX,eM],.nil,λv z h=>by cases h⟩
  | cons x P =>
  obtain⟨t,bl⟩:=x;obtain⟨ht,hbl,hm,hj,hP⟩:=hok;simp only at ht hbl hm hj;obtain⟨c,r,e,hc1,hc2⟩:=aA5 ht;have hnb:=aLL hP
  have hbk:eZ (bl++fF P)=bl.length:=by
   rcases hbl with rfl|rfl|rfl
   .exact aDa hnb _
   .exact aH9 hnb (.inl rfl)
   .exact aH9 hnb (.inr rfl)
  have h7:bl++fF P=[]\/∃b z',bl++fF P=b::z'/\b≠62/\(t.kind=1\/t.kind=2->eY b.toNat=false):=by
   rcases hbl with rfl|rfl|rfl
   .cases P with
    | nil=>exact .inl rfl
    | cons u Q =>
     obtain⟨d,s,eu,_⟩:=aA5 hP.1;exact .inr ⟨d,s++(u.2++fF Q),by rw[aW,fF,eu];rfl,aR9 hP.1 eu,λhk=>hj rfl hk d (s++(u.2++fF Q)) (by rw[fF,eu];rfl)⟩
   .exact .inr ⟨32,_,rfl,by decide,λ_=>by decide⟩
   .exact .inr ⟨10,_,rfl,by decide,λ_=>by decide⟩
  have htok:=aR5 ht h7;have hlen:1<=t.word.length:=by rw[e];simp
  have hfl:(fF P).length<=f:=by
   rw[fF,aG,aG]at hf;simp only at hf;omega
  obtain⟨T',g1,g2,g3⟩:=ih P (eI (eI p t.word) bl) (acc++[⟨t.kind,t.text,t.n,p.1,p.2⟩]) hP hfl;refine⟨t.to p.1 p.2::T',?_,.cons (λv z' hv k1 k2 k3 kt kv=>?_) g2,λv z' hv=>by cases hv;exact⟨rfl,rfl⟩⟩
  .rw[fF];simp only;rw[e,aV];rw[e,aV]at htok;simp only[kX];rw[htok];simp only;have d1:(c::(r++(bl++fF P))).drop t.word.length=bl++fF P:=by rw[<-aV,<-e,List.drop_left' rfl]
   have d2:(c::(r++(bl++fF P))).take t.word.length=t.word:=by rw[<-aV,<-e,List.take_left' rfl]
   have d3:(bl++fF P).drop (eZ (bl++fF P))=fF P:=by rw[hbk,List.drop_left' rfl]
   have d4:(bl++fF P).take (eZ (bl++fF P))=bl:=by rw[hbk,List.take_left' rfl]
   rw[<-e,d1,d2,d3,d4,g1,bI];rfl
  .obtain⟨q1,q2⟩:=g3 v z' hv
   have h4:t.kind=4:=by
    rcases ht.is with⟨hk,_⟩|⟨hk,_⟩|⟨hk,_⟩|⟨hk,_⟩
    .exact absurd hk k1
    .exact absurd hk k2
    .exact absurd hk k3
    .exact hk
   have kt':t.text=[45]:=kt;have ew:t.word=[45]:=by unfold Tok.word;rw[h4,if_neg aD,if_neg aD];exact kt'
   rw[hm h4 kt',ew]at q1 q2;exact⟨q1,by rw[q2];rfl⟩
theorem aRj{P:Lt}(h:aBw P):∃T',jS dG true (fF P)=.ok T'/\Mv (P.map (·.1)) T':=by
 unfold jS;rw[show eZ (fF P)=0 from aDa (aLL h) _,rY,List.take_zero];obtain⟨T',h1,h2,_⟩:=aTi (fF P).length P (eI (1,1) []) [] h (bT _);exact⟨T',by rw[h1,aW],h2⟩
def qJ(l:List Tm):List Tok:=if l=[] then [] else bE [105,102]::iV tK false l
def nQ(p:Piece):Tok:=if p.sort=[] then tkt p.text else bE p.sort
def pO(o:Opr):List Tok :=
 (if 0 < o.prec then [bE [112,114,101,99],rX o.prec] else []) ++ ((if o.assoc = 1 then [bE [108,101,102,116]] else if o.assoc = 2 then [bE [114,105,103,104,116]] else []) ++
  ((if o.strict=[] then [] else bE [115,116,114,105,99,116]::aR [40]::(iV (λn=>[rX n]) false o.strict++[aR [41]]))++[aR [46]]))
def tC(o:Opr):List Tok :=
 bE [111,112]::bE o.name::aR [58]::(o.pieces.map nQ++((if o.pieces=[] then o.args.map bE else [])++(aR [45,62]::bE o.sort::pO o)))
def sW(o:Opr):List Tok:=bE [102,117,110]::bE o.name::aR [58]::(o.args.map bE++[aR [45,62],bE o.sort,aR [46]])
def sJ(c:Cel):List Tok:=bE c.name::aR [58]::bE c.sort::aR [61]::tK c.init
def sV(n:Nat):List Tok:=if 0<n then [aR [59]] else []
def vO:List Tm->List Tok
 | []=>[]
 | t::r=>aR [61,62]::(tK t++vO r)
def sN(p:Part):List Tok:=bE p.cell::((if p.at_=[] then [] else [aR [64],bE p.at_])++(aR [58]::(tK p.left++vO p.right)))
def uI(f:Fresh):List Tok:=bE [110,101,119]::aR [40]::(iV tK false f.cells++[aR [41]])
def tX(s:aC):List Tok:=[bE [100,114,111,112],aR [64],bE s]
def gF{α:Type}(one:α->List Tok):Nat->List α->List Tok
 | _,[]=>[]
 | n,x::r=>sV n++(one x++gF one (n+1) r)
def sK(r:Rul):List Tok :=
 bE [114,117,108,101]::bE r.name::aR [58]::(gF sN 0 r.parts++(gF uI r.parts.length r.new++(gF tX (r.parts.length+r.new.length) r.drop++(qJ r.cond++[aR [46]]))))
def pM(k:aC)(l:List aC):List Tok:=if l=[] then [] else bE k::(iV (λx=>[bE x]) false l++[aR [46]])
def xZ(x:Below):List Tok:=[bE [115,117,98,115,111,114,116],bE x.low,aR [60],bE x.high,aR [46]]
def sT(x:Eqn):List Tok:=bE [108,101,116]::(tK x.left++(aR [61]::(tK x.right++(qJ x.cond++[aR [46]]))))
def vU(c:Cel):List Tok:=bE [99,101,108,108]::(sJ c++[aR [46]])
def yA(k:aC)(l:List Cel):List Tok:=if k=[] then [] else bE [109,97,110,121]::bE k::aR [40]::(iV sJ false l++[aR [41],aR [46]])
def pN(k x:aC):List Tok:=if x=[] then [] else [bE k,bE x,aR [46]]
def aGG(s:Sig):List Tok:=pM [115,111,114,116] s.sorts++(s.below.flatMap xZ++(pM [118,97,108,117,101] s.values++(s.ops.flatMap tC++s.funs.flatMap sW)))
def vP(d:Dfn):List Tok :=
 aGG d.sig++(d.eqs.flatMap sT++(d.once.flatMap vU++(yA d.kind d.many++(pN [115,116,97,114,116] d.start++(pN [119,97,116,99,104] d.watch++d.rules.flatMap sK)))))
def wA(d:Dfn):List Tok:=bE [108,97,110,103,117,97,103,101]::bE d.name::aR [46]::vP d
theorem aIz{l:List Tm}(h:TmsG l)(c:List Wd):bA (qI c l)=bA c++tw (qJ l):=by
 unfold qI qJ;by_cases hl:l=[]
 .rw[if_pos hl,if_pos hl];simp[tw]
 .rw[if_neg hl,if_neg hl,uV cI tK l false _ (λx hx c=>xC (h.t x hx).g c),cP,lZ,bI];rfl
theorem aJh{x:Cel}(h:CelG x)(c:List Wd):bA (jF c x)=bA c++tw (sJ x):=by
 unfold jF sJ;rw[xC h.i.g,eO];simp only[lZ,kU,bI,aV,aW]
theorem aLw{l:List aC}:tw (l.map bE)=l:=by
 induction l with
 | nil=>rfl
 | cons x r ih=>rw[bS,lZ,ih]
theorem aPy(l:List Piece):tw (l.map nQ)=l.map oL:=by
 induction l with
 | nil=>rfl
 | cons p r ih =>
  rw[bS,bS,<-ih];unfold nQ oL;by_cases hp:p.sort=[]
  .rw[if_pos hp,if_pos hp,aT3]
  .rw[if_neg hp,if_neg hp,lZ]
theorem aSK(o:Opr):bA (qT o)=tw (tC o):=by
 have e1:∀c:List Wd,bA (if o.strict=[] then c else aL (eE (λc n=>aL c (Lib.itoa n)) false (bM c [[115,116,114,105,99,116],[40]]) o.strict) [41])=bA c++tw (if o.strict=[] then [] else bE [115,116,114,105,99,116]::aR [40]::(iV (λn=>[rX n]) false o.strict++[aR [41]])):=by
  intro c;by_cases h:o.strict=[]
  .rw[if_pos h,if_pos h];simp[tw]
  .rw[if_neg h,if_neg h,cP,uV (λc n=>aL c (Lib.itoa n)) (λn=>[rX n]) o.strict false _ (λx _ c=>by rw[cP];rfl),eO];simp only[lZ,kU,kT,jY,bI,aV,aW]
 have e2:∀c:List Wd,bA (if o.assoc=1 then aL c [108,101,102,116] else if o.assoc=2 then aL c [114,105,103,104,116] else c)=bA c++tw (if o.assoc=1 then [bE [108,101,102,116]] else if o.assoc=2 then [bE [114,105,103,104,116]] else []):=by
  intro c;by_cases h:o.assoc=1
  .rw[if_pos h,if_pos h,cP];rfl
  .rw[if_neg h,if_neg h];by_cases h2:o.assoc=2
   .rw[if_pos h2,if_pos h2,cP];rfl
   .rw[if_neg h2,if_neg h2,jY,eM]
 have e3:∀c:List Wd,bA (if 0<o.prec then bM c [[112,114,101,99],Lib.itoa o.prec] else c)=bA c++tw (if 0<o.prec then [bE [112,114,101,99],rX o.prec] else []):=by
  intro c;by_cases h:0<o.prec
  .rw[if_pos h,if_pos h,eO];rfl
  .rw[if_neg h,if_neg h,jY,eM]
 have e4:∀c:List Wd,bA (if o.pieces=[] then bM c o.args else c)=bA c++tw (if o.pieces=[] then o.args.map bE else []):=by
  intro c;by_cases h:o.pieces=[]
  .rw[if_pos h,if_pos h,eO,aLw]
  .rw[if_neg h,if_neg h,jY,eM]
 unfold qT tC pO;simp only[];rw[cP,e1,e2,e3,eO,e4,eO,eO];simp only[lZ,kU,kT,aPy,jY,bI,aV,aW];rfl
theorem aRZ(o:Opr):bA (uJ o)=tw (sW o):=by
 unfold uJ sW;rw[cP,eO,eO,eO];simp only[lZ,kU,kT,aLw,jY,bI,aV,aW];rfl
theorem aF8(n:Nat)(c:List Wd):bA (iP n c)=bA c++tw (sV n):=by
 unfold iP sV;by_cases h:0<n
 .rw[if_pos h,if_pos h,cP];rfl
 .rw[if_neg h,if_neg h,jY,eM]
theorem aCG{α:Type}(one:Nat->List Wd->α->List Wd)(oneK:α->List Tok):∀(l:List α) (n:Nat) (c:List Wd),(∀x,x∈l->∀n c,bA (one n c x)=bA c++(tw (sV n)++tw (oneK x)))->bA (gM one n c l)=bA c++tw (gF oneK n l)
 | [],n,c,_=>by simp[gM,gF,tw]
 | x::r,n,c,h=>by
  rw[gM,aCG one oneK r _ _ (λy hy=>h y (cT _ hy)),h x (bY ..),gF];simp only[kT,bI]
theorem aQW{p:Part}(h:PartG p)(n:Nat)(c:List Wd):bA (lS n c p)=bA c++(tw (sV n)++tw (sN p)):=by
 have e:∀c:List Wd,bA (jX c p.right)=bA c++tw (vO p.right):=by
  intro c;rcases h.r with e|⟨u,e,hu⟩
  .rw[e];simp[jX,vO,tw]
  .rw[e];simp only[jX,vO];rw[xC hu.g,cP];simp only[kU,kT,jY,eM,bI,aV,aW]
 have e2:∀c:List Wd,bA (if p.at_=[] then c else bM c [[64],p.at_])=bA c++tw (if p.at_=[] then [] else [aR [64],bE p.at_]):=by
  intro c;by_cases h:p.at_=[]
  .rw[if_pos h,if_pos h,jY,eM]
  .rw[if_neg h,if_neg h,eO];rfl
 unfold lS sN;simp only[];rw[e,xC h.l.g,cP,e2,cP,aF8];simp only[lZ,kU,kT,jY,bI,aV,aW]
theorem aSd{f:Fresh}(h:NewG f)(n:Nat)(c:List Wd):bA (lV n c f)=bA c++(tw (sV n)++tw (uI f)):=by
 unfold lV uI;rw[cP,uV cI tK f.cells false _ (λx hx c=>xC (h.t x hx).g c),eO,aF8];simp only[lZ,kU,kT,jY,bI,aV,aW]
theorem aRg(x:aC)(n:Nat)(c:List Wd):bA (lT n c x)=bA c++(tw (sV n)++tw (tX x)):=by
 unfold lT tX;rw[eO,aF8,bI];rfl
theorem aQ8{r:Rul}(h:RulG r):bA (rL r)=tw (sK r):=by
 unfold rL sK;simp only[];rw[cP,aIz h.c,aCG lT tX r.drop _ _ (λx _ n c=>aRg x n c),aCG lV uI r.new _ _ (λx hx n c=>aSd (h.p.f x hx) n c),aCG lS sN r.parts _ _ (λx hx n c=>aQW (h.p.p x hx) n c),eO];simp only[lZ,kU,kT,jY,bI,aV,aW];rfl
theorem aTz{x:Eqn}(h:EqG x):bA (sR x)=tw (sT x):=by
 unfold sR sT;rw[cP,aIz h.c,xC h.r.g,cP,xC h.l.g,cP];simp only[lZ,kU,kT,jY,bI,aV,aW];rfl
theorem aO0(a b:List (List Wd)):dJ (a++b)=dJ a++dJ b:=by simp[dJ]
theorem wW{α:Type}(f:α->List Wd)(g:α->List Tok):∀l:List α,(∀x,x∈l->bA (f x)=tw (g x))->dJ (l.map f)=tw (l.flatMap g)
 | [],_=>rfl
 | x::r,h=>by
  rw[bS,nL,kT,<-h x (bY ..),<-wW f g r (λy hy=>h y (cT _ hy))];rfl
theorem aCn(x:List Wd):dJ [x]=bA x:=by simp[dJ,bA]
theorem aOS(k:aC)(l:List aC):dJ (nP k l)=tw (pM k l):=by
 unfold nP pM;by_cases h:l=[]
 .rw[if_pos h,if_pos h];rfl
 .rw[if_neg h,if_neg h,aCn,cP,uV aL (λx=>[bE x]) l false _ (λx _ c=>by rw[cP];rfl),cP];simp only[lZ,kU,kT,jY,bI,aV,aW];rfl
theorem aPY(k x:aC):dJ (mY k x)=tw (pN k x):=by
 unfold mY pN;by_cases h:x=[]
 .rw[if_pos h,if_pos h];rfl
 .rw[if_neg h,if_neg h,aCn,cP,eO];rfl
theorem aQl{k:aC}{l:List Cel}(h:∀x,x∈l->CelG x):dJ (if k=[] then [] else [aL (aL (eE jF false (bM [] [[109,97,110,121],k,[40]]) l) [41]) [46]])=tw (yA k l):=by
 unfold yA;by_cases hk:k=[]
 .rw[if_pos hk,if_pos hk];rfl
 .rw[if_neg hk,if_neg hk,aCn,cP,cP,uV jF sJ l false _ (λx hx c=>aJh (h x hx) c),eO];simp only[lZ,kU,kT,jY,bI,aV,aW];rfl
theorem aSA{d:Dfn}(h:DfnG d):dJ (fI d)=tw (wA d):=by
 unfold fI wA vP uE aGG;simp only[aO0,aOS,aPY,aQl h.ma];rw[wW qT tC _ (λx _=>aSK x),wW uJ sW _ (λx _=>aRZ x),wW rL sK _ (λx hx=>aQ8 (h.ru x hx)),wW sR sT _ (λx hx=>aTz (h.eq x hx)),wW _ vU d.once (λx hx=>?_),wW _ xZ d.sig.below (λx hx=>?_),aCn,cP,eO]
 .simp only[lZ,kU,kT,jY,bI,aV,aW];rfl
 .rw[cP,eO];rfl
 .unfold vU;rw[cP,aJh (h.ce x hx),cP];simp only[lZ,kU,kT,jY,bI,aV,aW];rfl
def qU:List Tok->Lt
 | []=>[]
 | [t]=>[(t,[])]
 | t::u::r=>(t,if jJ t.word u.word=true then [32] else [])::qU (u::r)
theorem aLC:∀(l:List Tok) (x:aC),kH x (tw l)=(match l with|[]=>[]|t::_=>if jJ x t.word=true then [32] else [])++fF (qU l)
 | [],x=>rfl
 | [t],x=>by
  rw[show tw [t]=[t.word] from rfl,tN];simp[kH,qU,fF]
 | t::u::r,x=>by
  rw[show tw (t::u::r)=t.word::tw (u::r) from rfl,tN,aLC (u::r) t.word];simp only[qU,fF]
theorem aLJ:∀l:List Tok,(qU l).map (·.1)=l
 | []=>rfl
 | [t]=>rfl
 | t::u::r=>by simp only[qU,bS,aLJ (u::r)]
def AG(l:List Tok):Prop:=∀t,t∈l->TokG t
theorem fY:AG []:=λt h=>by cases h
theorem aC5{t:Tok}{l:List Tok}(h:TokG t)(hl:AG l):AG (t::l):=λu hu=>by
 rcases List.mem_cons.1 hu with rfl|hu
 .exact h
 .exact hl u hu
theorem fX{a b:List Tok}(h:AG a)(hb:AG b):AG (a++b):=λu hu=>(cW.1 hu).elim (h u) (hb u)
theorem qM{c:Prop} [Decidable c] {a b:List Tok} (h:c->AG a) (hb:¬ c->AG b):AG (if c then a else b):=by
 by_cases hc:c
 .rw[if_pos hc];exact h hc
 .rw[if_neg hc];exact hb hc
theorem gN{x:aC}{l:List Tok}(hl:AG l)(h:dM x=true:=by decide):AG (bE x::l):=aC5 (aAo h) hl
theorem gS{x:aC}{l:List Tok}(hl:AG l)(h:x∈dG\/x=[39]\/x=[95]:=by decide):AG (aR x::l):=aC5 (aDv h) hl
theorem aLV{n:Int}(h0:0<=n)(h1:n<=2147483647):AG [rX n]:=aC5 ⟨.inr (.inl ⟨rfl,rfl,h0,h1⟩)⟩ fY
theorem zC{α:Type}{one:α->List Tok}:∀(b:Bool) (l:List α),(∀x,x∈l->AG (one x))->AG (iV one b l)
 | b,[],_=>fY
 | b,x::r,h=>fX (qM (λ_=>gS fY) (λ_=>fY)) (fX (h x (bY ..)) (zC true r (λy hy=>h y (cT _ hy))))
theorem aCV{α:Type}{one:α->List Tok}:∀(l:List α) (n:Nat),(∀x,x∈l->AG (one x))->AG (gF one n l)
 | [],n,_=>fY
 | x::r,n,h=>fX (qM (λ_=>gS fY) (λ_=>fY)) (fX (h x (bY ..)) (aCV r (n+1) (λy hy=>h y (cT _ hy))))
theorem zV{α:Type}{one:α->List Tok}{l:List α}(h:∀x,x∈l->AG (one x)):AG (l.flatMap one):=λt ht=>by
 obtain⟨x,hx,ht⟩:=List.mem_flatMap.1 ht;exact h x hx t ht
theorem aGg{α:Type}{one:α->Tok}{l:List α}(h:∀x,x∈l->TokG (one x)):AG (l.map one):=λt ht=>by
 obtain⟨x,hx,rfl⟩:=cC.1 ht;exact h x hx
theorem aGq:∀P:Pc,jG P->AG (bH P)
 | [],_=>fY
 | some t::P,h=>aC5 h.1 (aGq P h.2.2.2)
 | none::P,h=>aGq P h.2
theorem yB{t:Tm}(h:TmG t):AG (tK t):=by
 have:=h.g.ok [] trivial (λu Q' h=>by cases h);rw[eM]at this;exact aGq _ this
theorem aI8{l:List Tm}(h:TmsG l):AG (qJ l):=qM (λ_=>fY) (λ_=>gN (zC false l (λx hx=>yB (h.t x hx))))
theorem aTQ{o:Opr}(h:OpG o):AG (tC o):=by
 refine gN (gN (gS (fX (aGg λq hq=>?_) (fX (qM (λ_=>aGg λx hx=>aAo (h.a x hx).n) (λ_=>fY)) (gS (gN (fX (qM (λ_=>gN (aLV h.c.1 (by have:=h.c.2;omega))) (λ_=>fY)) (fX (qM (λ_=>gN fY) (λ_=>qM (λ_=>gN fY) (λ_=>fY)))
  (fX (qM (λ_=>fY) (λ_=>gN (gS (fX (zC false _ λn hn=>aLV (by have:=(h.t n hn).1;omega) (by have:=(h.t n hn).2;omega)) (gS fY))))) (gS fY)))) h.s.n))))) h.n.n)
 unfold nQ;rcases(h.pg q hq).c with⟨h1,h2⟩|⟨h1,h2⟩
 .rw[if_pos h1];exact⟨.inr (.inr (.inl ⟨rfl,rfl,h2⟩))⟩
 .rw[if_neg (λe=>by have:=h2.n;rw[e]at this;cases this)];exact aAo h2.n
theorem aSD{o:Opr}(h:FunG o):AG (sW o):=gN (gN (gS (fX (aGg λx hx=>aAo (h.a x hx).n) (gS (gN (gS fY) h.s.n)))) h.n.n)
theorem aJ4{c:Cel}(h:CelG c):AG (sJ c):=gN (gS (gN (gS (yB h.i)) h.s.n)) h.n.n
theorem aRW{p:Part}(h:PartG p):AG (sN p):=by
 refine gN (fX (qM (λ_=>fY) (λhn=>gS (gN fY (h.a.resolve_left hn).n))) (gS (fX (yB h.l) ?_))) h.c.n;rcases h.r with e|⟨u,e,hu⟩
 .rw[e];exact fY
 .rw[e];exact gS (fX (yB hu) fY)
theorem aSk{r:Rul}(h:RulG r):AG (sK r) :=
 gN (gN (gS (fX (aCV _ _ λx hx=>aRW (h.p.p x hx)) (fX (aCV _ _ λx hx=>gN (gS (fX (zC false _ λt ht=>yB ((h.p.f x hx).t t ht)) (gS fY)))) (fX (aCV _ _ λx hx=>gN (gS (gN fY (h.p.d x hx).n))) (fX (aI8 h.c) (gS fY)))))) h.p.n.n)
theorem aSL{x:Eqn}(h:EqG x):AG (sT x):=gN (fX (yB h.l) (gS (fX (yB h.r) (fX (aI8 h.c) (gS fY)))))
theorem aJt{k:aC}{l:List aC}(hk:dM k=true)(h:∀x,x∈l->NmG x):AG (pM k l):=qM (λ_=>fY) (λ_=>gN (fX (zC false l λx hx=>gN fY (h x hx).n) (gS fY)) hk)
theorem aIZ{k x:aC}(hk:dM k=true)(h:x=[]\/NmG x):AG (pN k x):=qM (λ_=>fY) (λhn=>gN (gN (gS fY) (h.resolve_left hn).n) hk)
theorem aSP{d:Dfn}(h:DfnG d):AG (wA d):=by
 refine gN (gN (gS (fX (fX (aJt aD h.so) (fX (zV λx hx=>gN (gN (gS (gN (gS fY) (h.be x hx).2.n)) (h.be x hx).1.n)) (fX (aJt aD h.va) (fX (zV λx hx=>aTQ (h.op x hx)) (zV λx hx=>aSD (h.fu x hx))))))
  (fX (zV λx hx=>aSL (h.eq x hx)) (fX (zV λx hx=>gN (fX (aJ4 (h.ce x hx)) (gS fY))) (fX (qM (λ_=>fY) (λhn=>?_)) (fX (aIZ aD h.st) (fX (aIZ aD h.wa) (zV λx hx=>aSk (h.ru x hx))))))))) h.n.n)
 rcases h.ki with⟨e,_⟩|⟨e,_⟩
 .exact absurd e hn
 .exact gN (gN (gS (fX (zC false _ λx hx=>aJ4 (h.ma x hx)) (gS (gS fY)))) e.n)
theorem aPJ{t:Tok}(h:TokG t)(hk:t.kind=1\/t.kind=2):∃c,t.word.getLast?=some c/\eY c.toNat=true/\t.word≠[95]:=by
 rcases h.is with⟨e,_,c,r,ew,h1,h2,h3⟩|⟨e,_,h0,h1⟩|⟨e,_⟩|⟨e,_⟩
 .have hw:t.word=c::r:=by unfold Tok.word;rw[if_neg aB,if_neg aB,ew]
  rw[hw];refine⟨(c::r).getLast bD,List.getLast?_eq_some_getLast _,?_,λe=>?_⟩
  .exact iH.1 h2 _ (List.getLast_mem _)
  .cases e;revert h1;decide
 .have hw:t.word=Lib.itoa t.n:=by unfold Tok.word;rw[if_pos e]
  have e2:Lib.itoa t.n=Lib.decDigits t.n.natAbs:=by unfold Lib.itoa;rw[if_neg aB,show t.n.toNat=t.n.natAbs by omega]
  have hd:=(aC1 _ t.n.natAbs (jB _)).2;obtain⟨c,r,e3,h4,h5⟩:=aAg _ t.n.natAbs (jB _);rw[hw,e2];rw[e3]at hd⊢;refine⟨(c::r).getLast bD,List.getLast?_eq_some_getLast _,?_,λe=>?_⟩
  .have:=hd _ (List.getLast_mem (l:=c::r) bD);simp only[eY,qB,cU,cL];omega
  .cases e;revert h5;decide
 .omega
 .omega
theorem aKR:∀l:List Tok,AG l->aBw (qU l)
 | [],_=>trivial
 | [t],h=>⟨h t (bY ..),.inl rfl,λ_ _=>rfl,λ_ _ c r e=>(by cases e),trivial⟩
 | t::u::r,h=>by
  have ht:=h t (bY ..);have hu:=h u (cT _ (bY ..));refine⟨ht,?_,λh4 hm=>?_,λhe hk=>?_,aKR (u::r) (λv hv=>h v (cT _ hv))⟩
  .show(if _ then _ else _:aC)=_\/_;split
   .exact .inr (.inl rfl)
   .exact .inl rfl
  .have ew:t.word=[45]:=by unfold Tok.word;rw[h4,if_neg aD,if_neg aD];exact hm
   show(if _ then _ else _:aC)=_;rw[ew,if_neg (by unfold jJ;simp[show eY 45=false from by decide])]
  .obtain⟨c,e1,e2,e3⟩:=aPJ ht hk;obtain⟨d,s,e4,_⟩:=aA5 hu
   have hg:¬ jJ t.word u.word=true:=λhg=>by
    have he':(if jJ t.word u.word=true then [32] else []:aC)=[]:=he;rw[if_pos hg]at he';cases he'
   have hne:t.word≠[]:=λe=>by rw[e]at e1;cases e1
   have hd:eY d.toNat=false:=by
    unfold jJ at hg;rw[e1,e4]at hg;simpa [hne,e2,e3]using hg
   intro c' r' e;have e':fF (qU (u::r))=c'::r':=e
   have:∃z,fF (qU (u::r))=d::z:=by
    cases r with
    | nil=>exact⟨_,by rw[qU,fF,e4];rfl⟩
    | cons v r=>exact⟨_,by rw[qU,fF,e4];rfl⟩
   obtain⟨z,hz⟩:=this;rw[hz]at e';cases e';exact hd
theorem aNY{d:Dfn}(h:DfnG d):∃T',jS dG true (kG (fI d))=.ok T'/\Mv (wA d) T':=by
 obtain⟨T',h1,h2⟩:=aRj (aKR _ (aSP h));rw[aLJ]at h2;refine⟨T',?_,h2⟩;have:=aLC (wA d) [];rw[<-aSA h]at this;have e:kH [] (dJ (fI d))=fF (qU (wA d)):=this;clear this;have this:=e;unfold kG;rw[this];exact h1
section
section
variable {fin:Fault} {n:Nat} {w:List Tok}
theorem kS{x:aC}(h:NmG x):eN fin (bE x::w) n=.ok x w n:=by
 unfold eN;simp only;rw[if_pos (aAR h.r)];rfl
theorem xB{t:Tm}(h:TmG t):gE false fin (tK t++w) n=.ok t w n:=by
 obtain⟨u,P,e,hu⟩:=h.g.hd;obtain⟨m,hm⟩:=h.m;have:=aRm fin u 60 t 0 m w h.g hm;unfold tK;rw[e,bH]at this⊢;rw[aV]at this⊢;unfold gE;simp only;rw[this]
theorem aH4{α:Type}(one:α->List Tok):∀l:List α,l.length<=(iV one true l).length
 | []=>aU _
 | x::r=>by
  have:=aH4 one r;simp only[iV,if_true,aG,aE,aF];omega
theorem aJm{α:Type}(one:α->List Tok):∀(l:List α) (m:Nat),l.length<=(gF one (m+1) l).length
 | [],m=>aU _
 | x::r,m=>by
  have:=aJm one r (m+1);simp only[gF,sV,Nat.zero_lt_succ,if_true,aG,aE,aF];omega
theorem aKA{α β:Type}{one:List β->List Tok->Nat->Rd β}{K:α->List Tok}{g:α->β}(B:Nat):∀(r:List α) (x:α) (acc:List β) (f:Nat),(∀acc y w,y∈x::r->acc.length<B->one acc (K y++w) n=.ok (g y) w n)->r.length+1<=f->acc.length+(r.length+1)<=B->isT [44] w=false ->
  dD fin [44] (λacc w n=>(one acc w n).bind λa w n=>.ok (acc++[a]) w n) f acc (K x++(iV K true r++w)) n=.ok (acc++g x::r.map g) w n
 | [],x,acc,f,h,hf,hB,hw=>by
  obtain⟨f,rfl⟩:∃f',f=f'+1:=⟨f-1,by omega⟩
  rw[dD,h acc x _ (bY ..) aB];simp only[bV,iV,aW];rw[if_neg (by rw[hw];decide)];rfl
 | y::r,x,acc,f,h,hf,hB,hw=>by
  simp only[aE]at hf hB;obtain⟨f,rfl⟩:∃f',f=f'+1:=⟨f-1,by omega⟩
  rw[dD,h acc x _ (bY ..) aB];simp only[bV,iV,if_true,aV,aW,bI];rw[fV,if_pos aD,List.tail_cons,aKA B r y (acc++[g x]) f (λacc z w hz=>h acc z w (cT _ hz)) aB (by simp only[aG,aE,aF];omega) hw,bI];rfl
theorem zP{α β:Type}{one:List β->List Tok->Nat->Rd β}{K:α->List Tok}{g:α->β}(B:Nat){l:List α}{acc:List β}(h:∀acc y w,y∈l->acc.length<B->one acc (K y++w) n=.ok (g y) w n)(hl:l≠[])(hB:acc.length+l.length<=B)(hw:isT [44] w=false) :
  jR fin one acc (iV K false l++w) n=.ok (acc++l.map g) w n:=by
 cases l with
 | nil=>exact absurd rfl hl
 | cons x r =>
  have e:iV K false (x::r)++w=K x++(iV K true r++w):=by
   simp only[iV,cJ,if_false,aW,bI]
  unfold jR;rw[e,aKA B r x acc _ h ?_ (by simpa using hB) hw];rfl;have:=aH4 K r;simp only[aG];omega
theorem aS7{l:List Tm}(h:∀t,t∈l->TmG t)(hl:l≠[])(hw:isT [44] w=false):jR fin (λ_=>gE false fin) [] (iV tK false l++w) n=.ok l w n:=by
 rw[zP (fin:=fin) (n:=n) (w:=w) (one:=λ_=>gE false fin) (K:=tK) (g:=λt=>t) l.length (λacc y w hy _=>xB (h y hy)) hl bD hw];simp
theorem aIU{l:List Tm}(h:TmsG l):pP false fin (qJ l++aR [46]::w) n=.ok l (aR [46]::w) n:=by
 unfold pP qJ;by_cases hl:l=[]
 .rw[if_pos hl,aW,fV,if_neg aD,hl]
 .rw[if_neg hl,aV,tS,if_pos aD,List.tail_cons];rw[zP (fin:=fin) (n:=n) (w:=aR [46]::w) (K:=tK) (g:=λt=>t) 20 (λacc y w hy ha=>?_) hl (by simpa using h.n) (by rw[fV];decide)]
  .simp
  .have h1:=xB (fin:=fin) (n:=n) (w:=w) (h.t y hy);obtain⟨u,P,e,hu⟩:=(h.t y hy).g.hd;unfold tK at h1⊢;rw[e,bH,aV]at h1⊢;simp only;rw[if_pos hu.b];unfold tZ;rw[if_neg aB,bV,h1]
theorem aKs{c:Cel}(h:CelG c):oP false fin (sJ c++w) n=.ok c.st w n:=by
 unfold sJ oP;simp only[aV];rw[kS h.n,bV,iC,bV,kS h.s,bV,iC,bV,xB h.i];rfl
theorem aFb:∀(qs:List Piece) (f:Nat) (ps:List Piece) (az:List aC) (tx:Bool),(∀q,q∈qs->PcG q)->qs.length+1<=f->ps.length+qs.length<=20->(az++jC qs).length<=8 ->
  pJ fin f ps az tx (qs.map nQ++aR [45,62]::w) n=.ok (ps++qs,az++jC qs,tx||qs.any λq=>decide (q.sort=[])) w n
 | [],f,ps,az,tx,h,hf,h20,h8=>by
  obtain⟨f,rfl⟩:∃f',f=f'+1:=⟨f-1,by omega⟩
  rw[cY,aW,pJ,fV,if_pos aD,List.tail_cons];simp[jC]
 | q::qs,f,ps,az,tx,h,hf,h20,h8=>by
  simp only[aE]at hf h20;obtain⟨f,rfl⟩:∃f',f=f'+1:=⟨f-1,by omega⟩
  have hq:=(h q (bY ..)).c;have ih:=λps az tx=>aFb qs f ps az tx (λr hr=>h r (cT _ hr)) aB
  rw[bS,aV,pJ];obtain⟨qt,qso⟩:=q;rcases hq with⟨rfl,h2⟩|⟨rfl,h2⟩
  .have e1:nQ ⟨qt,[]⟩=tkt qt:=rfl;have e2:isT [45,62] (tkt qt::(qs.map nQ++aR [45,62]::w))=false:=rfl;rw[e1,if_neg (by rw[e2];decide)];have e4:jC (⟨qt,[]⟩::qs)=jC qs:=by simp[jC]
   rw[if_pos (.inl rfl),if_neg aB,if_pos (by rfl)];rw[e4]at h8;have e3:(tkt qt).text=qt:=rfl;rw[e3,ih _ _ _ (by simp only[aG,aE,aF];omega) h8,e4];simp
  .have hne:qso≠[]:=λe=>by have:=h2.n;rw[e]at this;cases this
   have e1:nQ ⟨[],qso⟩=bE qso:=by unfold nQ;rw[if_neg hne]
   have e2:isT [45,62] (bE qso::(qs.map nQ++aR [45,62]::w))=false:=by
    rw[tS,fL];rintro rfl;have:=h2.n;revert this;decide
   rw[e1,if_neg (by rw[e2];decide)];have e4:jC (⟨[],qso⟩::qs)=qso::jC qs:=by simp[jC,hne]
   rw[e4]at h8;simp only[aG,aE]at h8;have e3:(bE qso).text=qso:=rfl;rw[if_pos (.inr (aAR h2.r)),if_neg aB,if_neg (by simp[bE]),if_neg aB,e3,ih _ _ _ (by simp only[aG,aE,aF];omega) (by simp only[aG,aE,aF];omega),e4];simp[hne]
theorem aK2{most x:Int}(h:1<=x/\x<=most):rG fin most (rX x::w) n=.ok x w n:=by
 unfold rG rX;simp only;rw[if_pos trivial,if_neg aB]
theorem aJB(f:Nat)(o:Opr):iE fin (f+1) o (aR [46]::w) n=.ok o (aR [46]::w) n:=by
 rw[iE,fV,if_pos aD]
theorem aFw(f:Nat)(o:Opr)(l:List Int)(h:∀x,x∈l->1<=x/\x<=8)(ho:o.strict=[])(hf:(if l=[] then 1 else 2)<=f) :
  iE fin f o ((if l=[] then [] else bE [115,116,114,105,99,116]::aR [40]::(iV (λn=>[rX n]) false l++[aR [41]]))++aR [46]::w) n=.ok { o with strict:=l } (aR [46]::w) n:=by
 by_cases hl:l=[]
 .rw[if_pos hl]at hf;obtain⟨f,rfl⟩:∃f',f=f'+1:=⟨f-1,by omega⟩
  rw[if_pos hl,aW,aJB,hl,<-ho]
 .rw[if_neg hl]at hf;obtain⟨f,rfl⟩:∃f',f=f'+2:=⟨f-2,by omega⟩
  rw[if_neg hl,aV,iE,tS,if_neg aD];simp only[aV,bI,aW];rw[if_neg (by simp[bE]),vD,if_neg aD,if_neg aD,if_neg aD,if_pos rfl,if_neg (by rw[ho];simp),iC,bV];rw[zP (fin:=fin) (n:=n) (K:=λn=>[rX n]) (g:=λx=>x) l.length (λacc y w hy _=>by rw[aV];exact aK2 (h y hy)) hl bD (by rw[fV];decide),bV,iC,bV,aJB];simp
theorem aJN(f:Nat)(o:Opr)(a:Int)(l:List Int)(ha:a=0\/a=1\/a=2)(h:∀x,x∈l->1<=x/\x<=8)(ho:o.strict=[])(ho2:o.assoc=0)(hf:(if a=0 then 0 else 1)+(if l=[] then 1 else 2)<=f) :
  iE fin f o ((if a=1 then [bE [108,101,102,116]] else if a=2 then [bE [114,105,103,104,116]] else [])++((if l=[] then [] else bE [115,116,114,105,99,116]::aR [40]::(iV (λn=>[rX n]) false l++[aR [41]]))++aR [46]::w)) n=.ok { o with assoc:=a,strict:=l } (aR [46]::w) n:=by
 have h0:1<=(if l=[] then 1 else 2):=by split<;>omega
 rcases ha with rfl|rfl|rfl
 .rw[if_neg aD,if_neg aD,aW,aFw _ _ _ h ho (by simpa using hf),<-ho2]
 .rw[if_neg aD]at hf;obtain⟨f,rfl⟩:∃f',f=f'+1:=⟨f-1,by omega⟩
  rw[if_pos rfl,aV,iE,tS,if_neg aD];simp only[aW];rw[if_neg (by simp[bE]),vD,if_neg aD,if_pos rfl,if_pos ho2,aFw _ { o with assoc:=1 } l h ho aB]
 .rw[if_neg aD]at hf;obtain⟨f,rfl⟩:∃f',f=f'+1:=⟨f-1,by omega⟩
  rw[if_neg aD,if_pos rfl,aV,iE,tS,if_neg aD];simp only[aW];rw[if_neg (by simp[bE]),vD,if_neg aD,if_neg aD,if_pos rfl,if_pos ho2,aFw _ { o with assoc:=2 } l h ho aB]
theorem aQb(f:Nat)(x:aC)(az:List aC)(y:aC)(ps:List Piece)(o:Opr)(h:OpG o)(hf:(pO o).length+1<=f):iE fin f ⟨x,az,y,ps,0,0,[]⟩ (pO o++w) n=.ok ⟨x,az,y,ps,o.prec,o.assoc,o.strict⟩ (aR [46]::w) n:=by
 have hf2:(if 0<o.prec then 1 else 0)+((if o.assoc=0 then 0 else 1)+(if o.strict=[] then 1 else 2))<=f:=by
  unfold pO at hf;simp only[aG,aE,aF]at hf;rcases h.s2 with h2|h2|h2<;>by_cases h1:0<o.prec<;>by_cases h5:o.strict=[]<;>simp[h1,h2,h5]at hf⊢<;>omega
 clear hf;unfold pO;simp only[bI,aV,aW];by_cases hp:0<o.prec
 .rw[if_pos hp]at hf2;obtain⟨f,rfl⟩:∃f',f=f'+1:=⟨f-1,by omega⟩
  rw[if_pos hp,aV,iE,tS,if_neg aD];simp only[aV,aW];rw[if_neg (by simp[bE]),vD,if_pos rfl,if_neg aD,aK2 ⟨by omega,h.c.2⟩,bV,aJN _ _ _ _ h.s2 h.t rfl rfl aB]
 .rw[if_neg hp]at hf2;rw[if_neg hp,aW,aJN _ _ _ _ h.s2 h.t rfl rfl aB,show o.prec=0 by have:=h.c.1;omega]
theorem aKf:∀(xs:List aC) (f:Nat) (az:List aC),(∀x,x∈xs->NmG x)->xs.length+1<=f->az.length+xs.length<=8->mH fin f az (xs.map bE++aR [45,62]::w) n=.ok (az++xs) w n
 | [],f,az,h,hf,h8=>by
  obtain⟨f,rfl⟩:∃f',f=f'+1:=⟨f-1,by omega⟩
  rw[cY,aW,mH,fV,if_pos aD,List.tail_cons,eM]
 | x::xs,f,az,h,hf,h8=>by
  simp only[aE]at hf h8;obtain⟨f,rfl⟩:∃f',f=f'+1:=⟨f-1,by omega⟩
  have hx:=h x (bY ..);rw[bS,aV,mH,tS,if_neg (by rw[cU];rintro rfl;have:=hx.n;revert this;decide)];unfold lI;simp only;rw[if_neg (λh=>by omega),kS hx,bV,aKf xs f _ (λy hy=>h y (cT _ hy)) aB (by simp only[aG,aE,aF];omega),bI];rfl
end
end
section
section
variable {fin:Fault} {n:Nat} {w:List Tok}
theorem dZ(x y:aC):eH (bE x) y=decide (x=y):=by simp[eH,bE];exact gG.2 Iff.rfl
theorem rM{x:aC}(h:NmG x):x≠[]:=λe=>by have:=h.n;rw[e]at this;cases this
theorem aTN{o:Opr}(h:OpG o):wB fin (bE o.name::aR [58]::(o.pieces.map nQ++((if o.pieces=[] then o.args.map bE else [])++(aR [45,62]::bE o.sort::pO o)))++w) n=.ok o (aR [46]::w) n:=by
 have hal:1<=(pO o).length:=by unfold pO;simp only[aG,aE,aF];omega
 have hat:∀(x:aC) (az:List aC) (y:aC) (ps:List Piece),iE fin ((pO o++w).length+1) ⟨x,az,y,ps,0,0,[]⟩ (pO o++w) n=.ok ⟨x,az,y,ps,o.prec,o.assoc,o.strict⟩ (aR [46]::w) n:=by
  intro x az y ps;exact aQb _ x az y ps o h (by simp only[aG];omega)
 unfold wB;simp only[aV,bI];rw[kS h.n,bV,iC,bV];by_cases hp:o.pieces=[]
 .have e:o.pieces.map nQ++((if o.pieces=[] then o.args.map bE else [])++(aR [45,62]::bE o.sort::(pO o++w)))=(o.args.map λx=>(⟨[],x⟩:Piece)).map nQ++(aR [45,62]::(bE o.sort::(pO o++w))):=by
   rw[if_pos hp,hp,cY,aW,List.map_map];congr 1;apply List.map_congr_left;intro x hx;show _=nQ ⟨[],x⟩;unfold nQ;rw[if_neg (rM (h.a x hx))]
  have e2:jC (o.args.map λx=>(⟨[],x⟩:Piece))=o.args:=by
   have:∀l:List aC,(∀x,x∈l->NmG x)->jC (l.map λx=>(⟨[],x⟩:Piece))=l:=by
    intro l
    induction l with
    | nil=>intro _;rfl
    | cons x r ih =>
     intro hl;have:=ih (λy hy=>hl y (cT _ hy));simp only[jC,bS]at this⊢;rw[List.filter_cons_of_pos (by simp[rM (hl x (bY ..))]),bS,this]
   exact this _ h.a
  have e3:((o.args.map λx=>(⟨[],x⟩:Piece)).any λq=>decide (q.sort=[]))=false:=by
   rw[List.any_eq_false];intro q hq;obtain⟨x,hx,rfl⟩:=cC.1 hq;simp[rM (h.a x hx)]
  rw[e,aFb _ _ [] [] false ?a1 ?a2 (by simp only[aH,aF];have:=h.an;omega) (by rw[e2];exact h.an),bV,kS h.s,bV]
  .simp only[e2,e3,aW,jM,cJ,if_false];rw[hat];obtain⟨_,_,_,_,_,_,_⟩:=o;simp only at hp;rw[hp]
  .intro q hq;obtain⟨x,hx,rfl⟩:=cC.1 hq;exact⟨.inr ⟨rfl,h.a x hx⟩⟩
  .simp only[aG,aH,aE];omega
 .rcases h.p with hp'|⟨⟨q,hq1,hq2⟩,ha⟩
  .exact absurd hp' hp
  rw[if_neg hp,aW,aFb _ _ [] [] false h.pg (by simp only[aG,aH,aE];omega) (by simpa using h.pn) (by rw[aW,<-ha];exact h.an),bV,kS h.s,bV];have e3:(o.pieces.any λq=>decide (q.sort=[]))=true:=List.any_eq_true.2 ⟨q,hq1,by simp[hq2]⟩;simp only[e3,aW,jN,if_true];rw[hat,<-ha]
theorem aSV{o:Opr}(h:FunG o):vX fin (bE o.name::aR [58]::(o.args.map bE++[aR [45,62],bE o.sort,aR [46]])++w) n=.ok o (aR [46]::w) n:=by
 unfold vX;simp only[aV,bI,aW];rw[kS h.n,bV,iC,bV,aKf _ _ _ h.a (by simp only[aG,aH,aE];omega) (by simpa using h.an),bV,kS h.s,bV];obtain⟨h1,h2,h3,h4⟩:=h.z;obtain⟨_,_,_,_,_,_,_⟩:=o;simp only at h1 h2 h3 h4;subst h1 h2 h3 h4;rfl
inductive PIt where
 | p (p:Part)
 | f (f:Fresh)
 | d (x:aC)
def PIt.K:PIt->List Tok
 | .p x=>sN x
 | .f x=>uI x
 | .d x=>tX x
def PIt.add(r:Rul):PIt->Rul
 | .p x=>{ r with parts:=r.parts++[x.st] }
 | .f x=>{ r with new:=r.new++[x] }
 | .d x=>{ r with drop:=r.drop++[x] }
def PIt.G:PIt->Prop
 | .p x=>PartG x
 | .f x=>NewG x
 | .d x=>NmG x
def uC(r:Rul):List PIt:=r.parts.map .p++(r.new.map .f++r.drop.map .d)
theorem aFv{α:Type}(K:α->List Tok):∀(a b:List α) (m:Nat),gF K m (a++b)=gF K m a++gF K (m+a.length) b
 | [],b,m=>rfl
 | x::a,b,m=>by
  rw[aV,gF,gF,aFv K a b,aE,bI,bI,show m+1+a.length=m+(a.length+1)by omega]
theorem aCH{α β:Type}(K:β->List Tok)(g:α->β):∀(a:List α) (m:Nat),gF K m (a.map g)=gF (λx=>K (g x)) m a
 | [],m=>rfl
 | x::a,m=>by rw[bS,gF,gF,aCH K g a]
theorem aTd(r:Rul)(T:List Tok):gF sN 0 r.parts++(gF uI r.parts.length r.new++(gF tX (r.parts.length+r.new.length) r.drop++T))=gF PIt.K 0 (uC r)++T:=by
 unfold uC;rw[aFv,aFv,aCH,aCH,aCH,aH,aH,bI,bI,gI];rfl
theorem aRU{p:Part}(h:PartG p)(r:Rul)(hw1:isT [61,62] w=false):oN false fin r (sN p++w) n=.ok { r with parts:=r.parts++[p.st] } w n:=by
 unfold sN oN;simp only[aV,bI];have n1:eH (bE p.cell) [110,101,119]=false:=by rw[dZ,fL];intro e;have:=h.c.r;rw[e]at this;exact this aD
 have n2:eH (bE p.cell) [100,114,111,112]=false:=by rw[dZ,fL];intro e;have:=h.c.r;rw[e]at this;exact this aD
 rw[n1,if_neg aD,n2,if_neg aD,kS h.c,bV]
 have e1:∀T:List Tok,(if isT [64] ((if p.at_=[] then [] else [aR [64],bE p.at_])++aR [58]::T)=true then eN fin ((if p.at_=[] then [] else [aR [64],bE p.at_])++aR [58]::T).tail n else Rd.ok [] ((if p.at_=[] then [] else [aR [64],bE p.at_])++aR [58]::T) n)=Rd.ok p.at_ (aR [58]::T) n:=by
  intro T;by_cases ha:p.at_=[]
  .rw[if_pos ha,aW,fV,if_neg aD,ha]
  .rw[if_neg ha,aV,fV,if_pos aD,List.tail_cons,aV,aW,kS (h.a.resolve_left ha)]
 rw[e1,bV,iC,bV,xB h.l,bV];have hpt:∀l,({ r with parts:=r.parts++[⟨p.cell,p.at_,p.left,l,(bE p.cell).line,(bE p.cell).col⟩] }:Rul)={ r with parts:=r.parts++[({ p with right:=l }:Part).st] }:=λl=>rfl
 rcases h.r with e|⟨u,e,hu⟩
 .rw[e,vO,aW,hw1,if_neg aD,bV,hpt];rw[<-e]
 .rw[e,vO,vO,eM,aV,fV,if_pos aD,List.tail_cons,xB hu,bV,bV,hpt,<-e]
theorem aTw{x:PIt}(h:x.G)(r:Rul)(hw1:isT [61,62] w=false):oN false fin r (x.K++w) n=.ok (x.add r) w n:=by
 cases x with
 | p p=>exact aRU h r hw1
 | f f =>
  show oN false fin r (uI f++w) n=_;unfold uI oN;simp only[aV,bI];rw[dZ,if_pos aD,iC,bV,aS7 h.t h.n (by rw[fV];decide),bV,iC,bV];rfl
 | d x =>
  show oN false fin r (tX x++w) n=_;unfold tX oN;simp only[aV,bI];rw[dZ,if_neg aD,dZ,if_pos aD,iC,bV,aW,kS h,bV];rfl
theorem aTK(x:PIt):∃y T,x.K=bE y::T:=by
 cases x<;>exact⟨_,_,rfl⟩
theorem aJ2:∀(l:List PIt) (x:PIt) (r:Rul) (k f m:Nat),(∀y,y∈x::l->y.G)->l.length+1<=f->k+(l.length+1)<=20->isT [59] w=false->isT [61,62] w=false ->
  dD fin [59] (rJ false fin) f (r,k) (x.K++(gF PIt.K (m+1) l++w)) n=.ok ((x::l).foldl PIt.add r,k+(l.length+1)) w n
 | l,x,r,k,f,m,h,hf,hk,hw,hw1=>by
  obtain⟨f,rfl⟩:∃f',f=f'+1:=⟨f-1,by omega⟩
  have one:∀W,isT [61,62] W=false->rJ false fin (r,k) (x.K++W) n=.ok (x.add r,k+1) W n:=by
   intro W hW;have h1:=aTw (fin:=fin) (n:=n) (w:=W) (h x (bY ..)) r hW;obtain⟨y,T,e⟩:=aTK x;rw[e,aV]at h1⊢;unfold rJ;simp only;rw[if_neg (λh=>by omega),h1,bV]
  rw[dD];cases l with
  | nil =>
   simp only[gF,aW];rw[one w hw1,bV,if_neg (by rw[hw];decide)];rfl
  | cons y l =>
   simp only[aE]at hf hk
   have e:gF PIt.K (m+1) (y::l)++w=aR [59]::(y.K++(gF PIt.K (m+1+1) l++w)):=by
    simp only[gF,sV,Nat.zero_lt_succ,if_true,aV,aW,bI]
   rw[e,one _ (by rw[fV];decide),bV,fV,if_pos aD,List.tail_cons,aJ2 l y (x.add r) (k+1) f (m+1) (λz hz=>h z (cT _ hz)) aB aB hw hw1,aE,show k+1+(l.length+1)=k+(l.length+1+1)by omega];rfl
termination_by l=>l.length
theorem aLy:∀(l:List Part) (r:Rul),(l.map PIt.p).foldl PIt.add r={ r with parts:=r.parts++l.map Part.st }
 | [],r=>by simp
 | x::l,r=>by rw[bS,List.foldl_cons,aLy l];simp[PIt.add]
theorem aKY:∀(l:List Fresh) (r:Rul),(l.map PIt.f).foldl PIt.add r={ r with new:=r.new++l }
 | [],r=>by simp
 | x::l,r=>by rw[bS,List.foldl_cons,aKY l];simp[PIt.add]
theorem aLa:∀(l:List aC) (r:Rul),(l.map PIt.d).foldl PIt.add r={ r with drop:=r.drop++l }
 | [],r=>by simp
 | x::l,r=>by rw[bS,List.foldl_cons,aLa l];simp[PIt.add]
theorem aRB{r:Rul}(h:RulG r):vT false fin 0 0 (bE r.name::aR [58]::(gF sN 0 r.parts++(gF uI r.parts.length r.new++(gF tX (r.parts.length+r.new.length) r.drop++(qJ r.cond++[aR [46]]))))++w) n=.ok r.st (aR [46]::w) n:=by
 unfold vT;rw[aTd];simp only[aV,bI,aW];rw[kS h.p.n,bV,iC,bV]
 have hG:∀y,y∈uC r->y.G:=by
  intro y hy;unfold uC at hy;rcases cW.1 hy with hy|hy
  .obtain⟨x,hx,rfl⟩:=cC.1 hy;exact h.p.p x hx
  .rcases cW.1 hy with hy|hy
   .obtain⟨x,hx,rfl⟩:=cC.1 hy;exact h.p.f x hx
   .obtain⟨x,hx,rfl⟩:=cC.1 hy;exact h.p.d x hx
 have hl:(uC r).length=r.parts.length+r.new.length+r.drop.length:=by
  unfold uC;simp only[aG,aH];omega
 have hfold:∀r0:Rul,(uC r).foldl PIt.add r0={ r0 with parts:=r0.parts++r.parts.map Part.st,new:=r0.new++r.new,drop:=r0.drop++r.drop }:=by
  intro r0;unfold uC;rw[List.foldl_append,List.foldl_append,aLy,aKY,aLa]
 have hc:∀x,x=[59]\/x=[61,62]->isT x (qJ r.cond++aR [46]::w)=false:=by
  intro x hx;unfold qJ;by_cases hr:r.cond=[]
  .rw[if_pos hr,aW,fV];rcases hx with rfl|rfl<;>decide
  .rw[if_neg hr,aV,tS];rcases hx with rfl|rfl<;>decide
 cases e:uC r with
 | nil=>have:=h.l1;rw[e]at hl;simp only[aF]at hl;omega
 | cons x l =>
  rw[e,aE]at hl
  have e2:gF PIt.K 0 (x::l)++(qJ r.cond++aR [46]::w)=x.K++(gF PIt.K (0+1) l++(qJ r.cond++aR [46]::w)):=by
   simp only[gF,sV,Nat.lt_irrefl,if_false,aW,bI]
  rw[e2,aJ2 l x _ 0 _ 0 (by rw[<-e];exact hG) (by have:=aJm PIt.K l 0;simp only[aG];omega) (by have:=h.l2;omega) (hc _ (.inl rfl)) (hc _ (.inr rfl)),bV,aIU h.c,bV,<-e,hfold];rfl
end
end
section
section
variable {fin:Fault} {α:Type} {P:α->Nat->Prop}
theorem aCM(t:Tok)(r:List Tok)(n:Nat)(h:t.free=false):∃f,eN fin (t::r) n=.bad f:=by
 unfold eN;simp only[h];exact⟨_,rfl⟩
theorem aQI(t:Tok)(r:List Tok)(n:Nat)(h:t.free=false):∃f,oP false fin (t::r) n=.bad f:=by
 obtain⟨f,e⟩:=aCM (fin:=fin) t r n h;unfold oP;simp only[e];exact⟨_,rfl⟩
theorem aF5{k:List Tok->Nat->Rd α}(most have_ n:Nat)(h:Gl P k n)(hb:∀t r n,t.free=false->∃f,k (t::r) n=.bad f):Gl (λa m=>P a m/\have_<most) (λw n=>lI fin most have_ w n k) n:=λw hw=>by
 cases w with
 | nil=>trivial
 | cons t w =>
  refine cR _ (λ_=>trivial) (λhc=>?_);cases hf:t.free with
  | false =>
   obtain⟨f,e⟩:=hb t w n hf;rw[e];trivial
  | true =>
   have:=h (t::w) hw;cases e:k (t::w) n with
   | bad f=>trivial
   | ok a z m =>
    rw[e]at this;exact⟨⟨this.1,Nat.lt_of_not_le (λh=>hc ⟨hf,h⟩)⟩,this.2⟩
theorem aJs(n:Nat):Gl (λl m=>TmsG l/\m=n) (pP false fin) n:=λw hw=>by
 refine cR _ (λ_=>?_) (λ_=>eA ⟨⟨aU _,λt h=>by cases h⟩,rfl⟩ hw);refine vF (I:=λl m=>TmsG l/\m=n) (J:=λl m=>TmsG l/\m=n) (Q:=λacc k t m=>(TmG t/\m=k)/\acc.length<20) (λacc m hI w hw=>?_) (λacc m t m' hI hq=>⟨⟨by simp only[aG,aE,aF];omega,λx hx=>?_⟩,by omega⟩) (λ_ _ h=>h) ⟨⟨aU _,λt h=>by cases h⟩,rfl⟩ _ (sS hw)
 .cases w with
  | nil=>trivial
  | cons t w =>
   refine cR _ (λhb=>?_) (λhb=>?_)
   .unfold tZ;by_cases h20:20<=acc.length
    .rw[if_pos h20];trivial
    .rw[if_neg h20];have:=xH (fin:=fin) m (t::w) hw;show(gE false fin (t::w) m).gr _;cases h:gE false fin (t::w) m with
     | bad f=>trivial
     | ok a z k =>
      rw[h]at this;exact⟨⟨this.1,by omega⟩,this.2⟩
   .obtain⟨f,e⟩:=aJu (fin:=fin) t 60 t w 0 (by simpa using hb);unfold gE;simp only[e];trivial
 .rcases cW.1 hx with hx|hx
  .exact hI.1.t x hx
  .rw[bW.1 hx];exact hq.1.1
theorem aKa(n:Nat):Gl (λc m=>CelG c/\m=n) (oP false fin) n:=λw hw=>by
 cases w with
 | nil=>trivial
 | cons t w =>
  refine cN (kR n (t::w) hw) (λx m hx w hw=>cN (jQ [58] m w hw) (λ_ m2 h2 w hw=>cN (kR m2 w hw) (λy m3 hy w hw=>cN (jQ [61] m3 w hw) (λ_ m4 h4 w hw=>cN (xH m4 w hw) (λi m5 hi w hw=>eA ⟨⟨hx.1,hy.1,hi.1⟩,?_⟩ hw)))));omega
theorem aHo(a b:List Piece):jC (a++b)=jC a++jC b:=by simp[jC]
structure PcI (ps:List Piece) (az:List aC) (tx:Bool):Prop where
 g:∀q,q∈ps->PcG q
 a:az=jC ps
 n:∀x,x∈az->NmG x
 t:tx=true->∃q,q∈ps/\q.sort=[]
 pn:ps.length<=20
 an:az.length<=8
theorem aE4:∀(f:Nat) (ps:List Piece) (az:List aC) (tx:Bool) (n:Nat),PcI ps az tx->Gl (λp m=>PcI p.1 p.2.1 p.2.2/\m=n) (pJ fin f ps az tx) n
 | 0,ps,az,tx,n,_=>λw hw=>trivial
 | f+1,ps,az,tx,n,hI=>λw hw=>by
  refine cR _ (λ_=>eA ⟨hI,rfl⟩ (sS hw)) (λ_=>?_);cases w with
  | nil=>trivial
  | cons t w =>
   have ht:=hw t (bY ..);refine cR _ (λhk=>cR _ (λ_=>trivial) (λh20=>cR _ (λh3=>?_) (λh3=>cR _ (λ_=>trivial) (λh8=>?_)))) (λ_=>trivial)
   .refine aE4 f _ _ _ n ⟨λq hq=>?_,?_,hI.n,λ_=>⟨⟨t.text,[]⟩,by simp,rfl⟩,by simp only[aG,aE,aF];omega,hI.an⟩ w (qK hw)
    .rcases cW.1 hq with hq|hq
     .exact hI.g q hq
     .rw[bW.1 hq];rcases ht.is with⟨e,_⟩|⟨e,_⟩|⟨_,_,h⟩|⟨e,_⟩
      .omega
      .omega
      .exact⟨.inl ⟨rfl,h⟩⟩
      .omega
    .rw[aHo,<-hI.a];simp[jC]
   .have hf:=aA4 ht (hk.resolve_left h3);have hne:t.text≠[]:=λe=>by have:=hf.n;rw[e]at this;cases this
    refine aE4 f _ _ _ n ⟨λq hq=>?_,?_,λx hx=>?_,λh=>?_,by simp only[aG,aE,aF];omega,by simp only[aG,aE,aF];omega⟩ w (qK hw)
    .rcases cW.1 hq with hq|hq
     .exact hI.g q hq
     .rw[bW.1 hq];exact⟨.inr ⟨rfl,hf⟩⟩
    .rw[aHo,<-hI.a];simp[jC,hne]
    .rcases cW.1 hx with hx|hx
     .exact hI.n x hx
     .rw[bW.1 hx];exact hf
    .obtain⟨q,h1,h2⟩:=hI.t h;exact⟨q,cW.2 (.inl h1),h2⟩
theorem aAZ:∀(f:Nat) (o:Opr) (n:Nat),OpG o->Gl (λo m=>OpG o/\m=n) (iE fin f o) n
 | 0,o,n,_=>λw hw=>trivial
 | f+1,o,n,ho=>λw hw=>by
  refine cR _ (λ_=>eA ⟨ho,rfl⟩ hw) (λ_=>?_);cases w with
  | nil=>trivial
  | cons t w =>
   have hw:=qK hw;obtain⟨q1,q2,q3,q4,q5,q6,q7,q8,q9,q10⟩:=ho;refine cR _ (λ_=>trivial) (λ_=>cR _ (λ_=>cR _ (λ_=>trivial) (λ_=>?_)) (λ_=>cR _ (λ_=>cR _ (λ_=>?_) (λ_=>trivial)) (λ_=>cR _ (λ_=>cR _ (λ_=>?_) (λ_=>trivial)) (λ_=>cR _ (λ_=>cR _ (λ_=>trivial) (λ_=>?_)) (λ_=>trivial)))))
   .refine cN (aIe 20 n w hw) (λx m hx w hw=>?_);obtain⟨hx,rfl⟩:=hx;exact aAZ f { o with prec:=x } _ ⟨q1,q2,q3,q4,q5,q6,q7,⟨by simp only;omega,hx.2⟩,q9,q10⟩ w hw
   .exact aAZ f { o with assoc:=1 } n ⟨q1,q2,q3,q4,q5,q6,q7,q8,.inr (.inl rfl),q10⟩ w hw
   .exact aAZ f { o with assoc:=2 } n ⟨q1,q2,q3,q4,q5,q6,q7,q8,.inr (.inr rfl),q10⟩ w hw
   .refine cN (jQ [40] n w hw) (λ_ m hm w hw=>cN (vF (I:=λl k=>(∀x,x∈l->1<=x/\x<=8)/\k=n) (J:=λl k=>(∀x,x∈l->1<=x/\x<=8)/\k=n) (λacc k hI=>aIe 8 k) (λacc k x k' hI hq=>⟨λy hy=>?_,by omega⟩) (λ_ _ h=>h) ⟨λx hx=>(by cases hx),hm⟩ w hw)
     (λl m2 hl w hw=>cN (jQ [41] m2 w hw) (λ_ m3 h3 w hw=>?_)))
    .rcases cW.1 hy with hy|hy
     .exact hI.1 y hy
     .rw[bW.1 hy];exact hq.1
    .obtain⟨hl,rfl⟩:=hl;subst h3;exact aAZ f { o with strict:=l } _ ⟨q1,q2,q3,q4,q5,q6,q7,q8,q9,hl⟩ w hw
theorem aTS(n:Nat):Gl (λo m=>OpG o/\m=n) (wB fin) n:=λw hw=>by
 refine cN (kR n w hw) (λx m1 h1 w hw=>cN (jQ [58] m1 w hw) (λ_ m2 h2 w hw=>cN (aE4 _ [] [] false m2 ⟨λq hq=>(by cases hq),rfl,λx hx=>(by cases hx),λh=>(by cases h),aU _,aU _⟩ w hw) (λp m3 h3 w hw=>cN (kR m3 w hw) (λy m4 h4 w hw=>?_))));obtain⟨⟨g1,g2,g3,g4,g5,g6⟩,e3⟩:=h3;have hn:m4=n:=by omega
 subst hn;refine aAZ _ _ _ ⟨h1.1,h4.1,g3,g6,?_,λq hq=>?_,?_,⟨wO _,(by decide:(0:Int)<=20)⟩,.inl rfl,λn hn=>by cases hn⟩ w hw
 .simp only;by_cases hp:p.2.2=true
  .rw[if_pos hp];exact .inr ⟨g4 hp,g2⟩
  .rw[if_neg hp];exact .inl rfl
 .simp only at hq;split at hq
  .exact g1 q hq
  .cases hq
 .simp only;split
  .exact g5
  .exact aU _
theorem aKH:∀(f:Nat) (az:List aC) (n:Nat),(∀x,x∈az->NmG x)->az.length<=8->Gl (λl m=>((∀x,x∈l->NmG x)/\l.length<=8)/\m=n) (mH fin f az) n
 | 0,az,n,_,_=>λw hw=>trivial
 | f+1,az,n,h1,h2=>λw hw=>by
  refine cR _ (λ_=>eA ⟨⟨h1,h2⟩,rfl⟩ (sS hw)) (λ_=>cN (aF5 8 az.length n (kR n) (λt r n h=>aCM t r n h) w hw) (λx m hx w hw=>?_));obtain⟨⟨hx,rfl⟩,h8⟩:=hx;refine aKH f _ _ (λy hy=>?_) (by simp only[aG,aE,aF];omega) w hw;rcases cW.1 hy with hy|hy
  .exact h1 y hy
  .rw[bW.1 hy];exact hx
theorem aS6(n:Nat):Gl (λo m=>FunG o/\m=n) (vX fin) n:=λw hw=>by
 refine cN (kR n w hw) (λx m1 h1 w hw=>cN (jQ [58] m1 w hw) (λ_ m2 h2 w hw=>cN (aKH _ [] m2 (λx hx=>by cases hx) (aU _) w hw) (λaz m3 h3 w hw=>cN (kR m3 w hw) (λy m4 h4 w hw=>eA ⟨⟨h1.1,h4.1,h3.1.1,h3.1.2,rfl,rfl,rfl,rfl⟩,?_⟩ hw))));omega
def uG(r:Rul):Nat:=r.parts.length+r.new.length+r.drop.length
theorem aIQ{t:Tok}(ht:TokG t){x:aC}(h:eH t x=true)(hx:x ∉ dG/\x≠[39]/\x≠[95]):t.kind=1/\t.text=x:=by
 simp only[eH,cL,qB,cU]at h;obtain⟨h1,rfl⟩:=h;refine⟨?_,rfl⟩;rcases ht.is with⟨e,_⟩|⟨e,_⟩|⟨e,_⟩|⟨_,_,h⟩
 .exact e
 .omega
 .omega
 .rcases h with h|h|h
  .exact absurd h hx.1
  .exact absurd h hx.2.1
  .exact absurd h hx.2.2
theorem aRw(r:Rul)(hr:RulP r)(t:Tok)(w:List Tok)(n:Nat)(hw:∀u,u∈t::w->TokG u) :
  (oN false fin r (t::w) n).gr (λx m=>(RulP x/\uG x=uG r+1/\x.cond=r.cond/\(t.kind=1/\(¬ t.text∈gX\/t.text=[110,101,119]\/t.text=[100,114,111,112])))/\m=n):=by
 have ht:=hw t (bY ..);obtain⟨q1,q2,q3,q4⟩:=hr;refine cR _ (λh=>?_) (λh=>cR _ (λh=>?_) (λh=>?_))
 .obtain⟨k1,k2⟩:=aIQ ht h aD
  refine cN (jQ [40] n w (qK hw)) (λ_ m hm w hw=>cN (vF (I:=λl k=>(∀x,x∈l->TmG x)/\k=n) (J:=λl k=>((∀x,x∈l->TmG x)/\l≠[])/\k=n) (λacc k hI=>xH k) (λacc k x k' hI hq=>⟨⟨λy hy=>?_,by simp⟩,by omega⟩) (λ_ _ h=>⟨h.1.1,h.2⟩) ⟨λx hx=>(by cases hx),hm⟩ w hw)
   (λl m2 hl w hw=>cN (jQ [41] m2 w hw) (λ_ m3 h3 w hw=>eA ⟨⟨⟨q1,q2,λf hf=>?_,q4⟩,?_,rfl,k1,.inr (.inl k2)⟩,by omega⟩ hw)))
  .rcases cW.1 hy with hy|hy
   .exact hI.1 y hy
   .rw[bW.1 hy];exact hq.1
  .rcases cW.1 hf with hf|hf
   .exact q3 f hf
   .rw[bW.1 hf];exact⟨hl.1.2,hl.1.1⟩
  .simp only[uG,aG,aE,aF];omega
 .obtain⟨k1,k2⟩:=aIQ ht h aD;refine cN (jQ [64] n w (qK hw)) (λ_ m hm w hw=>cN (kR m w hw) (λx m2 hx w hw=>eA ⟨⟨⟨q1,q2,q3,λy hy=>?_⟩,?_,rfl,k1,.inr (.inr k2)⟩,by omega⟩ hw))
  .rcases cW.1 hy with hy|hy
   .exact q4 y hy
   .rw[bW.1 hy];exact hx.1
  .simp only[uG,aG,aE,aF];omega
 .cases hf:t.free with
  | false =>
   obtain⟨f,e⟩:=aCM (fin:=fin) t w n hf;rw[e];trivial
  | true =>
  have hf':=aA4 ht hf;have k1:t.kind=1:=by simp only[Tok.free,cL,cU]at hf;exact hf.1
  refine cN (kR n (t::w) hw) (λx m1 h1 w hw=>cN (P:=λy m=>(y=[]\/NmG y)/\m=n) (cR _ (λ_=>?_) (λ_=>eA ⟨.inl rfl,h1.2⟩ hw)) (λy m2 h2 w hw=>cN (jQ [58] m2 w hw) (λ_ m3 h3 w hw=>cN (xH m3 w hw) (λl m4 h4 w hw =>
   cN (P:=λrs m=>(rs=[]\/∃u,rs=[u]/\TmG u)/\m=n) (cR _ (λ_=>cN (xH m4 _ (sS hw)) (λu m5 h5 w hw=>eA ⟨.inr ⟨u,rfl,h5.1⟩,by omega⟩ hw)) (λ_=>eA ⟨.inl rfl,by omega⟩ hw)) (λrs m6 h6 w hw=>eA ⟨⟨⟨q1,λp hp=>?_,q3,q4⟩,?_,rfl,k1,.inl hf'.r⟩,h6.2⟩ hw)))))
  .have:=kR (fin:=fin) m1 _ (sS hw);cases e:eN fin w.tail m1 with
   | bad f=>trivial
   | ok a z k =>
    rw[e]at this;exact⟨⟨.inr this.1.1,by have:=this.1.2;have:=h1.2;omega⟩,this.2⟩
  .rcases cW.1 hp with hp|hp
   .exact q2 p hp
   .rw[bW.1 hp];exact⟨h1.1,h2.1,h4.1,h6.1⟩
  .simp only[uG,aG,aE,aF];omega
theorem aSg(li co:Int)(n:Nat):Gl (λr m=>RulG r/\m=n) (vT false fin li co) n:=λw hw=>by
 refine cN (kR n w hw) (λx m1 h1 w hw=>cN (jQ [58] m1 w hw) (λ_ m2 h2 w hw=>cN (aC2 (I:=λ(c:Rul × Nat) m=>(RulP c.1/\c.2=uG c.1/\c.2<=20)/\m=n) (J:=λ(c:Rul × Nat) m=>(RulP c.1/\c.2=uG c.1/\c.2<=20/\1<=c.2)/\m=n) [59] (λc m hI w hw=>?_) (λc m h=>⟨⟨h.1.1,h.1.2.1,h.1.2.2.1⟩,h.2⟩) _ (⟨x,[],[],[],[],li,co⟩,0) m2
   ⟨⟨⟨h1.1,λp hp=>(by cases hp),λp hp=>(by cases hp),λp hp=>(by cases hp)⟩,rfl,aU _⟩,by omega⟩ w hw) (λc m3 h3 w hw=>cN (aJs m3 w hw) (λl m4 h4 w hw=>eA ⟨⟨?_,h4.1,?_,?_⟩,by omega⟩ hw))))
 .cases w with
  | nil=>trivial
  | cons t w =>
   refine cR _ (λ_=>trivial) (λhc=>cN (aRw c.1 hI.1.1 t w m hw) (λy m' hy w hw=>eA ⟨⟨hy.1.1,?_,?_,?_⟩,by omega⟩ hw))
   .simp only;rw[hy.1.2.1,hI.1.2.1]
   .simp only;have:¬ 20<=c.2:=λh=>hc ⟨hy.1.2.2.2,h⟩
    omega
   .simp only;omega
 .exact⟨h3.1.1.n,h3.1.1.p,h3.1.1.f,h3.1.1.d⟩
 .have:=h3.1;simp only[uG]at this;simp only;omega
 .have:=h3.1;simp only[uG]at this;simp only;omega
end
end
section
section
variable {fin:Fault}
theorem tP{α:Type}{P:α->Prop}{l:List α}{a:α}(h:∀x,x∈l->P x)(ha:P a):∀x,x∈l++[a]->P x:=λx hx=>by
 rcases cW.1 hx with hx|hx
 .exact h x hx
 .rw[bW.1 hx];exact ha
theorem zK{α:Type}{l:List α}{a:α}{n:Nat}(h:l.length<n):(l++[a]).length<=n:=by simp only[aG,aE,aF];omega
theorem aP2(d:Dfn)(hd:DfnG d)(t:Tok)(n:Nat):Gl (λd m=>DfnG d/\m=n) (mX false fin d t) n:=λw hw=>by
 obtain⟨a1,a2,a3,a4,a5,a6,a7,a8,a9,a10,a11,a12,a13,a14,a15,a16,a17,a18,a19,a20⟩:=hd;refine cR _ (λ_=>cR _ (λ_=>?_) (λ_=>trivial)) (λ_=>cR _ (λ_=>cR _ (λ_=>?_) (λ_=>trivial)) (λ_=>cR _ (λ_=>cR _ (λ_=>trivial) (λh12=>?_)) (λ_=>cR _ (λ_=>cR _ (λhk=>?_) (λ_=>trivial)) (λ_=>trivial))))
 .refine cN (kR n w hw) (λx m hx w hw=>eA ⟨⟨a1,a2,a3,a4,a5,a6,a7,a8,a9,a10,a11,a12,a13,a14,a15,a16,a17,a18,.inr hx.1,a20⟩,hx.2⟩ hw)
 .refine cN (kR n w hw) (λx m hx w hw=>eA ⟨⟨a1,a2,a3,a4,a5,a6,a7,a8,a9,a10,a11,a12,a13,a14,a15,a16,a17,a18,a19,.inr hx.1⟩,hx.2⟩ hw)
 .refine cN (aKa n w hw) (λx m hx w hw=>eA ⟨⟨a1,a2,a3,a4,a5,a6,a7,a8,a9,a10,a11,tP a12 hx.1,zK aB,a14,a15,a16,a17,a18,a19,a20⟩,hx.2⟩ hw)
 .have hm:d.many=[]:=by
   rcases a16 with h|h
   .exact h.2
   .exact absurd hk (λe=>by have:=h.1.n;rw[e]at this;cases this)
  refine cN (kR n w hw) (λx m hx w hw=>cN (jQ [40] m w hw) (λ_ m2 h2 w hw =>
   cN (vF (I:=λl k=>((∀x,x∈l->CelG x)/\l.length<=12)/\k=n) (J:=λl k=>((∀x,x∈l->CelG x)/\l.length<=12/\l≠[])/\k=n) (λacc k hI=>aF5 12 acc.length k (aKa k) (λt r n h=>aQI t r n h)) (λacc k c k' hI hq=>⟨⟨tP hI.1.1 hq.1.1,zK hq.2,by simp⟩,by omega⟩) (λ_ _ h=>⟨⟨h.1.1,h.1.2.1⟩,h.2⟩) ⟨⟨a14,a15⟩,by omega⟩ w hw) (λl m3 h3 w hw =>
    cN (jQ [41] m3 w hw) (λ_ m4 h4 w hw=>eA ⟨⟨a1,a2,a3,a4,a5,a6,a7,a8,a9,a10,a11,a12,a13,h3.1.1,h3.1.2.1,.inr ⟨hx.1,h3.1.2.2⟩,a17,a18,a19,a20⟩,by omega⟩ hw))))
theorem aSh(d:Dfn)(hd:DfnG d)(n:Nat):Gl (λd m=>DfnG d/\m=n) (gY false fin d) n:=λw hw=>by
 have hd0:=hd;obtain⟨a1,a2,a3,a4,a5,a6,a7,a8,a9,a10,a11,a12,a13,a14,a15,a16,a17,a18,a19,a20⟩:=hd;cases w with
 | nil=>trivial
 | cons t w =>
  have hw:=qK hw;refine cN (P:=λd m=>DfnG d/\m=n) ?_ (λd m hd w hw=>cN (jQ [46] m w hw) (λ_ m2 h2 w hw=>eA ⟨hd.1,by omega⟩ hw));refine cR _ (λ_=>?_) (λ_=>cR _ (λ_=>cR _ (λ_=>trivial) (λhl=>?_)) (λ_=>cR _ (λ_=>?_) (λ_=>cR _ (λ_=>cR _ (λ_=>trivial) (λhl=>cR _ (λ_=>?_) (λ_=>?_))) (λ_=>cR _ (λ_=>cR _ (λ_=>trivial) (λhl=>?_)) (λ_=>cR _ (λ_=>cR _ (λ_=>trivial) (λhl=>?_)) (λ_=>aP2 d hd0 t n w hw))))))
  .refine cN (vF (I:=λl k=>((∀x,x∈l->NmG x)/\l.length<=40)/\k=n) (J:=λl k=>((∀x,x∈l->NmG x)/\l.length<=40)/\k=n) (λacc k hI=>aF5 40 acc.length k (kR k) (λt r n h=>aCM t r n h)) (λacc k c k' hI hq=>⟨⟨tP hI.1.1 hq.1.1,zK hq.2⟩,by omega⟩) (λ_ _ h=>h) ⟨⟨a2,a3⟩,rfl⟩ w hw) (λl m h w hw=>eA ⟨⟨a1,h.1.1,h.1.2,a4,a5,a6,a7,a8,a9,a10,a11,a12,a13,a14,a15,a16,a17,a18,a19,a20⟩,h.2⟩ hw)
  .refine cN (kR n w hw) (λx m hx w hw=>cN (jQ [60] m w hw) (λ_ m2 h2 w hw=>cN (kR m2 w hw) (λy m3 hy w hw=>eA ⟨⟨a1,a2,a3,tP a4 ⟨hx.1,hy.1⟩,zK aB,a6,a7,a8,a9,a10,a11,a12,a13,a14,a15,a16,a17,a18,a19,a20⟩,by omega⟩ hw)))
  .refine cN (vF (I:=λl k=>(∀x,x∈l->NmG x)/\k=n) (J:=λl k=>(∀x,x∈l->NmG x)/\k=n) (λacc k hI=>kR k) (λacc k c k' hI hq=>⟨tP hI.1 hq.1,by omega⟩) (λ_ _ h=>h) ⟨λx hx=>(by cases hx),rfl⟩ w hw) (λl m h w hw=>eA ⟨⟨a1,a2,a3,a4,a5,λx hx=>?_,a7,a8,a9,a10,a11,a12,a13,a14,a15,a16,a17,a18,a19,a20⟩,h.2⟩ hw);rcases cW.1 hx with hx|hx
   .exact a6 x hx
   .exact h.1 x hx
  .refine cN (aTS n w hw) (λo m h w hw=>eA ⟨⟨a1,a2,a3,a4,a5,a6,tP a7 h.1,a8,by simp only[aG,aE,aF];omega,a10,a11,a12,a13,a14,a15,a16,a17,a18,a19,a20⟩,h.2⟩ hw)
  .refine cN (aS6 n w hw) (λo m h w hw=>eA ⟨⟨a1,a2,a3,a4,a5,a6,a7,tP a8 h.1,by simp only[aG,aE,aF];omega,a10,a11,a12,a13,a14,a15,a16,a17,a18,a19,a20⟩,h.2⟩ hw)
  .refine cN (xH n w hw) (λl m h1 w hw=>cN (jQ [61] m w hw) (λ_ m2 h2 w hw=>cN (xH m2 w hw) (λr m3 h3 w hw=>cN (aJs m3 w hw) (λc m4 h4 w hw =>
    eA ⟨⟨a1,a2,a3,a4,a5,a6,a7,a8,a9,tP a10 ⟨h1.1,h3.1,h4.1⟩,zK aB,a12,a13,a14,a15,a16,a17,a18,a19,a20⟩,by omega⟩ hw))))
  .refine cN (aSg _ _ n w hw) (λr m h w hw=>eA ⟨⟨a1,a2,a3,a4,a5,a6,a7,a8,a9,a10,a11,a12,a13,a14,a15,a16,tP a17 h.1,zK aB,a19,a20⟩,h.2⟩ hw)
theorem aJM:∀(f:Nat) (d:Dfn) (n:Nat),DfnG d->Gl (λd _=>DfnG d) (oJ false fin f d) n
 | 0,d,n,_=>λw hw=>trivial
 | f+1,d,n,hd=>λw hw=>by
  cases w with
  | nil=>exact eA hd (λt h=>by cases h)
  | cons t w=>exact cN (aSh d hd n (t::w) hw) (λd m h w hw=>aJM f d m h.1 w hw)
theorem aTl{T:List Tok}(hT:∀t,t∈T->TokG t){d:Dfn}{w:List Tok}{n:Nat}(h:kV false fin T=.ok d w n):DfnG d:=by
 have:(kV false fin T).gr (λd _=>DfnG d):=by
  refine cN (jQ [108,97,110,103,117,97,103,101] 0 T hT) (λ_ m hm w hw=>cN (kR m w hw) (λx m2 hx w hw=>cN (jQ [46] m2 w hw) (λ_ m3 h3 w hw=>aJM _ _ _ ?_ w hw)));have e:∀{α:Type} {P:α->Prop},∀x,x∈([]:List α)->P x:=λx hx=>by cases hx
  exact⟨hx.1,e,aU _,e,aU _,e,e,e,aU _,e,aU _,e,aU _,e,aU _,.inl ⟨rfl,rfl⟩,e,aU _,.inl rfl,.inl rfl⟩
 rw[h]at this;exact this.1
end
end
mutual
theorem Tm.same_id:∀a b:Tm,a.same b=true->a=b
 | .mk k n t s l r,.mk k' n' t' s' l' r',h=>by
  simp only[Tm.same,cL,cU]at h;obtain⟨rfl,rfl,rfl,rfl,h1,h2⟩:=h;rw[aEK l l' h1,aEK r r' h2]
theorem aEK:∀a b:List Tm,rC a b=true->a=b
 | [],[],_=>rfl
 | a::l,b::r,h=>by
  simp only[rC,cL]at h;rw[Tm.same_id a b h.1,aEK l r h.2]
 | [],_::_,h=>by simp[rC]at h
 | _::_,[],h=>by simp[rC]at h
end
theorem zA{α β:Type}{f:α->β}{r:α->α->Bool}(h:∀a b,r a b=true->f a=f b){xs ys:List α}(e:cO r xs ys=true):xs.map f=ys.map f:=by
 have hl:xs.length=ys.length:=Classical.byContradiction λhl=>by rw[pC hl]at e;cases e
 refine List.ext_getElem? λi=>?_
 rw[lB,lB];by_cases hi:i<xs.length
 .obtain⟨a,ha⟩:∃a,xs[i]?=some a:=⟨_,aY hi⟩
  obtain⟨b,hb⟩:∃b,ys[i]?=some b:=⟨_,aY aB⟩
  rw[ha,hb,mQ,mQ,h a b ((iK hl).1 e i a b ha hb)]
 .rw[qW aB,qW aB]
theorem uZ{α:Type}{r:α->α->Bool}(h:∀a b,r a b=true->a=b){xs ys:List α}(e:cO r xs ys=true):xs=ys:=by
 have:=zA (f:=id) h e;simpa using this
theorem aDi{xs ys:List Tm}(e:cO Tm.same xs ys=true):xs=ys:=uZ Tm.same_id e
theorem aC7{xs ys:List aC}(e:cO (λa b=>decide (a=b)) xs ys=true):xs=ys:=uZ (λa b h=>qA h) e
theorem Eqn.same_st{a b:Eqn}(h:a.same b=true):a.st=b.st:=by
 simp only[Eqn.same,cL]at h;simp only[Eqn.st,Tm.same_id _ _ h.1,Tm.same_id _ _ h.2.1,aDi h.2.2]
theorem Cel.same_st{a b:Cel}(h:a.same b=true):a.st=b.st:=by
 simp only[Cel.same,cL,cU]at h;simp only[Cel.st,h.1,h.2.1,Tm.same_id _ _ h.2.2]
theorem Part.same_st{a b:Part}(h:a.same b=true):a.st=b.st:=by
 simp only[Part.same,cL,cU]at h;simp only[Part.st,h.1,h.2.1,Tm.same_id _ _ h.2.2.1,aDi h.2.2.2]
theorem Fresh.same_eq{a b:Fresh}(h:a.same b=true):a=b:=by
 cases a;cases b;simp only[Fresh.same]at h;rw[aDi h]
theorem aS2{xs ys:List Piece}(e:cO (λa b:Piece=>decide (a.text=b.text)&&decide (a.sort=b.sort)) xs ys=true):xs=ys:=uZ (λa b h=>by
 cases a;cases b;simp only[cL,cU]at h;rw[h.1,h.2]) e
theorem aS0{xs ys:List Below}(e:cO (λa b:Below=>decide (a.low=b.low)&&decide (a.high=b.high)) xs ys=true):xs=ys:=uZ (λa b h=>by
 cases a;cases b;simp only[cL,cU]at h;rw[h.1,h.2]) e
theorem Opr.same_id{a b:Opr}(h:a.same b=true):a=b:=by
 cases a;cases b;simp only[Opr.same,cL,cU]at h;obtain⟨rfl,rfl,rfl,rfl,h1,h2,h3⟩:=h;rw[aC7 h1,aS2 h2,uZ (λa b h=>qA h) h3]
theorem Rul.same_st{a b:Rul}(h:a.same b=true):a.st=b.st:=by
 simp only[Rul.same,cL,cU]at h;obtain⟨h1,h2,h3,h4,h5⟩:=h;simp only[Rul.st,h1,zA (f:=Part.st) (λa b h=>Part.same_st h) h2,aDi h3,uZ (λa b h=>Fresh.same_eq h) h4,aC7 h5]
theorem Sig.same_id{a b:Sig}(h:a.same b=true):a=b:=by
 cases a;cases b;simp only[Sig.same,cL]at h;obtain⟨h1,h2,h3,h4,h5⟩:=h;rw[aC7 h1,aS0 h2,aC7 h3,uZ (λa b h=>Opr.same_id h) h4,uZ (λa b h=>Opr.same_id h) h5]
theorem Dfn.same_st{a b:Dfn}(h:a.same b=true):DSt a b:=by
 simp only[Dfn.same,cL,cU]at h;obtain⟨h1,h2,h3,h4,h5,h6,h7,h8,h9⟩:=h;exact⟨h1,Sig.same_id h5,zA (λa b h=>Eqn.same_st h) h6,zA (λa b h=>Cel.same_st h) h7,h2,zA (λa b h=>Cel.same_st h) h8,zA (λa b h=>Rul.same_st h) h9,h3,h4⟩
theorem aBl{α β:Type}{f:α->β}{xs ys:List α}(h:xs.map f=ys.map f){x:α}(hx:x∈xs):∃y,y∈ys/\f y=f x:=by
 have:f x∈ys.map f:=h▸List.mem_map_of_mem hx;exact cC.1 this
theorem EqG.of_st{x y:Eqn}(h:y.st=x.st)(g:EqG y):EqG x:=by
 have e0:y.left=x.left:=(congrArg Eqn.left h :);have e1:y.right=x.right:=(congrArg Eqn.right h :);have e2:y.cond=x.cond:=(congrArg Eqn.cond h :);exact⟨e0▸g.l,e1▸g.r,e2▸g.c⟩
theorem CelG.of_st{x y:Cel}(h:y.st=x.st)(g:CelG y):CelG x:=by
 have e0:y.name=x.name:=(congrArg Cel.name h :);have e1:y.sort=x.sort:=(congrArg Cel.sort h :);have e2:y.init=x.init:=(congrArg Cel.init h :);exact⟨e0▸g.n,e1▸g.s,e2▸g.i⟩
theorem PartG.of_st{x y:Part}(h:y.st=x.st)(g:PartG y):PartG x:=by
 have e0:y.cell=x.cell:=(congrArg Part.cell h :);have e1:y.at_=x.at_:=(congrArg Part.at_ h :);have e2:y.left=x.left:=(congrArg Part.left h :);have e3:y.right=x.right:=(congrArg Part.right h :);exact⟨e0▸g.c,e1▸g.a,e2▸g.l,e3▸g.r⟩
theorem RulG.of_st{x y:Rul}(h:y.st=x.st)(g:RulG y):RulG x:=by
 have h2:x.parts.map Part.st=y.parts.map Part.st:=(congrArg Rul.parts h.symm :);have hl:=sE h2;have e1:y.name=x.name:=(congrArg Rul.name h :);have e2:y.cond=x.cond:=(congrArg Rul.cond h :);have e3:y.new=x.new:=(congrArg Rul.new h :);have e4:y.drop=x.drop:=(congrArg Rul.drop h :);obtain⟨⟨g1,g2,g3,g4⟩,g5,g6,g7⟩:=g;rw[e3,e4,<-hl]at g6 g7
 exact⟨⟨e1▸g1,λp hp=>by
  obtain⟨q,hq,e⟩:=aBl h2 hp;exact(g2 q hq).of_st e,e3▸g3,e4▸g4⟩,e2▸g5,g6,g7⟩
theorem DfnG.of_st{d e:Dfn}(h:DSt d e)(g:DfnG e):DfnG d:=by
 obtain⟨h1,h2,h3,h4,h5,h6,h7,h8,h9⟩:=h;obtain⟨a1,a2,a3,a4,a5,a6,a7,a8,a9,a10,a11,a12,a13,a14,a15,a16,a17,a18,a19,a20⟩:=g;rw[<-h2]at a2 a3 a4 a5 a6 a7 a8 a9;have l3:=sE h3;have l4:=sE h4;have l6:=sE h6;have l7:=sE h7;refine⟨h1▸a1,a2,a3,a4,a5,a6,a7,a8,a9,λx hx=>?_,by omega,λx hx=>?_,by omega,λx hx=>?_,by omega,?_,λx hx=>?_,by omega,h8▸a19,h9▸a20⟩
 .obtain⟨y,hy,e⟩:=aBl h3 hx;exact(a10 y hy).of_st e
 .obtain⟨y,hy,e⟩:=aBl h4 hx;exact(a12 y hy).of_st e
 .obtain⟨y,hy,e⟩:=aBl h6 hx;exact(a14 y hy).of_st e
 .rw[h5];refine a16.imp (λh=>⟨h.1,fK (by rw[l6,h.2];rfl)⟩) (λh=>⟨h.1,λe=>h.2 (fK (by rw[<-l6,e];rfl))⟩)
 .obtain⟨y,hy,e⟩:=aBl h7 hx;exact(a17 y hy).of_st e
theorem aNA{d:Dfn}(h:jE d=true):DfnG d:=by
 unfold jE yP at h;rw[cL]at h;obtain⟨_,h⟩:=h;cases hl:jS dG true (kG (fI d))with
 | bad f=>rw[hl]at h;cases h
 | ok T =>
  rw[hl]at h;simp only at h;cases hd:kV false (kJ (kG (fI d))) T with
  | bad f=>rw[hd]at h;cases h
  | ok e w n =>
   rw[hd]at h;exact(aTl (aTE hl) hd).of_st (Dfn.same_st h)
section
section
variable {fin:Fault} {n:Nat} {w:List Tok}
theorem aR6{l:List aC}(h:∀x,x∈l->NmG x)(hl:l≠[])(hn:l.length<=40)(d:Dfn)(hd:d.sig.sorts=[]):gY false fin d (pM [115,111,114,116] l++w) n=.ok { d with sig:={ d.sig with sorts:=l } } w n:=by
 unfold pM gY;rw[if_neg hl];simp only[aV,bI,aW];rw[dZ,if_pos aD,hd,zP (fin:=fin) (n:=n) (K:=λx=>[bE x]) (g:=λx=>x) 40 (λacc y w hy ha=>?_) hl (by simpa using hn) (by rw[fV];decide),bV,bV,iC,bV]
 .simp
 .rw[aV,aW];unfold lI;simp only;rw[if_neg (λh=>by omega),kS (h y hy)]
theorem aQe{l:List aC}(h:∀x,x∈l->NmG x)(hl:l≠[])(d:Dfn)(hd:d.sig.values=[]):gY false fin d (pM [118,97,108,117,101] l++w) n=.ok { d with sig:={ d.sig with values:=l } } w n:=by
 unfold pM gY;rw[if_neg hl];simp only[aV,bI,aW];rw[dZ,if_neg aD,dZ,if_neg aD,dZ,if_pos aD,hd,zP (fin:=fin) (n:=n) (K:=λx=>[bE x]) (g:=λx=>x) l.length (λacc y w hy ha=>kS (h y hy)) hl bD (by rw[fV];decide),bV,bV,iC,bV];simp
theorem aP9{x:Below}(h:NmG x.low/\NmG x.high)(d:Dfn)(hd:d.sig.below.length<200):gY false fin d (xZ x++w) n=.ok { d with sig:={ d.sig with below:=d.sig.below++[x] } } w n:=by
 unfold xZ gY;simp only[aV,bI,aW];rw[dZ,if_neg aD,dZ,if_pos aD,if_neg aB,kS h.1,bV,iC,bV,kS h.2,bV,bV,iC,bV]
theorem aTT{x:Opr}(h:OpG x)(d:Dfn)(hd:d.sig.ops.length+d.sig.funs.length<200):gY false fin d (tC x++w) n=.ok { d with sig:={ d.sig with ops:=d.sig.ops++[x] } } w n:=by
 unfold tC gY;rw[aV];simp only;rw[dZ,if_neg aD,dZ,if_neg aD,dZ,if_neg aD,dZ,if_pos (.inl aD),if_neg aB,vD,if_pos rfl,aTN h,bV,bV,iC,bV]
theorem aTv{x:Opr}(h:FunG x)(d:Dfn)(hd:d.sig.ops.length+d.sig.funs.length<200):gY false fin d (sW x++w) n=.ok { d with sig:={ d.sig with funs:=d.sig.funs++[x] } } w n:=by
 unfold sW gY;rw[aV];simp only;rw[dZ,if_neg aD,dZ,if_neg aD,dZ,if_neg aD,dZ,dZ,if_pos (.inr aD),if_neg aB,vD,if_neg aD,aSV h,bV,bV,iC,bV]
theorem aTt{x:Eqn}(h:EqG x)(d:Dfn)(hd:d.eqs.length<300):gY false fin d (sT x++w) n=.ok { d with eqs:=d.eqs++[x.st] } w n:=by
 unfold sT gY;simp only[aV,bI,aW];rw[dZ,if_neg aD,dZ,if_neg aD,dZ,if_neg aD,dZ,dZ,if_neg aD,dZ,if_pos aD,if_neg aB,xB h.l,bV,iC,bV,xB h.r,bV,aIU h.c,bV,bV,iC,bV];rfl
theorem aSs{x:Rul}(h:RulG x)(d:Dfn)(hd:d.rules.length<300):gY false fin d (sK x++w) n=.ok { d with rules:=d.rules++[x.st] } w n:=by
 unfold sK gY;rw[aV];simp only;rw[dZ,if_neg aD,dZ,if_neg aD,dZ,if_neg aD,dZ,dZ,if_neg aD,dZ,if_neg aD,dZ,if_pos aD,if_neg aB,show(bE [114,117,108,101]).line=0 from rfl,show(bE [114,117,108,101]).col=0 from rfl,aRB h,bV,bV,iC,bV]
theorem aCt(k:aC)(T:List Tok)(d:Dfn)(hk:k=[115,116,97,114,116]\/k=[119,97,116,99,104]\/k=[99,101,108,108]\/k=[109,97,110,121]){d':Dfn}{W:List Tok}(h:mX false fin d (bE k) T n=.ok d' (aR [46]::W) n):gY false fin d (bE k::T) n=.ok d' W n:=by
 unfold gY;simp only
 rw[dZ,if_neg (by rcases hk with rfl|rfl|rfl|rfl<;>decide),dZ,if_neg (by rcases hk with rfl|rfl|rfl|rfl<;>decide),dZ,if_neg (by rcases hk with rfl|rfl|rfl|rfl<;>decide),dZ,dZ,if_neg (by rcases hk with rfl|rfl|rfl|rfl<;>decide),
  dZ,if_neg (by rcases hk with rfl|rfl|rfl|rfl<;>decide),dZ,if_neg (by rcases hk with rfl|rfl|rfl|rfl<;>decide),h,bV,iC,bV]
theorem aRk{x:Cel}(h:CelG x)(d:Dfn)(hd:d.once.length<12):gY false fin d (vU x++w) n=.ok { d with once:=d.once++[x.st] } w n:=by
 unfold vU;rw[aV];refine aCt _ _ d aD ?_;unfold mX;simp only[bI,aV,aW];rw[dZ,if_neg aD,dZ,if_neg aD,dZ,if_pos aD,if_neg aB,aKs h,bV]
theorem aQ7{x:aC}(h:NmG x)(d:Dfn)(hd:d.start=[]):gY false fin d (pN [115,116,97,114,116] x++w) n=.ok { d with start:=x } w n:=by
 unfold pN;rw[if_neg (rM h),aV];refine aCt _ _ d aD ?_;unfold mX;simp only[bI,aV,aW];rw[dZ,if_pos aD,if_pos hd,kS h,bV]
theorem aQ6{x:aC}(h:NmG x)(d:Dfn)(hd:d.watch=[]):gY false fin d (pN [119,97,116,99,104] x++w) n=.ok { d with watch:=x } w n:=by
 unfold pN;rw[if_neg (rM h),aV];refine aCt _ _ d aD ?_;unfold mX;simp only[bI,aV,aW];rw[dZ,if_neg aD,dZ,if_pos aD,if_pos hd,kS h,bV]
theorem aSf{k:aC}{l:List Cel}(hk:NmG k)(h:∀x,x∈l->CelG x)(hl:l≠[])(hn:l.length<=12)(d:Dfn)(hd:d.kind=[])(hd2:d.many=[]):gY false fin d (yA k l++w) n=.ok { d with kind:=k,many:=l.map Cel.st } w n:=by
 unfold yA;rw[if_neg (rM hk),aV];refine aCt _ _ d aD ?_;unfold mX;simp only[bI,aV,aW]
 rw[dZ,if_neg aD,dZ,if_neg aD,dZ,if_neg aD,dZ,if_pos aD,if_pos hd,kS hk,bV,iC,bV,hd2,
  zP (fin:=fin) (n:=n) (K:=sJ) (g:=Cel.st) 12 (λacc y w hy ha=>?_) hl (by simpa using hn) (by rw[fV];decide),bV,iC,bV]
 .rfl
 .have h1:=aKs (fin:=fin) (n:=n) (w:=w) (h y hy);unfold sJ at h1⊢;rw[aV]at h1⊢;unfold lI;simp only;rw[if_neg (λh=>by omega),h1]
end
def Stg(fin:Fault)(d:Dfn)(w:List Tok)(d':Dfn)(w':List Tok):Prop:=∀f n,w.length+1<=f->∃f',w'.length+1<=f'/\oJ false fin f d w n=oJ false fin f' d' w' n
section
variable {fin:Fault}
theorem Stg.refl(d:Dfn)(w:List Tok):Stg fin d w d w:=λf n h=>⟨f,h,rfl⟩
theorem Stg.trans{d d1 d2:Dfn}{w w1 w2:List Tok}(h:Stg fin d w d1 w1)(g:Stg fin d1 w1 d2 w2):Stg fin d w d2 w2:=λf n hf=>by
 obtain⟨f1,h1,e1⟩:=h f n hf;obtain⟨f2,h2,e2⟩:=g f1 n h1;exact⟨f2,h2,by rw[e1,e2]⟩
theorem aJa{d d':Dfn}{K w:List Tok}(h:∀n,gY false fin d (K++w) n=.ok d' w n)(hK:1<=K.length):Stg fin d (K++w) d' w:=λf n hf=>by
 obtain⟨f,rfl⟩:∃f',f=f'+1:=⟨f-1,by omega⟩
 refine⟨f,by simp only[aG]at hf;omega,?_⟩;have h1:=h n;cases K with
 | nil=>simp at hK
 | cons t T =>
  rw[aV]at h1⊢;rw[oJ,h1,bV]
theorem aA7{d d':Dfn}{K w:List Tok}{c:Prop} [Decidable c] (h1:c->K=[]/\d'=d) (h2:¬ c->(∀n,gY false fin d (K++w) n=.ok d' w n)/\1<=K.length):Stg fin d (K++w) d' w:=by
 by_cases hc:c
 .obtain⟨e1,e2⟩:=h1 hc;rw[e1,e2];exact Stg.refl _ _
 .exact aJa (h2 hc).1 (h2 hc).2
theorem Stg.flat{α:Type}{K:α->List Tok}(u:List α->Dfn){l:List α}(h:∀pre x,x∈l->pre.length<l.length->∀w n,gY false fin (u pre) (K x++w) n=.ok (u (pre++[x])) w n)(hK:∀x,1<=(K x).length)(w:List Tok):Stg fin (u []) (l.flatMap K++w) (u l) w:=by
 have:∀post pre,l=pre++post->Stg fin (u pre) (post.flatMap K++w) (u l) w:=by
  intro post
  induction post with
  | nil=>intro pre e;rw[eM]at e;rw[e];exact Stg.refl _ _
  | cons x r ih =>
   intro pre e;rw[nL,bI];exact(aJa (λn=>h pre x (by rw[e];simp) (by rw[e];simp) _ n) (hK x)).trans (ih (pre++[x]) (by rw[e,bI];rfl))
 exact this l [] rfl
def rS(nm:aC)(so:List aC)(be:List Below)(va:List aC)(op fu:List Opr)(eq:List Eqn)(ce:List Cel)(ki:aC)(ma:List Cel)(st wa:aC)(ru:List Rul):Dfn:=⟨nm,⟨so,be,op,fu,va⟩,eq,ce,ki,ma,ru,st,wa⟩
theorem aP8{d:Dfn}(h:DfnG d):Stg fin { gL with name:=d.name } (vP d) d.st []:=by
 have e:vP d=pM [115,111,114,116] d.sig.sorts++(d.sig.below.flatMap xZ++(pM [118,97,108,117,101] d.sig.values++(d.sig.ops.flatMap tC++(d.sig.funs.flatMap sW++(d.eqs.flatMap sT++(d.once.flatMap vU++(yA d.kind d.many++(pN [115,116,97,114,116] d.start++(pN [119,97,116,99,104] d.watch++(d.rules.flatMap sK++[])))))))))):=by
  unfold vP aGG;simp only[bI,eM]
 rw[e];refine Stg.trans (d1:=rS d.name d.sig.sorts [] [] [] [] [] [] [] [] [] [] []) (aA7 (c:=d.sig.sorts=[]) (λc=>?_) (λc=>⟨λn=>aR6 h.so c h.son _ rfl,?_⟩)) ?_
 .rw[c];exact⟨rfl,rfl⟩
 .unfold pM;rw[if_neg c];exact Nat.succ_pos _
 refine Stg.trans (Stg.flat (K:=xZ) (λl=>rS d.name d.sig.sorts l [] [] [] [] [] [] [] [] [] []) (λpre x hx hp w n=>aP9 (h.be x hx) _ (by have:=h.ben;show pre.length<200;omega)) (λx=>by unfold xZ;exact Nat.succ_pos _) _) ?_;refine Stg.trans (d1:=rS d.name d.sig.sorts d.sig.below d.sig.values [] [] [] [] [] [] [] [] []) (aA7 (c:=d.sig.values=[]) (λc=>?_) (λc=>⟨λn=>aQe h.va c _ rfl,?_⟩)) ?_
 .rw[c];exact⟨rfl,rfl⟩
 .unfold pM;rw[if_neg c];exact Nat.succ_pos _
 refine Stg.trans (Stg.flat (K:=tC) (λl=>rS d.name d.sig.sorts d.sig.below d.sig.values l [] [] [] [] [] [] [] []) (λpre x hx hp w n=>aTT (h.op x hx) _ (by have:=h.on;show pre.length+0<200;omega)) (λx=>by unfold tC;exact Nat.succ_pos _) _) ?_;refine Stg.trans (Stg.flat (K:=sW) (λl=>rS d.name d.sig.sorts d.sig.below d.sig.values d.sig.ops l [] [] [] [] [] [] []) (λpre x hx hp w n=>aTv (h.fu x hx) _ (by have:=h.on;show d.sig.ops.length+pre.length<200;omega)) (λx=>by unfold sW;exact Nat.succ_pos _) _) ?_;refine Stg.trans (Stg.flat (K:=sT) (λl=>rS d.name d.sig.sorts d.sig.below d.sig.values d.sig.ops d.sig.funs (l.map Eqn.st) [] [] [] [] [] []) (λpre x hx hp w n=>by rw[cV];exact aTt (h.eq x hx) _ (by have:=h.eqn;show(pre.map Eqn.st).length<300;rw[aH];omega)) (λx=>by unfold sT;exact Nat.succ_pos _) _) ?_;refine Stg.trans (Stg.flat (K:=vU) (λl=>rS d.name d.sig.sorts d.sig.below d.sig.values d.sig.ops d.sig.funs (d.eqs.map Eqn.st) (l.map Cel.st) [] [] [] [] []) (λpre x hx hp w n=>by rw[cV];exact aRk (h.ce x hx) _ (by have:=h.cen;show(pre.map Cel.st).length<12;rw[aH];omega)) (λx=>by unfold vU;exact Nat.succ_pos _) _) ?_;refine Stg.trans (d1:=rS d.name d.sig.sorts d.sig.below d.sig.values d.sig.ops d.sig.funs (d.eqs.map Eqn.st) (d.once.map Cel.st) d.kind (d.many.map Cel.st) [] [] []) (aA7 (c:=d.kind=[]) (λc=>?_) (λc=>?_)) ?_
 .rcases h.ki with⟨e1,e2⟩|⟨e1,_⟩
  .rw[e1,e2];exact⟨rfl,rfl⟩
  .exact absurd c (rM e1)
 .rcases h.ki with⟨e1,_⟩|⟨e1,e2⟩
  .exact absurd e1 c
  .exact⟨λn=>aSf e1 h.ma e2 h.man _ rfl rfl,by unfold yA;rw[if_neg c];exact Nat.succ_pos _⟩
 refine Stg.trans (d1:=rS d.name d.sig.sorts d.sig.below d.sig.values d.sig.ops d.sig.funs (d.eqs.map Eqn.st) (d.once.map Cel.st) d.kind (d.many.map Cel.st) d.start [] []) (aA7 (c:=d.start=[]) (λc=>?_) (λc=>⟨λn=>aQ7 (h.st.resolve_left c) _ rfl,?_⟩)) ?_
 .rw[c];exact⟨rfl,rfl⟩
 .unfold pN;rw[if_neg c];exact Nat.succ_pos _
 refine Stg.trans (d1:=rS d.name d.sig.sorts d.sig.below d.sig.values d.sig.ops d.sig.funs (d.eqs.map Eqn.st) (d.once.map Cel.st) d.kind (d.many.map Cel.st) d.start d.watch []) (aA7 (c:=d.watch=[]) (λc=>?_) (λc=>⟨λn=>aQ6 (h.wa.resolve_left c) _ rfl,?_⟩)) ?_
 .rw[c];exact⟨rfl,rfl⟩
 .unfold pN;rw[if_neg c];exact Nat.succ_pos _
 exact Stg.flat (K:=sK) (λl=>rS d.name d.sig.sorts d.sig.below d.sig.values d.sig.ops d.sig.funs (d.eqs.map Eqn.st) (d.once.map Cel.st) d.kind (d.many.map Cel.st) d.start d.watch (l.map Rul.st)) (λpre x hx hp w n=>by rw[cV];exact aSs (h.ru x hx) _ (by have:=h.run;show(pre.map Rul.st).length<300;rw[aH];omega)) (λx=>by unfold sK;exact Nat.succ_pos _) _
theorem aK5{d:Dfn}(h:DfnG d):kV false fin (wA d)=.ok d.st [] 0:=by
 unfold kV wA
 have e1:fZ fin [108,97,110,103,117,97,103,101] (bE [108,97,110,103,117,97,103,101]::bE d.name::aR [46]::vP d) 0=.ok () (bE d.name::aR [46]::vP d) 0:=by
  unfold fZ;rw[tS,if_pos aD,List.tail_cons]
 rw[e1,bV,kS h.n,bV,iC,bV];obtain⟨f',h1,h2⟩:=aP8 (fin:=fin) h ((vP d).length+1) 0 (bT _);rw[h2];obtain⟨f,rfl⟩:∃f,f'=f+1:=⟨f'-1,by omega⟩
 rw[oJ]
end
theorem aTP{d:Dfn}:DSt d d.st:=by
 have e1:Eqn.st ∘ Eqn.st=Eqn.st:=rfl;have e2:Cel.st ∘ Cel.st=Cel.st:=rfl;have e4:Part.st ∘ Part.st=Part.st:=rfl
 have e3:Rul.st ∘ Rul.st=Rul.st:=by
  funext r;show({ r with parts:=(r.parts.map Part.st).map Part.st,line:=0,col:=0 }:Rul)={ r with parts:=r.parts.map Part.st,line:=0,col:=0 };rw[List.map_map,e4]
 exact⟨rfl,rfl,by show _=(d.eqs.map Eqn.st).map Eqn.st;rw[List.map_map,e1],by show _=(d.once.map Cel.st).map Cel.st;rw[List.map_map,e2],rfl,by show _=(d.many.map Cel.st).map Cel.st;rw[List.map_map,e2],by show _=(d.rules.map Rul.st).map Rul.st;rw[List.map_map,e3],rfl,rfl⟩
theorem DSt.trans{a b c:Dfn}(h:DSt a b)(g:DSt b c):DSt a c:=⟨h.name.trans g.name,h.sig.trans g.sig,h.eqs.trans g.eqs,h.once.trans g.once,h.kind.trans g.kind,h.many.trans g.many,h.rules.trans g.rules,h.start.trans g.start,h.watch.trans g.watch⟩
theorem aRV{d:Dfn}(h:DfnG d):yP d=true:=by
 obtain⟨T',h1,h2⟩:=aNY h;unfold yP;rw[h1];rcases aIM (a1:=0) (b1:=0) (f2:=kJ (kG (fI d))) h2 with⟨f,_,e⟩|⟨d0,w,n,d',w',e,e2,e3⟩
 .rw[aK5 h]at e;cases e
 .rw[aK5 h]at e;cases e;simp only[e2];exact(aTP.trans (Dfn.same_st e3)).same
end
end Go.AV
