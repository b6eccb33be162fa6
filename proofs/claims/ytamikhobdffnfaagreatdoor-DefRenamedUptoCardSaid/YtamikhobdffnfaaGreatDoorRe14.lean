/-
  Of DefRenamed.
-/
import Derived.Test.YtamikhobdffnfaaGreatDoorRe13
set_option linter.all false
set_option maxRecDepth 99999
set_option maxHeartbeats 0
namespace Go.AV
open Go Go.Proofs Tryz
theorem aIw(c:List Wd)(a b:List aC):bM c (a++b)=bM (bM c a) b:=by simp[bM]
theorem wK{α β:Type}(f:α->β){l:List α}{i:Nat}{x:α}(h:l[i]?=some x):(l.take (i+1)).map f=(l.take i).map f++[f x]:=by
 rw[iS,h];simp
def aGM(o:Opr)(c:List Wd):List Wd:=if o.pieces=[] then bM c o.args else c
def aGI(o:Opr)(c:List Wd):List Wd:=if 0<o.prec then bM c [[112,114,101,99],Lib.itoa o.prec] else c
def aAt(o:Opr)(c:List Wd):List Wd:=if o.assoc=1 then aL c [108,101,102,116] else if o.assoc=2 then aL c [114,105,103,104,116] else c
def aGK(o:Opr)(c:List Wd):List Wd:=if o.strict=[] then c else aL (eE (λc n=>aL c (Lib.itoa n)) false (bM c [[115,116,114,105,99,116],[40]]) o.strict) [41]
theorem aLs(o:Opr):qT o=aL (aGK o (aAt o (aGI o (bM (aGM o (bM (bM [] [[111,112],o.name,[58]]) (o.pieces.map oL))) [[45,62],o.sort])))) [46]:=rfl
theorem aO6(o:Opr)(hst:∀n,n∈o.strict->-9223372036854775808<=n/\n<=9223372036854775807)(hpr:o.prec<=9223372036854775807)(hpc:∀p,p∈o.pieces->p.text.length<=4294967296)
    (r:Nat)(vi v0:A)(LS:List (List Wd))(s:St)(KV Kp:St->A->Prop)(hw:WfS s r vi v0 LS [])(hl:o.pieces.length+o.args.length+2 * o.strict.length+20<=4294967296)(hl2:LS.length+1<=4294967296)
    (hk:∀s' vi',WfS s' r vi' .nils (LS++[qT o]) []->Frm s s'->KV s' (.tuple [])):Den cx 251 [.ptr r 0,.agg o.cs] KV Kp s:=by
  have fin:∀{s1 v1 c} {KV' Kp':St->A->Prop} (hs:Stp r v0 v1 s s1) (hw1:WrS s1 r vi v1 c),c.length+1<=4294967296->(∀s' vi',WfS s' r vi' .nils (LS++[aL c [46]]) []->Frm s s'->KV' s' (.tuple []))->Den cx 178 [.ptr r 0] KV' Kp' s1:=by
    intro s1 v1 c KV' Kp' hs hw1 hc hk';exact qE r vi v1 LS c s1 KV' Kp' (hw.step hs hw1) hc hl2 (λs2 v2 hw2 hf2=>hk' _ _ hw2 ((hs.frm hw.w).trans hf2))
  (refine aO func251 [0,1,2,3,5,12,13,14,15,20,37,49,57,58,63,71] ?_;simp only[go_sem,ntmps251,f251]);(intro p hp;try simp only[aI,ne_eq]at hp);simp only[go_sem,hp];(intro q hq;try simp only[aI,ne_eq]at hq);simp only[go_sem,hp,hq];have gp0:((s.setO p (.cells 110 [.ptr r 0])).setO q (.cells 73 o.cs)).getO p=some (.cells 110 [.ptr r 0]):=by simp only[aJ,hq.1.1,hq.1.2,if_false,if_true]
  have gq0:((s.setO p (.cells 110 [.ptr r 0])).setO q (.cells 73 o.cs)).getO q=some (.cells 73 o.cs):=by simp only[aJ,if_true]
  have hnq:(s.setO p (.cells 110 [.ptr r 0])).getO q=none:=by simp only[aJ,hq.1.1,hq.1.2,if_false];exact hq.2
  have hw0:=(hw.w.new hp (.cells 110 [.ptr r 0])).new hnq (.cells 73 o.cs);have base:∀{s1 v1},Stp r v0 v1 ((s.setO p (.cells 110 [.ptr r 0])).setO q (.cells 73 o.cs)) s1->Stp r v0 v1 s s1:=λh=>(h.new1 hnq).new1 hp
  clear hw;refine dI [[111,112],o.name,[58]] r vi v0 _ _ _ _ hw0 (by(try simp only[bU,bX,aE,aF,aG,aH]);omega) (λs1 v1 hw1 hs1=>?_);have gp1:=hs1.keep hw0 gp0 aD aD;have gq1:=hs1.keep hw0 gq0 aD aD;simp only[go_sem,gp1,gq1]
  refine Ex.loop (ι:=Nat × (St × A)) (λc=>[(0,.ptr r 0),(2,.ptr p 0),(3,.ptr q 0),(12,.list none (o.pieces.map Piece.enc)),(13,.int .i64 (o.pieces.length:Nat)),(14,.int .i64 (c.1:Nat))])
    (λc=>c.2.1) (λc=>c.1<=o.pieces.length/\WrS c.2.1 r vi c.2.2 (bM (bM [] [[111,112],o.name,[58]]) ((o.pieces.take c.1).map oL))/\Stp r v1 c.2.2 s1 c.2.1) (λc=>o.pieces.length-c.1) (0,(s1,v1)) ⟨aU _,hw1,Stp.refl r v1 s1⟩ ?_ (aM s1) ?_
  · (simp only[go_sem];try exact rfl)
  · rintro ⟨i,s2,v2⟩ ⟨hi,hw2,hs2⟩
    simp only at hi hw2 hs2;refine bG (V:=[0,1,2,3,5,12,13,14,15,20,37,49,57,58,63,71]) _ _ _ _ ?_;have gp2:=hs2.keep hw1 gp1 aD aD;have gq2:=hs2.keep hw1 gq1 aD aD;simp only[go_sem];(refine aQ (λh=>?_) (λh=>?_))<;>simp only[go_sem,h]
    · have hix:i<o.pieces.length:=by simpa using h
      clear h;obtain⟨x,hx⟩:∃a,o.pieces[i]?=some a:=⟨_,aY hix⟩
      have hxm:x∈o.pieces:=cM hx;have w1:=cF i aB;have htk:=wK oL hx;have htl:=hpc x hxm;simp only[go_sem,hx,hix];(intro b7 hb7;try simp only[aI,ne_eq]at hb7);have nb:b7≠p:=λe=>by rw[e,gp2]at hb7;cases hb7
      simp only[go_sem,hx,hix,hb7];have hw3:=hw2.new hb7 (.cells 143 x.cs);cases h0:decide (x.sort=[])with
      | false =>
        have e:oL x=x.sort:=by rw[oL,if_neg (by simpa using h0)]
        rw[e]at htk;simp only[go_sem,h0,gp2,hb7,nb,nb.symm];refine dI [x.sort] r vi v2 _ _ _ _ hw3 (by simp only[bU,aE,aF,aH,bK];omega) (λs4 v4 hw4 hs4=>?_);simp only[go_sem];exact⟨(i+1,s4,v4),⟨hix,by rw[htk,aIw];exact hw4,hs2.trans (hs4.new1 hb7)⟩,by simp only;omega,w1,aM _⟩
      | true =>
        have e:oL x=[34]++x.text++[34]:=by rw[oL,if_pos (by simpa using h0)]
        rw[e]at htk;simp only[go_sem,h0,gp2,hb7,nb,nb.symm];refine⟨by simp only[maxLen];omega,by simp only[maxLen];omega,?_⟩;refine dI [[34]++x.text++[34]] r vi v2 _ _ _ _ hw3 (by simp only[bU,aE,aF,aH,bK];omega) (λs4 v4 hw4 hs4=>?_);simp only[go_sem];exact⟨(i+1,s4,v4),⟨hix,by rw[htk,aIw];exact hw4,hs2.trans (hs4.new1 hb7)⟩,by simp only;omega,w1,aM _⟩
    · have hii : i = o.pieces.length := by have : ¬ i < o.pieces.length := by simpa using h
                                           omega
      subst hii;rw[List.take_length]at hw2;obtain⟨c2,hc2⟩:∃c,c=bM (bM [] [[111,112],o.name,[58]]) (o.pieces.map oL):=⟨_,rfl⟩
      have hcl:c2.length<=3+o.pieces.length:=by rw[hc2];simp only[bU,aE,aF,aH];omega
      rw[<-hc2]at hw2
      replace hs2:=hs1.trans hs2
      simp only[go_sem,gq2]
      have dp:decide ((o.pieces.length:Int)=0)=decide (o.pieces=[]):=by
        rw[gG];exact⟨λe=>fK aB,λe=>by rw[e];rfl⟩
      have hcmG:∀{s:St} {v:A} {c:List Wd},WrS s r vi v (eE (λc n=>aL c (Lib.itoa n)) false c o.strict)->(eE (λc n=>aL c (Lib.itoa n)) false c o.strict).length<=c.length+2 * o.strict.length:=by
        intro s v c _;have:=wT (λc n=>aL c (Lib.itoa n)) (λ_=>1) (λx c=>by rw[bX];exact bT _) o.strict false c
        rwa[aCQ]at this
      cases p1:decide (o.pieces=[])
      all_goals (
        first
          | (have e1:∀c,aGM o c=bM c o.args:=λc=>if_pos (by simpa using p1))
          | (have e1:∀c,aGM o c=c:=λc=>if_neg (by simpa using p1))
        simp only[go_sem,dp,p1,gp2,gq2])
      rotate_left;refine dI o.args r vi v2 _ _ _ _ hw2 (by(try simp only[bU,bX,aE,aF,aG,aH]);omega) (λs2 v2 hw3 hs3=>?_);have gp2:=hs3.keep hw2 gp2 aD aD;have gq2:=hs3.keep hw2 gq2 aD aD;have hs2:=hs2.trans hs3;have hw2:=hw3;simp only[go_sem,gp2,gq2]
      all_goals (
        refine dI [[45,62],o.sort] r vi v2 _ _ _ _ hw2 (by(try simp only[bU,bX,aE,aF,aG,aH]);omega) (λs2 v2 hw3 hs3=>?_);have gp2:=hs3.keep hw2 gp2 aD aD;have gq2:=hs3.keep hw2 gq2 aD aD;have hs2:=hs2.trans hs3;have hw2:=hw3;simp only[go_sem,gp2,gq2];cases p2:decide (0<o.prec)
        all_goals (
          first
            | (have e2:∀c,aGI o c=bM c [[112,114,101,99],Lib.itoa o.prec]:=λc=>if_pos (by simpa using p2))
            | (have e2:∀c,aGI o c=c:=λc=>if_neg (by simpa using p2))
          simp only[go_sem,p2,gp2,gq2]))
      any_goals (
        have p2':0<o.prec:=by simpa using p2
        (refine bL (OT.r 0 6) [(3,[0])] ?_;simp only[go_sem]);simp only[go_sem,gp2,gq2];refine aA0 o.prec aB hpr _ _ _ ?_;simp only[go_sem,gp2,gq2];refine dI [[112,114,101,99],Lib.itoa o.prec] r vi v2 _ _ _ _ hw2 (by(try simp only[bU,bX,aE,aF,aG,aH]);omega) (λs2 v2 hw3 hs3=>?_);have gp2:=hs3.keep hw2 gp2 aD aD;have gq2:=hs3.keep hw2 gq2 aD aD;have hs2:=hs2.trans hs3;have hw2:=hw3;simp only[go_sem,gp2,gq2]
        skip)
      all_goals (
        cases p3:decide (o.assoc=1)
        all_goals (simp only[go_sem,p3,gp2,gq2]))
      any_goals (
        have p3':o.assoc=1:=by simpa using p3
        have e3:∀c,aAt o c=aL c [108,101,102,116]:=λc=>if_pos p3'
        refine dI [[108,101,102,116]] r vi v2 _ _ _ _ hw2 (by(try simp only[bU,bX,aE,aF,aG,aH]);omega) (λs2 v2 hw3 hs3=>?_);have gp2:=hs3.keep hw2 gp2 aD aD;have gq2:=hs3.keep hw2 gq2 aD aD;have hs2:=hs2.trans hs3;have hw2:=hw3;simp only[go_sem,gp2,gq2]
        skip)
      any_goals (
        have p3':¬ o.assoc=1:=by simpa using p3
        cases p4:decide (o.assoc=2)
        all_goals (
          first
            | (have e3:∀c,aAt o c=aL c [114,105,103,104,116]:=λc=>by unfold aAt;rw[if_neg p3',if_pos (by simpa using p4)])
            | (have e3:∀c,aAt o c=c:=λc=>by unfold aAt;rw[if_neg p3',if_neg (by simpa using p4)])
          simp only[go_sem,p4,gp2,gq2]))
      any_goals (
        have p4':o.assoc=2:=by simpa using p4
        refine dI [[114,105,103,104,116]] r vi v2 _ _ _ _ hw2 (by(try simp only[bU,bX,aE,aF,aG,aH]);omega) (λs2 v2 hw3 hs3=>?_);have gp2:=hs3.keep hw2 gp2 aD aD;have gq2:=hs3.keep hw2 gq2 aD aD;have hs2:=hs2.trans hs3;have hw2:=hw3;simp only[go_sem,gp2,gq2]
        skip)
      all_goals (
        have dq:decide ((0:Int)<(o.strict.length:Int))=decide (0<o.strict.length):=by rw[gG];omega
        cases p5:decide (0<o.strict.length)
        all_goals (simp only[go_sem,dq,p5,gp2,gq2]))
      any_goals (
        have p5':0<o.strict.length:=by simpa using p5
        refine dI [[115,116,114,105,99,116],[40]] r vi v2 _ _ _ _ hw2 (by(try simp only[bU,bX,aE,aF,aG,aH]);omega) (λs2 v2 hw3 hs3=>?_);have gp2:=hs3.keep hw2 gp2 aD aD;have gq2:=hs3.keep hw2 gq2 aD aD;have hs2:=hs2.trans hs3;have hw2:=hw3;simp only[go_sem,gp2,gq2]
        refine aMG o.strict (λc n=>aL c (Lib.itoa n)) (λ_=>1) (λx c=>by rw[bX];exact bT _) 292 [.ptr p 0] (λs=>s.getO p=some (.cells 110 [.ptr r 0])) r vi aLG
          (λn hn vl cur s KV Kp hI hw hl hk=>aOs n (hst n hn).1 (hst n hn).2 p r vi vl cur s KV Kp hI hw hl hk) v2 _ _ _ _ hw2 gp2 (by(try simp only[aCQ,bU,bX,aE,aF,aG,aH]);omega) (λs2 v2 hw3 hs3=>?_)
        have gp2:=hs3.keep hw2 gp2 aD aD;have gq2:=hs3.keep hw2 gq2 aD aD;have hs2:=hs2.trans hs3;have hw2:=hw3;have hcm:=hcmG hw2;simp only[bU,bX,aE,aF]at hcm;simp only[go_sem,gp2,gq2];refine dI [[41]] r vi v2 _ _ _ _ hw2 (by(try simp only[bU,bX,aE,aF,aG,aH]);omega) (λs2 v2 hw3 hs3=>?_);have gp2:=hs3.keep hw2 gp2 aD aD;have gq2:=hs3.keep hw2 gq2 aD aD;have hs2:=hs2.trans hs3;have hw2:=hw3;simp only[go_sem,gp2,gq2];have e4:∀c,aGK o c=aL (eE (λc n=>aL c (Lib.itoa n)) false (bM c [[115,116,114,105,99,116],[40]]) o.strict) [41]:=λc=>if_neg (λe=>by rw[e]at p5';cases p5')
        refine fin (base hs2) hw2 (by(try simp only[bU,bX,aE,aF,aG,aH]);omega) (λs' vi' hW hF=>?_);simp only[go_sem];exact aN (hk _ _ (by rw[aLs,<-hc2,e1,e2,e3,e4];exact hW) hF))
      all_goals (
        have e4:∀c,aGK o c=c:=λc=>if_pos (fK (by simpa using p5))
        refine fin (base hs2) hw2 (by(try simp only[bU,bX,aE,aF,aG,aH]);omega) (λs' vi' hW hF=>?_);simp only[go_sem];exact aN (hk _ _ (by rw[aLs,<-hc2,e1,e2,e3,e4];exact hW) hF))
def rK(c:Cel):Nat:=4+8 * c.init.cnt
theorem aFI(x:Cel)(c:List Wd):(jF c x).length<=c.length+rK x:=by
 have:=rD x.init (bM c [x.name,[58],x.sort,[61]]);rw[bU]at this;simp only[aE,aF]at this;rw[jF,rK];omega
theorem aMY(l:List Cel)(ih:∀c,c∈l->TwOk c.init)(r:Nat)(vi vl:A)(cur:List Wd)(s:St)(KV Kp:St->A->Prop)(hw:WrS s r vi vl cur)(hl:cur.length+fS rK l<=4294967296)
    (hk:∀s' vl',WrS s' r vi vl' (eE jF false cur l)->Stp r vl vl' s s'->KV s' (.tuple [])):Den cx 183 [.ptr r 0,.list none (l.map Cel.enc),.fn 182 [.ptr r 0] []] KV Kp s:=by
  refine jD λhz1=>?_
  have hlw:=hz1 _ (cT _ (bY ..));(refine aO func183 [0,1,2,6,7,8,9,10,11,16] ?_;simp only[go_sem,ntmps183,f183])
  refine Ex.loop (ι:=Nat × (St × A)) (λc=>[(0,.ptr r 0),(2,.fn 182 [.ptr r 0] []),(8,.list none (l.map Cel.enc)),(9,.int .i64 (l.length:Nat)),(10,.int .i64 (c.1:Nat))])
    (λc=>c.2.1) (λc=>c.1<=l.length/\WrS c.2.1 r vi c.2.2 (eE jF false cur (l.take c.1))/\Stp r vl c.2.2 s c.2.1) (λc=>l.length-c.1) (0,(s,vl)) ⟨aU _,hw,Stp.refl r vl s⟩ ?_ (aM s) ?_
  · (simp only[go_sem];try exact rfl)
  · rintro⟨i,s1,v1⟩ ⟨hi,hw1,hs1⟩
    simp only at hi hw1 hs1;refine bG (V:=[0,1,2,6,7,8,9,10,11,16]) _ _ _ _ ?_;simp only[go_sem];(refine aQ (λh=>?_) (λh=>?_))<;>simp only[go_sem,h]
    · have hix:i<l.length:=by simpa using h
      clear h;obtain⟨x,hx⟩:∃a,l[i]?=some a:=⟨_,aY hix⟩
      have hxm:x∈l:=cM hx;have w1:=hlw.wrap (i:=i) (by simpa using hix);have d0:decide ((0:Int)<(i:Int))=decide (0<i):=by rw[gG];omega
      have hc1:=zL rK hx;have hc2:=wT jF rK aFI (l.take i) false cur;have hcb:rK x=4+8 * x.init.cnt:=rfl;have htk:=aED jF hx cur;simp only[go_sem,hx,hix];(intro b7 hb7;try simp only[aI,ne_eq]at hb7);simp only[go_sem,hx,hix,hb7];have hw2:=hw1.new hb7 (.cells 68 x.cs);cases h0:decide (0<i)with
      | false =>
        rw[if_neg (by simpa using h0)]at htk;simp only[go_sem,d0,h0,hb7];refine aEM x (ih x hxm) r vi v1 _ _ _ _ hw2 aB (λs3 v3 hw3 hs3=>?_);simp only[go_sem];exact⟨(i+1,s3,v3),⟨hix,by rw[htk];exact hw3,hs1.trans (hs3.new1 hb7)⟩,by simp only;omega,w1,aM _⟩
      | true =>
        rw[if_pos (by simpa using h0)]at htk;simp only[go_sem,d0,h0,hb7];refine dI [[44]] r vi v1 _ _ _ _ hw2 (by simp only[aE,aF];omega) (λs3 v3 hw3 hs3=>?_);have hb8:=hs3.keep hw2 (p:=b7) (e:=68) (cs:=x.cs) (by rw[aJ,if_pos rfl]<;>rfl) aD aD;simp only[go_sem,hb8];refine aEM x (ih x hxm) r vi v3 _ _ _ _ hw3 (by rw[bU];simp only[aE,aF];omega) (λs4 v4 hw4 hs4=>?_);simp only[go_sem];exact⟨(i+1,s4,v4),⟨hix,by rw[htk];exact hw4,hs1.trans ((hs3.trans hs4).new1 hb7)⟩,by simp only;omega,w1,aM _⟩
    · have hii : i = l.length := by have : ¬ i < l.length := by simpa using h
                                    omega
      subst hii;rw[List.take_length]at hw1;exact aN (hk _ _ hw1 hs1)
theorem Stp.setN{r:Nat}{v0 v:A}{s s1:St}(h:Stp r v0 v s s1){c:Nat}(hc:s.getO c=none)(o:Ob):Stp r v0 v s (s1.setO c o) :=
  ⟨fun q x hq n m => by
    rw[aJ,if_neg (λe=>by subst e;rw[hc]at hq;cases hq)];exact h.ob q x hq n m,
   h.new,λq hq=>by
    rw[aJ]at hq;split at hq
    · cases hq
    · exact h.dom q hq,h.tk,h.ls⟩
theorem WrS.setK{s:St}{r:Nat}{vi vl:A}{cur:List Wd}(h:WrS s r vi vl cur){c:Nat}{e:TypeId}{cs:List A}(hc:s.getO c=some (.cells e cs))(h1:e≠149)(h2:e≠156)(o:Ob):WrS (s.setO c o) r vi vl cur:=by
 have n1:r≠c:=λe'=>by rw[<-e',h.ob]at hc;cases hc;exact h1 rfl
 refine⟨by rw[aJ,if_neg (Ne.symm n1)];exact h.ob,h.one,?_⟩;cases h.line with
 | nil=>exact .nil
 | mg b cap _ J hb hcap hJ h1' hn =>
  have n2:b≠c:=λe'=>by rw[<-e',hb]at hc;cases hc;exact h2 rfl
  exact .mg b cap cur J (by rw[aJ,if_neg (Ne.symm n2)];exact hb) hcap hJ h1' hn
theorem aEU(n:Nat)(hn:n<4294967296)(c p r:Nat)(vi v0:A)(cur:List Wd)(s:St)(KV Kp:St->A->Prop)(gc0:s.getO c=some (.cells 3 [.int .i64 (n:Nat)]))(gp0:s.getO p=some (.cells 110 [.ptr r 0]))
  (hw0:WrS s r vi v0 cur)(hl:cur.length+1<=4294967296)
  (hk : ∀ s' vl',WrS (s'.setO c (.cells 3 [.int .i64 ((n + 1 : Nat) : Int)])) r vi vl' (iP n cur) → Stp r v0 vl' s s' → s'.getO c = some (.cells 3 [.int .i64 (n : Nat)]) → s'.getO p = some (.cells 110 [.ptr r 0]) →
   KV (s'.setO c (.cells 3 [.int .i64 ((n+1:Nat):Int)])) (.tuple [])):Den cx 260 [.ptr c 0,.ptr p 0] KV Kp s:=by
 have d0:decide ((0:Int)<(n:Int))=decide (0<n):=by rw[gG];omega
 have w1:=cF n aB;(refine aO func260 [0,1,3] ?_;simp only[go_sem,ntmps260,f260]);simp only[go_sem,gc0];cases h0:decide (0<n)with
 | false =>
  simp only[go_sem,d0,h0,gc0,w1];rw[iP,if_neg (by simpa using h0)]at hk;exact aN (hk s v0 (hw0.setK gc0 aD aD _) (Stp.refl r v0 s) gc0 gp0)
 | true =>
  simp only[go_sem,d0,h0,gc0,gp0];refine dI [[59]] r vi v0 _ _ _ _ hw0 (by(try simp only[bU,bX,aE,aF,aG,aH]);omega) (λs1 v1 hw1 hs1=>?_);have gc1:=hs1.keep hw0 gc0 aD aD;have gp1:=hs1.keep hw0 gp0 aD aD;simp only[go_sem,gc1,gp1];simp only[go_sem,w1];rw[iP,if_pos (by simpa using h0)]at hk;exact aN (hk s1 v1 (hw1.setK gc1 aD aD _) hs1 gc1 gp1)
theorem aC8{α:Type}(bd:α->Nat):∀l:List α,l.length<=fS bd l
 | []=>bT _
 | x::r=>by have:=aC8 bd r;simp only[aE,fS];omega
theorem aIc{α:Type}(one:Nat->List Wd->α->List Wd):∀(a b:List α) (n:Nat) (c:List Wd),gM one n c (a++b)=gM one (n+a.length) (gM one n c a) b
 | [],b,n,c=>rfl
 | x::r,b,n,c=>by
  rw[aV,gM,gM,aIc one r b];congr 1;simp only[aE];omega
theorem aEY{α:Type}(one:Nat->List Wd->α->List Wd){l:List α}{i:Nat}{x:α}(h:l[i]?=some x)(n:Nat)(c:List Wd) :
  gM one n c (l.take (i+1))=one (n+i) (gM one n c (l.take i)) x:=by
 have hi:i<l.length:=(dV.1 h).1;rw[iS,h];show gM one n c (l.take i++[x])=_;rw[aIc,bK,uR aB];rfl
theorem xJ{α:Type}(one:Nat->List Wd->α->List Wd)(bd:α->Nat)(hbd:∀n x c,(one n c x).length<=c.length+bd x):∀(l:List α) (n:Nat) (c:List Wd),(gM one n c l).length<=c.length+fS bd l
 | [],n,c=>by simp[gM,fS]
 | x::r,n,c=>by
  have h1:=xJ one bd hbd r (n+1) (one n c x);have h2:=hbd n x c;simp only[gM,fS];omega
theorem zW(n:Nat)(c:List Wd):(iP n c).length<=c.length+1:=by unfold iP;split<;>simp[aL]
theorem aHP:∀(a:List Tm) (b:List Tm) (c:List Wd),jX c (a++b)=jX (jX c a) b
 | [],b,c=>rfl
 | x::r,b,c=>by rw[aV,jX,jX,aHP r b]
theorem aNH{l:List Tm}{i:Nat}{x:Tm}(h:l[i]?=some x)(c:List Wd):jX c (l.take (i+1))=cI (aL (jX c (l.take i)) [61,62]) x:=by
 rw[iS,h];show jX c (l.take i++[x])=_;rw[aHP];rfl
theorem aFi:∀(l:List Tm) (c:List Wd),(jX c l).length<=c.length+8 * dL l
 | [],c=>by simp[jX]
 | x::r,c=>by
  have h1:=aFi r (cI (aL c [61,62]) x);have h2:=rD x (aL c [61,62]);rw[bX]at h2;simp only[jX,dL];omega
def rI(p:Part):Nat:=4+8 * p.left.cnt+8 * dL p.right
theorem aIs(n:Nat)(p:Part)(c:List Wd):(lS n c p).length<=c.length+rI p:=by
 have h1:=zW n c;unfold lS rI
 have h2:∀d:List Wd,(jX (cI (aL d [58]) p.left) p.right).length<=d.length+8 * p.left.cnt+8 * dL p.right:=λd=>by
  have a:=aFi p.right (cI (aL d [58]) p.left);have b:=rD p.left (aL d [58]);rw[bX]at b;omega
 refine nM (h2 _) ?_
 have h3:(if p.at_=[] then aL (iP n c) p.cell else bM (aL (iP n c) p.cell) [[64],p.at_]).length<=c.length+4:=by
  split<;>simp only[bX,bU,aE,aF]<;>omega
 omega
def rN(f:Fresh):Nat:=4+8 * dL f.cells
theorem aAO:∀(l:List Tm) (b:Bool) (c:List Wd),gK b c l=eE cI b c l
 | [],b,c=>rfl
 | x::r,b,c=>by rw[gK,eE,aAO r]
theorem aJF(n:Nat)(f:Fresh)(c:List Wd):(lV n c f).length<=c.length+rN f:=by
 have h1:=zW n c;have h2:=xO f.cells false (bM (iP n c) [[110,101,119],[40]]);rw[bU]at h2;simp only[aE,aF]at h2;unfold lV rN;rw[bX,<-aAO];omega
theorem aH5(n:Nat)(x:aC)(c:List Wd):(lT n c x).length<=c.length+4:=by
 have h1:=zW n c;unfold lT;simp only[bU,aE,aF];omega
theorem vL{r:Nat}{v:A}{s:St}{b:Nat}(hb:s.getO b=none)(o:Ob):Stp r v v s (s.setO b o) :=
  ⟨fun q x hq _ _ => by rw [aJ,if_neg (fun e => by subst e; rw [hb] at hq; cases hq)]; exact hq,fun _ h => .inl h,
   λq hq=>by
    rw[aJ]at hq;split at hq
    · cases hq
    · exact hq,λ_ _ h=>h,rfl⟩
structure RlS (s0:St) (r:Nat) (vi v0:A) (p q c:Nat) (x:Rul) (s:St) (v:A) (cur:List Wd) (n:Nat):Prop where
 w:WrS s r vi v cur
 t:Stp r v0 v s0 s
 gp:s.getO p=some (.cells 110 [.ptr r 0])
 gq:s.getO q=some (.cells 84 x.cs)
 gc:s.getO c=some (.cells 3 [.int .i64 (n:Nat)])
 hc:s0.getO c=none
theorem RlS.step{s0:St}{r:Nat}{vi v0:A}{p q c:Nat}{x:Rul}{s s':St}{v v':A}{cur cur':List Wd}{n:Nat}(h:RlS s0 r vi v0 p q c x s v cur n)(hs:Stp r v v' s s')(hw:WrS s' r vi v' cur'):RlS s0 r vi v0 p q c x s' v' cur' n :=
 ⟨hw,h.t.trans hs,hs.keep h.w h.gp aD aD,hs.keep h.w h.gq aD aD,hs.keep h.w h.gc aD aD,h.hc⟩
theorem RlS.new{s0:St}{r:Nat}{vi v0:A}{p q c:Nat}{x:Rul}{s:St}{v:A}{cur:List Wd}{n:Nat}(h:RlS s0 r vi v0 p q c x s v cur n){b:Nat}(hb:s.getO b=none)(o:Ob):RlS s0 r vi v0 p q c x (s.setO b o) v cur n :=
 h.step (vL hb o) (h.w.new hb o)
theorem RlS.count{s0:St}{r:Nat}{vi v0:A}{p q c:Nat}{x:Rul}{s s':St}{v v':A}{cur cur':List Wd}{n m:Nat}(h:RlS s0 r vi v0 p q c x s v cur n)(hs:Stp r v v' s s')
  (hw:WrS (s'.setO c (.cells 3 [.int .i64 (m:Nat)])) r vi v' cur'):RlS s0 r vi v0 p q c x (s'.setO c (.cells 3 [.int .i64 (m:Nat)])) v' cur' m:=by
 have np:p≠c:=λe=>by have h1:=h.gp;rw[e,h.gc]at h1;cases h1
 have nq:q≠c:=λe=>by have h1:=h.gq;rw[e,h.gc]at h1;cases h1
 refine⟨hw,(h.t.trans hs).setN h.hc _,?_,?_,by rw[aJ,if_pos rfl],h.hc⟩
 .rw[aJ,if_neg (Ne.symm np)];exact hs.keep h.w h.gp aD aD
 .rw[aJ,if_neg (Ne.symm nq)];exact hs.keep h.w h.gq aD aD
theorem aGx{s:St}{r:Nat}{vi v:A}{c:List Wd}{t:Tm}(_:WrS s r vi v (cI c t)):(cI c t).length+1<=c.length+8 * t.cnt:=rD t c
structure RulOk (x:Rul):Prop where
 left:∀p,p∈x.parts->TwOk p.left
 right:∀p,p∈x.parts->∀t,t∈p.right->TwOk t
 new:∀f,f∈x.new->∀t,t∈f.cells->TwOk t
 cond:∀t,t∈x.cond->TwOk t
theorem aNF (x:Rul) (hx:RulOk x) (r:Nat) (vi v0:A) (LS:List (List Wd)) (s:St) (KV Kp:St→A→Prop) (hw:WfS s r vi v0 LS [])
    (hl:10+fS rI x.parts+fS rN x.new+fS (λ_=>4) x.drop+8 * dL x.cond<=4294967296)(hl2:LS.length+1<=4294967296)
    (hk:∀s' vi',WfS s' r vi' .nils (LS++[rL x]) []->Frm s s'->KV s' (.tuple [])):Den cx 184 [.ptr r 0,.agg x.cs] KV Kp s:=by
  have fin:∀{s1 v1 c} {KV' Kp':St->A->Prop} (hs:Stp r v0 v1 s s1) (hw1:WrS s1 r vi v1 c),c.length+1<=4294967296->(∀s' vi',WfS s' r vi' .nils (LS++[aL c [46]]) []->Frm s s'->KV' s' (.tuple []))->Den cx 178 [.ptr r 0] KV' Kp' s1:=by
    intro s1 v1 c KV' Kp' hs hw1 hc hk';exact qE r vi v1 LS c s1 KV' Kp' (hw.step hs hw1) hc hl2 (λs2 v2 hw2 hf2=>hk' _ _ hw2 ((hs.frm hw.w).trans hf2))
  have lp:=aC8 rI x.parts;have ln:=aC8 rN x.new;have ld:=aC8 (λ_=>4) x.drop;(refine aO func184 [0,1,2,3,4,5,7,9,11,13,21,22,23,24,36,50,51,52,53,65,66,67,68,87,88,89,90] ?_;simp only[go_sem,ntmps184,f184]);(intro p hp;try simp only[aI,ne_eq]at hp);simp only[go_sem,hp];(intro q hq;try simp only[aI,ne_eq]at hq);simp only[go_sem,hp,hq];have gp0:((s.setO p (.cells 110 [.ptr r 0])).setO q (.cells 84 x.cs)).getO p=some (.cells 110 [.ptr r 0]):=by simp only[aJ,hq.1.1,hq.1.2,if_false,if_true]
  have gq0:((s.setO p (.cells 110 [.ptr r 0])).setO q (.cells 84 x.cs)).getO q=some (.cells 84 x.cs):=by simp only[aJ,if_true]
  have hnq:(s.setO p (.cells 110 [.ptr r 0])).getO q=none:=by simp only[aJ,hq.1.1,hq.1.2,if_false];exact hq.2
  have hw0:=(hw.w.new hp (.cells 110 [.ptr r 0])).new hnq (.cells 84 x.cs);have base:=(vL (r:=r) (v:=v0) hp (.cells 110 [.ptr r 0])).trans (vL hnq (.cells 84 x.cs));refine dI [[114,117,108,101],x.name,[58]] r vi v0 _ _ _ _ hw0 (by(try simp only[bU,bX,aE,aF,aG,aH]);omega) (λs1 v1 hw1 hs1=>?_);have gp1:=hs1.keep hw0 gp0 aD aD;have gq1:=hs1.keep hw0 gq0 aD aD;simp only[go_sem,gp1,gq1];(intro c hc;try simp only[aI,ne_eq]at hc);have ncp:c≠p:=λe=>by rw[e,gp1]at hc;cases hc
  have ncq:c≠q:=λe=>by rw[e,gq1]at hc;cases hc
  simp only[go_sem,hc,gp1,gq1,ncp,ncq,ncp.symm,ncq.symm]
  have H0:RlS s r vi v0 p q c x (s1.setO c (.cells 3 [.int .i64 ((0:Nat):Int)])) v1 (bM [] [[114,117,108,101],x.name,[58]]) 0 :=
    ⟨hw1.new hc _,(base.trans hs1).trans (vL hc _),by simp only[aJ,ncp,if_false];exact gp1,by simp only[aJ,ncq,if_false];exact gq1,by simp only[aJ,if_true],(base.trans hs1).dom c hc⟩
  clear hw;obtain⟨c0,hc0⟩:∃d,d=bM [] [[114,117,108,101],x.name,[58]]:=⟨_,rfl⟩
  have hl0:c0.length=3:=by rw[hc0];rfl
  rw[<-hc0]at H0
  refine Ex.loop (ι:=Nat × (St × A)) (λk=>[(0,.ptr r 0),(2,.ptr p 0),(3,.ptr q 0),(4,.ptr c 0),(5,.fn 260 [] [.ptr c 0,.ptr p 0]),(21,.list none (x.parts.map Part.enc)),(22,.int .i64 (x.parts.length:Nat)),(23,.int .i64 (k.1:Nat))])
    (λk=>k.2.1) (λk=>k.1<=x.parts.length/\RlS s r vi v0 p q c x k.2.1 k.2.2 (gM lS 0 c0 (x.parts.take k.1)) k.1) (λk=>x.parts.length-k.1) (0,(s1.setO c (.cells 3 [.int .i64 ((0:Nat):Int)]),v1)) ⟨aU _,H0⟩ ?_ (aM _) ?_
  · (simp only[go_sem];try exact rfl)
  · rintro ⟨i,s2,v2⟩ ⟨hi,H⟩
    simp only at hi H;refine bG (V:=[0,1,2,3,4,5,7,9,11,13,21,22,23,24,36,50,51,52,53,65,66,67,68,87,88,89,90]) _ _ _ _ ?_;simp only[go_sem];(refine aQ (λh=>?_) (λh=>?_))<;>simp only[go_sem,h]
    · have hix:i<x.parts.length:=by simpa using h
      clear h;obtain⟨y,hy⟩:∃a,x.parts[i]?=some a:=⟨_,aY hix⟩
      have hym:y∈x.parts:=cM hy;have w1:=cF i aB;have hb1:=zL rI hy;have hb2:=xJ lS rI (λn x c=>aIs n x c) (x.parts.take i) 0 c0;have hb3:rI y=4+8 * y.left.cnt+8 * dL y.right:=rfl;have htk:=aEY lS hy 0 c0;simp only[go_sem,hy,hix];(intro b hb;try simp only[aI,ne_eq]at hb);simp only[go_sem,hy,hix,hb];have H:=H.new hb (.cells 86 y.cs);have gb2:(s2.setO b (.cells 86 y.cs)).getO b=some (.cells 86 y.cs):=by simp only[aJ,if_true]
      obtain⟨cb,hcb⟩:∃d,d=gM lS 0 c0 (x.parts.take i):=⟨_,rfl⟩
      rw[<-hcb]at H hb2 htk;refine aEU i aB c p r vi v2 _ _ _ _ H.gc H.gp H.w aB (λs3 v3 hw3 hs3 hgc hgp=>?_);have nbc:b≠c:=λe=>by have h1:=H.gc;rw[<-e,gb2]at h1;cases h1
      have gb3:=hs3.keep H.w gb2 aD aD;have gb2:(s3.setO c (.cells 3 [.int .i64 ((i+1:Nat):Int)])).getO b=some (.cells 86 y.cs):=by rw[aJ,if_neg (Ne.symm nbc)];exact gb3
      have H:=H.count hs3 hw3;obtain⟨s2,hs2⟩:∃d,d=s3.setO c (.cells 3 [.int .i64 ((i+1:Nat):Int)]):=⟨_,rfl⟩
      rw[<-hs2]at H gb2⊢;obtain⟨v2,hv2⟩:∃d,d=v3:=⟨_,rfl⟩
      rw[<-hv2]at H;obtain⟨c1,hc1⟩:∃d,d=iP i cb:=⟨_,rfl⟩
      have hl1:c1.length<=cb.length+1:=hc1▸zW i cb;rw[<-hc1]at H;simp only[go_sem,H.gp,H.gq,H.gc,gb2];refine dI [y.cell] r vi v2 _ _ _ _ H.w (by(try simp only[bU,bX,aE,aF,aG,aH]);omega) (λs2 v2 hw3 hs3=>?_);have gb2:=hs3.keep H.w gb2 aD aD;have H:=H.step hs3 hw3;simp only[go_sem,H.gp,H.gq,H.gc,gb2];cases a1:decide (y.at_=[])
      all_goals (simp only[go_sem,a1,H.gp,H.gq,H.gc,gb2])
      all_goals (
        first
        | (have e1:∀d,(if y.at_=[] then d else bM d [[64],y.at_])=d:=λd=>if_pos (by simpa using a1))
        | (
          have e1:∀d,(if y.at_=[] then d else bM d [[64],y.at_])=bM d [[64],y.at_]:=λd=>if_neg (by simpa using a1)
          refine dI [[64],y.at_] r vi v2 _ _ _ _ H.w (by(try simp only[bU,bX,aE,aF,aG,aH]);omega) (λs2 v2 hw3 hs3=>?_);have gb2:=hs3.keep H.w gb2 aD aD;have H:=H.step hs3 hw3;simp only[go_sem,H.gp,H.gq,H.gc,gb2]
          skip))
      all_goals (
        refine dI [[58]] r vi v2 _ _ _ _ H.w (by(try simp only[bU,bX,aE,aF,aG,aH]);omega) (λs2 v2 hw3 hs3=>?_);have gb2:=hs3.keep H.w gb2 aD aD;have H:=H.step hs3 hw3;simp only[go_sem,H.gp,H.gq,H.gc,gb2];refine hx.left y hym r vi v2 _ _ _ _ H.w (by(try simp only[bU,bX,aE,aF]);omega) (λs2 v2 hw3 hs3=>?_);have gb2:=hs3.keep H.w gb2 aD aD;have H:=H.step hs3 hw3;have htl:=aGx hw3;simp only[bU,bX,aE,aF]at htl;simp only[go_sem,H.gp,H.gq,H.gc,gb2]
        have H2:∃c2,RlS s r vi v0 p q c x s2 v2 c2 (i+1)/\c2.length<=cb.length+4+8 * y.left.cnt/\lS i cb y=jX c2 y.right:=by
          refine⟨_,H,by omega,?_⟩;unfold lS;rw[<-hc1];simp only[e1];rfl
        obtain⟨c2,H,hl2',hpw⟩:=H2
        refine Ex.loop (ι:=Nat × (St × A)) (λk=>[(0,.ptr r 0),(2,.ptr p 0),(3,.ptr q 0),(4,.ptr c 0),(5,.fn 260 [] [.ptr c 0,.ptr p 0]),(7,.ptr b 0),(21,.list none (x.parts.map Part.enc)),(22,.int .i64 (x.parts.length:Nat)),(23,.int .i64 (i:Nat)),(50,.list none (y.right.map Tm.enc)),(51,.int .i64 (y.right.length:Nat)),(52,.int .i64 (k.1:Nat))])
          (λk=>k.2.1) (λk=>k.1<=y.right.length/\RlS s r vi v0 p q c x k.2.1 k.2.2 (jX c2 (y.right.take k.1)) (i+1)) (λk=>y.right.length-k.1) (0,(s2,v2)) ⟨aU _,H⟩ ?_ (aM _) ?_
        · (simp only[go_sem];try exact rfl)
        · rintro⟨j,s2,v2⟩ ⟨hj,H⟩
          simp only at hj H;have lr:=xA y.right;refine bG (V:=[0,1,2,3,4,5,7,9,11,13,21,22,23,24,36,50,51,52,53,65,66,67,68,87,88,89,90]) _ _ _ _ ?_;simp only[go_sem];(refine aQ (λh=>?_) (λh=>?_))<;>simp only[go_sem,h]
          · have hjx:j<y.right.length:=by simpa using h
            clear h;obtain⟨z,hz⟩:∃a,y.right[j]?=some a:=⟨_,aY hjx⟩
            have w2:=cF j aB;have hz1:=aB5 hz;have hz2:=aFi (y.right.take j) c2;have hz3:=aNH hz c2;have hz4:=tT z;simp only[go_sem,hz,hjx];(intro d hd;try simp only[aI,ne_eq]at hd);simp only[go_sem,hz,hjx,hd];have H:=H.new hd (.cells 43 z.cs);have gd2:(s2.setO d (.cells 43 z.cs)).getO d=some (.cells 43 z.cs):=by simp only[aJ,if_true]
            have npd:d≠p:=λe=>by have h1:=H.gp;rw[<-e,gd2]at h1;cases h1
            simp only[go_sem,H.gp,gd2,npd,npd.symm,‹RlS s r vi v0 p q c x s2 v2 _ _›.gp];refine dI [[61,62]] r vi v2 _ _ _ _ H.w (by(try simp only[bU,bX,aE,aF,aG,aH]);omega) (λs2 v2 hw3 hs3=>?_);have gd2:=hs3.keep H.w gd2 aD aD;have H:=H.step hs3 hw3;simp only[go_sem,H.gp,H.gq,H.gc,gd2];refine hx.right y hym z (cM hz) r vi v2 _ _ _ _ H.w (by(try simp only[bU,bX,aE,aF]);omega) (λs2 v2 hw3 hs3=>?_);have H:=H.step hs3 hw3;simp only[go_sem];exact⟨(j+1,s2,v2),⟨hjx,by rw[hz3];exact H⟩,by simp only;omega,w2,aM _⟩
          · have hjj : j = y.right.length := by have : ¬ j < y.right.length := by simpa using h
                                                omega
            subst hjj;rw[List.take_length,<-hpw]at H;exact⟨(i+1,s2,v2),⟨hix,by rw[htk,gI];exact H⟩,by simp only;omega,w1,aM _⟩)
    · have hii : i = x.parts.length := by have : ¬ i < x.parts.length := by simpa using h
                                          omega
      subst hii;rw[List.take_length]at H;have hle1:=xJ lS rI (λn x c=>aIs n x c) x.parts 0 c0;obtain⟨d1,hd1⟩:∃d,d=gM lS 0 c0 x.parts:=⟨_,rfl⟩
      rw[<-hd1]at H hle1;simp only[go_sem,H.gq]
      refine Ex.loop (ι:=Nat × (St × A)) (λk=>[(0,.ptr r 0),(2,.ptr p 0),(3,.ptr q 0),(4,.ptr c 0),(5,.fn 260 [] [.ptr c 0,.ptr p 0]),(65,.list none (x.new.map Fresh.enc)),(66,.int .i64 (x.new.length:Nat)),(67,.int .i64 (k.1:Nat))])
        (λk=>k.2.1) (λk=>k.1<=x.new.length/\RlS s r vi v0 p q c x k.2.1 k.2.2 (gM lV x.parts.length d1 (x.new.take k.1)) (x.parts.length+k.1)) (λk=>x.new.length-k.1) (0,(s2,v2)) ⟨aU _,H⟩ ?_ (aM _) ?_
      · (simp only[go_sem];try exact rfl)
      · rintro ⟨i,s2,v2⟩ ⟨hi,H⟩
        simp only at hi H;refine bG (V:=[0,1,2,3,4,5,7,9,11,13,21,22,23,24,36,50,51,52,53,65,66,67,68,87,88,89,90]) _ _ _ _ ?_;simp only[go_sem];(refine aQ (λh=>?_) (λh=>?_))<;>simp only[go_sem,h]
        · have hix:i<x.new.length:=by simpa using h
          clear h;obtain⟨y,hy⟩:∃a,x.new[i]?=some a:=⟨_,aY hix⟩
          have hym:y∈x.new:=cM hy;have w1:=cF i aB;have hb1:=zL rN hy;have hb2:=xJ lV rN (λn x c=>aJF n x c) (x.new.take i) x.parts.length d1;have hb3:rN y=4+8 * dL y.cells:=rfl;have htk:=aEY lV hy x.parts.length d1;simp only[go_sem,hy,hix];(intro b hb;try simp only[aI,ne_eq]at hb);simp only[go_sem,hy,hix,hb];have H:=H.new hb (.cells 141 y.cs);have gb2:(s2.setO b (.cells 141 y.cs)).getO b=some (.cells 141 y.cs):=by simp only[aJ,if_true]
          obtain⟨cb,hcb⟩:∃d,d=gM lV x.parts.length d1 (x.new.take i):=⟨_,rfl⟩
          rw[<-hcb]at H hb2 htk;refine aEU (x.parts.length+i) aB c p r vi v2 _ _ _ _ H.gc H.gp H.w aB (λs3 v3 hw3 hs3 hgc hgp=>?_);have nbc:b≠c:=λe=>by have h1:=H.gc;rw[<-e,gb2]at h1;cases h1
          have gb3:=hs3.keep H.w gb2 aD aD;have gb2:(s3.setO c (.cells 3 [.int .i64 ((x.parts.length+i+1:Nat):Int)])).getO b=some (.cells 141 y.cs):=by rw[aJ,if_neg (Ne.symm nbc)];exact gb3
          have H:=H.count hs3 hw3;obtain⟨s2,hs2⟩:∃d,d=s3.setO c (.cells 3 [.int .i64 ((x.parts.length+i+1:Nat):Int)]):=⟨_,rfl⟩
          rw[<-hs2]at H gb2⊢;obtain⟨v2,hv2⟩:∃d,d=v3:=⟨_,rfl⟩
          rw[<-hv2]at H;obtain⟨c1,hc1⟩:∃d,d=iP (x.parts.length+i) cb:=⟨_,rfl⟩
          have hl1:c1.length<=cb.length+1:=hc1▸zW (x.parts.length+i) cb;rw[<-hc1]at H;simp only[go_sem,H.gp,H.gq,H.gc,gb2];refine dI [[110,101,119],[40]] r vi v2 _ _ _ _ H.w (by(try simp only[bU,bX,aE,aF,aG,aH]);omega) (λs2 v2 hw3 hs3=>?_);have gb2:=hs3.keep H.w gb2 aD aD;have H:=H.step hs3 hw3;simp only[go_sem,H.gp,H.gq,H.gc,gb2];have hkl:=xO y.cells false (bM c1 [[110,101,119],[40]]);rw[bU]at hkl;simp only[aE,aF]at hkl;refine aBN y.cells (hx.new y hym) r vi v2 _ _ _ _ H.w (by(try simp only[bU,bX,aE,aF]);omega) (λs2 v2 hw3 hs3=>?_);have H:=H.step hs3 hw3;simp only[go_sem,H.gp,H.gq,H.gc];refine dI [[41]] r vi v2 _ _ _ _ H.w (by(try simp only[bU,bX,aE,aF,aG,aH]);omega) (λs2 v2 hw3 hs3=>?_);have H:=H.step hs3 hw3;simp only[go_sem,H.gp,H.gq,H.gc]
          exact⟨(i+1,s2,v2),⟨hix,by
            have e:lV (x.parts.length+i) cb y=bM (gK false (bM c1 [[110,101,119],[40]]) y.cells) [[41]]:=by rw[lV,hc1,aAO];rfl
            rw[htk,e];exact H⟩,by simp only;omega,w1,aM _⟩
        · have hii : i = x.new.length := by have : ¬ i < x.new.length := by simpa using h
                                            omega
          subst hii;rw[List.take_length]at H;have hle2:=xJ lV rN (λn x c=>aJF n x c) x.new x.parts.length d1;obtain⟨d2,hd2⟩:∃d,d=gM lV x.parts.length d1 x.new:=⟨_,rfl⟩
          rw[<-hd2]at H hle2;simp only[go_sem,H.gq]
          refine Ex.loop (ι:=Nat × (St × A)) (λk=>[(0,.ptr r 0),(2,.ptr p 0),(3,.ptr q 0),(4,.ptr c 0),(5,.fn 260 [] [.ptr c 0,.ptr p 0]),(87,.list none (x.drop.map .str)),(88,.int .i64 (x.drop.length:Nat)),(89,.int .i64 (k.1:Nat))])
            (λk=>k.2.1) (λk=>k.1<=x.drop.length/\RlS s r vi v0 p q c x k.2.1 k.2.2 (gM lT (x.parts.length+x.new.length) d2 (x.drop.take k.1)) (x.parts.length+x.new.length+k.1)) (λk=>x.drop.length-k.1) (0,(s2,v2)) ⟨aU _,H⟩ ?_ (aM _) ?_
          · (simp only[go_sem];try exact rfl)
          · rintro⟨i,s2,v2⟩ ⟨hi,H⟩
            simp only at hi H;refine bG (V:=[0,1,2,3,4,5,7,9,11,13,21,22,23,24,36,50,51,52,53,65,66,67,68,87,88,89,90]) _ _ _ _ ?_;simp only[go_sem];(refine aQ (λh=>?_) (λh=>?_))<;>simp only[go_sem,h]
            · have hix:i<x.drop.length:=by simpa using h
              clear h;obtain⟨y,hy⟩:∃a,x.drop[i]?=some a:=⟨_,aY hix⟩
              have w1:=cF i aB;have hb1:=zL (λ_=>4) hy;have hb2:=xJ lT (λ_=>4) (λn x c=>aH5 n x c) (x.drop.take i) (x.parts.length+x.new.length) d2;have htk:=aEY lT hy (x.parts.length+x.new.length) d2;simp only[go_sem,hy,hix];obtain⟨cb,hcb⟩:∃d,d=gM lT (x.parts.length+x.new.length) d2 (x.drop.take i):=⟨_,rfl⟩
              rw[<-hcb]at H hb2 htk;refine aEU (x.parts.length+x.new.length+i) aB c p r vi v2 _ _ _ _ H.gc H.gp H.w aB (λs3 v3 hw3 hs3 hgc hgp=>?_);have H:=H.count hs3 hw3;obtain⟨s2,hs2⟩:∃d,d=s3.setO c (.cells 3 [.int .i64 ((x.parts.length+x.new.length+i+1:Nat):Int)]):=⟨_,rfl⟩
              rw[<-hs2]at H⊢;obtain⟨v2,hv2⟩:∃d,d=v3:=⟨_,rfl⟩
              rw[<-hv2]at H;obtain⟨c1,hc1⟩:∃d,d=iP (x.parts.length+x.new.length+i) cb:=⟨_,rfl⟩
              have hl1:c1.length<=cb.length+1:=hc1▸zW (x.parts.length+x.new.length+i) cb;rw[<-hc1]at H;simp only[go_sem,H.gp,H.gq,H.gc];refine dI [[100,114,111,112],[64],y] r vi v2 _ _ _ _ H.w (by(try simp only[bU,bX,aE,aF,aG,aH]);omega) (λs2 v2 hw3 hs3=>?_);have H:=H.step hs3 hw3;simp only[go_sem,H.gp,H.gq,H.gc]
              exact⟨(i+1,s2,v2),⟨hix,by
                have e:lT (x.parts.length+x.new.length+i) cb y=bM c1 [[100,114,111,112],[64],y]:=by rw[lT,hc1]
                rw[htk,e];exact H⟩,by simp only;omega,w1,aM _⟩
            · have hii : i = x.drop.length := by have : ¬ i < x.drop.length := by simpa using h
                                                 omega
              subst hii;rw[List.take_length]at H;have hle3:=xJ lT (λ_=>4) (λn x c=>aH5 n x c) x.drop (x.parts.length+x.new.length) d2;obtain⟨d3,hd3⟩:∃d,d=gM lT (x.parts.length+x.new.length) d2 x.drop:=⟨_,rfl⟩
              rw[<-hd3]at H hle3;simp only[go_sem,H.gp,H.gq];refine aHj x.cond hx.cond r vi v2 _ _ _ _ H.w aB (λs2 v2 hw3 hs3=>?_);have H:=H.step hs3 hw3
              have hcl:(qI d3 x.cond).length<=d3.length+1+8 * dL x.cond:=by
                unfold qI;split
                · omega
                · have:=xO x.cond false (aL d3 [105,102])
                  rw[aAO,bX]at this;omega
              simp only[go_sem,H.gp];refine fin H.t H.w aB (λs' vi' hW hF=>?_);simp only[go_sem];exact aN (hk _ _ (by rw[rL];simp only[<-hc0,<-hd1,<-hd2,<-hd3];exact hW) hF)
structure ItS (s0:St) (r q:Nat) (e:TypeId) (cs:List A) (s:St) (vi:A) (LS:List (List Wd)):Prop where
 w:WfS s r vi .nils LS []
 f:Frm s0 s
 g:s.getO q=some (.cells e cs)
 ne:lY (.cells e cs)
theorem ItS.next{s0:St}{r q:Nat}{e:TypeId}{cs:List A}{s s':St}{vi vi':A}{LS LS':List (List Wd)}(h:ItS s0 r q e cs s vi LS)(hw:WfS s' r vi' .nils LS' [])(hf:Frm s s'):ItS s0 r q e cs s' vi' LS' :=
 ⟨hw,h.f.trans hf,hf.ob _ _ h.g h.ne,h.ne⟩
theorem WfS.new{s:St}{r:Nat}{vi v:A}{LS:List (List Wd)}{cur:List Wd}(h:WfS s r vi v LS cur){b:Nat}(hb:s.getO b=none)(o:Ob):WfS (s.setO b o) r vi v LS cur:=h.step (vL hb o) (h.w.new hb o)
theorem ItS.new{s0:St}{r q:Nat}{e:TypeId}{cs:List A}{s:St}{vi:A}{LS:List (List Wd)}(h:ItS s0 r q e cs s vi LS){b:Nat}(hb:s.getO b=none)(o:Ob):ItS s0 r q e cs (s.setO b o) vi LS :=
 h.next (h.w.new hb o) ((vL (r:=r) (v:=A.nils) hb o).frm h.w.w)
theorem ItS.t0{s0:St}{r q:Nat}{e:TypeId}{cs:List A}{s:St}{vi:A}{LS:List (List Wd)}(_:ItS s0 r q e cs s vi LS):Stp r A.nils A.nils s s:=Stp.refl r A.nils s
theorem ItS.eq{s0:St}{r q:Nat}{e:TypeId}{cs:List A}{s:St}{vi:A}{LS LS':List (List Wd)}(h:ItS s0 r q e cs s vi LS)(he:LS=LS'):ItS s0 r q e cs s vi LS':=he▸h
structure OprOk (o:Opr):Prop where
 hst:∀n,n∈o.strict->-9223372036854775808<=n/\n<=9223372036854775807
 hpr:o.prec<=9223372036854775807
 hpc:∀p,p∈o.pieces->p.text.length<=4294967296
 hl:o.pieces.length+o.args.length+2 * o.strict.length+20<=4294967296
structure SigOk (s:Sig):Prop where
 sorts:s.sorts.length<=1073741824
 values:s.values.length<=1073741824
 ops:∀o,o∈s.ops->OprOk o
 funs:∀o,o∈s.funs->o.args.length<=1073741824
def aGl(x:Below):List Wd:=aL (bM [] [[115,117,98,115,111,114,116],x.low,[60],x.high]) [46]
theorem aB6(k:aC)(l:List aC):(nP k l).length<=1:=by unfold nP;split<;>simp
theorem aHy(l:List aC)(b:Bool)(c:List Wd):(eE aL b c l).length<=c.length+2 * l.length:=by
 have:=wT aL (λ_=>1) (λx c=>by rw[bX];exact bT _) l b c
 rwa[aCQ]at this
theorem aOm(x:Sig)(hx:SigOk x)(r:Nat)(vi:A)(LS:List (List Wd))(s:St)(KV Kp:St->A->Prop)(hw:WfS s r vi .nils LS [])(hl:LS.length+10+x.below.length+x.ops.length+x.funs.length<=4294967296)
    (hk:∀s' vi',WfS s' r vi' .nils (LS++uE x) []->Frm s s'->KV s' (.tuple [])):Den cx 179 [.ptr r 0,.agg x.cs] KV Kp s:=by
  have hx1:=hx.sorts;have hx2:=hx.values;(refine aO func179 [0,1,3,5,7,9,13,24,25,26,27,43,54,55,56,57,65,66,67,68] ?_;simp only[go_sem,ntmps179,f179]);(intro q hq;try simp only[aI,ne_eq]at hq);have H:ItS s r q 28 x.cs (s.setO q (.cells 28 x.cs)) vi LS:=⟨hw.new hq _,(vL (r:=r) (v:=A.nils) hq _).frm hw.w,by rw[aJ,if_pos rfl],by simp only[lY];decide⟩;simp only[go_sem,hq];clear hw;have ds:decide ((0:Int)<(x.sorts.length:Int))=decide (0<x.sorts.length):=by rw[gG];omega
  have dv:decide ((0:Int)<(x.values.length:Int))=decide (0<x.values.length):=by rw[gG];omega
  have hcm1:=λc=>aHy x.sorts false c
  have hcm2:=λc=>aHy x.values false c
  have LSs:∃L,L=LS++nP [115,111,114,116] x.sorts:=⟨_,rfl⟩
  obtain⟨L1,hL1⟩:=LSs;have hL1n:L1.length<=LS.length+1:=by rw[hL1,aG];have:=aB6 [115,111,114,116] x.sorts;omega
  cases p1:decide (0<x.sorts.length)
  all_goals (simp only[go_sem,ds,p1,H.g])
  any_goals (
    have p1':0<x.sorts.length:=by simpa using p1
    have t:=H.t0;have w:=H.w.w;have gq2:=H.g;refine dI [[115,111,114,116]] r vi _ _ _ _ _ w (by(try simp only[bU,bX,aE,aF,aG,aH,bK]);omega) (λs2 v2 hw3 hs3=>?_);have gq2:=hs3.keep w gq2 aD aD;have t:=t.trans hs3;have w:=hw3;simp only[go_sem,gq2];refine aG9 x.sorts r vi _ _ _ _ _ w (by(try simp only[bU,bX,aE,aF,aG,aH,bK]);omega) (λs2 v2 hw3 hs3=>?_);have gq2:=hs3.keep w gq2 aD aD;have t:=t.trans hs3;have w:=hw3;simp only[go_sem,gq2];have hcm:=hcm1 (bM [] [[115,111,114,116]]);simp only[bU,aE,aF]at hcm;refine qE r vi _ _ _ _ _ _ (H.w.step t w) (by(try simp only[bU,bX,aE,aF,aG,aH,bK]);omega) (by(try simp only[bU,bX,aE,aF,aG,aH,bK]);omega) (λs1 vi hW hF=>?_);have H:=H.next hW ((t.frm H.w.w).trans hF);simp only[go_sem,H.g];have H:=H.eq (LS':=L1) (by rw[hL1,nP,if_neg (λe=>by rw[e]at p1';cases p1')];rfl)
    skip)
  all_goals (
    first
    | (have H:ItS _ _ _ _ _ _ _ L1:=H)
    | (have H:=H.eq (LS':=L1) (by rw[hL1,nP,if_pos (fK (by simpa using p1)),eM]))
    refine Ex.loop (ι:=Nat × (St × A)) (λk=>[(0,.ptr r 0),(3,.ptr q 0),(24,.list none (x.below.map Below.enc)),(25,.int .i64 (x.below.length:Nat)),(26,.int .i64 (k.1:Nat))])
      (λk=>k.2.1) (λk=>k.1<=x.below.length/\ItS s r q 28 x.cs k.2.1 k.2.2 (L1++(x.below.take k.1).map aGl)) (λk=>x.below.length-k.1) (0,(_,vi)) ⟨aU _,H.eq bD⟩ ?_ (aM _) ?_
    · (simp only[go_sem];try exact rfl)
    · rintro ⟨i,s1,vi⟩ ⟨hi,H⟩
      simp only at hi H;refine bG (V:=[0,1,3,5,7,9,13,24,25,26,27,43,54,55,56,57,65,66,67,68]) _ _ _ _ ?_;simp only[go_sem];(refine aQ (λh=>?_) (λh=>?_))<;>simp only[go_sem,h]
      · have hix:i<x.below.length:=by simpa using h
        clear h;obtain⟨y,hy⟩:∃a,x.below[i]?=some a:=⟨_,aY hix⟩
        have w1:=cF i aB;have htk:=wK aGl hy;simp only[go_sem,hy,hix];(intro b hb;try simp only[aI,ne_eq]at hb);simp only[go_sem,hy,hix,hb];have H:=H.new hb (.cells 104 y.cs);have t:=H.t0;have w:=H.w.w;have gq2:=H.g;refine dI [[115,117,98,115,111,114,116],y.low,[60],y.high] r vi _ _ _ _ _ w (by(try simp only[bU,bX,aE,aF,aG,aH,bK]);omega) (λs2 v2 hw3 hs3=>?_);have gq2:=hs3.keep w gq2 aD aD;have t:=t.trans hs3;have w:=hw3;simp only[go_sem,gq2];refine qE r vi _ _ _ _ _ _ (H.w.step t w) (by(try simp only[bU,bX,aE,aF,aG,aH,bK]);omega) (by(try simp only[bU,bX,aE,aF,aG,aH,bK]);omega) (λs1 vi hW hF=>?_);have H:=H.next hW ((t.frm H.w.w).trans hF);simp only[go_sem,H.g];exact⟨(i+1,s1,vi),⟨hix,H.eq (by rw[htk,bI];rfl)⟩,by simp only;omega,w1,aM _⟩
      · have hii : i = x.below.length := by have : ¬ i < x.below.length := by simpa using h
                                            omega
        subst hii;rw[List.take_length]at H;simp only[go_sem,H.g];obtain⟨L2,hL2⟩:∃L,L=L1++x.below.map aGl:=⟨_,rfl⟩
        have hL2n:L2.length<=LS.length+1+x.below.length:=by rw[hL2,aG,aH];omega
        obtain⟨L3,hL3⟩:∃L,L=L2++nP [118,97,108,117,101] x.values:=⟨_,rfl⟩
        have hL3n:L3.length<=L2.length+1:=by rw[hL3,aG];have:=aB6 [118,97,108,117,101] x.values;omega
        rw[<-hL2]at H;clear h;cases p2:decide (0<x.values.length)
        all_goals (simp only[go_sem,dv,p2,H.g])
        any_goals (
          have p2':0<x.values.length:=by simpa using p2
          have t:=H.t0;have w:=H.w.w;have gq2:=H.g;refine dI [[118,97,108,117,101]] r vi _ _ _ _ _ w (by(try simp only[bU,bX,aE,aF,aG,aH,bK]);omega) (λs2 v2 hw3 hs3=>?_);have gq2:=hs3.keep w gq2 aD aD;have t:=t.trans hs3;have w:=hw3;simp only[go_sem,gq2];refine aG9 x.values r vi _ _ _ _ _ w (by(try simp only[bU,bX,aE,aF,aG,aH,bK]);omega) (λs2 v2 hw3 hs3=>?_);have gq2:=hs3.keep w gq2 aD aD;have t:=t.trans hs3;have w:=hw3;simp only[go_sem,gq2];have hcm:=hcm2 (bM [] [[118,97,108,117,101]]);simp only[bU,aE,aF]at hcm;refine qE r vi _ _ _ _ _ _ (H.w.step t w) (by(try simp only[bU,bX,aE,aF,aG,aH,bK]);omega) (by(try simp only[bU,bX,aE,aF,aG,aH,bK]);omega) (λs1 vi hW hF=>?_);have H:=H.next hW ((t.frm H.w.w).trans hF);simp only[go_sem,H.g];have H:=H.eq (LS':=L3) (by rw[hL3,nP,if_neg (λe=>by rw[e]at p2';cases p2')];rfl)
          skip)
        all_goals (
          first
          | (have H:ItS _ _ _ _ _ _ _ L3:=H)
          | (have H:=H.eq (LS':=L3) (by rw[hL3,nP,if_pos (fK (by simpa using p2)),eM]))
          refine Ex.loop (ι:=Nat × (St × A)) (λk=>[(0,.ptr r 0),(3,.ptr q 0),(54,.list none (x.ops.map Opr.enc)),(55,.int .i64 (x.ops.length:Nat)),(56,.int .i64 (k.1:Nat))])
            (λk=>k.2.1) (λk=>k.1<=x.ops.length/\ItS s r q 28 x.cs k.2.1 k.2.2 (L3++(x.ops.take k.1).map qT)) (λk=>x.ops.length-k.1) (0,(_,vi)) ⟨aU _,H.eq bD⟩ ?_ (aM _) ?_
          · (simp only[go_sem];try exact rfl)
          · rintro⟨i,s1,vi⟩ ⟨hi,H⟩
            simp only at hi H;refine bG (V:=[0,1,3,5,7,9,13,24,25,26,27,43,54,55,56,57,65,66,67,68]) _ _ _ _ ?_;simp only[go_sem];(refine aQ (λh=>?_) (λh=>?_))<;>simp only[go_sem,h]
            · have hix:i<x.ops.length:=by simpa using h
              clear h;obtain⟨y,hy⟩:∃a,x.ops[i]?=some a:=⟨_,aY hix⟩
              have hyk:=hx.ops y (cM hy);have w1:=cF i aB;have htk:=wK qT hy;simp only[go_sem,hy,hix];(intro b hb;try simp only[aI,ne_eq]at hb);simp only[go_sem,hy,hix,hb];have H:=H.new hb (.cells 73 y.cs);refine aO6 y hyk.hst hyk.hpr hyk.hpc r vi _ _ _ _ _ H.w hyk.hl (by simp only[aG,aH,bK];omega) (λs1 vi hW hF=>?_);have H:=H.next hW hF;simp only[go_sem];exact⟨(i+1,s1,vi),⟨hix,H.eq (by rw[htk,bI])⟩,by simp only;omega,w1,aM _⟩
            · have hii : i = x.ops.length := by have : ¬ i < x.ops.length := by simpa using h
                                                omega
              subst hii;rw[List.take_length]at H;simp only[go_sem,H.g];obtain⟨L4,hL4⟩:∃L,L=L3++x.ops.map qT:=⟨_,rfl⟩
              have hL4n:L4.length<=L3.length+x.ops.length:=by rw[hL4,aG,aH];omega
              rw[<-hL4]at H;clear h
              refine Ex.loop (ι:=Nat × (St × A)) (λk=>[(0,.ptr r 0),(3,.ptr q 0),(65,.list none (x.funs.map Opr.enc)),(66,.int .i64 (x.funs.length:Nat)),(67,.int .i64 (k.1:Nat))])
                (λk=>k.2.1) (λk=>k.1<=x.funs.length/\ItS s r q 28 x.cs k.2.1 k.2.2 (L4++(x.funs.take k.1).map uJ)) (λk=>x.funs.length-k.1) (0,(_,vi)) ⟨aU _,H.eq bD⟩ ?_ (aM _) ?_
              · (simp only[go_sem];try exact rfl)
              · rintro⟨i,s1,vi⟩ ⟨hi,H⟩
                simp only at hi H;refine bG (V:=[0,1,3,5,7,9,13,24,25,26,27,43,54,55,56,57,65,66,67,68]) _ _ _ _ ?_;simp only[go_sem];(refine aQ (λh=>?_) (λh=>?_))<;>simp only[go_sem,h]
                · have hix:i<x.funs.length:=by simpa using h
                  clear h;obtain⟨y,hy⟩:∃a,x.funs[i]?=some a:=⟨_,aY hix⟩
                  have hyk:=hx.funs y (cM hy);have w1:=cF i aB;have htk:=wK uJ hy;simp only[go_sem,hy,hix];(intro b hb;try simp only[aI,ne_eq]at hb);simp only[go_sem,hy,hix,hb];have H:=H.new hb (.cells 73 y.cs);have gb2:(s1.setO b (.cells 73 y.cs)).getO b=some (.cells 73 y.cs):=by rw[aJ,if_pos rfl]
                  have t:=H.t0;have w:=H.w.w;have gq2:=H.g;refine dI [[102,117,110],y.name,[58]] r vi _ _ _ _ _ w (by(try simp only[bU,bX,aE,aF,aG,aH,bK]);omega) (λs2 v2 hw3 hs3=>?_);have gq2:=hs3.keep w gq2 aD aD;have gb2:=hs3.keep w gb2 aD aD;have t:=t.trans hs3;have w:=hw3;simp only[go_sem,gq2,gb2];refine dI y.args r vi _ _ _ _ _ w (by(try simp only[bU,bX,aE,aF,aG,aH,bK]);omega) (λs2 v2 hw3 hs3=>?_);have gq2:=hs3.keep w gq2 aD aD;have gb2:=hs3.keep w gb2 aD aD;have t:=t.trans hs3;have w:=hw3;simp only[go_sem,gq2,gb2];refine dI [[45,62],y.sort] r vi _ _ _ _ _ w (by(try simp only[bU,bX,aE,aF,aG,aH,bK]);omega) (λs2 v2 hw3 hs3=>?_);have gq2:=hs3.keep w gq2 aD aD;have gb2:=hs3.keep w gb2 aD aD;have t:=t.trans hs3;have w:=hw3;simp only[go_sem,gq2,gb2];refine qE r vi _ _ _ _ _ _ (H.w.step t w) (by(try simp only[bU,bX,aE,aF,aG,aH,bK]);omega) (by(try simp only[bU,bX,aE,aF,aG,aH,bK]);omega) (λs1 vi hW hF=>?_);have H:=H.next hW ((t.frm H.w.w).trans hF);simp only[go_sem,H.g];exact⟨(i+1,s1,vi),⟨hix,H.eq (by rw[htk,bI];rfl)⟩,by simp only;omega,w1,aM _⟩
                · have hii : i = x.funs.length := by have : ¬ i < x.funs.length := by simpa using h
                                                     omega
                  subst hii;rw[List.take_length]at H;exact aN (hk _ _ (H.eq (by rw[hL4,hL3,hL2,hL1,uE];simp only[bI];rfl)).w H.f)))
structure EqnOk (e:Eqn):Prop where
 left:TwOk e.left
 right:TwOk e.right
 cond:∀t,t∈e.cond->TwOk t
 bd:10+8 * e.left.cnt+8 * e.right.cnt+8 * dL e.cond<=4294967296
structure CelOk (c:Cel):Prop where
 init:TwOk c.init
 bd:20+8 * c.init.cnt<=4294967296
structure RulOk2 (x:Rul):Prop where
 ok:RulOk x
 bd:10+fS rI x.parts+fS rN x.new+fS (λ_=>4) x.drop+8 * dL x.cond<=4294967296
structure DfnOk (d:Dfn):Prop where
 sig:SigOk d.sig
 eqs:∀e,e∈d.eqs->EqnOk e
 once:∀c,c∈d.once->CelOk c
 many:∀c,c∈d.many->CelOk c
 manyB:20+fS rK d.many<=4294967296
 rules:∀x,x∈d.rules->RulOk2 x
 len:100+d.sig.below.length+d.sig.ops.length+d.sig.funs.length+d.eqs.length+d.once.length+d.rules.length<=4294967296
theorem aPr(c:List Wd)(l:List Tm):(qI c l).length<=c.length+1+8 * dL l:=by
 unfold qI;split
 .omega
 .have:=xO l false (aL c [105,102]);rw[aAO,bX]at this;omega
theorem aQf(x:Sig):(uE x).length<=2+x.below.length+x.ops.length+x.funs.length:=by
 have h1:=aB6 [115,111,114,116] x.sorts;have h2:=aB6 [118,97,108,117,101] x.values;simp only[uE,aG,aH];omega
theorem aE1(k y:aC):(mY k y).length<=1:=by unfold mY;split<;>simp
def rP(x:Dfn):Nat->List (List Wd)
 | 0=>[]
 | 1=>mY [115,116,97,114,116] x.start
 | _=>mY [115,116,97,114,116] x.start++mY [119,97,116,99,104] x.watch
theorem aQR(x:Dfn):∀i,(rP x i).length<=2
 | 0=>by simp[rP]
 | 1=>nM (aE1 _ _) aB
 | i+2=>by
  have a:=aE1 [115,116,97,114,116] x.start;have b:=aE1 [119,97,116,99,104] x.watch;simp only[rP,aG];omega
theorem aOB(x : Dfn)(hx : DfnOk x)(r : Nat)(s : St)(KV Kp : St -> A -> Prop)(hw : WfS s r .nils .nils [] [])
    (hk:∀s' vi',WfS s' r vi' .nils (fI x) []->Frm s s'->KV s' (.tuple [])):Den cx 100 [.ptr r 0,.agg x.cs] KV Kp s:=by
  have hlen:=hx.len;(refine aO func100 [0,1,3,5,7,9,10,12,25,26,27,28,53,54,55,56,70,87,88,89,90,96,100,110,111,112,113] ?_;simp only[go_sem,ntmps100,f100]);(intro q hq;try simp only[aI,ne_eq]at hq);have H:ItS s r q 33 x.cs (s.setO q (.cells 33 x.cs)) .nils []:=⟨hw.new hq _,(vL (r:=r) (v:=A.nils) hq _).frm hw.w,by rw[aJ,if_pos rfl],by simp only[lY];decide⟩;simp only[go_sem,hq];clear hw;obtain⟨vi,hvi⟩:∃v,v=A.nils:=⟨_,rfl⟩
  rw[<-hvi]at H;have t:=H.t0;have w:=H.w.w;have gq2:=H.g;refine dI [[108,97,110,103,117,97,103,101],x.name] r vi _ _ _ _ _ w (by(try simp only[bU,bX,aE,aF,aG,aH,bK]);omega) (λs2 v2 hw3 hs3=>?_);have gq2:=hs3.keep w gq2 aD aD;have t:=t.trans hs3;have w:=hw3;simp only[go_sem,gq2];refine qE r vi _ _ _ _ _ _ (H.w.step t w) (by(try simp only[bU,bX,aE,aF,aG,aH,bK]);omega) (by(try simp only[bU,bX,aE,aF,aG,aH,bK]);omega) (λs1 vi hW hF=>?_);have H:=H.next hW ((t.frm H.w.w).trans hF);simp only[go_sem,H.g];obtain⟨L0,hL0⟩:∃L,L=[aL (bM [] [[108,97,110,103,117,97,103,101],x.name]) [46]]:=⟨_,rfl⟩
  have hL0n:L0.length=1:=by rw[hL0];rfl
  have H:=H.eq (LS':=L0) (by rw[hL0];rfl);refine aOm x.sig hx.sig r vi _ _ _ _ H.w aB (λs1 vi hW hF=>?_);have H:=H.next hW hF;simp only[go_sem,H.g];obtain⟨L1,hL1⟩:∃L,L=L0++uE x.sig:=⟨_,rfl⟩
  have hL1n:L1.length<=3+x.sig.below.length+x.sig.ops.length+x.sig.funs.length:=by rw[hL1,aG];have:=aQf x.sig;omega
  rw[<-hL1]at H
  refine Ex.loop (ι:=Nat × (St × A)) (λk=>[(0,.ptr r 0),(3,.ptr q 0),(25,.list none (x.eqs.map Eqn.enc)),(26,.int .i64 (x.eqs.length:Nat)),(27,.int .i64 (k.1:Nat))])
    (λk=>k.2.1) (λk=>k.1<=x.eqs.length/\ItS s r q 33 x.cs k.2.1 k.2.2 (L1++(x.eqs.take k.1).map sR)) (λk=>x.eqs.length-k.1) (0,(_,vi)) ⟨aU _,H.eq bD⟩ ?_ (aM _) ?_
  · (simp only[go_sem];try exact rfl)
  · rintro ⟨i,s1,vi⟩ ⟨hi,H⟩
    simp only at hi H;refine bG (V:=[0,1,3,5,7,9,10,12,25,26,27,28,53,54,55,56,70,87,88,89,90,96,100,110,111,112,113]) _ _ _ _ ?_;simp only[go_sem];(refine aQ (λh=>?_) (λh=>?_))<;>simp only[go_sem,h]
    · have hix:i<x.eqs.length:=by simpa using h
      clear h;obtain⟨y,hy⟩:∃a,x.eqs[i]?=some a:=⟨_,aY hix⟩
      have hyk:=hx.eqs y (cM hy);have hyb:=hyk.bd;have w1:=cF i aB;have htk:=wK sR hy;simp only[go_sem,hy,hix];(intro b hb;try simp only[aI,ne_eq]at hb);simp only[go_sem,hy,hix,hb];have H:=H.new hb (.cells 80 y.cs);have gb2:(s1.setO b (.cells 80 y.cs)).getO b=some (.cells 80 y.cs):=by rw[aJ,if_pos rfl]
      have t:=H.t0;have w:=H.w.w;have gq2:=H.g;refine dI [[108,101,116]] r vi _ _ _ _ _ w (by(try simp only[bU,bX,aE,aF,aG,aH,bK]);omega) (λs2 v2 hw3 hs3=>?_);have gq2:=hs3.keep w gq2 aD aD;have gb2:=hs3.keep w gb2 aD aD;have t:=t.trans hs3;have w:=hw3;simp only[go_sem,gq2,gb2];refine hyk.left r vi _ _ _ _ _ w (by(try simp only[bU,bX,aE,aF,aG,aH,bK]);omega) (λs2 v2 hw3 hs3=>?_);have gq2:=hs3.keep w gq2 aD aD;have gb2:=hs3.keep w gb2 aD aD;have t:=t.trans hs3;have w:=hw3;simp only[go_sem,gq2,gb2];have h1:=aGx hw3;simp only[bU,aE,aF]at h1;refine dI [[61]] r vi _ _ _ _ _ w (by(try simp only[bU,bX,aE,aF,aG,aH,bK]);omega) (λs2 v2 hw3 hs3=>?_);have gq2:=hs3.keep w gq2 aD aD;have gb2:=hs3.keep w gb2 aD aD;have t:=t.trans hs3;have w:=hw3;simp only[go_sem,gq2,gb2];refine hyk.right r vi _ _ _ _ _ w (by(try simp only[bU,bX,aE,aF,aG,aH,bK]);omega) (λs2 v2 hw3 hs3=>?_);have gq2:=hs3.keep w gq2 aD aD;have gb2:=hs3.keep w gb2 aD aD;have t:=t.trans hs3;have w:=hw3;simp only[go_sem,gq2,gb2];have h2:=aGx hw3;simp only[bU,aE,aF]at h2;refine aHj y.cond hyk.cond r vi _ _ _ _ _ w (by(try simp only[bU,bX,aE,aF,aG,aH,bK]);omega) (λs2 v2 hw3 hs3=>?_);have gq2:=hs3.keep w gq2 aD aD;have gb2:=hs3.keep w gb2 aD aD;have t:=t.trans hs3;have w:=hw3;simp only[go_sem,gq2,gb2];have h3:=aPr (cI (bM (cI (bM [] [[108,101,116]]) y.left) [[61]]) y.right) y.cond;refine qE r vi _ _ _ _ _ _ (H.w.step t w) (by(try simp only[bU,bX,aE,aF,aG,aH,bK]);omega) (by(try simp only[bU,bX,aE,aF,aG,aH,bK]);omega) (λs1 vi hW hF=>?_);have H:=H.next hW ((t.frm H.w.w).trans hF);simp only[go_sem,H.g];exact⟨(i+1,s1,vi),⟨hix,H.eq (by rw[htk,bI];rfl)⟩,by simp only;omega,w1,aM _⟩
    · have hii : i = x.eqs.length := by have : ¬ i < x.eqs.length := by simpa using h
                                        omega
      subst hii;rw[List.take_length]at H;simp only[go_sem,H.g];obtain⟨L2,hL2⟩:∃L,L=L1++x.eqs.map sR:=⟨_,rfl⟩
      have hL2n:L2.length<=L1.length+x.eqs.length:=by rw[hL2,aG,aH];omega
      rw[<-hL2]at H;clear h
      refine Ex.loop (ι:=Nat × (St × A)) (λk=>[(0,.ptr r 0),(3,.ptr q 0),(53,.list none (x.once.map Cel.enc)),(54,.int .i64 (x.once.length:Nat)),(55,.int .i64 (k.1:Nat))])
        (λk=>k.2.1) (λk=>k.1<=x.once.length/\ItS s r q 33 x.cs k.2.1 k.2.2 (L2++(x.once.take k.1).map (λc=>aL (jF (aL [] [99,101,108,108]) c) [46]))) (λk=>x.once.length-k.1) (0,(_,vi)) ⟨aU _,H.eq bD⟩ ?_ (aM _) ?_
      · (simp only[go_sem];try exact rfl)
      · rintro ⟨i,s1,vi⟩ ⟨hi,H⟩
        simp only at hi H;refine bG (V:=[0,1,3,5,7,9,10,12,25,26,27,28,53,54,55,56,70,87,88,89,90,96,100,110,111,112,113]) _ _ _ _ ?_;simp only[go_sem];(refine aQ (λh=>?_) (λh=>?_))<;>simp only[go_sem,h]
        · have hix:i<x.once.length:=by simpa using h
          clear h;obtain⟨y,hy⟩:∃a,x.once[i]?=some a:=⟨_,aY hix⟩
          have hyk:=hx.once y (cM hy);have hyb:=hyk.bd;have w1:=cF i aB;have htk:=wK (λc=>aL (jF (aL [] [99,101,108,108]) c) [46]) hy;simp only[go_sem,hy,hix];(intro b hb;try simp only[aI,ne_eq]at hb);simp only[go_sem,hy,hix,hb];have H:=H.new hb (.cells 68 y.cs);have gb2:(s1.setO b (.cells 68 y.cs)).getO b=some (.cells 68 y.cs):=by rw[aJ,if_pos rfl]
          have t:=H.t0;have w:=H.w.w;have gq2:=H.g;refine dI [[99,101,108,108]] r vi _ _ _ _ _ w (by(try simp only[bU,bX,aE,aF,aG,aH,bK]);omega) (λs2 v2 hw3 hs3=>?_);have gq2:=hs3.keep w gq2 aD aD;have gb2:=hs3.keep w gb2 aD aD;have t:=t.trans hs3;have w:=hw3;simp only[go_sem,gq2,gb2];refine aEM y hyk.init r vi _ _ _ _ _ w (by(try simp only[bU,bX,aE,aF,aG,aH,bK]);omega) (λs2 v2 hw3 hs3=>?_);have gq2:=hs3.keep w gq2 aD aD;have gb2:=hs3.keep w gb2 aD aD;have t:=t.trans hs3;have w:=hw3;simp only[go_sem,gq2,gb2];have h3:=aFI y (bM [] [[99,101,108,108]]);simp only[bU,aE,aF,rK]at h3;refine qE r vi _ _ _ _ _ _ (H.w.step t w) (by(try simp only[bU,bX,aE,aF,aG,aH,bK]);omega) (by(try simp only[bU,bX,aE,aF,aG,aH,bK]);omega) (λs1 vi hW hF=>?_);have H:=H.next hW ((t.frm H.w.w).trans hF);simp only[go_sem,H.g];exact⟨(i+1,s1,vi),⟨hix,H.eq (by rw[htk,bI];rfl)⟩,by simp only;omega,w1,aM _⟩
        · have hii : i = x.once.length := by have : ¬ i < x.once.length := by simpa using h
                                             omega
          subst hii;rw[List.take_length]at H;simp only[go_sem,H.g];obtain⟨L3,hL3⟩:∃L,L=L2++x.once.map (λc=>aL (jF (aL [] [99,101,108,108]) c) [46]):=⟨_,rfl⟩
          have hL3n:L3.length<=L2.length+x.once.length:=by rw[hL3,aG,aH];omega
          rw[<-hL3]at H;clear h;obtain⟨L4,hL4⟩:∃L,L=L3++(if x.kind=[] then [] else [aL (aL (eE jF false (bM [] [[109,97,110,121],x.kind,[40]]) x.many) [41]) [46]]):=⟨_,rfl⟩
          have hL4n:L4.length<=L3.length+1:=by rw[hL4,aG];split<;>simp
          have hmb:=hx.manyB;have hcm:=wT jF rK aFI x.many false (bM [] [[109,97,110,121],x.kind,[40]]);simp only[bU,aE,aF]at hcm;cases p1:decide (x.kind=[])
          all_goals (simp only[go_sem,p1,H.g])
          any_goals (
            have p1':¬ x.kind=[]:=by simpa using p1
            have t:=H.t0;have w:=H.w.w;have gq2:=H.g;refine dI [[109,97,110,121],x.kind,[40]] r vi _ _ _ _ _ w (by(try simp only[bU,bX,aE,aF,aG,aH,bK]);omega) (λs2 v2 hw3 hs3=>?_);have gq2:=hs3.keep w gq2 aD aD;have t:=t.trans hs3;have w:=hw3;simp only[go_sem,gq2];refine aMY x.many (λc hc=>(hx.many c hc).init) r vi _ _ _ _ _ w (by(try simp only[bU,bX,aE,aF,aG,aH,bK]);omega) (λs2 v2 hw3 hs3=>?_);have gq2:=hs3.keep w gq2 aD aD;have t:=t.trans hs3;have w:=hw3;simp only[go_sem,gq2];refine dI [[41]] r vi _ _ _ _ _ w (by(try simp only[bU,bX,aE,aF,aG,aH,bK]);omega) (λs2 v2 hw3 hs3=>?_);have gq2:=hs3.keep w gq2 aD aD;have t:=t.trans hs3;have w:=hw3;simp only[go_sem,gq2];refine qE r vi _ _ _ _ _ _ (H.w.step t w) (by(try simp only[bU,bX,aE,aF,aG,aH,bK]);omega) (by(try simp only[bU,bX,aE,aF,aG,aH,bK]);omega) (λs1 vi hW hF=>?_);have H:=H.next hW ((t.frm H.w.w).trans hF);simp only[go_sem,H.g];have H:=H.eq (LS':=L4) (by rw[hL4,if_neg p1'];rfl)
            skip)
          all_goals (
            first
            | (have H:ItS _ _ _ _ _ _ _ L4:=H)
            | (have H:=H.eq (LS':=L4) (by rw[hL4,if_pos (by simpa using p1),eM]))
            refine Ex.loop (ι:=Nat × (St × A)) (λk=>[(0,.ptr r 0),(3,.ptr q 0),(87,.list none [.str [115,116,97,114,116],.str [119,97,116,99,104]]),(88,.int .i64 2),(89,.int .i64 (k.1:Nat))])
              (λk=>k.2.1) (λk=>k.1<=2/\ItS s r q 33 x.cs k.2.1 k.2.2 (L4++rP x k.1)) (λk=>2-k.1) (0,(_,vi)) ⟨aU _,H.eq (by simp[rP])⟩ ?_ (aM _) ?_
            · simp only[go_sem]
              exact⟨rfl,rfl⟩
            · rintro⟨i,s1,vi⟩ ⟨hi,H⟩
              simp only at hi H;have hpl:=aQR x i;have w1:=cF i aB;refine bG (V:=[0,1,3,5,7,9,10,12,25,26,27,28,53,54,55,56,70,87,88,89,90,96,100,110,111,112,113]) _ _ _ _ ?_;have dA:decide (((0:Nat):Int)<2)=true:=by decide
              have dB:decide (((1:Nat):Int)<2)=true:=by decide
              have dC:decide (((2:Nat):Int)<2)=false:=by decide
              have nW:decide (([115,116,97,114,116]:List UInt8)=[119,97,116,99,104])=false:=by decide
              match i,hi,H,hpl,w1 with
              | 0,hi,H,hpl,w1 =>
                simp only[go_sem,H.g,dA,nW];cases p2:decide (x.start=[])
                · simp only[go_sem,p2]
                  have p2':¬ x.start=[]:=by simpa using p2
                  have t:=H.t0;have w:=H.w.w;have gq2:=H.g;refine dI [[115,116,97,114,116],x.start] r vi _ _ _ _ _ w (by(try simp only[bU,bX,aE,aF,aG,aH,bK]);omega) (λs2 v2 hw3 hs3=>?_);have gq2:=hs3.keep w gq2 aD aD;have t:=t.trans hs3;have w:=hw3;simp only[go_sem,gq2];refine qE r vi _ _ _ _ _ _ (H.w.step t w) (by(try simp only[bU,bX,aE,aF,aG,aH,bK]);omega) (by(try simp only[bU,bX,aE,aF,aG,aH,bK]);omega) (λs1 vi hW hF=>?_);have H:=H.next hW ((t.frm H.w.w).trans hF);simp only[go_sem,H.g];exact⟨(1,s1,vi),⟨by omega,H.eq (by simp only[rP,mY,if_neg p2',eM];first|done|rfl)⟩,by omega,w1,aM _⟩
                · simp only[go_sem,p2]
                  exact⟨(1,s1,vi),⟨by omega,H.eq (by simp only[rP,mY,if_pos (qA p2)])⟩,by omega,w1,aM _⟩
              | 1,hi,H,hpl,w1 =>
                simp only[go_sem,H.g,dB,uU];cases p2:decide (x.watch=[])
                · simp only[go_sem,p2]
                  have p2':¬ x.watch=[]:=by simpa using p2
                  have t:=H.t0;have w:=H.w.w;have gq2:=H.g;refine dI [[119,97,116,99,104],x.watch] r vi _ _ _ _ _ w (by(try simp only[bU,bX,aE,aF,aG,aH,bK]);omega) (λs2 v2 hw3 hs3=>?_);have gq2:=hs3.keep w gq2 aD aD;have t:=t.trans hs3;have w:=hw3;simp only[go_sem,gq2];refine qE r vi _ _ _ _ _ _ (H.w.step t w) (by(try simp only[bU,bX,aE,aF,aG,aH,bK]);omega) (by(try simp only[bU,bX,aE,aF,aG,aH,bK]);omega) (λs1 vi hW hF=>?_);have H:=H.next hW ((t.frm H.w.w).trans hF);simp only[go_sem,H.g];exact⟨(2,s1,vi),⟨by omega,H.eq (by simp only[rP];rw[bI,show mY [119,97,116,99,104] x.watch=_ from if_neg p2'];first|done|rfl)⟩,by omega,w1,aM _⟩
                · simp only[go_sem,p2]
                  exact⟨(2,s1,vi),⟨by omega,H.eq (by simp only[rP];rw[show mY [119,97,116,99,104] x.watch=_ from if_pos (qA p2),eM])⟩,by omega,w1,aM _⟩
              | 2,hi,H,hpl,w1 =>
                simp only[go_sem,H.g,dC];clear w1 hi;obtain⟨L5,hL5⟩:∃L,L=L4++rP x 2:=⟨_,rfl⟩
                have hL5n:L5.length<=L4.length+2:=by rw[hL5,aG];omega
                rw[<-hL5]at H
                refine Ex.loop (ι:=Nat × (St × A)) (λk=>[(0,.ptr r 0),(3,.ptr q 0),(110,.list none (x.rules.map Rul.enc)),(111,.int .i64 (x.rules.length:Nat)),(112,.int .i64 (k.1:Nat))])
                  (λk=>k.2.1) (λk=>k.1<=x.rules.length/\ItS s r q 33 x.cs k.2.1 k.2.2 (L5++(x.rules.take k.1).map rL)) (λk=>x.rules.length-k.1) (0,(s1,vi)) ⟨aU _,H.eq bD⟩ ?_ (aM _) ?_
                · (simp only[go_sem];try exact rfl)
                · rintro⟨i,s1,vi⟩ ⟨hi,H⟩
                  simp only at hi H;refine bG (V:=[0,1,3,5,7,9,10,12,25,26,27,28,53,54,55,56,70,87,88,89,90,96,100,110,111,112,113]) _ _ _ _ ?_;simp only[go_sem];(refine aQ (λh=>?_) (λh=>?_))<;>simp only[go_sem,h]
                  · have hix:i<x.rules.length:=by simpa using h
                    clear h;obtain⟨y,hy⟩:∃a,x.rules[i]?=some a:=⟨_,aY hix⟩
                    have hyk:=hx.rules y (cM hy);have hyb:=hyk.bd;have w1:=cF i aB;have htk:=wK rL hy;simp only[go_sem,hy,hix];(intro b hb;try simp only[aI,ne_eq]at hb);simp only[go_sem,hy,hix,hb];have H:=H.new hb (.cells 84 y.cs);refine aNF y hyk.ok r vi .nils _ _ _ _ H.w hyb (by simp only[aG,aH,bK];omega) (λs1 vi hW hF=>?_);have H:=H.next hW hF;simp only[go_sem];exact⟨(i+1,s1,vi),⟨hix,H.eq (by rw[htk,bI])⟩,by simp only;omega,w1,aM _⟩
                  · have hii : i = x.rules.length := by have : ¬ i < x.rules.length := by simpa using h
                                                        omega
                    subst hii;rw[List.take_length]at H;refine aN (hk _ _ (H.eq ?_).w H.f);rw[hL5,hL4,hL3,hL2,hL1,hL0,fI];simp only[bI,rP])
structure TxS (s0:St) (p:Nat) (s:St) (tk:Option Nat) (acc:aC):Prop where
 b:Bw s 154 p tk acc
 g:s.gel s0 [p] tk.toList
 hp:s0.getO p=none
 ht:∀t,tk=some t->s0.getT t=none
theorem TxS.init{s:St}{p:Nat}(hp:s.getO p=none):TxS s p (s.setO p (.cells 154 [.nilp,.nils])) none [] :=
 ⟨⟨by rw[aJ,if_pos rfl];rfl,λt h=>(by cases h),λ_=>rfl⟩,tU hp (xI _ _ _),hp,λt h=>(by cases h)⟩
theorem TxS.get{s0 s:St}{p:Nat}{tk:Option Nat}{acc:aC}(h:TxS s0 p s tk acc){q:Nat}{o:Ob}(hq:s0.getO q=some o):s.getO q=some o :=
 h.g.ob q (λe=>by rw[bW.1 e,h.hp]at hq;cases hq) o hq
theorem TxS.new{s0 s:St}{p:Nat}{tk:Option Nat}{acc:aC}(h:TxS s0 p s tk acc){b:Nat}(hb:s.getO b=none)(o:Ob):TxS s0 p (s.setO b o) tk acc :=
 ⟨h.b.set hb o,tU (by
  cases e:s0.getO b with
  | none=>rfl
  | some x=>rw[h.get e]at hb;cases hb) h.g,h.hp,h.ht⟩
theorem TxS.write{s0 s:St}{p:Nat}{tk:Option Nat}{acc:aC}(h:TxS s0 p s tk acc){u:Nat}(hu:tk=some u\/tk=none/\s.getT u=none)(x:aC):TxS s0 p (uP s 154 p u (acc++x)) (some u) (acc++x):=by
 refine⟨aTr ..,aBm (bY ..) (aKv (bY ..) ⟨h.g.ob,λt ht m hm=>h.g.tk t (λe=>?_) m hm,h.g.ls⟩),h.hp,λt ht=>?_⟩
 .rcases hu with rfl|⟨rfl,_⟩
  .exact ht e
  .cases e
 .cases ht;rcases hu with rfl|⟨rfl,hu⟩
  .exact h.ht _ rfl
  .cases e:s0.getT u with
   | none=>rfl
   | some m=>rw[h.g.tk u bD m e]at hu;cases hu
theorem TxS.ge{s0 s:St}{p u:Nat}{acc:aC}(h:TxS s0 p s (some u) acc):(s.delT u).ge s0 :=
 ⟨fun c x hx => h.get hx,fun t m hm => by
  have hn:t≠u:=λe=>by rw[e,h.ht u rfl]at hm;cases hm
  rw[rB,if_neg hn];exact h.g.tk t (by simpa using hn) m hm,h.g.ls⟩
theorem TxS.wr{s0 s:St}{p:Nat}{tk:Option Nat}{acc:aC}(h:TxS s0 p s tk acc)(x:aC)(hl:acc.length+x.length<=4294967296)(KV Kp:St->A->Prop)
  (hk:∀s' u,TxS s0 p s' (some u) (acc++x)->(∀q o,s.getO q=some o->q≠p->s'.getO q=some o)->KV s' (.tuple [.int .i64 x.length,.nili])):Den cx 102 [.ptr p 0,.str x] KV Kp s :=
 aOA 154 p tk acc x s KV Kp (.inl rfl) h.b hl (λu hu=>hk _ u (h.write hu x) (λq o hq hn=>by rw[aQK,if_neg (λe=>hn e.symm)];exact hq))
def nU(LS:List (List Wd)):aC:=LS.flatMap λl=>vS l++[10]
theorem vI{α β:Type}(f:α->List β){l:List α}{i:Nat}{x:α}(h:l[i]?=some x):(l.take (i+1)).flatMap f=(l.take i).flatMap f++f x:=by
 rw[iS,h,List.flatMap_append];simp
theorem xY{α β:Type}(f:α->List β)(l:List α)(i:Nat):((l.take i).flatMap f).length<=(l.flatMap f).length:=by
 have h:(l.flatMap f).length=((l.take i).flatMap f).length+((l.drop i).flatMap f).length:=by rw[<-aG,<-List.flatMap_append,List.take_append_drop]
 omega
theorem aN5{l:List Wd}{i:Nat}{w:Wd}(h:l[i]?=some w):vS (l.take (i+1))=vS (l.take i)++((if w.2=true then [] else [32])++w.1):=vI _ h
theorem aI3{ws:List Wd}{i:Nat}{w:Wd}(h:ws[i]?=some w)(J:List A):((gB ws++J).drop (i * 2)).take 2=w.cs/\i * 2+2<=(gB ws++J).length:=by
 induction ws generalizing i with
 | nil=>cases h
 | cons x r ih =>
  cases i with
  | zero=>cases h;exact⟨rfl,by simp[gB,Wd.cs]⟩
  | succ i =>
   have:=ih (i:=i) h;have e1:(i+1) * 2=i * 2+2:=by omega
   rw[e1];refine⟨this.1,?_⟩;have h2:=this.2;simp only[gB,nL,Wd.cs,aV,aW,aE]at h2⊢;omega
theorem aO3(LS:List (List Wd)):LS.length<=(nU LS).length:=by
 induction LS with
 | nil=>simp
 | cons x l ih=>simp only[nU,nL,aG,aE,aF]at ih⊢;omega
theorem aOk (r:Nat) (vi:A) (LS:List (List Wd)) (s:St) (KV Kp:St→A→Prop) (hw:WfS s r vi .nils LS []) (hn:LS≠[]) (hne:∀ ws,ws∈LS→ws≠[]∧ws.length≤4294967296) (hl:(nU LS).length≤4294967296)
    (hk:KV s (.str (nU LS))):Den cx 57 [.ptr r 0] KV Kp s:=by
  obtain⟨⟨hr,h0,-⟩,hi⟩:=hw;cases hi with
  | nil=>exact absurd rfl hn
  | mg b cap _ vs J hb hvl hc hJ h1 hv =>
  have hLS:=aO3 LS;(refine aO func57 [0,2,3,5,7,11,12,13,14,17,18,19,20,25] ?_;simp only[go_sem,ntmps57,f57]);(intro p hp;try simp only[aI,ne_eq]at hp);have T0:=TxS.init hp;have g0:=T0.get hr;simp only[go_sem,g0]
  refine Ex.loop (ι:=Nat × (St × Option Nat)) (λk=>[(3,.ptr p 0),(11,.mg b LS.length cap),(12,.int .i64 (LS.length:Nat)),(13,.int .i64 (k.1:Nat))])
    (λk=>k.2.1) (λk=>k.1<=LS.length/\TxS s p k.2.1 k.2.2 (nU (LS.take k.1))) (λk=>LS.length-k.1) (0,(_,none)) ⟨aU _,T0⟩ ?_ (aM _) ?_
  · (simp only[go_sem];try exact rfl)
  · rintro ⟨i,s1,tk⟩ ⟨hi,T⟩
    simp only at hi T;refine bG (V:=[0,2,3,5,7,11,12,13,14,17,18,19,20,25]) _ _ _ _ ?_;simp only[go_sem];(refine aQ (λh=>?_) (λh=>?_))<;>simp only[go_sem,h]
    · have hix:i<LS.length:=by simpa using h
      clear h;obtain⟨ws,hws⟩:∃a,LS[i]?=some a:=⟨_,aY hix⟩
      obtain⟨v,hvi⟩:∃a,vs[i]?=some a:=⟨_,aY aB⟩
      obtain⟨hwl,-⟩:=hv i v ws hvi hws;obtain⟨hcl,hcl2⟩:=hne ws (cM hws);have htk:nU (LS.take (i+1))=nU (LS.take i)++(vS ws++[10]):=vI _ hws;have hlt:(nU (LS.take (i+1))).length<=(nU LS).length:=xY _ _ _;have w1:=cF i aB;rw[htk]at hlt;simp only[aG,aE,aF]at hlt;cases hwl with
      | nil=>exact absurd rfl hcl
      | mg b2 cap2 _ J2 hb2 hc2 hJ2 h12 hn2 =>
      have gv1:(vs++J)[i]?=some (.mg b2 ws.length cap2):=by rw[kC aB];exact hvi
      have gb:=T.get hb;simp only[go_sem,gb,gv1,hix,Nat.mul_one]
      refine Ex.loop (ι:=Nat × (St × Option Nat)) (λk=>[(3,.ptr p 0),(11,.mg b LS.length cap),(12,.int .i64 (LS.length:Nat)),(13,.int .i64 (i:Nat)),(17,.mg b2 ws.length cap2),(18,.int .i64 (ws.length:Nat)),(19,.int .i64 (k.1:Nat))])
        (λk=>k.2.1) (λk=>k.1<=ws.length/\TxS s p k.2.1 k.2.2 (nU (LS.take i)++vS (ws.take k.1))) (λk=>ws.length-k.1) (0,(_,tk)) ⟨aU _,by simpa [vS]using T⟩ ?_ (aM _) ?_
      · (simp only[go_sem];try exact rfl)
      · clear T gb
        rintro⟨j,s1,tk⟩ ⟨hj,T⟩;simp only at hj T;refine bG (V:=[0,2,3,5,7,11,12,13,14,17,18,19,20,25]) _ _ _ _ ?_;simp only[go_sem];(refine aQ (λh=>?_) (λh=>?_))<;>simp only[go_sem,h]
        · have hjx:j<ws.length:=by simpa using h
          clear h;obtain⟨w,hw⟩:∃a,ws[j]?=some a:=⟨_,aY hjx⟩
          obtain⟨e1,e2⟩:=aI3 hw J2;have e2':(j * 2+2<=(gB ws++J2).length)=True:=eq_true e2;have gb:=T.get hb2;have hrt:=aN5 hw;have hrl:(vS (ws.take (j+1))).length<=(vS ws).length:=xY _ _ _;have w2:=cF j aB;rw[hrt]at hrl;simp only[aG]at hrl;simp only[go_sem,gb,hjx,e1,e2',if_true];(intro q hq;try simp only[aI,ne_eq]at hq);cases hc:w.2 with
          | true =>
            rw[hc]at hrl hrt;simp only[if_true,aW,aF]at hrl hrt;have T:=T.new hq (.cells 156 [.str w.1,.bool true]);simp only[go_sem,hq,Wd.cs,hc];refine T.wr w.1 (by simp only[aG];omega) _ _ (λs2 u T hge=>?_);simp only[go_sem];exact⟨(j+1,s2,some u),⟨hjx,by rw[hrt,<-bI];exact T⟩,by simp only;omega,w2,aM _⟩
          | false =>
            rw[hc]at hrl hrt;simp only[cJ,if_false,aE,aF]at hrl hrt;have T:=T.new hq (.cells 156 [.str w.1,.bool false]);have gq:(s1.setO q (.cells 156 [.str w.1,.bool false])).getO q=some (.cells 156 [.str w.1,.bool false]):=by rw[aJ,if_pos rfl]
            simp only[go_sem,hq,Wd.cs,hc];refine T.wr [32] (by simp only[aG,aE,aF];omega) _ _ (λs2 u T2 hge=>?_);have gq2:=hge q _ gq (λe=>by have:=T0.b.ob;have h2:=T.b.ob;rw[<-e,gq]at h2;cases h2);simp only[go_sem,gq2];refine T2.wr w.1 (by simp only[aG,aE,aF];omega) _ _ (λs3 u T3 _=>?_);simp only[go_sem];exact⟨(j+1,s3,some u),⟨hjx,by rw[hrt,<-bI];simpa using T3⟩,by simp only;omega,w2,aM _⟩
        · have hii : j = ws.length := by have : ¬ j < ws.length := by simpa using h
                                         omega
          subst hii;rw[List.take_length]at T;refine T.wr [10] (by simp only[aG,aE,aF];omega) _ _ (λs2 u T hge=>?_);simp only[go_sem];exact⟨(i+1,s2,some u),⟨hix,by rw[htk,<-bI];exact T⟩,by simp only;omega,w1,aM _⟩
    · have hii : i = LS.length := by have : ¬ i < LS.length := by simpa using h
                                     omega
      subst hii;rw[List.take_length]at T;have hne:nU LS≠[]:=λe=>by rw[e]at hLS;exact hn (fK (by simpa using hLS))
      cases tk with
      | none=>exact absurd (T.b.nil rfl) hne
      | some u =>
        refine aHT 154 p u _ _ _ _ T.b hne ?_;simp only[go_sem];exact aP hk T.ge
def jJ(last x:aC):Bool:=!decide (last=[])&&(!decide (x=[])&&((match last.getLast? with|some c=>eY c.toNat|none=>false)&&(!decide (last=[95])&&(match x.head? with|some c=>eY c.toNat|none=>false))))
theorem tN(last x:aC)(r:List aC):kH last (x::r)=(if jJ last x=true then [32] else [])++(x++kH x r):=by
 rw[kH];by_cases h:jJ last x=true
 .rw[if_pos h,if_pos];simp only[jJ,cL,oG,fL]at h;exact h
 .rw[if_neg h,if_neg];simp only[jJ,cL,oG,fL]at h;exact h
theorem aEW:∀(l:List aC) (a x:aC),kH a (l++[x])=kH a l++((if jJ (l.getLastD a) x=true then [32] else [])++x)
 | [],a,x=>by rw[aW,tN];simp[kH]
 | y::r,a,x=>by rw[aV,tN,tN,aEW r y x,List.getLastD_cons];simp
def dJ(LS:List (List Wd)):List aC:=LS.flatMap λl=>l.map (·.1)
def kG(LS:List (List Wd)):aC:=kH [] (dJ LS)
theorem aPt(a b:List aC)(z:aC):(kH z a).length<=(kH z (a++b)).length:=by
 induction a generalizing z with
 | nil=>simp[kH]
 | cons x r ih=>rw[aV,tN,tN];have:=ih x;simp only[aG];omega
theorem aKb:∀(l:List aC) (a z:aC),(l.getLastD a).length<=a.length+(kH z l).length
 | [],a,z=>by simp
 | y::r,a,z=>by rw[List.getLastD_cons,tN];have:=aKb r y y;simp only[aG];omega
theorem aM3(r:Nat)(vi:A)(LS:List (List Wd))(s:St)(KV Kp:St->A->Prop)(hw:WfS s r vi .nils LS [])(hn:kG LS≠[])(hll:LS.length<=4294967296)(hne:∀ws,ws∈LS->ws≠[]/\ws.length<=4294967296)(hl:(kG LS).length<=4294967296)
    (hk:KV s (.str (kG LS))):Den cx 101 [.ptr r 0] KV Kp s:=by
  obtain⟨⟨hr,h0,-⟩,hi⟩:=hw;cases hi with
  | nil=>exact absurd rfl hn
  | mg b cap _ vs J hb hvl hc hJ h1 hv =>
  (refine aO func101 [0,2,3,4,6,8,12,13,14,15,18,19,20,21,48] ?_;simp only[go_sem,ntmps101,f101]);(intro p hp;try simp only[aI,ne_eq]at hp);have T0:=TxS.init hp;have g0:=T0.get hr;simp only[go_sem,g0]
  refine Ex.loop (ι:=Nat × (St × Option Nat)) (λk=>[(3,.ptr p 0),(4,.str ((dJ (LS.take k.1)).getLastD [])),(12,.mg b LS.length cap),(13,.int .i64 (LS.length:Nat)),(14,.int .i64 (k.1:Nat))])
    (λk=>k.2.1) (λk=>k.1<=LS.length/\TxS s p k.2.1 k.2.2 (kG (LS.take k.1))) (λk=>LS.length-k.1) (0,(_,none)) ⟨aU _,T0⟩ ?_ (aM _) ?_
  · simp only[go_sem]
    exact⟨rfl,rfl⟩
  · rintro ⟨i,s1,tk⟩ ⟨hi,T⟩
    simp only at hi T;refine bG (V:=[0,2,3,4,6,8,12,13,14,15,18,19,20,21,48]) _ _ _ _ ?_;simp only[go_sem];(refine aQ (λh=>?_) (λh=>?_))<;>simp only[go_sem,h]
    · have hix:i<LS.length:=by simpa using h
      clear h;obtain⟨ws,hws⟩:∃a,LS[i]?=some a:=⟨_,aY hix⟩
      obtain⟨v,hvi⟩:∃a,vs[i]?=some a:=⟨_,aY aB⟩
      obtain⟨hwl,-⟩:=hv i v ws hvi hws;obtain⟨hcl,hcl2⟩:=hne ws (cM hws);have htk:dJ (LS.take (i+1))=dJ (LS.take i)++ws.map (·.1):=vI _ hws;have w1:=cF i aB;cases hwl with
      | nil=>exact absurd rfl hcl
      | mg b2 cap2 _ J2 hb2 hc2 hJ2 h12 hn2 =>
      have gv1:(vs++J)[i]?=some (.mg b2 ws.length cap2):=by rw[kC aB];exact hvi
      have gb:=T.get hb;simp only[go_sem,gb,gv1,hix,Nat.mul_one]
      refine Ex.loop (ι:=Nat × (St × Option Nat)) (λk=>[(3,.ptr p 0),(4,.str ((dJ (LS.take i)++(ws.take k.1).map (·.1)).getLastD [])),(12,.mg b LS.length cap),(13,.int .i64 (LS.length:Nat)),(14,.int .i64 (i:Nat)),(18,.mg b2 ws.length cap2),(19,.int .i64 (ws.length:Nat)),(20,.int .i64 (k.1:Nat))])
        (λk=>k.2.1) (λk=>k.1<=ws.length/\TxS s p k.2.1 k.2.2 (kH [] (dJ (LS.take i)++(ws.take k.1).map (·.1)))) (λk=>ws.length-k.1) (0,(_,tk)) ⟨aU _,by simpa [kG]using T⟩ ?_ (aM _) ?_
      · (simp only[go_sem];first|exact rfl|simp)
      · clear T gb
        rintro⟨j,s1,tk⟩ ⟨hj,T⟩;simp only at hj T;refine bG (V:=[0,2,3,4,6,8,12,13,14,15,18,19,20,21,48]) _ _ _ _ ?_;simp only[go_sem];(refine aQ (λh=>?_) (λh=>?_))<;>simp only[go_sem,h]
        · have hjx:j<ws.length:=by simpa using h
          clear h;obtain⟨w,hw⟩:∃a,ws[j]?=some a:=⟨_,aY hjx⟩
          obtain⟨e1,e2⟩:=aI3 hw J2;have e2':(j * 2+2<=(gB ws++J2).length)=True:=eq_true e2;have gb:=T.get hb2;have w2:=cF j aB;have hmt:(ws.take (j+1)).map (·.1)=(ws.take j).map (·.1)++[w.1]:=by rw[iS,hw,cV];rfl
          have hpre:(kH [] (dJ (LS.take i)++(ws.take (j+1)).map (·.1))).length<=(kG LS).length:=by
            have e3:dJ LS=(dJ (LS.take i)++(ws.take (j+1)).map (·.1))++((ws.drop (j+1)).map (·.1)++dJ (LS.drop (i+1))):=by
              rw[bI,<-bI ((ws.take (j+1)).map _),<-cV,List.take_append_drop,<-bI,<-htk];unfold dJ;rw[<-List.flatMap_append,List.take_append_drop]
            unfold kG;rw[e3];exact aPt _ _ _
          rw[hmt,<-bI,aEW]at hpre;have hgd:((dJ (LS.take i)++(ws.take j).map (·.1))++[w.1]).getLastD []=w.1:=by simp
          have hsn:=aEW (dJ (LS.take i)++(ws.take j).map (·.1)) [] w.1;simp only[aG]at hpre;simp only[go_sem,gb,hjx,e1,e2',if_true];(intro q hq;try simp only[aI,ne_eq]at hq);have T:=T.new hq (.cells 156 [.str w.1,.bool w.2]);have gq:(s1.setO q (.cells 156 [.str w.1,.bool w.2])).getO q=some (.cells 156 [.str w.1,.bool w.2]):=by rw[aJ,if_pos rfl]
          simp only[go_sem,hq,Wd.cs];generalize hS:s1.setO q (.cells 156 [.str w.1,.bool w.2])=S at T gq;generalize hD:dJ (LS.take i)++(ws.take j).map (·.1)=D at T hgd hsn hpre;have hLl:(D.getLastD []).length<=9223372036854775807:=by have h1:=aKb D [] [];have h2:=hpre;simp only[aF]at h1;omega
          generalize hLa:D.getLastD []=la at hsn hpre hLl;have hqp:q≠p:=λe=>by have h2:=T.b.ob;rw[<-e,gq]at h2;cases h2
          have fin:∀s2 u,TxS s p s2 (some u) (kH [] D++((if jJ la w.1=true then [32] else [])++w.1))->TxS s p s2 (some u) (kH [] (dJ (LS.take i)++(ws.take (j+1)).map (·.1))):=λs2 u h=>by rw[hmt,<-bI,hD,hsn];exact h
          have hg4:(dJ (LS.take i)++(ws.take (j+1)).map (·.1)).getLastD []=w.1:=by rw[hmt,<-bI,hD,hgd]
          cases q1:decide (la=[])
          · obtain ⟨c1,hc1⟩ : ∃ c,la.getLast? = some c := by
              cases h:la.getLast? with
              | none=>rw[List.getLast?_eq_none_iff.1 h]at q1;simp at q1
              | some c=>exact⟨c,rfl⟩
            have hc1':la[la.length-1]?=some c1:=by rw[<-List.getLast?_eq_getElem?];exact hc1
            have hll:la.length<=9223372036854775807:=hLl
            have hl0:0<la.length:=by
              cases la with
              | nil=>simp at q1
              | cons _ _=>simp
            have wl:IntKind.i64.wrap ((la.length:Int)-1)=((la.length-1:Nat):Int):=by rw[iU _ aB aB];omega
            simp only[go_sem,gq,q1];cases q2:decide (w.1=[])
            · obtain⟨c2,z2,hc2'⟩:∃c z,w.1=c::z:=by
                cases h:w.1 with
                | nil=>rw[h]at q2;simp at q2
                | cons c z=>exact⟨c,z,rfl⟩
              have hc2'':w.1.head?=some c2:=by rw[hc2'];rfl
              have hc20:w.1[0]?=some c2:=by rw[hc2'];rfl
              have hw0:0<w.1.length:=by rw[hc2'];simp
              simp only[go_sem,gq,q2,wl,Int.toNat_natCast];refine⟨by omega,?_⟩;simp only[go_sem,hc1'];refine aAP _ _ _ _ ?_;cases q3:eY c1.toNat
              · simp only[go_sem,q3,gq]
                have hg:jJ la w.1=false:=by simp only[jJ,q1,q2,q3,hc1,eV,fM,eU,fG,eW,fB]
                rw[hg]at hpre fin;simp only[cJ,if_false,aW,aF]at hpre fin;refine T.wr w.1 aB _ _ (λs2 u T2 hge=>?_);simp only[go_sem,hge q _ gq hqp];exact⟨(j+1,s2,some u),⟨hjx,fin _ _ T2⟩,by simp only;omega,⟨hg4.symm,w2⟩,aM _⟩
              · simp only[go_sem,q3]
                cases q4:decide (la=[95])
                · simp only[go_sem,q4,gq]
                  refine⟨hw0,?_⟩;simp only[go_sem,hc20];refine aAP _ _ _ _ ?_;cases q5:eY c2.toNat
                  · simp only[go_sem,q5,gq]
                    have hg:jJ la w.1=false:=by simp only[jJ,q1,q2,q3,q4,q5,hc1,hc2'',eV,fM,eU,fG,eW,fB]
                    rw[hg]at hpre fin;simp only[cJ,if_false,aW,aF]at hpre fin;refine T.wr w.1 aB _ _ (λs2 u T2 hge=>?_);simp only[go_sem,hge q _ gq hqp];exact⟨(j+1,s2,some u),⟨hjx,fin _ _ T2⟩,by simp only;omega,⟨hg4.symm,w2⟩,aM _⟩
                  · simp only[go_sem,q5,gq]
                    have hg:jJ la w.1=true:=by simp only[jJ,q1,q2,q3,q4,q5,hc1,hc2'',eV,fM,eU,fG,eW,fB]
                    rw[hg]at hpre fin;simp only[if_true,aE,aF]at hpre fin;refine T.wr [32] (by simp only[aE,aF];omega) _ _ (λs2 u T2 hge=>?_);have gq2:=hge q _ gq hqp;simp only[go_sem,gq2];refine T2.wr w.1 (by simp only[aG,aE,aF];omega) _ _ (λs3 u T3 hge=>?_);simp only[go_sem,hge q _ gq2 hqp];exact⟨(j+1,s3,some u),⟨hjx,fin _ _ (by simpa using T3)⟩,by simp only;omega,⟨hg4.symm,w2⟩,aM _⟩
                · simp only[go_sem,q4,gq]
                  have hg:jJ la w.1=false:=by simp only[jJ,q1,q2,q3,q4,hc1,eV,fM,eU,fG,eW,fB]
                  rw[hg]at hpre fin;simp only[cJ,if_false,aW,aF]at hpre fin;refine T.wr w.1 aB _ _ (λs2 u T2 hge=>?_);simp only[go_sem,hge q _ gq hqp];exact⟨(j+1,s2,some u),⟨hjx,fin _ _ T2⟩,by simp only;omega,⟨hg4.symm,w2⟩,aM _⟩
            · simp only[go_sem,gq,q2]
              have hg:jJ la w.1=false:=by simp only[jJ,q1,q2,eV,fM,eU,fG,eW,fB]
              rw[hg]at hpre fin;simp only[cJ,if_false,aW,aF]at hpre fin;refine T.wr w.1 aB _ _ (λs2 u T2 hge=>?_);simp only[go_sem,hge q _ gq hqp];exact⟨(j+1,s2,some u),⟨hjx,fin _ _ T2⟩,by simp only;omega,⟨hg4.symm,w2⟩,aM _⟩
          · simp only[go_sem,gq,q1]
            have hg:jJ la w.1=false:=by simp only[jJ,q1,eV,fM,eU,fG,eW,fB]
            rw[hg]at hpre fin;simp only[cJ,if_false,aW,aF]at hpre fin;refine T.wr w.1 aB _ _ (λs2 u T2 hge=>?_);simp only[go_sem,hge q _ gq hqp];exact⟨(j+1,s2,some u),⟨hjx,fin _ _ T2⟩,by simp only;omega,⟨hg4.symm,w2⟩,aM _⟩
        · have hii : j = ws.length := by have : ¬ j < ws.length := by simpa using h
                                         omega
          subst hii;rw[List.take_length,<-htk]at T;rw[List.take_length,<-htk];exact⟨(i+1,s1,tk),⟨hix,T⟩,by simp only;omega,⟨rfl,w1⟩,aM _⟩
    · have hii : i = LS.length := by have : ¬ i < LS.length := by simpa using h
                                     omega
      subst hii;rw[List.take_length]at T;cases tk with
      | none=>exact absurd (T.b.nil rfl) hn
      | some u =>
        refine aHT 154 p u _ _ _ _ T.b hn ?_;simp only[go_sem];exact aP hk T.ge
def iR(e:Eqn):List Tm:=[e.left,e.right]++e.cond
def jK(p:Part):List Tm:=[p.left]++p.right
def hH(r:Rul):List Tm:=r.parts.flatMap jK++(r.cond++r.new.flatMap Fresh.cells)
def kW(c:Cel):List Tm:=[c.init]
def iQ(d:Dfn):List Tm:=d.eqs.flatMap iR++((d.once++d.many).flatMap kW++d.rules.flatMap hH)
theorem aNJ(n:Nat)(hn:n<=65536)(s:St)(KV Kp:St->A->Prop)(hk:∀tk,(∀t,tk=some t->s.getT t=none)->KV (gs s tk 0 68) (gv tk [])):Den cx 288 [.nils,.int .i64 (n:Nat)] KV Kp s:=by
 have d0:decide ((n:Int)<0)=false:=by rw[fL];omega
 have w0:IntKind.i64.wrap ((n:Int)-IntKind.i64.wrap (0-0))=(n:Int):=by rw[show IntKind.i64.wrap (0-0)=0 by decide,iU _ aB aB];omega
 (refine aO func288 [0,1,4,6,16] ?_;simp only[go_sem,ntmps288,f288]);simp only[go_sem,d0];rw[w0];cases n with
 | zero =>
  have d1:decide ((0:Int)<((0:Nat):Int))=false:=by decide
  simp only[go_sem,d1];exact aN (hk none (λt h=>by cases h))
 | succ n =>
  have d1:decide ((0:Int)<((n+1:Nat):Int))=true:=by rw[cU];omega
  simp only[go_sem,d1,yL];refine⟨⟨by omega,by omega,by decide⟩,λt ht=>?_⟩;simp only[go_sem];exact aN (hk (some t) (λu h=>by cases h;exact ht))
def rU(a b:List Cel):Nat->List Cel
 | 0=>[]
 | 1=>a
 | _=>a++b
theorem aML(a b:List Cel)(hn:a.length+b.length<=65536)(s:St)(KV Kp:St->A->Prop)(hk:KV s (.list none ((a++b).map Cel.enc))):Den cx 248 [.list none [.list none (a.map Cel.enc),.list none (b.map Cel.enc)]] KV Kp s:=by
 (refine aO func248 [0,2,3,5,6,8,9,10,11,12,20,25,26,27,28] ?_;simp only[go_sem,ntmps248,f248])
 refine Ex.loop (ι:=Nat) (λk=>[(0,.list none [.list none (a.map Cel.enc),.list none (b.map Cel.enc)]),(3,.int .i64 ((rU a b k).length:Nat)),(9,.list none [.list none (a.map Cel.enc),.list none (b.map Cel.enc)]),(10,.int .i64 2),(11,.int .i64 (k:Nat))])
  (λ_=>s) (λk=>k<=2) (λk=>2-k) 0 (aU _) ?_ (aM _) ?_
 .simp only[go_sem];exact⟨rfl,rfl,rfl⟩
 .intro i hi;refine bG (V:=[0,2,3,5,6,8,9,10,11,12,20,25,26,27,28]) _ _ _ _ ?_;have w1:=cF i aB
  match i,hi,w1 with
  | 0,hi,w1 =>
   have dA:decide (((0:Nat):Int)<2)=true:=by decide
   have d0:decide ((a.length:Int)<0)=false:=by rw[fL];omega
   have w2:IntKind.i64.wrap (((0:Nat):Int)+(a.length:Int))=(a.length:Int):=by rw[iU _ aB aB];omega
   simp only[go_sem,dA,w2,d0,rU];exact⟨1,by omega,by omega,⟨rfl,w1⟩,aM _⟩
  | 1,hi,w1 =>
   have dA:decide (((1:Nat):Int)<2)=true:=by decide
   have w2:IntKind.i64.wrap ((a.length:Int)+(b.length:Int))=(((a++b).length:Nat):Int):=by rw[iU _ aB aB,aG];omega
   have d0:decide ((((a++b).length:Nat):Int)<0)=false:=by rw[fL];omega
   simp only[go_sem,dA,w2,d0,rU];exact⟨2,by omega,by omega,⟨rfl,w1⟩,aM _⟩
  | 2,hi,w1 =>
   have dA:decide (((2:Nat):Int)<2)=false:=by decide
   simp only[go_sem,dA,rU];refine aNJ _ (by rw[aG];omega) _ _ _ (λtk hf=>?_);simp only[go_sem];clear hi w1
   refine Ex.loop (ι:=Nat × Option Nat) (λk=>[(6,gv k.2 ((rU a b k.1).map Cel.enc)),(25,.list none [.list none (a.map Cel.enc),.list none (b.map Cel.enc)]),(26,.int .i64 2),(27,.int .i64 (k.1:Nat))])
    (λk=>gs s k.2 (rU a b k.1).length 68) (λk=>k.1<=2/\(k.2=none->rU a b k.1=[])/\∀t,k.2=some t->s.getT t=none) (λk=>2-k.1) (0,tk) ⟨aU _,λ_=>rfl,hf⟩ ?_ (aM _) ?_
   .simp only[go_sem]
    try exact⟨rfl,rfl,rfl⟩
   .rintro⟨i,tk⟩ ⟨hi,hn,hf⟩;simp only at hi hn hf;refine bG (V:=[0,2,3,5,6,8,9,10,11,12,20,25,26,27,28]) _ _ _ _ ?_;have w1:=cF i aB
    match i,hi,w1,hn with
    | 0,hi,w1,hn =>
     have dB:decide (((0:Nat):Int)<2)=true:=by decide
     simp only[go_sem,dB];refine⟨by decide,λy hy=>xT hy,dY rfl rfl (by rw[aH];exact iF λe=>rfl) (λy hy=>by cases hy) (by simp only[aH,rU,aF];omega) (λu hu=>?_)⟩;have hfu:=gD hu hf;rw[fO hu];simp only[go_sem,rU];exact⟨(1,some u),⟨by omega,λh=>(by cases h),λt h=>by cases h;exact hfu⟩,by omega,⟨rfl,w1⟩,by simp only[gs,aH,aF,gI];exact aM _⟩
    | 1,hi,w1,hn =>
     have dB:decide (((1:Nat):Int)<2)=true:=by decide
     simp only[go_sem,dB];refine⟨by decide,λy hy=>xT hy,dY rfl rfl (by rw[aH];exact iF λe=>by rw[hn e];rfl) (λy hy=>xT hy) (by simp only[aH,rU];omega) (λu hu=>?_)⟩;have hfu:=gD hu hf;rw[fO hu];simp only[go_sem,rU];exact⟨(2,some u),⟨by omega,λh=>(by cases h),λt h=>by cases h;exact hfu⟩,by omega,⟨by simp only[gv,cV],w1⟩,by simp only[gs,aH,aG];exact aM _⟩
    | 2,hi,w1,hn =>
     simp only[go_sem,dA];exact DK.mk hk (nB (aM _) hf) (iY _ _ (λe=>by rw[hn e];rfl))
theorem aI5(e:Eqn):(iR e).length=2+e.cond.length:=by simp only[iR,aG,aE,aF]
theorem aI0(p:Part):(jK p).length=1+p.right.length:=by simp only[jK,aG,aE,aF]
theorem sD(l:List Tm):∀y,y∈l.map Tm.enc->y.cells.length=6:=λy hy=>nS hy
theorem gvE{tk:Option Nat}{l:List Tm}{s:St}(h:tk=none->l=[]):nJ (gs s tk l.length 43) tk (l.map Tm.enc).length 43:=by
 rw[aH];exact iF λe=>by rw[h e];rfl
theorem aNm(x:Dfn)(hB:(iQ x).length<=4294967296)(hM:x.once.length+x.many.length<=65536)(s:St)(KV Kp:St->A->Prop)(hk:KV s (.list none ((iQ x).map Tm.enc))):Den cx 175 [.agg x.cs] KV Kp s:=by
  refine jD λhz1=>?_
  have hza:=hz1 _ (bY ..);have hw1:Rlz (.list none (x.eqs.map Eqn.enc)):=hza.cell (by simp[Dfn.cs]);have hw2:Rlz (.list none (x.rules.map Rul.enc)):=hza.cell (by simp[Dfn.cs]);clear hz1
  have hB1:(x.eqs.flatMap iR).length+(((x.once++x.many).flatMap kW).length+(x.rules.flatMap hH).length)<=4294967296:=by
    unfold iQ at hB;simpa only[aG]using hB
  simp only[go_sem];(refine aO func175 [0,1,2,3,5,7,9,11,13,15,16,17,18,37,38,39,40,50,51,52,53,57,58,59,60,77,78,79,80] ?_;simp only[go_sem,ntmps175,f175]);(intro p hp;try simp only[aI,ne_eq]at hp);simp only[go_sem,hp]
  refine Ex.loop (ι:=Nat × Option Nat) (λc=>[(1,.ptr p 0),(3,gv c.2 (((x.eqs.take c.1).flatMap iR).map Tm.enc)),(15,.list none (x.eqs.map Eqn.enc)),(16,.int .i64 x.eqs.length),(17,.int .i64 (c.1:Nat))])
    (λc=>gs (s.setO p (.cells 33 x.cs)) c.2 ((x.eqs.take c.1).flatMap iR).length 43)
    (λc=>qR s ((x.eqs.take c.1).flatMap iR) c.2/\c.1<=x.eqs.length) (λc=>x.eqs.length-c.1) (0,none) ⟨⟨λ_=>rfl,λt e=>(by cases e)⟩,aU _⟩ ?_ (by exact aM _) ?_
  · (simp only[go_sem,hp];try exact⟨rfl,rfl⟩)
  · rintro ⟨i,tk⟩ ⟨⟨hnil,hfree⟩,hi⟩
    simp only at hnil hfree hi;refine bG (V:=[0,1,2,3,5,7,9,11,13,15,16,17,18,37,38,39,40,50,51,52,53,57,58,59,60,77,78,79,80]) _ _ _ _ ?_;simp only[go_sem,hp];(refine aQ (λh=>?_) (λh=>?_))<;>simp only[go_sem,h,hp]
    · have hix:i<x.eqs.length:=by simpa using h
      clear h;obtain⟨e,he⟩:∃a,x.eqs[i]?=some a:=⟨_,aY hix⟩
      have htk:=vI iR he;have hln:=xY iR x.eqs (i+1);rw[htk,aG,aI5]at hln;simp only[go_sem,hp,he,hix];(intro b5 hb5;try simp only[aZ,aI,ne_eq]at hb5);simp only[go_sem,hp,he,hix,hb5];(refine bL (OT.l [0,1,2,3,4,5,7,8,6,9,10] .nil) [(6,[8])] ?_;simp only[go_sem,hp,he,hix,hb5]);refine⟨by decide,λy hy=>?_,dY rfl rfl (gvE hnil) (sD _) (by simp only[aH,aE,aF];omega) (λu hu=>?_)⟩
      · simp only[eB,List.mem_nil_iff,fH]at hy
        rcases hy with rfl|rfl<;>rfl
      have hfu:=gD hu hfree;rw[fO hu];simp only[go_sem,hp,he,hix,hb5];refine⟨by decide,sD _,by simp only[aG,aH,aE,aF],λy hy=>?_,by simp only[aG,aH,aE,aF];omega,?_⟩
      · simp only[cW,eB,List.mem_nil_iff,fH]at hy
        rcases hy with hy|rfl|rfl
        · exact nS hy
        · rfl
        · rfl
      refine⟨(i+1,some u),⟨⟨λh=>(by cases h),λt h=>by cases h;exact hfu⟩,hix⟩,by simp only;omega,?_,?_⟩
      · simp only[go_sem,hw1.wrap (i:=i) (by simpa using hix),dO,htk,cV,iR,bI]
      · have e1:∀(a b:A),(List.map Tm.enc ((x.eqs.take i).flatMap iR)++[a,b]).length+e.cond.length=((x.eqs.take (i+1)).flatMap iR).length:=λa b=>by simp only[htk,aG,aI5,aH,aE,aF];omega
        rw[aCf,e1];exact jU (by(repeat (first|(refine eC ?_ ?_;focus (simp only[aI,ne_eq,dK,iT,hp,hb5]<;>done))|exact aM _)))
    · have hii : i = x.eqs.length := by have : ¬ i < x.eqs.length := by simpa using h
                                        omega
      subst hii;rw[List.take_length]at hnil;rw[List.take_length];clear h hi;obtain⟨L0,hL0⟩:∃L,L=x.eqs.flatMap iR:=⟨_,rfl⟩
      rw[<-hL0]at hnil hB1⊢;refine aML x.once x.many hM _ _ _ ?_;simp only[go_sem];obtain⟨CL,hCL⟩:∃L,L=x.once++x.many:=⟨_,rfl⟩
      have hCLn:CL.length<=65536:=by rw[hCL,aG];exact hM
      rw[<-hCL]at hB1⊢
      refine Ex.loop (ι:=Nat × Option Nat) (λc=>[(1,.ptr p 0),(3,gv c.2 ((L0++(CL.take c.1).flatMap kW).map Tm.enc)),(37,.list none (CL.map Cel.enc)),(38,.int .i64 (CL.length:Nat)),(39,.int .i64 (c.1:Nat))])
        (λc=>gs (s.setO p (.cells 33 x.cs)) c.2 (L0++(CL.take c.1).flatMap kW).length 43)
        (λc=>qR s (L0++(CL.take c.1).flatMap kW) c.2/\c.1<=CL.length) (λc=>CL.length-c.1) (0,tk) ⟨⟨by simpa using hnil,hfree⟩,aU _⟩ ?_ (by simp only[List.take_zero,List.flatMap_nil,eM];exact aM _) ?_
      · simp only[go_sem]
        simp
      · clear hnil hfree tk
        rintro⟨i,tk⟩ ⟨⟨hnil,hfree⟩,hi⟩;simp only at hnil hfree hi;refine bG (V:=[0,1,2,3,5,7,9,11,13,15,16,17,18,37,38,39,40,50,51,52,53,57,58,59,60,77,78,79,80]) _ _ _ _ ?_;simp only[go_sem];(refine aQ (λh=>?_) (λh=>?_))<;>simp only[go_sem,h]
        · have hix:i<CL.length:=by simpa using h
          clear h;obtain⟨o,ho⟩:∃a,CL[i]?=some a:=⟨_,aY hix⟩
          have htk:=vI kW ho;have hln:=xY kW CL (i+1);rw[htk,aG]at hln;simp only[kW,aE,aF]at hln;simp only[go_sem,hp,ho,hix];(intro b7 hb7;try simp only[aZ,aI,ne_eq]at hb7);simp only[go_sem,hp,ho,hix,hb7];refine⟨by decide,λy hy=>by simp only[bW]at hy;subst hy;rfl,dY rfl rfl (gvE hnil) (sD _) (by simp only[aH,aG,aE,aF];omega) (λu hu=>?_)⟩;have hfu:=gD hu hfree;rw[fO hu];simp only[go_sem,hp,ho,hix,hb7];refine⟨(i+1,some u),⟨⟨λh=>(by cases h),λt h=>by cases h;exact hfu⟩,hix⟩,by simp only;omega,?_,?_⟩
          · simp only[go_sem,cF i aB,dO,htk,cV,kW,bI]
          · rw[show(L0++(CL.take i).flatMap kW).length+1=(L0++(CL.take (i+1)).flatMap kW).length by rw[htk];simp only[aH,aG,kW,aE,aF];omega]
            exact jU (by(repeat (first|(refine eC ?_ ?_;focus (simp only[aI,ne_eq,dK,iT,hp,hb7]<;>done))|exact aM _)))
        · have hii : i = CL.length := by have : ¬ i < CL.length := by simpa using h
                                         omega
          subst hii;clear h hi;rw[List.take_length]at hnil;rw[List.take_length];obtain⟨L1,hL1⟩:∃L,L=L0++CL.flatMap kW:=⟨_,rfl⟩
          have hB2:L1.length+(x.rules.flatMap hH).length<=4294967296:=by rw[hL1,aG];omega
          rw[<-hL1]at hnil⊢;have hfin:iQ x=L1++x.rules.flatMap hH:=by rw[iQ,<-hL0,<-hCL,hL1,bI]
          rw[hfin]at hk;clear hB1 hB;clear hCL hCLn hL1 hL0 L0
          refine Ex.loop (ι:=Nat × Option Nat) (λc=>[(3,gv c.2 ((L1++(x.rules.take c.1).flatMap hH).map Tm.enc)),(50,.list none (x.rules.map Rul.enc)),(51,.int .i64 x.rules.length),(52,.int .i64 (c.1:Nat))])
            (λc=>gs s c.2 (L1++(x.rules.take c.1).flatMap hH).length 43)
            (λc=>qR s (L1++(x.rules.take c.1).flatMap hH) c.2/\c.1<=x.rules.length) (λc=>x.rules.length-c.1) (0,tk) ⟨⟨by simpa using hnil,hfree⟩,aU _⟩ ?_ ?_ ?_
          · simp only[go_sem,hp]
            simp
          · simp only[List.take_zero,List.flatMap_nil,eM]
            exact pQ (aCi (tU hp (xI _ _ _)))
          · clear hnil hfree tk
            rintro⟨i,tk⟩ ⟨⟨hnil,hfree⟩,hi⟩;simp only at hnil hfree hi;refine bG (V:=[0,1,2,3,5,7,9,11,13,15,16,17,18,37,38,39,40,50,51,52,53,57,58,59,60,77,78,79,80]) _ _ _ _ ?_;simp only[go_sem];(refine aQ (λh=>?_) (λh=>?_))<;>simp only[go_sem,h]
            · have hix:i<x.rules.length:=by simpa using h
              clear h;obtain⟨r,hr⟩:∃a,x.rules[i]?=some a:=⟨_,aY hix⟩
              have htk:=vI hH hr;have hln:=xY hH x.rules (i+1);rw[htk,aG]at hln;simp only[go_sem,hr,hix];(intro b9 hb9;try simp only[aZ,aI,ne_eq]at hb9);simp only[go_sem,hr,hix,hb9];have hzr:Rlz (.agg r.cs):=hw2.agg_elem (cC.2 ⟨r,cM hr,rfl⟩);have hw3:Rlz (.list none (r.parts.map Part.enc)):=hzr.cell (by simp[Rul.cs]);have hw4:Rlz (.list none (r.new.map Fresh.enc)):=hzr.cell (by simp[Rul.cs]);have hiw:IntKind.i64.wrap ((i:Int)+1)=((i+1:Nat):Int):=hw2.wrap (i:=i) (by simpa using hix);obtain⟨L2,hL2⟩:∃L,L=L1++(x.rules.take i).flatMap hH:=⟨_,rfl⟩
              have hend:L1++(x.rules.take (i+1)).flatMap hH=L2++hH r:=by rw[htk,hL2,bI]
              have hB3:L2.length+(hH r).length<=4294967296:=by rw[hL2,aG];omega
              rw[<-hL2]at hnil⊢;clear hln htk
              refine Ex.loop (ι:=Nat × Option Nat) (λc=>[(3,gv c.2 ((L2++(r.parts.take c.1).flatMap jK).map Tm.enc)),(9,.ptr b9 0),(50,.list none (x.rules.map Rul.enc)),(51,.int .i64 x.rules.length),(52,.int .i64 (i:Nat)),(57,.list none (r.parts.map Part.enc)),(58,.int .i64 r.parts.length),(59,.int .i64 (c.1:Nat))])
                (λc=>gs (s.setO b9 (.cells 84 r.cs)) c.2 (L2++(r.parts.take c.1).flatMap jK).length 43)
                (λc=>qR s (L2++(r.parts.take c.1).flatMap jK) c.2/\c.1<=r.parts.length) (λc=>r.parts.length-c.1) (0,tk) ⟨⟨by simpa using hnil,hfree⟩,aU _⟩ ?_ (by simp only[List.take_zero,List.flatMap_nil,eM];exact aM _) ?_
              · simp only[go_sem,hb9]
                simp
              · clear hnil hfree tk
                rintro⟨j,tk⟩ ⟨⟨hnil,hfree⟩,hj⟩;simp only at hnil hfree hj;refine bG (V:=[0,1,2,3,5,7,9,11,13,15,16,17,18,37,38,39,40,50,51,52,53,57,58,59,60,77,78,79,80]) _ _ _ _ ?_;simp only[go_sem,hb9];(refine aQ (λh=>?_) (λh=>?_))<;>simp only[go_sem,h,hb9]
                · have hjx:j<r.parts.length:=by simpa using h
                  clear h;obtain⟨q,hq⟩:∃a,r.parts[j]?=some a:=⟨_,aY hjx⟩
                  have htk:=vI jK hq;have hln:=xY jK r.parts (j+1);rw[htk,aG,aI0]at hln;rw[hH,aG]at hB3;simp only[go_sem,hb9,hq,hjx];(intro b11 hb11;try simp only[aZ,aI,ne_eq]at hb11);simp only[go_sem,hb9,hq,hjx,hb11];(refine bL (OT.l [0,1,2,3,5,6,4,7,8] .nil) [(4,[6])] ?_;simp only[go_sem,hb9,hq,hjx,hb11]);refine⟨by decide,λy hy=>by simp only[bW]at hy;subst hy;rfl,dY rfl rfl (gvE hnil) (sD _) (by simp only[aH,aG,aE,aF];omega) (λu hu=>?_)⟩;have hfu:=gD hu hfree;rw[fO hu];simp only[go_sem,hb9,hq,hjx,hb11];refine⟨by decide,sD _,by simp only[aG,aH,aE,aF],λy hy=>?_,by simp only[aG,aH,aE,aF];omega,?_⟩
                  · simp only[cW,bW]at hy
                    rcases hy with hy|rfl
                    · exact sD _ _ hy
                    · rfl
                  refine⟨(j+1,some u),⟨⟨λh=>(by cases h),λt h=>by cases h;exact hfu⟩,hjx⟩,by simp only;omega,?_,?_⟩
                  · simp only[go_sem,hw3.wrap (i:=j) (by simpa using hjx),dO,htk,cV,jK,bI]
                  · have e1:∀(a:A),(List.map Tm.enc (L2++(r.parts.take j).flatMap jK)++[a]).length+q.right.length=(L2++(r.parts.take (j+1)).flatMap jK).length:=λa=>by simp only[htk,aG,aI0,aH,aE,aF];omega
                    rw[aCf,e1];exact jU (by(repeat (first|(refine eC ?_ ?_;focus (simp only[aI,ne_eq,dK,iT,hb9,hb11]<;>done))|exact aM _)))
                · have hjj : j = r.parts.length := by have : ¬ j < r.parts.length := by simpa using h
                                                      omega
                  subst hjj;clear h hj;rw[List.take_length]at hnil;rw[List.take_length];rw[hH]at hend hB3;simp only[aG]at hB3;obtain⟨L3,hL3⟩:∃L,L=L2++r.parts.flatMap jK:=⟨_,rfl⟩
                  rw[<-bI,<-hL3]at hend;have hL3n:L3.length=L2.length+(r.parts.flatMap jK).length:=by rw[hL3,aG]
                  rw[<-hL3]at hnil⊢;clear hL3;refine⟨by decide,sD _,dY rfl rfl (gvE hnil) (sD _) (by simp only[aH];omega) (λu hu=>?_)⟩;have hfu:=gD hu hfree;rw[fO hu];simp only[go_sem,hb9];clear hnil hfree hu tk
                  refine Ex.loop (ι:=Nat × Option Nat) (λc=>[(3,gv c.2 ((L3++(r.cond++(r.new.take c.1).flatMap Fresh.cells)).map Tm.enc)),(50,.list none (x.rules.map Rul.enc)),(51,.int .i64 x.rules.length),(52,.int .i64 (i:Nat)),(77,.list none (r.new.map Fresh.enc)),(78,.int .i64 r.new.length),(79,.int .i64 (c.1:Nat))])
                    (λc=>gs s c.2 (L3++(r.cond++(r.new.take c.1).flatMap Fresh.cells)).length 43)
                    (λc=>qR s (L3++(r.cond++(r.new.take c.1).flatMap Fresh.cells)) c.2/\c.1<=r.new.length) (λc=>r.new.length-c.1) (0,some u) ⟨⟨λh=>(by cases h),λt h=>by cases h;exact hfu⟩,aU _⟩ ?_ ?_ ?_
                  · simp only[go_sem,hb9,dO,cV]
                    simp
                  · show St.ge _ (s.setT u ((L3++(r.cond++(r.new.take 0).flatMap Fresh.cells)).length,43))
                    rw[show(L3++(r.cond++(r.new.take 0).flatMap Fresh.cells)).length=L3.length+r.cond.length by simp];exact jU (by(repeat (first|(refine eC ?_ ?_;focus (simp only[aI,ne_eq,dK,iT,hb9]<;>done))|exact aM _)))
                  · rintro⟨j,tk⟩ ⟨⟨hnil,hfree⟩,hj⟩
                    simp only at hnil hfree hj;refine bG (V:=[0,1,2,3,5,7,9,11,13,15,16,17,18,37,38,39,40,50,51,52,53,57,58,59,60,77,78,79,80]) _ _ _ _ ?_;simp only[go_sem];(refine aQ (λh=>?_) (λh=>?_))<;>simp only[go_sem,h]
                    · have hjx:j<r.new.length:=by simpa using h
                      clear h;obtain⟨q,hq⟩:∃a,r.new[j]?=some a:=⟨_,aY hjx⟩
                      have htk:=vI Fresh.cells hq;have hln:=xY Fresh.cells r.new (j+1);rw[htk,aG]at hln;simp only[go_sem,hq,hjx];(intro b13 hb13;try simp only[aZ,aI,ne_eq]at hb13);simp only[go_sem,hq,hjx,hb13];refine⟨by decide,sD _,dY rfl rfl (gvE hnil) (sD _) (by simp only[aH,aG];omega) (λu hu=>?_)⟩;have hfu:=gD hu hfree;rw[fO hu];simp only[go_sem,hq,hjx,hb13];refine⟨(j+1,some u),⟨⟨λh=>(by cases h),λt h=>by cases h;exact hfu⟩,hjx⟩,by simp only;omega,?_,?_⟩
                      · simp only[go_sem,hw4.wrap (i:=j) (by simpa using hjx),dO,htk,cV,bI]
                      · rw[show(L3++(r.cond++(r.new.take j).flatMap Fresh.cells)).length+q.cells.length=(L3++(r.cond++(r.new.take (j+1)).flatMap Fresh.cells)).length by simp only[htk,aG];omega]
                        exact jU (by(repeat (first|(refine eC ?_ ?_;focus (simp only[aI,ne_eq,dK,iT,hb13]<;>done))|exact aM _)))
                    · have hjj : j = r.new.length := by have : ¬ j < r.new.length := by simpa using h
                                                        omega
                      subst hjj;clear h hj;rw[List.take_length,<-hend]at hnil;rw[List.take_length,<-hend];refine⟨(i+1,tk),⟨⟨hnil,hfree⟩,hix⟩,by simp only;omega,?_,aM _⟩;simp only[go_sem,hiw]
            · have hii : i = x.rules.length := by have : ¬ i < x.rules.length := by simpa using h
                                                  omega
              subst hii;rw[List.take_length]at hnil⊢;exact DK.mk hk (nB (aM _) hfree) (iY _ _ (λe=>by rw[hnil e];rfl))
def fR(t:Tm):Bool:=(Tm.val 60 t 0).isSome
theorem aOE(t:Tm)(hw:TmW t)(s:St)(KV Kp:St->A->Prop)(hk:KV s (.bool (!fR t))):Den cx 176 [.agg t.cs] KV Kp s:=by
 (refine aO func176 [0,1,2] ?_;simp only[go_sem,ntmps176,f176]);(intro p hp;try simp only[aI,ne_eq]at hp);simp only[go_sem,hp];refine aNt t hw _ _ _ ?_;simp only[go_sem];exact aP hk cS
theorem aOa(l:List Tm)(hw:∀t,t∈l->TmW t)(s:St)(KV Kp:St->A->Prop)(hk:∀n:Int,decide (0<=n)=!l.all fR->KV s (.int .i64 n)):Den cx 247 [.list none (l.map Tm.enc),.fn 176 [] []] KV Kp s:=by
  refine jD λhz1=>?_
  have hlw:=hz1 _ (bY ..);(refine aO func247 [0,1,4,5,7,8,9,16] ?_;simp only[go_sem,ntmps247,f247])
  refine Ex.loop (ι:=Nat) (λi=>[(0,.list none (l.map Tm.enc)),(1,.fn 176 [] []),(7,.int .i64 l.length),(8,.int .i64 (i:Nat))]) (λ_=>s)
    (λi=>i<=l.length/\(l.take i).all fR=true) (λi=>l.length-i) 0 ⟨aU _,rfl⟩ ?_ (aM s) ?_
  · (simp only[go_sem];try exact rfl)
  · rintro i ⟨hi,ha⟩
    refine bG (V:=[0,1,4,5,7,8,9,16]) _ _ _ _ ?_;simp only[go_sem];(refine aQ (λh=>?_) (λh=>?_))<;>simp only[go_sem,h]
    · have hix:i<l.length:=by simpa using h
      clear h;obtain⟨x,hx⟩:∃a,l[i]?=some a:=⟨_,aY hix⟩
      have hxm:x∈l:=cM hx;simp only[go_sem,hx,hix];refine aOE x (hw x hxm) _ _ _ ?_;simp only[go_sem];cases hv:fR x with
      | false =>
        simp only[go_sem,hv];refine aN (hk _ ?_)
        have h1:l.all fR=false:=by
          rw[List.all_eq_false];exact⟨x,hxm,by simp[hv]⟩
        rw[h1];simp
      | true =>
        simp only[go_sem,hv];refine⟨i+1,⟨hix,?_⟩,by omega,by simp only[go_sem,hlw.wrap (i:=i) (by simpa using hix)],aM _⟩;rw[iS,hx,List.all_append,ha];simp[hv]
    · have hii : i = l.length := by have : ¬ i < l.length := by simpa using h
                                    omega
      subst hii;rw[List.take_length]at ha;refine aN (hk _ ?_);rw[ha];rfl
theorem aOp(l:List Tm)(hw:∀t,t∈l->TmW t)(s:St)(KV Kp:St->A->Prop)(hk:KV s (.bool (!l.all fR))):Den cx 174 [.list none (l.map Tm.enc),.fn 176 [] []] KV Kp s:=by
 (refine aO func174 [0,1,4] ?_;simp only[go_sem,ntmps174,f174]);refine aOa l hw _ _ _ (λn hn=>?_);simp only[go_sem];rw[hn];exact aN hk
def tY(r:Rul):Bool:=decide (r.parts.length+r.new.length+r.drop.length<=20)&&decide (r.cond.length<=20)
def iW(d:Dfn):Bool :=
 (decide (d.eqs.length<=300)&&decide (d.rules.length<=300))&&(decide (d.once.length<=12)&&decide (d.many.length<=12))&&decide (d.sig.ops.length+d.sig.funs.length<=200)&&d.rules.all tY&&(iQ d).all fR
theorem aNI(x:Dfn)(hB:(iQ x).length<=4294967296)(hw:∀t,t∈iQ x->TmW t)(hS:x.sig.ops.length+x.sig.funs.length<=4294967296)(hR:∀r,r∈x.rules->r.parts.length+r.new.length+r.drop.length<=4294967296)(s:St)(KV Kp:St->A->Prop)(hk:KV s (.bool (iW x))):Den cx 99 [.agg x.cs] KV Kp s:=by
  refine jD λhz1=>?_
  have hza:=hz1 _ (bY ..);have hw2:Rlz (.list none (x.rules.map Rul.enc)):=hza.cell (by simp[Dfn.cs]);clear hz1;(refine aO func99 [0,1,2,4,34,36,37,38,39,59] ?_;simp only[go_sem,ntmps99,f99]);(intro p hp;try simp only[aI,ne_eq]at hp);simp only[go_sem,hp];have hno:∀(b:Bool),b=false->iW x=(b&&iW x)->KV s (.bool false):=λb hb e=>by rw[hb,eU]at e;rw[e]at hk;exact hk
  (refine aQ (λh=>?_) (λh=>?_))<;>simp only[go_sem,h,hp]
  · refine aP (hno (decide (x.eqs.length<=300)&&decide (x.rules.length<=300)) ?_ ?_) cS
    · rw[cU]at h
      rw[Bool.and_eq_false_iff,fL,fL];split at h<;>omega
    · cases h1:decide (x.eqs.length<=300)<;>cases h2:decide (x.rules.length<=300)<;>simp[iW,h1,h2]
  have h1:x.eqs.length<=300/\x.rules.length<=300:=by
    rw[fL]at h;split at h<;>omega
  clear h;(refine aQ (λh=>?_) (λh=>?_))<;>simp only[go_sem,h,hp]
  · refine aP (hno (decide (x.once.length<=12)&&decide (x.many.length<=12)) ?_ ?_) cS
    · rw[cU]at h
      rw[Bool.and_eq_false_iff,fL,fL];split at h<;>omega
    · cases h1:decide (x.once.length<=12)<;>cases h2:decide (x.many.length<=12)<;>simp[iW,h1,h2]
  have h2:x.once.length<=12/\x.many.length<=12:=by
    rw[fL]at h;split at h<;>omega
  clear h;rw[iU _ aB aB];(refine aQ (λh=>?_) (λh=>?_))<;>simp only[go_sem,h,hp]
  · refine aP (hno (decide (x.sig.ops.length+x.sig.funs.length<=200)) ?_ ?_) cS
    · rw[cU]at h
      rw[fL];omega
    · cases h1:decide (x.sig.ops.length+x.sig.funs.length<=200)<;>simp[iW,h1]
  have h3:x.sig.ops.length+x.sig.funs.length<=200:=by
    rw[fL]at h;omega
  clear h
  refine Ex.loop (ι:=Nat) (λc=>[(1,.ptr p 0),(36,.list none (x.rules.map Rul.enc)),(37,.int .i64 x.rules.length),(38,.int .i64 (c:Nat))]) (λ_=>s.setO p (.cells 33 x.cs))
    (λc=>c<=x.rules.length/\(x.rules.take c).all tY=true) (λc=>x.rules.length-c) 0 ⟨aU _,rfl⟩ ?_ (by exact aM _) ?_
  · (simp only[go_sem,hp];first|done|exact rfl|exact⟨rfl,rfl⟩)
  · rintro i ⟨hi,ha⟩
    refine bG (V:=[0,1,2,4,34,36,37,38,39,59]) _ _ _ _ ?_;simp only[go_sem,hp];(refine aQ (λh=>?_) (λh=>?_))<;>simp only[go_sem,h,hp]
    · have hix:i<x.rules.length:=by simpa using h
      obtain⟨e,he⟩:∃a,x.rules[i]?=some a:=⟨_,aY hix⟩
      clear h;have hlr:=hR e (cM he);have w1:IntKind.i64.wrap ((e.parts.length:Int)+(e.new.length:Int))=(e.parts.length:Int)+(e.new.length:Int):=iU _ aB aB;have w2:IntKind.i64.wrap ((e.parts.length:Int)+(e.new.length:Int)+(e.drop.length:Int))=(e.parts.length:Int)+(e.new.length:Int)+(e.drop.length:Int):=iU _ aB aB
      have hall:tY e=false->iW x=(false&&iW x):=λh=>by
        have:x.rules.all tY=false:=by rw[List.all_eq_false];exact⟨e,cM he,by simp[h]⟩
        simp[iW,this]
      simp only[go_sem,hp,he,hix];(intro b5 hb5;try simp only[aI,ne_eq]at hb5);simp only[go_sem,hp,he,hix,hb5,w1,w2];(refine aQ (λh=>?_) (λh=>?_))<;>simp only[go_sem,h,hp,hb5]
      · refine aP (hno false rfl (hall ?_)) cS
        rw[cU]at h;have:decide (e.parts.length+e.new.length+e.drop.length<=20)=false:=by rw[fL];omega
        rw[tY,this,eU]
      rw[fL]at h;have d1:decide (e.parts.length+e.new.length+e.drop.length<=20)=true:=by rw[cU];omega
      clear h;(refine aQ (λh=>?_) (λh=>?_))<;>simp only[go_sem,h,hp,hb5]
      · refine aP (hno false rfl (hall ?_)) cS
        rw[cU]at h;have:decide (e.cond.length<=20)=false:=by rw[fL];omega
        rw[tY,this,fG]
      rw[fL]at h;have d2:decide (e.cond.length<=20)=true:=by rw[cU];omega
      exact⟨i+1,⟨hix,by rw[iS,he,List.all_append,ha];simp[tY,d1,d2]⟩,by omega,by simp only[go_sem,hw2.wrap (i:=i) (by simpa using hix)],(by(repeat (first|(refine eC ?_ ?_;focus (simp only[aI,ne_eq,dK,iT,hp,hb5]<;>done))|exact aM _)))⟩
    · have hii : i = x.rules.length := by have : ¬ i < x.rules.length := by simpa using h
                                          omega
      subst hii;rw[List.take_length]at ha;clear h;refine aNm x hB aB _ _ _ ?_;simp only[go_sem];refine aOp (iQ x) hw _ _ _ ?_;simp only[go_sem]
      have hs:iW x=(iQ x).all fR:=by
        simp[iW,h1,h2,h3,ha]
      rw[hs]at hk;rw[Bool.not_not];exact aP hk cS
theorem aTo(x:aC):kJ x=fz (1+(x.count 10:Nat)) (x.length-nO x 10 x.length):=rfl
def yP(x:Dfn):Bool:=match jS dG true (kG (fI x))with
 | .ok T=>(match kV false (kJ (kG (fI x))) T with
  | .ok d _ _=>x.same d
  | .bad _=>false)
 | .bad _=>false
def jE(x:Dfn):Bool:=iW x&&yP x
structure DfnB (x:Dfn):Prop where
 tl:(iQ x).length<=4294967296
 tw:∀t,t∈iQ x->TmW t
 sl:x.sig.ops.length+x.sig.funs.length<=4294967296
 rl:∀r,r∈x.rules->r.parts.length+r.new.length+r.drop.length<=4294967296
 ok:iW x=true->DfnOk x
 sh:iW x=true->(kG (fI x)).length<=4294967280
 dl:iW x=true->(fI x).length<=4294967296
 li:iW x=true->∀ws,ws∈fI x->ws.length<=4294967296
def NoW(s:St):Prop:=∀p o,s.getO p=some o->lY o
theorem NoW.set{s:St}(h:NoW s){o:Ob}(ho:lY o)(p:Nat):NoW (s.setO p o):=λq x hx=>by
 rw[aJ]at hx;split at hx
 .cases hx;exact ho
 .exact h q x hx
theorem qH(c:List Wd)(x:aC):aL c x≠[]:=by simp[aL]
theorem aFW(x:Dfn):∀ws,ws∈fI x->ws≠[]:=by
 intro ws h;simp only[fI,uE,nP,mY,cW,cC,bW]at h;rcases h with rfl|h|h|h|h|h|h|h
 .exact qH _ _
 .rcases h with h|⟨_,_,rfl⟩|h|⟨_,_,rfl⟩|⟨_,_,rfl⟩
  .split at h
   .cases h
   .rw[bW.1 h];exact qH _ _
  .exact qH _ _
  .split at h
   .cases h
   .rw[bW.1 h];exact qH _ _
  .exact qH _ _
  .exact qH _ _
 .obtain⟨_,_,rfl⟩:=h;exact qH _ _
 .obtain⟨_,_,rfl⟩:=h;exact qH _ _
 .split at h
  .cases h
  .rw[bW.1 h];exact qH _ _
 .split at h
  .cases h
  .rw[bW.1 h];exact qH _ _
 .split at h
  .cases h
  .rw[bW.1 h];exact qH _ _
 .obtain⟨_,_,rfl⟩:=h;exact qH _ _
theorem aOq(x:Dfn):kG (fI x)≠[]:=by
 unfold kG dJ fI;rw[List.singleton_append,nL];simp[aL,bM,kH]
theorem aKS:∀(T:List Tok) (l c:Int),∃T',Mv T T'/\∀v z,T'=v::z->v.line=l/\v.col=c
 | [],l,c=>⟨[],.nil,λv z h=>by cases h⟩
 | t::w,l,c=>by
  obtain⟨w',h1,h2⟩:=aKS w l (c+1);exact⟨t.to l c::w',.cons (λv z e _ _ _ _ _=>h2 v z e) h1,λv z e=>by cases e;exact⟨rfl,rfl⟩⟩
theorem aQd{T:List Tok}{x:aC}{f:Fault}(h:kV false (kJ x) T=.bad f):f.code≠0:=by
 obtain⟨T',h1,-⟩:=aKS T 0 0;rw[aTo]at h;rcases aIM (f2:=fz 0 0) h1 with⟨g,hg,e⟩|⟨d,w,n,d',w',e,_⟩
 .rw[e]at h;cases h;exact hg
 .rw[e]at h;cases h
theorem WL.ge{s s':St}{v:A}{ws:List Wd}(hs:s'.ge s)(h:WL s v ws):WL s' v ws:=h.stp λb _ o ho=>hs.ob b o ho
theorem WfS.ge{s s':St}{r:Nat}{vi vl:A}{LS:List (List Wd)}{cur:List Wd}(hs:s'.ge s)(h:WfS s r vi vl LS cur):WfS s' r vi vl LS cur:=by
 refine⟨⟨hs.ob _ _ h.w.ob,h.w.one,h.w.line.ge hs⟩,?_⟩;cases h.i with
 | nil=>exact .nil
 | mg b cap _ vs J hb hl hc hJ h1 hv=>exact .mg b cap LS vs J (hs.ob _ _ hb) hl hc hJ h1 λk v ws hk hw=>⟨(hv k v ws hk hw).1.ge hs,(hv k v ws hk hw).2⟩
theorem Frm.ge{s S s1:St}(hF:Frm S s1)(h:S.ge s)(hN:NoW s):s1.ge s :=
 ⟨λb o ho=>hF.ob b o (h.ob b o ho) (hN b o ho),λt n ht=>hF.tk _ _ (h.tk t n ht),λx hx=>by rw[hF.ls];exact h.ls x hx⟩
theorem aG3(x:Dfn)(hx:DfnB x)(s:St)(hN:NoW s)(KV Kp:St->A->Prop)
  (hk:∀s' r vi,s'.ge s->(jE x=true->WfS s' r vi .nils (fI x) [])->KV s' (.tuple [.ptr r 0,.bool (jE x)])):Den cx 56 [.agg x.cs] KV Kp s:=by
 (refine aO func56 [0,1,2,3,4,5,6,11,24] ?_;simp only[go_sem,ntmps56,f56]);(intro p hp;try simp only[aI,ne_eq]at hp);simp only[go_sem,hp];(intro r hr;try simp only[aI,ne_eq]at hr);simp only[go_sem,hp,hr];refine aNI x hx.tl hx.tw hx.sl hx.rl _ _ _ ?_;simp only[go_sem];cases hz:iW x with
 | false =>
  have hv:jE x=false:=by rw[jE,hz,eU]
  simp only[go_sem,hz,hp,hr];have:=hk ((s.setO p (.cells 33 x.cs)).setO r (.cells 149 [.nils,.nils])) r .nils cS (λh=>by rw[hv]at h;cases h);rw[hv]at this;exact aN this
 | true =>
  simp only[go_sem,hz,hp,hr];have hW0:WfS ((s.setO p (.cells 33 x.cs)).setO r (.cells 149 [.nils,.nils])) r .nils .nils [] []:=⟨⟨by rw[aJ,if_pos rfl],rfl,.nil⟩,.nil⟩
  have gp:((s.setO p (.cells 33 x.cs)).setO r (.cells 149 [.nils,.nils])).getO p=some (.cells 33 x.cs):=by
   rw[aJ,if_neg (λe=>hr.1.1 e.symm),aJ,if_pos rfl]
  have hge0:((s.setO p (.cells 33 x.cs)).setO r (.cells 149 [.nils,.nils])).ge s:=cS;refine aOB x (hx.ok hz) r _ _ _ hW0 (λs1 vi hW hF=>?_);have gp1:=hF.ob p _ gp (by simp only[lY];decide);have hge1:s1.ge s:=hF.ge hge0 hN;clear hW0 gp hge0 hF hp hr;simp only[go_sem];refine aM3 r vi (fI x) _ _ _ hW (aOq x) (hx.dl hz) (λws h=>⟨aFW x ws h,hx.li hz ws h⟩) (by have:=hx.sh hz;omega) ?_;simp only[go_sem];refine aHL _ (hx.sh hz) ?_;cases hl:jS dG true (kG (fI x))with
  | bad f =>
   have hv:jE x=false:=by rw[jE,yP,hl,fG]
   have hc0:decide (f.code=0)=false:=by rw[aCp hl];rfl
   simp only;simp only[go_sem];(intro b5 hb5;try simp only[aI,ne_eq]at hb5);simp only[go_sem,hb5,hc0]
   have:=hk (s1.setO b5 (.cells 36 f.cs)) r vi (eC (by
    cases e:s.getO b5 with
    | none=>rfl
    | some o=>rw[hge1.ob b5 o e]at hb5;cases hb5) hge1) (λh=>by rw[hv]at h;cases h)
   rw[hv]at this;exact aN this
  | ok T =>
   simp only;intro q hq;obtain⟨O,hO⟩:∃O,O=bC T (kJ (kG (fI x))) (cH gL nV) qN 0 0:=⟨_,rfl⟩
   rw[<-hO];have fz0:decide (Fault.none.code=0)=true:=rfl;simp only[go_sem,Fault.none];(intro b5 hb5;try simp only[aI,ne_eq]at hb5);simp only[go_sem,hq,hb5];refine aKl (T:=T) (fin:=kJ (kG (fI x))) (aGc (hx.sh hz) hl) (by rw[aJ,if_neg (λe=>hb5.1.1 e.symm),aJ,if_pos rfl,hO]) ?_;unfold aDE;cases hd:kV false (kJ (kG (fI x))) T with
   | bad f =>
    have hv:jE x=false:=by rw[jE,yP,hl];simp only[hd,fG]
    have hc0:decide (f.code=0)=false:=lD (aQd hd);simp only;intro o;simp only[go_sem];(intro b6 hb6;try simp only[aI,ne_eq]at hb6);simp only[go_sem,hb5,hb6,hc0]
    have hz':∀S:St,S.ge s1->KV S (.tuple [.ptr r 0,.bool false]):=λS hS=>by
     have:=hk S r vi (hS.trans hge1) (λh=>by rw[hv]at h;cases h)
     rwa[hv]at this
    refine aN (hz' _ ?_);exact aX
   | ok d w n =>
    have hv:jE x=x.same d:=by rw[jE,hz,yP,hl];simp only[hd,eW]
    simp only;intro o;simp only[go_sem];(intro b6 hb6;try simp only[aI,ne_eq]at hb6);have nf:∀{b:Nat},s1.getO b=none->¬ b=p:=λh e=>by rw[e,gp1]at h;cases h
    have n1:=nf hq;have n2:=nf hb5.2;have n3:=nf (b:=b6) (by first|exact hb6.2|exact hb6.2.2|exact hb6.2.2.2);simp only[go_sem,hb5,hb6,fz0,gp1,n1,n2,n3];refine aBY x d _ _ _ ?_;simp only[go_sem];have:=hk _ r vi (St.ge.trans (aX (s1:=(((((s1.setO q O).setO b5 (.cells 36 Fault.none.cs)).setO q o).setO b6 (.cells 33 d.cs)).setO b5 (.cells 36 Fault.none.cs)))) hge1) (λh=>hW.ge aX);rw[hv]at this;exact aN this
theorem aEN(x:Dfn)(hx:DfnB x)(s:St)(hN:NoW s)(KV Kp:St->A->Prop)(hk:KV s (.bool (jE x))):Den cx 25 [.agg x.cs] KV Kp s:=by
 (refine aO func25 [0,1,2,4] ?_;simp only[go_sem,ntmps25,f25]);(intro p hp;try simp only[aI,ne_eq]at hp);simp only[go_sem,hp];refine aG3 x hx _ (hN.set (by simp only[lY];decide) _) _ _ (λs' r vi hge _=>?_);simp only[go_sem];exact aP hk (hge.trans cS)
def nD(d:Dfn)(a b:aC):Bool:=jE d&&(sI a&&sI b)
def iO(a b:aC)(d:Dfn):Dfn:=wD (fU (lJ a b)) d
theorem aP0{a b:aC}(ha:a.length<=140737488355328)(hb:b.length<=140737488355328):LenS (lJ a b):=λx hx=>by
 unfold lJ;split
 .exact hb
 split
 .exact ha
 .exact hx
theorem aBU(d:Dfn)(hd:DfnB d)(hc:DfnC d)(a b:aC)(ha:a.length<=140737488355328)(hb:b.length<=140737488355328)(s:St)(hN:NoW s)(KV Kp:St->A->Prop)
  (hk:KV s (.tuple [(if nD d a b=true then iO a b d else gL).enc,.int .i64 (if nD d a b=true then 0 else 2)])):Den cx 27 [.agg d.cs,.str a,.str b] KV Kp s:=by
 have zd:A.le (.agg [.str [],.nils,.nils,.nils,.nils,.nils,.nils,.nils,.str [],.nils,.nils,.str [],.str []]) gL.enc:=aDj gL nV (s:=s) aCl;(refine aO func27 [0,1,2,3,4,5,6,7,20] ?_;simp only[go_sem,ntmps27,f27]);(intro p3 hp3;try simp only[aI,ne_eq]at hp3);simp only[go_sem,hp3];(intro p4 hp4;try simp only[aI,ne_eq]at hp4);simp only[go_sem,hp3,hp4];(intro p5 hp5;try simp only[aI,ne_eq]at hp5);simp only[go_sem,hp3,hp4,hp5];(intro p6 hp6;try simp only[aI,ne_eq]at hp6);simp only[go_sem,hp3,hp4,hp5,hp6];refine aEN d hd _ ((((hN.set (by simp only[lY];decide) _).set (by simp only[lY];decide) _).set (by simp only[lY];decide) _).set (by simp only[lY];decide) _) _ _ ?_;simp only[go_sem,hp3,hp4,hp5,hp6];unfold nD at hk;cases h1:jE d
 .rw[h1]at hk;simp only[go_sem,h1,hp3,hp4,hp5,hp6];simp only[eU,eW,fG,cJ,if_false]at hk;exact DK.mk hk aX (A.le.tuple ⟨zd,bB _,trivial⟩)
 rw[h1]at hk;simp only[go_sem,h1,hp3,hp4,hp5,hp6];refine aG6 _ _ _ _ ?_;cases h2:sI a
 .rw[h2]at hk;simp only[go_sem,h2,hp3,hp4,hp5,hp6];simp only[eU,eW,fG,cJ,if_false]at hk;exact DK.mk hk aX (A.le.tuple ⟨zd,bB _,trivial⟩)
 rw[h2]at hk;simp only[go_sem,h2,hp3,hp4,hp5,hp6];refine aG6 _ _ _ _ ?_;cases h3:sI b
 .rw[h3]at hk;simp only[go_sem,h3,hp3,hp4,hp5,hp6];simp only[eU,eW,fG,cJ,if_false]at hk;exact DK.mk hk aX (A.le.tuple ⟨zd,bB _,trivial⟩)
 rw[h3]at hk;simp only[go_sem,h3,hp3,hp4,hp5,hp6];refine aMI (f0:=61) (caps0:=[.ptr p4 0,.ptr p5 0]) ⟨aPG a b p4 p5,aP0 ha hb⟩ d hc _ _ _ ?_ ?_
 .intro p hp;simp only[eB,List.mem_nil_iff,fH]at hp;rcases hp with rfl|rfl
  .exact gH
  .exact gH
 simp only[go_sem,hp3,hp4,hp5,hp6];simp only[Bool.and_self,if_true,iO,Dfn.enc,Dfn.cs,Sig.cs,aV,aW]at hk;exact aP hk aX
def aDo(x:Dfn):aC × Int:=if jE x=true then(if 20000<(nU (fI x)).length then([],3) else(nU (fI x),0)) else([],2)
theorem aOl(x:Dfn)(hx:DfnB x)(hl:jE x=true->(nU (fI x)).length<=4294967296)(s:St)(hN:NoW s)(KV Kp:St->A->Prop)(hk:KV s (.tuple [.str (aDo x).1,.int .i64 (aDo x).2])):Den cx 23 [.agg x.cs] KV Kp s:=by
 unfold aDo at hk;(refine aO func23 [0,1,2,3,4,5,6,13,18] ?_;simp only[go_sem,ntmps23,f23]);(intro p hp;try simp only[aI,ne_eq]at hp);simp only[go_sem,hp];refine aG3 x hx _ (hN.set (by simp only[lY];decide) _) _ _ (λs' r vi hge hw=>?_);cases hv:jE x with
 | false =>
  rw[hv,if_neg aD]at hk;simp only[go_sem,hv];exact aP hk (hge.trans cS)
 | true =>
  have hz:iW x=true:=by
   unfold jE at hv;rw[cL]at hv;exact hv.1
  rw[hv,if_pos rfl]at hk;simp only[go_sem,hv];refine aOk r vi (fI x) _ _ _ (hw hv) (by simp[fI]) (λws h=>⟨aFW x ws h,hx.li hz ws h⟩) (hl hv) ?_;simp only[go_sem];(refine aQ (λh=>?_) (λh=>?_))<;>simp only[go_sem,h]
  .rw[if_pos (by rw[cU]at h;omega)]at hk;exact aP hk (hge.trans cS)
  .rw[if_neg (by rw[fL]at h;omega)]at hk;exact aP hk (hge.trans cS)
def jL:Dfn:=⟨[101],⟨[[65]],[],[⟨[97],[],[65],[⟨[97],[]⟩],0,0,[]⟩],[],[]⟩,[],[⟨[99],[65],.mk 6 0 [36] [65,110,121] [] [],1,52⟩],[],[],[],[65],[99]⟩
def awT:Tm:=.mk 5 0 [102] [] [.mk 6 0 [88] [73,110,116] [] [],.mk 7 0 [] [] [.mk 1 (-1) [] [] [] []] [.mk 6 0 [76] [76,105,115,116] [] []]] []
def aLE:aC:=[108,97,110,103,117,97,103,101,32,101,46,10,115,111,114,116,32,65,46,10,111,112,32,97,32,58,32,34,97,34,32,45,62,32,65]++[46,10,99,101,108,108,32,99,32,58,32,65,32,61,32,36,46,10,115,116,97,114,116,32,65,46,10,119,97,116,99,104,32,99,46,10]
def awS:aC:=[108,97,110,103,117,97,103,101,32,101,46,32,115,111,114,116,32,65,46,32,111,112,32,97,32,58,32,34,97,34,32,45,62,32,65]++[46,32,115,116,97,114,116,32,65,46,32,99,101,108,108,32,99,32,58,32,65,32,61,32,36,46,32,119,97,116,99,104,32,99,46]
theorem aUe:vN awS=(jL,⟨0,[],0,0⟩):=by kernel_rfl
theorem aT9:vN [108,97,110,103,117,97,103,101,32,101,46,32,115,111,114,116]=(gL,⟨12,[],1,17⟩):=by kernel_rfl
theorem aUf:vN [108,97,110,103,117,97,103,101,32,101,46,10,115,111,114,116,32,65,32,66,46]=(gL,⟨11,[66],2,8⟩):=by kernel_rfl
theorem aUd:aAp [102,40,88,58,73,110,116,44,32,91,45,49,32,124,32,76,93,41]=(awT,⟨0,[],0,0⟩):=by kernel_rfl
theorem aUh:aAp [45,32,53]=(sX,⟨11,[53],1,3⟩):=by kernel_rfl
theorem aUi:vN [108,97,110,103,117,97,103,101,32,101,46,32,115,116,97,114,116,32,65,46,32,115,116,97,114,116,32,66,46]=(gL,⟨14,[115,116,97,114,116],1,22⟩):=by kernel_rfl
section
structure NmG (x:aC):Prop where
 n:dM x=true
 r:x ∉ gX
structure TmG (t:Tm):Prop where
 g:Gd t
 m:∃m,eF 60 t 0=some m
structure PcG (p:Piece):Prop where
 c:p.sort=[]/\nT p.text=true\/p.text=[]/\NmG p.sort
def jC(l:List Piece):List aC:=(l.filter λp=>!decide (p.sort=[])).map Piece.sort
structure OpG (o:Opr):Prop where
 n:NmG o.name
 s:NmG o.sort
 a:∀x,x∈o.args->NmG x
 an:o.args.length<=8
 p:o.pieces=[]\/(∃q,q∈o.pieces/\q.sort=[])/\o.args=jC o.pieces
 pg:∀q,q∈o.pieces->PcG q
 pn:o.pieces.length<=20
 c:0<=o.prec/\o.prec<=20
 s2:o.assoc=0\/o.assoc=1\/o.assoc=2
 t:∀n,n∈o.strict->1<=n/\n<=8
structure FunG (o:Opr):Prop where
 n:NmG o.name
 s:NmG o.sort
 a:∀x,x∈o.args->NmG x
 an:o.args.length<=8
 z:o.pieces=[]/\o.prec=0/\o.assoc=0/\o.strict=[]
structure TmsG (l:List Tm):Prop where
 n:l.length<=20
 t:∀t,t∈l->TmG t
structure EqG (e:Eqn):Prop where
 l:TmG e.left
 r:TmG e.right
 c:TmsG e.cond
structure CelG (c:Cel):Prop where
 n:NmG c.name
 s:NmG c.sort
 i:TmG c.init
structure PartG (p:Part):Prop where
 c:NmG p.cell
 a:p.at_=[]\/NmG p.at_
 l:TmG p.left
 r:p.right=[]\/∃u,p.right=[u]/\TmG u
structure NewG (f:Fresh):Prop where
 n:f.cells≠[]
 t:∀t,t∈f.cells->TmG t
structure RulP (r:Rul):Prop where
 n:NmG r.name
 p:∀p,p∈r.parts->PartG p
 f:∀f,f∈r.new->NewG f
 d:∀x,x∈r.drop->NmG x
structure RulG (r:Rul):Prop where
 p:RulP r
 c:TmsG r.cond
 l1:1<=r.parts.length+r.new.length+r.drop.length
 l2:r.parts.length+r.new.length+r.drop.length<=20
structure DfnG (d:Dfn):Prop where
 n:NmG d.name
 so:∀x,x∈d.sig.sorts->NmG x
 son:d.sig.sorts.length<=40
 be:∀x,x∈d.sig.below->NmG x.low/\NmG x.high
 ben:d.sig.below.length<=200
 va:∀x,x∈d.sig.values->NmG x
 op:∀x,x∈d.sig.ops->OpG x
 fu:∀x,x∈d.sig.funs->FunG x
 on:d.sig.ops.length+d.sig.funs.length<=200
 eq:∀x,x∈d.eqs->EqG x
 eqn:d.eqs.length<=300
 ce:∀x,x∈d.once->CelG x
 cen:d.once.length<=12
 ma:∀x,x∈d.many->CelG x
 man:d.many.length<=12
 ki:d.kind=[]/\d.many=[]\/NmG d.kind/\d.many≠[]
 ru:∀x,x∈d.rules->RulG x
 run:d.rules.length<=300
 st:d.start=[]\/NmG d.start
 wa:d.watch=[]\/NmG d.watch
def Rd.gr{α:Type}(P:α->Nat->Prop):Rd α->Prop
 | .ok a w n=>P a n/\∀t,t∈w->TokG t
 | .bad _=>True
def Gl{α:Type}(P:α->Nat->Prop)(F:List Tok->Nat->Rd α)(n:Nat):Prop:=∀w,(∀t,t∈w->TokG t)->(F w n).gr P
section
variable {α β:Type} {P:α->Nat->Prop} {Q:β->Nat->Prop}
theorem cN{r:Rd α}{k:α->List Tok->Nat->Rd β}(h:r.gr P)(hk:∀a n,P a n->Gl Q (k a) n):(r.bind k).gr Q:=by
 cases r with
 | bad f=>trivial
 | ok a w n=>exact hk a n h.1 w h.2
theorem cR(c:Prop) [Decidable c] {r s:Rd α} (h:c->r.gr P) (g:¬ c->s.gr P):(if c then r else s).gr P:=by
 by_cases hc:c
 .rw[if_pos hc];exact h hc
 .rw[if_neg hc];exact g hc
theorem eA{a:α}{w:List Tok}{n:Nat}(h:P a n)(hw:∀t,t∈w->TokG t):(Rd.ok a w n).gr P:=⟨h,hw⟩
theorem sS{w:List Tok}(hw:∀t,t∈w->TokG t):∀t,t∈w.tail->TokG t:=λt ht=>hw t (List.mem_of_mem_tail ht)
theorem qK{t:Tok}{w:List Tok}(hw:∀u,u∈t::w->TokG u):∀u,u∈w->TokG u:=λu hu=>hw u (cT _ hu)
end
section
variable {fin:Fault}
theorem aJe{t:Tok}(h:TokG t)(hk:t.kind=1):dM t.text=true:=by
 rcases h.is with⟨_,_,c,r,e,h1,h2,h3⟩|⟨h1,_⟩|⟨h1,_⟩|⟨h1,_⟩
 .rw[e];simp only[dM,cL,cU]at h1⊢;refine⟨h3,h1.2.1,?_⟩;exact h2
 all_goals omega
theorem aA4{t:Tok}(h:TokG t)(hf:t.free=true):NmG t.text:=by
 simp only[Tok.free,cL,cU,oG,fL]at hf;exact⟨aJe h hf.1,hf.2⟩
theorem jQ(x:aC)(n:Nat):Gl (λ_ m=>m=n) (fZ fin x) n:=λw hw=>cR _ (λ_=>eA rfl (sS hw)) (λ_=>trivial)
theorem kR(n:Nat):Gl (λx m=>NmG x/\m=n) (eN fin) n:=λw hw=>by
 cases w with
 | nil=>trivial
 | cons t w=>exact cR _ (λh=>eA ⟨aA4 (hw t (bY ..)) h,rfl⟩ (qK hw)) (λ_=>trivial)
theorem aIe(most:Int)(n:Nat):Gl (λx m=>(1<=x/\x<=most)/\m=n) (rG fin most) n:=λw hw=>by
 cases w with
 | nil=>trivial
 | cons t w=>exact cR _ (λh=>cR _ (λ_=>trivial) (λh2=>eA ⟨⟨by omega,by omega⟩,rfl⟩ (qK hw))) (λ_=>trivial)
theorem aKx(first:Tok)(n:Nat):Gl (λ_ m=>m=n+1/\n+1<=2000) (oO first) n:=λw hw=>cR _ (λ_=>trivial) (λh=>eA ⟨rfl,by omega⟩ hw)
theorem aC2{σ:Type}{I J:σ->Nat->Prop}(sep:aC){one:σ->List Tok->Nat->Rd σ}(h:∀a n,I a n->Gl J (one a) n)(hJ:∀a n,J a n->I a n):∀(f:Nat) (a:σ) (n:Nat),I a n->Gl J (dD fin sep one f a) n
 | 0,a,n,_=>λw hw=>trivial
 | f+1,a,n,ha=>λw hw=>cN (h a n ha w hw) (λb m hb w hw=>cR _ (λ_=>aC2 sep h hJ f b m (hJ b m hb) _ (sS hw)) (λ_=>eA hb hw))
theorem vF{α:Type}{I J:List α->Nat->Prop}{Q:List α->Nat->α->Nat->Prop}{one:List α->List Tok->Nat->Rd α}(h:∀acc n,I acc n->Gl (Q acc n) (one acc) n)(hq:∀acc n a m,I acc n->Q acc n a m->J (acc++[a]) m)
  (hJ:∀a n,J a n->I a n){acc:List α}{n:Nat}(ha:I acc n):Gl J (jR fin one acc) n:=λw hw =>
 aC2 [44] (λa n hI w hw=>cN (h a n hI w hw) (λb m hb w hw=>eA (hq a n b m hI hb) hw)) hJ _ acc n ha w hw
theorem tQ{k n:Nat}{a b:Int}{x y:aC}(h:n+1<=2000):eF (k+1) (.mk a b x y [] []) n=some (n+1):=by
 simp only[eF,dU,jH,h,if_true,Option.bind_some,aF]
theorem aFH{k n c m:Nat}{a b:Int}{x y:aC}{ks rs:List Tm}(h:n+1<=2000)(h1:dU (eF k) ks (n+1)=some c)(h2:jH k rs.length c=some m):eF (k+1) (.mk a b x y ks rs) n=some m:=by
 simp only[eF,h,if_true,h1,Option.bind_some,h2]
structure Kds (k n0:Nat) (l:List Tm) (m:Nat):Prop where
 g:∀t,t∈l->Gd t
 m:dU (eF k) l n0=some m
theorem Kds.nil(k n:Nat):Kds k n [] n:=⟨λt h=>(by cases h),rfl⟩
theorem Kds.snoc{k n0 m m':Nat}{l:List Tm}{t:Tm}(h:Kds k n0 l m)(hg:Gd t)(hm:eF k t m=some m'):Kds k n0 (l++[t]) m':=by
 refine⟨λx hx=>?_,by rw[aFq,h.m];exact hm⟩;rcases cW.1 hx with hx|hx
 .exact h.g x hx
 .rw[bW.1 hx];exact hg
theorem aKz(first:Tok)(k:Nat)(S:aC)(n:Nat):Gl (λrs m=>sL S rs/\jH k rs.length n=some m) (qO fin first (decide (k=0)) S) n:=λw hw =>
 cR _ (λ_=>by
  have hw':=sS hw;cases h:w.tail with
  | nil=>trivial
  | cons t z =>
   rw[h]at hw';refine cR _ (λhf=>cR _ (λ_=>trivial) (λhk=>?_)) (λ_=>trivial);refine cN (aKx first n z (qK hw')) (λ_ m hm w hw=>eA ⟨?_,?_⟩ hw)
   .have:=aA4 (hw' t (bY ..)) hf;exact .inr ⟨t.text,rfl,this.n,this.r⟩
   .obtain⟨rfl,h2⟩:=hm;have hk0:¬ k=0:=by simpa using hk
    simp only[jH,aE,aF,gI,Nat.succ_ne_zero,if_false];rw[if_pos ⟨by omega,h2⟩]) (λ_=>eA ⟨.inl rfl,by simp[jH]⟩ hw)
theorem aTc(first:Tok){k:Nat}{tm:List Tok->Nat->Rd Tm}(htm:∀n,Gl (λt m=>Gd t/\eF k t n=some m) tm n)(hb:∀t w n,t.begins=false->∃f,tm (t::w) n=.bad f)(acc:List Tm)(n:Nat)(ha:acc.length<=8) :
  Gl (λt m=>acc.length<8/\Gd t/\eF k t n=some m) (nY false fin first tm acc) n:=λw hw=>by
 unfold nY;refine cR _ (λh8=>?_) (λh8=>?_)
 .cases w with
  | nil=>trivial
  | cons t w =>
   refine cR _ (λ_=>trivial) (λhbg=>?_);obtain⟨f,e⟩:=hb t w n (by simpa using hbg);simp only[e];trivial
 .have:=htm n w hw;cases h:tm w n with
  | bad f=>trivial
  | ok a w' m =>
   rw[h]at this;exact⟨⟨by omega,this.1⟩,this.2⟩
theorem aQr(first:Tok){k:Nat}{tm:List Tok->Nat->Rd Tm}(htm:∀n,Gl (λt m=>Gd t/\eF k t n=some m) tm n)(hb:∀t w n,t.begins=false->∃f,tm (t::w) n=.bad f)(t:Tok)(ht:TokG t)(h1:t.kind=1)(hbg:t.begins=true)(n:Nat)(hn:n+1<=2000) :
  Gl (λt m=>Gd t/\eF (k+1) t n=some m) (sH false fin first tm t) (n+1):=λw hw=>by
 refine cR _ (λ_=>eA ⟨.bool 1 (.inr rfl),tQ hn⟩ hw) (λhA=>cR _ (λ_=>eA ⟨.bool 0 (.inl rfl),tQ hn⟩ hw) (λhB=>?_))
 have hr:t.text ∉ gX:=by
  unfold Tok.begins at hbg;rw[if_neg aB,if_pos h1]at hbg;simpa [hA,hB]using hbg
 have hx:NmG t.text:=⟨aJe ht h1,hr⟩;refine cR _ (λ_=>cN (kR (n+1) _ (sS hw)) (λy m hy w hw=>?_)) (λ_=>cN (jQ [40] (n+1) w hw) (λ_ m hm w hw=>?_))
 .obtain⟨hy,rfl⟩:=hy;exact eA ⟨.var _ _ hx.n hx.r hy.n hy.r,tQ hn⟩ hw
 .subst hm;refine cR _ (λ_=>eA ⟨.app _ [] hx.n hx.r (aU _) (λy hy=>by cases hy),tQ hn⟩ (sS hw)) (λ_=>?_);refine cN (vF (I:=λl m=>l.length<=8/\Kds k (n+1) l m) (J:=λl m=>l.length<=8/\Kds k (n+1) l m) (λacc m hI=>aTc first htm hb acc m hI.1) (λacc m t m' hI hq=>⟨by simp only[aG,aE,aF];omega,hI.2.snoc hq.2.1 hq.2.2⟩) (λ_ _ h=>h) ⟨aU _,Kds.nil k _⟩ w hw) (λl m hl w hw=>?_);refine cN (jQ [41] m w hw) (λ_ m' hm w hw=>?_);subst hm;exact eA ⟨.app _ l hx.n hx.r hl.1 hl.2.g,aFH hn hl.2.m rfl⟩ hw
theorem aS1{k n0:Nat}{tm:List Tok->Nat->Rd Tm}(htm:∀n,Gl (λt m=>Gd t/\eF k t n=some m) tm n)(acc:List Tm)(n:Nat)(ha:Kds k n0 acc n/\acc.length % 2=0) :
  Gl (λl m=>Kds k n0 l m/\l.length % 2=0) (nX fin tm acc) n:=λw hw=>by
 refine cN (htm n w hw) (λa m1 h1 w hw=>cN (jQ [45,62] m1 w hw) (λ_ m2 h2 w hw=>?_));subst h2;refine cN (htm m2 w hw) (λb m3 h3 w hw=>eA ⟨?_,by simp only[aG,aE,aF];omega⟩ hw);have:=(ha.1.snoc h1.1 h1.2).snoc h3.1 h3.2
 rwa[bI]at this
theorem aPi(first:Tok){k:Nat}{tm:List Tok->Nat->Rd Tm}(htm:∀n,Gl (λt m=>Gd t/\eF k t n=some m) tm n)(t:Tok)(ht:TokG t)(h4:t.kind=4)(hbg:t.begins=true)(n:Nat)(hn:n+1<=2000) :
  Gl (λt m=>Gd t/\eF (k+1) t n=some m) (mV fin first tm (decide (k=0)) t) (n+1):=λw hw=>by
 refine cR _ (λ_=>?_) (λg1=>cR _ (λ_=>?_) (λg2=>cR _ (λ_=>?_) (λg3=>cR _ (λ_=>?_) (λg4=>?_))))
 .cases w with
  | nil=>trivial
  | cons u w =>
   refine cR _ (λh=>eA ⟨?_,tQ hn⟩ (qK hw)) (λ_=>trivial);rcases(hw u (bY ..)).is with⟨e,_⟩|⟨_,_,h0,h1⟩|⟨e,_⟩|⟨e,_⟩
   .omega
   .exact .int _ aB aB
   .omega
   .omega
 .cases w with
  | nil=>trivial
  | cons u w =>
   refine cR _ (λh=>eA ⟨?_,tQ hn⟩ (qK hw)) (λ_=>trivial);have:=aA4 (hw u (bY ..)) h.1;exact .id _ h.2 this.r
 .refine cN (P:=λl m=>Kds k (n+1) l m) (cR _ (λ_=>eA (Kds.nil k _) hw) (λ_=>vF (I:=λl m=>Kds k (n+1) l m) (J:=λl m=>Kds k (n+1) l m) (λacc m _=>htm m) (λacc m t m' hI hq=>hI.snoc hq.1 hq.2) (λ_ _ h=>h) (Kds.nil k _) w hw)) (λl m hl w hw=>?_);refine cN (aKz first k aDr m w hw) (λrs m' hr w hw=>cN (jQ [93] m' w hw) (λ_ m2 hm w hw=>?_));subst hm;exact eA ⟨.list l rs hl.g hr.1,aFH hn hl.m hr.2⟩ hw
 .refine cN (P:=λl m=>Kds k (n+1) l m/\l.length % 2=0) (cR _ (λ_=>eA ⟨Kds.nil k _,rfl⟩ hw) (λ_=>aC2 (I:=λl m=>Kds k (n+1) l m/\l.length % 2=0) (J:=λl m=>Kds k (n+1) l m/\l.length % 2=0) [44] (λacc m hI=>aS1 htm acc m hI) (λ_ _ h=>h) _ [] (n+1) ⟨Kds.nil k _,rfl⟩ w hw)) (λl m hl w hw=>?_);refine cN (aKz first k aDz m w hw) (λrs m' hr w hw=>cN (jQ [125] m' w hw) (λ_ m2 hm w hw=>?_));subst hm;exact eA ⟨.map l rs hl.2 hl.1.g hr.1,aFH hn hl.1.m hr.2⟩ hw
 .refine eA ⟨.opn _ ?_,tQ hn⟩ hw;unfold Tok.begins at hbg;rw[if_neg aB,if_neg aB]at hbg;simp only[eB,List.mem_nil_iff,fH,cU]at hbg;rcases hbg with h|h|h|h|h|h
  .exact absurd h g1
  .exact absurd h g2
  .exact .inl h
  .exact absurd h g3
  .exact absurd h g4
  .exact .inr h
theorem aJu(first:Tok)(k:Nat)(t:Tok)(w:List Tok)(n:Nat)(h:t.begins=false):∃f,fC false fin first k (t::w) n=.bad f:=by
 cases k with
 | zero=>unfold fC;rw[h];exact⟨_,rfl⟩
 | succ k=>unfold fC;rw[h];exact⟨_,rfl⟩
theorem aFM(first:Tok):∀(k n:Nat),Gl (λt m=>Gd t/\eF k t n=some m) (fC false fin first k) n
 | 0,n=>λw hw=>by
  cases w with
  | nil=>trivial
  | cons t w=>exact cR _ (λ_=>trivial) (λ_=>trivial)
 | k+1,n=>λw hw=>by
  cases w with
  | nil=>trivial
  | cons t w =>
   have ht:=hw t (bY ..);refine cR _ (λhbg=>cN (aKx first n w (qK hw)) (λ_ m hm w hw=>?_)) (λ_=>trivial);obtain⟨rfl,hn⟩:=hm;refine cR _ (λh2=>eA ⟨?_,tQ hn⟩ hw) (λh2=>cR _ (λh3=>eA ⟨?_,tQ hn⟩ hw) (λh3=>cR _ (λh1=>?_) (λh1=>?_)))
   .rcases ht.is with⟨e,_⟩|⟨_,_,h0,h1⟩|⟨e,_⟩|⟨e,_⟩
    .omega
    .exact .int _ aB aB
    .omega
    .omega
   .rcases ht.is with⟨e,_⟩|⟨e,_⟩|⟨_,_,h⟩|⟨e,_⟩
    .omega
    .omega
    .exact .text _ h
    .omega
   .exact aQr first (λn=>aFM first k n) (λt w n h=>aJu first k t w n h) t ht h1 hbg n hn w hw
   .have h4:t.kind=4:=by rcases ht.is with⟨e,_⟩|⟨e,_⟩|⟨e,_⟩|⟨e,_⟩<;>omega
    exact aPi first (λn=>aFM first k n) t ht h4 hbg n hn w hw
theorem xH(n:Nat):Gl (λt m=>TmG t/\m=n) (gE false fin) n:=λw hw=>by
 cases w with
 | nil=>trivial
 | cons t w =>
  have:=aFM (fin:=fin) t 60 0 (t::w) hw;unfold gE;simp only;cases h:fC false fin t 60 (t::w) 0 with
  | bad f=>trivial
  | ok a z m =>
   rw[h]at this;exact⟨⟨⟨this.1.1,m,this.1.2⟩,rfl⟩,this.2⟩
end
end
end Go.AV
