/-
  Of DefRenamed.
-/
import Derived.Test.YtamikhobdffnfaaGreatDoorRe12
set_option linter.all false
set_option maxRecDepth 99999
set_option maxHeartbeats 0
namespace Go.AV
open Go Go.Proofs Tryz
def Tm.rsv1(t:Tm):Bool:=(decide (t.text∈gX)&&!decide (t.kind=3))||decide (t.sort∈gX)||(decide (t.kind=5)&&(decide (1<t.text.length)&&decide (t.text[t.text.length-2]?=some 39)))
mutual
def Tm.rsv:Tm->Bool
 | .mk k n x s ks rs=>(Tm.mk k n x s ks rs).rsv1||(aFV ks||aFV rs)
def aFV:List Tm->Bool
 | []=>false
 | t::r=>t.rsv||aFV r
end
mutual
def Tm.cnt:Tm->Nat
 | .mk _ _ _ _ ks rs=>1+(dL ks+dL rs)
def dL:List Tm->Nat
 | []=>0
 | t::r=>t.cnt+dL r
end
theorem aAQ(t:Tm):t.cnt=1+(dL t.kids+dL t.rest):=by cases t;rw[Tm.cnt];rfl
theorem tT(t:Tm):1<=t.cnt:=by rw[aAQ];omega
theorem xA:∀l:List Tm,l.length<=dL l
 | []=>bT _
 | t::r=>by have:=xA r;have:=tT t;simp only[dL,aE];omega
theorem zN:∀{l:List Tm} {x:Tm},x∈l->x.cnt<=dL l
 | t::r,x,h=>by
  simp only[dL];rcases List.mem_cons.1 h with rfl|h
  .omega
  .have:=zN h;omega
theorem aCz:∀a b:List Tm,dL (a++b)=dL a+dL b
 | [],b=>by simp[dL]
 | t::r,b=>by simp[dL,aCz r b,oX]
def aKq:List aC:=[[65,110,121],[73,110,116],[66,111,111,108],[84,101,120,116],[73,100],[76,105,115,116],[77,97,112]]
def aBr(x:aC):Bool:=dM x&&!decide (x∈gX)
def sI(x:aC):Bool:=aBr x&&(!decide (x∈aAY)&&!decide (x∈aKq))
theorem aMP(s:St)(x:aC)(KV Kp)(hk:KV s (.bool (aBr x))):Den cx 106 [.str x] KV Kp s:=by
 unfold aBr at hk;(refine aO func106 [0,2] ?_;simp only[go_sem,ntmps106,f106]);refine wP _ _ _ _ ?_;cases h1:dM x<;>rw[h1]at hk<;>simp only[go_sem,h1]
 .exact aN hk
 .refine tF _ _ _ _ ?_;simp only[go_sem];exact aN hk
theorem aG6(s:St)(x:aC)(KV Kp)(hk:KV s (.bool (sI x))):Den cx 59 [.str x] KV Kp s:=by
 unfold sI at hk;(refine aO func59 [0,2,3] ?_;simp only[go_sem,ntmps59,f59]);refine aMP _ _ _ _ ?_;cases h1:aBr x<;>rw[h1]at hk<;>simp only[go_sem,h1]
 .exact aN hk
 .refine aME _ _ _ _ ?_;cases h2:decide (x∈aAY)<;>rw[h2]at hk<;>simp only[go_sem,h2]
  .refine yV _ aKq _ _ _ ?_;simp only[go_sem];exact aN hk
  .exact aN hk
def lJ(a b x:aC):aC:=if x=a then b else if x=b then a else x
theorem aOM(s:St)(a b x:aC)(KV Kp)(hk:KV s (.str (lJ a b x))):Den cx 62 [.str x,.str a,.str b] KV Kp s:=by
 unfold lJ at hk;(refine aO func62 [0,1,2,6,7,8,12] ?_;simp only[go_sem,ntmps62,f62]);cases h1:decide (x=a)
 .rw[if_neg (by simpa using h1)]at hk;simp only[go_sem,h1];cases h2:decide (x=b)
  .rw[if_neg (by simpa using h2)]at hk;simp only[go_sem,h2];exact aN hk
  .rw[if_pos (by simpa using h2)]at hk;simp only[go_sem,h2];exact aN hk
 .rw[if_pos (by simpa using h1)]at hk;simp only[go_sem,h1];exact aN hk
def Kn(L:List (Nat × Ob))(s:St):Prop:=∀p,p∈L->s.getO p.1=some p.2
theorem Kn.ge{L:List (Nat × Ob)}{s s':St}(h:Kn L s)(hs:s'.ge s):Kn L s':=λp hp=>hs.ob _ _ (h p hp)
theorem Kn.new{L:List (Nat × Ob)}{s:St}(h:Kn L s){b:Nat}(hb:s.getO b=none)(o:Ob):Kn L (s.setO b o):=h.ge (dS hb)
def FnK(f:FuncId)(caps:List A)(L:List (Nat × Ob))(φ:aC->aC):Prop:=∀x s KV Kp,x.length<=140737488355328->Kn L s->KV s (.str (φ x))->Den cx f ([]++[.str x]++caps) KV Kp s
theorem FnK.more{f:FuncId}{caps:List A}{L M:List (Nat × Ob)}{φ:aC->aC}(h:FnK f caps L φ)(hM:∀p,p∈L->p∈M):FnK f caps M φ:=λx s KV Kp hx hK hk=>h x s KV Kp hx (λp hp=>hK p (hM p hp)) hk
theorem aPG(a b:aC)(p q:Nat):FnK 61 [.ptr p 0,.ptr q 0] [(p,.cells 9 [.str a]),(q,.cells 9 [.str b])] (lJ a b):=by
 intro x s KV Kp _ hK hk;have g1:=hK _ (bY ..);have g2:=hK _ (cT _ (bY ..));simp only at g1 g2;show Den cx 61 [.str x,.ptr p 0,.ptr q 0] KV Kp s;(refine aO func61 [0,1,2,4] ?_;simp only[go_sem,ntmps61,f61]);simp only[go_sem,g1,g2];refine aOM _ _ _ _ _ _ ?_;simp only[go_sem];exact aN hk
def fU(φ:aC->aC)(x:aC):aC:=if x=[] then [] else φ x
theorem aQo{f:FuncId}{caps:List A}{L:List (Nat × Ob)}{φ:aC->aC}(h:FnK f caps L φ)(p:Nat):FnK 109 [.ptr p 0] ((p,.cells 116 [.fn f [] caps])::L) (fU φ):=by
 intro x s KV Kp hx hK hk;have g1:=hK _ (bY ..);simp only at g1;unfold fU at hk;show Den cx 109 [.str x,.ptr p 0] KV Kp s;(refine aO func109 [0,1,3,5] ?_;simp only[go_sem,ntmps109,f109]);cases h1:decide (x=[])
 .rw[if_neg (by simpa using h1)]at hk;simp only[go_sem,h1,g1];refine h x s _ _ hx (λp hp=>hK p (cT _ hp)) ?_;simp only[go_sem];exact aN hk
 .rw[if_pos (by simpa using h1)]at hk;obtain rfl:x=[]:=by simpa using h1
  simp only[go_sem,h1];exact aN hk
def dT(φ:aC->aC)(x:aC):aC:=if pG x=true then φ (x.take (x.length-2))++x.drop (x.length-2) else φ x
def LenS(φ:aC->aC):Prop:=∀x:aC,x.length<=140737488355328->(φ x).length<=140737488355328
theorem aQn{f:FuncId}{caps:List A}{L:List (Nat × Ob)}{φ:aC->aC}(h:FnK f caps L φ)(hφ:LenS φ)(p:Nat):FnK 202 [.ptr p 0] ((p,.cells 162 [.fn f [] caps])::L) (dT φ):=by
 intro x s KV Kp hx hK hk;have g1:=hK _ (bY ..);simp only at g1;unfold dT at hk;show Den cx 202 [.str x,.ptr p 0] KV Kp s;(refine aO func202 [0,1,3,4,5] ?_;simp only[go_sem,ntmps202,f202]);refine aE7 _ _ _ _ aB ?_;have hm:(140737488355328:Nat)+140737488355328<=maxLen:=by decide
 cases hf:pG x
 .rw[hf]at hk;simp only[cJ,if_false]at hk⊢;simp only[go_sem,g1];refine h x s _ _ hx (λp hp=>hK p (cT _ hp)) ?_;have:=hφ x hx;simp only[go_sem];refine⟨by omega,?_⟩;rw[eM];exact aN hk
 .rw[hf]at hk;simp only[if_true]at hk⊢;simp only[go_sem,g1];have hx2:(x.take (x.length-2)).length<=140737488355328:=by rw[bK];omega
  refine h _ s _ _ hx2 (λp hp=>hK p (cT _ hp)) ?_;have:=hφ _ hx2;simp only[go_sem];refine⟨by rw[dR];omega,?_⟩;exact aN hk
mutual
def Tm.chg(op vr:aC->aC):(aC->aC)->Tm->Tm
 | st,.mk k n t s ks rs=>.mk k n (if k=5 then op t else if k=6 then(if t=[95]\/t=[36] then t else vr t) else t) (if k=6 then(if t=[95]\/t=[36] then s else st s) else s) (kQ op vr st ks) (kQ op vr id rs)
def kQ(op vr:aC->aC):(aC->aC)->List Tm->List Tm
 | _,[]=>[]
 | st,t::r=>t.chg op vr st::kQ op vr st r
end
theorem tR(op vr st:aC->aC):∀l:List Tm,kQ op vr st l=l.map (Tm.chg op vr st)
 | []=>rfl
 | t::r=>by rw[kQ,tR op vr st r];rfl
def aDB(fo:FuncId)(co:List A)(fv:FuncId)(cv:List A)(L:List (Nat × Ob))(op vr:aC->aC)(t:Tm):Prop:=∀fs cs st s KV Kp,FnK fs cs L st->Kn L s->KV s (t.chg op vr st).enc ->
 Den cx 203 [.agg t.cs,.fn fo [] co,.fn fs [] cs,.fn fv [] cv] KV Kp s
theorem rA{α β:Type}(f:α->β){l:List α}{i:Nat}{x:α}(h:l[i]?=some x):(l.take (i+1)).map f=(l.take i).map f++[f x]:=by rw[iS,h,cV];rfl
theorem Kn.gs{L:List (Nat × Ob)}{s:St}(h:Kn L s)(tk:Option Nat)(n:Nat)(e:TypeId):Kn L (gs s tk n e):=λp hp=>by rw[aZ];exact h p hp
theorem gvM{α:Type}{f:α->Tm}{tk:Option Nat}{l:List α}{s:St}{e:TypeId}(h:tk=none->l.map f=[]):nJ (gs s tk l.length e) tk ((l.map f).map Tm.enc).length e:=by
 rw[aH,aH];exact iF λe=>by have:=congrArg List.length (h e);simpa using this
theorem aHZ(fo:FuncId)(co:List A)(fv:FuncId)(cv:List A)(L:List (Nat × Ob))(op vr st:aC->aC)(fs:FuncId)(cs:List A)(hs:FnK fs cs L st)(l:List Tm)(hl:l.length<=4294967295)(ih:∀t,t∈l->aDB fo co fv cv L op vr t)
    (b5 b7:Nat)(s:St)(KV Kp:St->A->Prop)(h5:s.getO b5=some (.cells 116 [.fn fo [] co]))(h7:s.getO b7=some (.cells 116 [.fn fv [] cv]))(hK:Kn L s)
    (hk:KV s (.list none ((kQ op vr st l).map Tm.enc))):Den cx 269 [.list none (l.map Tm.enc),.fn fs [] cs,.ptr b5 0,.ptr b7 0] KV Kp s:=by
  rw[tR]at hk;(refine aO func269 [0,1,2,3,6,7,9,10,11,12,13] ?_;simp only[go_sem,ntmps269,f269])
  refine Ex.loop (ι:=Nat × Option Nat) (λc=>[(1,.fn fs [] cs),(2,.ptr b5 0),(3,.ptr b7 0),(7,gv c.2 (((l.take c.1).map (Tm.chg op vr st)).map Tm.enc)),(10,.list none (l.map Tm.enc)),(11,.int .i64 (l.length:Nat)),(12,.int .i64 (c.1:Nat))])
    (λc=>gs s c.2 ((l.take c.1).map (Tm.chg op vr st)).length 43)
    (λc=>qR s ((l.take c.1).map (Tm.chg op vr st)) c.2/\c.1<=l.length) (λc=>l.length-c.1) (0,none) ⟨⟨λ_=>rfl,λt e=>(by cases e)⟩,aU _⟩ ?_ (by exact aM _) ?_
  · simp only[go_sem]
    first|done|exact rfl|exact⟨rfl,rfl⟩
  · rintro⟨i,tk⟩ ⟨⟨hnil,hfree⟩,hi⟩
    simp only at hnil hfree hi;refine bG (V:=[0,1,2,3,6,7,9,10,11,12,13]) _ _ _ _ ?_;simp only[go_sem];(refine aQ (λh=>?_) (λh=>?_))<;>simp only[go_sem,h]
    · have hix:i<l.length:=by simpa using h
      clear h;obtain⟨x,hx⟩:∃a,l[i]?=some a:=⟨_,aY hix⟩
      have htk:=rA (Tm.chg op vr st) hx;simp only[go_sem,hx,hix];(intro b9 hb9;try simp only[aZ,aI,ne_eq]at hb9);have n5:=cE h5 hb9;have n7:=cE h7 hb9;simp only[go_sem,hx,hix,hb9,h5,h7,n5,n7];refine ih x (cM hx) fs cs st _ _ _ hs ((hK.new hb9 _).gs _ _ _) ?_;simp only[go_sem];refine⟨by decide,λy hy=>by simp only[bW]at hy;subst hy;rfl,dY rfl rfl (gvM hnil) (λy hy=>nS hy) (by simp only[aH,bK,aE,aF];omega) (λu hu=>?_)⟩;have hfu:=gD hu hfree;rw[fO hu];simp only[go_sem,hx,hix,hb9];refine⟨(i+1,some u),⟨⟨λh=>(by cases h),λt h=>by cases h;exact hfu⟩,hix⟩,by simp only;omega,?_,?_⟩
      · simp only[go_sem,cF i aB,dO,htk,cV]
      · rw[show(l.take i).length+1=(l.take (i+1)).length by simp only[bK];omega]
        exact jU (by(repeat (first|(refine eC ?_ ?_;focus (simp only[aI,ne_eq,dK,iT,hb9]<;>done))|exact aM _)))
    · have hii : i = l.length := by have : ¬ i < l.length := by simpa using h
                                    omega
      subst hii;rw[List.take_length]at hnil⊢;exact DK.mk hk (nB (aM _) hfree) (iY _ _ (λe=>by rw[hnil e];rfl))
theorem aRf(L:List (Nat × Ob)):FnK 270 [] L id:=by
 intro x s KV Kp _ _ hk;show Den cx 270 [.str x] KV Kp s;(refine aO func270 [0,2] ?_;simp only[go_sem,ntmps270,f270]);exact aN hk
theorem aKV(op vr st:aC->aC)(t:Tm):t.chg op vr st=.mk t.kind t.n (if t.kind=5 then op t.text else if t.kind=6 then(if t.text=[95]\/t.text=[36] then t.text else vr t.text) else t.text) (if t.kind=6 then(if t.text=[95]\/t.text=[36] then t.sort else st t.sort) else t.sort) (kQ op vr st t.kids) (kQ op vr id t.rest):=by
 cases t;rw[Tm.chg];rfl
theorem aMM(fo:FuncId)(co:List A)(fv:FuncId)(cv:List A)(L:List (Nat × Ob))(op vr:aC->aC)(ho:FnK fo co L op)(hv:FnK fv cv L vr)(N:Nat):∀t:Tm,t.cnt<N->t.cnt<=4294967295->TmW t->aDB fo co fv cv L op vr t:=by
 induction N with
 | zero=>intro t h;omega
 | succ N ih =>
 intro t hN hc hw fs cs st s KV Kp hs hK hk;have ht1:=hw.text;have ht2:=hw.sort;have hcn:=aAQ t;have ihk:∀x,x∈t.kids->aDB fo co fv cv L op vr x:=λx hx=>ih x (by have:=zN hx;omega) (by have:=zN hx;omega) (hw.kids x hx)
 have ihr:∀x,x∈t.rest->aDB fo co fv cv L op vr x:=λx hx=>ih x (by have:=zN hx;omega) (by have:=zN hx;omega) (hw.rest x hx)
 have lk:t.kids.length<=4294967295:=by have:=xA t.kids;omega
 have lr:t.rest.length<=4294967295:=by have:=xA t.rest;omega
 rw[aKV]at hk;(refine aO func203 [0,1,2,3,4,5,7,8,9,11,12,19,28] ?_;simp only[go_sem,ntmps203,f203]);(intro p4 hp4;try simp only[aI,ne_eq]at hp4);simp only[go_sem,hp4];(intro p5 hp5;try simp only[aI,ne_eq]at hp5);simp only[go_sem,hp4,hp5];(intro p7 hp7;try simp only[aI,ne_eq]at hp7);simp only[go_sem,hp4,hp5,hp7];(intro p8 hp8;try simp only[aI,ne_eq]at hp8);simp only[go_sem,hp4,hp5,hp7,hp8];cases k5:decide (t.kind=5)
 case' true =>
  have hk5:t.kind=5:=by simpa using k5
  rw[if_pos hk5,if_neg (show¬ t.kind=6 by omega)]at hk;simp only[go_sem,k5,hp4,hp5,hp7,hp8];refine ho t.text _ _ _ ht1 (hK.ge aX) ?_;simp only[go_sem,hp4,hp5,hp7,hp8]
 case' false =>
  have hk5:¬ t.kind=5:=by simpa using k5
  rw[if_neg hk5]at hk;simp only[go_sem,k5,hp4,hp5,hp7,hp8];cases k6:decide (t.kind=6)
  case' false =>
   have hk6:¬ t.kind=6:=by simpa using k6
   rw[if_neg hk6,if_neg hk6]at hk;simp only[go_sem,k6,hp4,hp5,hp7,hp8]
  case' true =>
   have hk6:t.kind=6:=by simpa using k6
   rw[if_pos hk6,if_pos hk6]at hk;simp only[go_sem,k6,hp4,hp5,hp7,hp8];cases x1:decide (t.text=[95])
   case' true =>
    have hx1:t.text=[95]:=by simpa using x1
    rw[if_pos (.inl hx1),if_pos (.inl hx1)]at hk;simp only[go_sem,x1,hp4,hp5,hp7,hp8]
   case' false =>
    have hx1:¬ t.text=[95]:=by simpa using x1
    simp only[go_sem,x1,hp4,hp5,hp7,hp8];cases x2:decide (t.text=[36])
    case' true =>
     have hx2:t.text=[36]:=by simpa using x2
     rw[if_pos (.inr hx2),if_pos (.inr hx2)]at hk;simp only[go_sem,x2,hp4,hp5,hp7,hp8]
    case' false =>
     have hx2:¬ t.text=[36]:=by simpa using x2
     rw[if_neg (λe=>e.elim hx1 hx2),if_neg (λe=>e.elim hx1 hx2)]at hk;simp only[go_sem,x2,hp4,hp5,hp7,hp8];(refine bL (OT.l [0,1,2,4,5,6,3,8,7,9,10,11] .nil) [(3,[6])] ?_;simp only[go_sem,hp4,hp5,hp7,hp8]);refine hv t.text _ _ _ ht1 (hK.ge aX) ?_;simp only[go_sem,hp4,hp5,hp7,hp8];refine hs t.sort _ _ _ ht2 (hK.ge aX) ?_;simp only[go_sem,hp4,hp5,hp7,hp8]
 all_goals (
  refine aHZ fo co fv cv L op vr st fs cs hs t.kids lk ihk p5 p7 _ _ _ gH gH (hK.ge aX) ?_;simp only[go_sem,hp4,hp5,hp7,hp8];refine aHZ fo co fv cv L op vr id 270 [] (aRf L) t.rest lr ihr p5 p7 _ _ _ gH gH (hK.ge aX) ?_;simp only[go_sem,hp4,hp5,hp7,hp8];rw[dH]at hk;simp only[Tm.cs,Tm.kind,Tm.n,Tm.text,Tm.sort,Tm.kids,Tm.rest]at hk;exact aP hk aX)
def eG(φ:aC->aC)(t:Tm):Tm:=t.chg (dT φ) φ φ
structure ChF (f:FuncId) (caps:List A) (L:List (Nat × Ob)) (φ:aC->aC):Prop where
 fn:FnK f caps L φ
 len:LenS φ
structure TmB (t:Tm):Prop where
 w:TmW t
 c:t.cnt<=4294967295
theorem aAM{f:FuncId}{caps:List A}{L:List (Nat × Ob)}{φ:aC->aC}(h:ChF f caps L φ)(t:Tm)(hw:TmB t)(s:St)(KV Kp:St->A->Prop)(hK:Kn L s)(hk:KV s (eG φ t).enc) :
  Den cx 114 [.fn f [] caps,.agg t.cs] KV Kp s:=by
 (refine aO func114 [0,1,2,3,4,5] ?_;simp only[go_sem,ntmps114,f114]);(intro p2 hp2;try simp only[aI,ne_eq]at hp2);simp only[go_sem,hp2];(intro p3 hp3;try simp only[aI,ne_eq]at hp3);simp only[go_sem,hp2,hp3];(intro p4 hp4;try simp only[aI,ne_eq]at hp4);simp only[go_sem,hp2,hp3,hp4];have hL:∀p,p∈L->p∈(p2,Ob.cells 162 [.fn f [] caps])::L:=λp hp=>cT _ hp
 refine aMM 202 [.ptr p2 0] f caps ((p2,.cells 162 [.fn f [] caps])::L) (dT φ) φ (aQn h.fn h.len p2) (h.fn.more hL) _ t (jB _) hw.c hw.w f caps φ _ _ _ (h.fn.more hL) ?_ ?_
 .intro p hp;rcases List.mem_cons.1 hp with rfl|hp
  .exact gH
  .exact hK.ge aX p hp
 .have hk':KV s (Tm.chg (dT φ) φ φ t).enc:=hk;rw[dH]at hk'⊢;simp only[go_sem,hp2,hp3,hp4];simp only[Tm.cs]at hk';exact aP hk' aX
section
theorem rV{α β:Type}{f:α->β}{en:β->A}{tk:Option Nat}{l:List α}{s:St}{e:TypeId}(h:tk=none->l.map f=[]):nJ (gs s tk l.length e) tk ((l.map f).map en).length e:=by
 rw[aH,aH];exact iF λe=>by have:=congrArg List.length (h e);simpa using this
section
variable {f:FuncId} {caps:List A} {L:List (Nat × Ob)} {φ:aC->aC} (hf:ChF f caps L φ)
include hf
theorem aBR(l : List Tm)(hl : l.length <= 4294967295)(hw : ∀t,t ∈ l -> TmB t)(s : St)(KV Kp : St -> A -> Prop)(hK : Kn L s)(hk : KV s (.list none ((l.map (eG φ)).map Tm.enc))) :
    Den cx 115 [.fn f [] caps,.list none (l.map Tm.enc)] KV Kp s:=by
  (refine aO func115 [0,1,4,5,7,8,9,10,11] ?_;simp only[go_sem,ntmps115,f115])
  refine Ex.loop (ι:=Nat × Option Nat) (λc=>[(0,.fn f [] caps),(5,gv c.2 (((l.take c.1).map (eG φ)).map Tm.enc)),(8,.list none (l.map Tm.enc)),(9,.int .i64 (l.length:Nat)),(10,.int .i64 (c.1:Nat))])
    (λc=>gs s c.2 ((l.take c.1).map (eG φ)).length 43)
    (λc=>qR s ((l.take c.1).map (eG φ)) c.2/\c.1<=l.length) (λc=>l.length-c.1) (0,none) ⟨⟨λ_=>rfl,λt e=>(by cases e)⟩,aU _⟩ ?_ (by exact aM _) ?_
  · simp only[go_sem]
    first|done|exact rfl|exact⟨rfl,rfl⟩
  · rintro⟨i,tk⟩ ⟨⟨hnil,hfree⟩,hi⟩
    simp only at hnil hfree hi;refine bG (V:=[0,1,4,5,7,8,9,10,11]) _ _ _ _ ?_;simp only[go_sem];(refine aQ (λh=>?_) (λh=>?_))<;>simp only[go_sem,h]
    · have hix:i<l.length:=by simpa using h
      clear h;obtain⟨x,hx⟩:∃a,l[i]?=some a:=⟨_,aY hix⟩
      have htk:=rA (eG φ) hx;simp only[go_sem,hx,hix];(intro b9 hb9;try simp only[aZ,aI,ne_eq]at hb9);simp only[go_sem,hx,hix,hb9];refine aAM hf x (hw x (cM hx)) _ _ _ ((hK.new hb9 _).gs _ _ _) ?_;simp only[go_sem];refine⟨by decide,λy hy=>by simp only[bW]at hy;subst hy;rfl,dY rfl rfl (rV hnil) (λy hy=>nS hy) (by simp only[aH,bK,aE,aF];omega) (λu hu=>?_)⟩;have hfu:=gD hu hfree;rw[fO hu];simp only[go_sem,hx,hix,hb9];refine⟨(i+1,some u),⟨⟨λh=>(by cases h),λt h=>by cases h;exact hfu⟩,hix⟩,by simp only;omega,?_,?_⟩
      · simp only[go_sem,cF i aB,dO,htk,cV]
      · rw[show(l.take i).length+1=(l.take (i+1)).length by simp only[bK];omega]
        exact jU (by(repeat (first|(refine eC ?_ ?_;focus (simp only[aI,ne_eq,dK,iT,hb9]<;>done))|exact aM _)))
    · have hii : i = l.length := by have : ¬ i < l.length := by simpa using h
                                    omega
      subst hii;rw[List.take_length]at hnil⊢;exact DK.mk hk (nB (aM _) hfree) (iY _ _ (λe=>by rw[hnil e];rfl))
def kK(φ:aC->aC)(c:Cel):Cel:={ c with name:=φ c.name,sort:=φ c.sort,init:=eG φ c.init }
structure CelB (c:Cel):Prop where
 n:c.name.length<=140737488355328
 s:c.sort.length<=140737488355328
 t:TmB c.init
theorem aG4(l:List Cel)(hl:l.length<=4294967295)(hw:∀c,c∈l->CelB c)(s:St)(KV Kp:St->A->Prop)(hK:Kn L s)(hk:KV s (.list none ((l.map (kK φ)).map Cel.enc))) :
    Den cx 113 [.fn f [] caps,.list none (l.map Cel.enc)] KV Kp s:=by
  (refine aO func113 [0,1,4,5,7,8,9,10,11] ?_;simp only[go_sem,ntmps113,f113])
  refine Ex.loop (ι:=Nat × Option Nat) (λc=>[(0,.fn f [] caps),(5,gv c.2 (((l.take c.1).map (kK φ)).map Cel.enc)),(8,.list none (l.map Cel.enc)),(9,.int .i64 (l.length:Nat)),(10,.int .i64 (c.1:Nat))])
    (λc=>gs s c.2 ((l.take c.1).map (kK φ)).length 68)
    (λc=>((c.2=none->(l.take c.1).map (kK φ)=[])/\∀t,c.2=some t->s.getT t=none)/\c.1<=l.length) (λc=>l.length-c.1) (0,none) ⟨⟨λ_=>rfl,λt e=>(by cases e)⟩,aU _⟩ ?_ (by exact aM _) ?_
  · simp only[go_sem]
    first|done|exact rfl|exact⟨rfl,rfl⟩
  · rintro⟨i,tk⟩ ⟨⟨hnil,hfree⟩,hi⟩
    simp only at hnil hfree hi;refine bG (V:=[0,1,4,5,7,8,9,10,11]) _ _ _ _ ?_;simp only[go_sem];(refine aQ (λh=>?_) (λh=>?_))<;>simp only[go_sem,h]
    · have hix:i<l.length:=by simpa using h
      clear h;obtain⟨x,hx⟩:∃a,l[i]?=some a:=⟨_,aY hix⟩
      have htk:=rA (kK φ) hx;obtain⟨w1,w2,w3⟩:=hw x (cM hx);simp only[go_sem,hx,hix];(intro b7 hb7;try simp only[aZ,aI,ne_eq]at hb7);simp only[go_sem,hx,hix,hb7];(refine bL (OT.l [0,1,2,4,5,6,8,9,10,3,12,7,11,13,14,15,16,17] .nil) [(3,[6,10]),(7,[10])] ?_;simp only[go_sem,hb7]);refine hf.fn x.name _ _ _ w1 ((hK.new hb7 _).gs _ _ _) ?_;simp only[go_sem,hb7];refine hf.fn x.sort _ _ _ w2 ((hK.new hb7 _).gs _ _ _) ?_;simp only[go_sem,hb7];refine aAM hf x.init w3 _ _ _ ((hK.new hb7 _).gs _ _ _) ?_;simp only[go_sem,hb7];refine⟨by decide,λy hy=>by simp only[bW]at hy;subst hy;rfl,dY rfl rfl (rV hnil) (λy hy=>xT hy) (by simp only[aH,bK,aE,aF];omega) (λu hu=>?_)⟩;have hfu:=gD hu hfree;rw[fO hu];simp only[go_sem,hx,hix,hb7];refine⟨(i+1,some u),⟨⟨λh=>(by cases h),λt h=>by cases h;exact hfu⟩,hix⟩,by simp only;omega,?_,?_⟩
      · simp only[go_sem,cF i aB,dO,htk,cV,kK]
      · rw[show(l.take i).length+1=(l.take (i+1)).length by simp only[bK];omega]
        exact jU (by(repeat (first|(refine eC ?_ ?_;focus (simp only[aI,ne_eq,dK,iT,hb7]<;>done))|exact aM _)))
    · have hii : i = l.length := by have : ¬ i < l.length := by simpa using h
                                    omega
      subst hii;rw[List.take_length]at hnil⊢;exact DK.mk hk (nB (aM _) hfree) (iY _ _ (λe=>by rw[hnil e];rfl))
theorem aBV(l : List aC)(hl : l.length <= 4294967295)(hw : ∀x,x ∈ l -> x.length <= 140737488355328)(s : St)(KV Kp : St -> A -> Prop)(hK : Kn L s)(hk : KV s (.list none ((l.map φ).map .str))) :
    Den cx 199 [.list none (l.map .str),.fn f [] caps] KV Kp s:=by
  (refine aO func199 [0,1,4,5,7,8,9,10,11] ?_;simp only[go_sem,ntmps199,Tryz.f199])
  refine Ex.loop (ι:=Nat × Option Nat) (λc=>[(1,.fn f [] caps),(5,gv c.2 (((l.take c.1).map φ).map .str)),(8,.list none (l.map .str)),(9,.int .i64 (l.length:Nat)),(10,.int .i64 (c.1:Nat))])
    (λc=>gs s c.2 ((l.take c.1).map φ).length 9)
    (λc=>((c.2=none->(l.take c.1).map φ=[])/\∀t,c.2=some t->s.getT t=none)/\c.1<=l.length) (λc=>l.length-c.1) (0,none) ⟨⟨λ_=>rfl,λt e=>(by cases e)⟩,aU _⟩ ?_ (by exact aM _) ?_
  · simp only[go_sem]
    first|done|exact rfl|exact⟨rfl,rfl⟩
  · rintro⟨i,tk⟩ ⟨⟨hnil,hfree⟩,hi⟩
    simp only at hnil hfree hi;refine bG (V:=[0,1,4,5,7,8,9,10,11]) _ _ _ _ ?_;simp only[go_sem];(refine aQ (λh=>?_) (λh=>?_))<;>simp only[go_sem,h]
    · have hix:i<l.length:=by simpa using h
      clear h;obtain⟨x,hx⟩:∃a,l[i]?=some a:=⟨_,aY hix⟩
      have htk:=rA φ hx;simp only[go_sem,hx,hix];refine hf.fn x _ _ _ (hw x (cM hx)) (hK.gs _ _ _) ?_;simp only[go_sem];refine⟨by decide,λy hy=>by simp only[bW]at hy;subst hy;rfl,dY rfl rfl (rV hnil) (λy hy=>by obtain⟨_,_,rfl⟩:=cC.1 hy;rfl) (by simp only[aH,bK,aE,aF];omega) (λu hu=>?_)⟩;have hfu:=gD hu hfree;rw[fO hu];simp only[go_sem,hx,hix];refine⟨(i+1,some u),⟨⟨λh=>(by cases h),λt h=>by cases h;exact hfu⟩,hix⟩,by simp only;omega,?_,?_⟩
      · simp only[go_sem,cF i aB,dO,htk,cV]
      · rw[show(l.take i).length+1=(l.take (i+1)).length by simp only[bK];omega]
        exact aM _
    · have hii : i = l.length := by have : ¬ i < l.length := by simpa using h
                                    omega
      subst hii;rw[List.take_length]at hnil⊢;exact DK.mk hk (nB (aM _) hfree) (iY _ _ (λe=>by rw[hnil e];rfl))
end
end
section
theorem Ex.soft{C:Cx}{n:Nat}{c:Code}{Q:XK->Env->St->Prop}{ev:Env}{s:St}{b:Nat}{e:TypeId}{cs cs':List A}(hb:s.getO b=some (.cells e cs))(hl:rO cs cs')
  (h:Ex C n c Q ev (s.setO b (.cells e cs'))):Ex C n c Q ev s:=λF g w a hR he=>h F g w a (hR.soft hb hl) he
def mB(φ:aC->aC)(p:Part):Part:={ p with cell:=φ p.cell,at_:=fU φ p.at_,left:=eG φ p.left,right:=p.right.map (eG φ) }
def mP(φ:aC->aC)(p:Fresh):Fresh:=⟨p.cells.map (eG φ)⟩
def oD(φ:aC->aC)(r:Rul):Rul:={ r with name:=φ r.name,parts:=r.parts.map (mB φ),cond:=r.cond.map (eG φ),new:=r.new.map (mP φ),drop:=r.drop.map φ }
structure TmsB (l:List Tm):Prop where
 n:l.length<=4294967295
 t:∀t,t∈l->TmB t
structure PartB (p:Part):Prop where
 c:p.cell.length<=140737488355328
 a:p.at_.length<=140737488355328
 l:TmB p.left
 r:TmsB p.right
structure RulB (r:Rul):Prop where
 name:r.name.length<=140737488355328
 pn:r.parts.length<=4294967295
 p:∀p,p∈r.parts->PartB p
 cond:TmsB r.cond
 nn:r.new.length<=4294967295
 n:∀f,f∈r.new->TmsB f.cells
 dn:r.drop.length<=4294967295
 d:∀x,x∈r.drop->x.length<=140737488355328
theorem aQ5{l:List Part}{y:A}(hy:y∈l.map Part.enc):y.cells.length=11:=by
 obtain⟨z,_,rfl⟩:=cC.1 hy;rfl
theorem aPe{l:List Fresh}{y:A}(hy:y∈l.map Fresh.enc):y.cells.length=1:=by
 obtain⟨z,_,rfl⟩:=cC.1 hy;rfl
section
variable {f:FuncId} {caps:List A} {L:List (Nat × Ob)} {φ:aC->aC} (hf:ChF f caps L φ)
include hf
theorem aNW(r:Rul)(hr:RulB r)(s:St)(KV Kp:St->A->Prop)(hK:Kn L s)(hk:KV s (oD φ r).enc) :
    Den cx 116 [.fn f [] caps,.agg r.cs] KV Kp s:=by
  (refine aO func116 [0,1,3,4,5,7,9,11,26,27,28,29,34,63,64,65,66,81,82,83,84] ?_;simp only[go_sem,ntmps116,f116]);(intro p3 hp3;try simp only[aI,ne_eq]at hp3);simp only[go_sem,hp3];(intro p4 hp4;try simp only[aI,ne_eq]at hp4);simp only[go_sem,hp3,hp4];(refine bL (OT.l [0,1,2,4,5,6,8,9,10,11,3,7,12,13,14] .nil) [(3,[6,9,11]),(7,[9,11]),(13,[2,6,9,11])] ?_;simp only[go_sem,hp3,hp4]);refine hf.fn r.name _ _ _ hr.name (hK.ge aX) ?_;simp only[go_sem,hp3,hp4];refine aBR hf r.cond hr.cond.n hr.cond.t _ _ _ (hK.ge aX) ?_;simp only[go_sem,hp3,hp4];(intro p5 hp5;try simp only[aI,ne_eq]at hp5);simp only[go_sem,hp3,hp4,hp5];obtain⟨Z,hZ⟩:∃Z,Z=[A.str [],.nils,.nils,.nils,.nils,.int .i64 0,.int .i64 0]:=⟨_,rfl⟩
  rw[<-hZ];obtain⟨X0,hX0⟩:∃X,X=A.list none ((r.cond.map (eG φ)).map Tm.enc):=⟨_,rfl⟩
  rw[<-hX0];have x1:X0.one=true:=by rw[hX0];rfl
  refine Ex.loop (ι:=Nat × Option Nat) (λc=>[(0,.fn f [] caps),(3,.ptr p3 0),(4,.ptr p4 0),(5,.ptr p5 0),(26,.list none (r.parts.map Part.enc)),(27,.int .i64 (r.parts.length:Nat)),(28,.int .i64 (c.1:Nat))])
    (λc=>gs (((s.setO p3 (.cells 84 r.cs)).setO p4 (.cells 84 Z)).setO p5 (.cells 84 [.str (φ r.name),gv c.2 (((r.parts.take c.1).map (mB φ)).map Part.enc),X0,.nils,.nils,.int .i64 r.line,.int .i64 r.col])) c.2 ((r.parts.take c.1).map (mB φ)).length 86)
    (λc=>((c.2=none->(r.parts.take c.1).map (mB φ)=[])/\∀t,c.2=some t->s.getT t=none)/\c.1<=r.parts.length) (λc=>r.parts.length-c.1) (0,none) ⟨⟨λ_=>rfl,λt e=>(by cases e)⟩,aU _⟩ ?_ (by exact aM _) ?_
  · simp only[go_sem]
    first|done|exact rfl|exact⟨rfl,rfl⟩
  · rintro ⟨i,tk⟩ ⟨⟨hnil,hfree⟩,hi⟩
    simp only at hnil hfree hi;refine bG (V:=[0,1,3,4,5,7,9,11,26,27,28,29,34,63,64,65,66,81,82,83,84]) _ _ _ _ ?_;simp only[go_sem];(refine aQ (λh=>?_) (λh=>?_))<;>simp only[go_sem,h]
    · have hix:i<r.parts.length:=by simpa using h
      clear h;obtain⟨x,hx⟩:∃a,r.parts[i]?=some a:=⟨_,aY hix⟩
      have htk:=rA (mB φ) hx;obtain⟨w1,w2,w3,w4⟩:=hr.p x (cM hx);have hpn:=hr.pn;simp only[go_sem,hx,hix];(intro b7 hb7;try simp only[aZ,aI,ne_eq]at hb7);simp only[go_sem,hx,hix,hb7,hp3,hp4,hp5];cases ha:decide (x.at_=[])
      case' true =>
        have hat:fU φ x.at_=x.at_:=by rw[fU,if_pos (qA ha),qA ha]
        simp only[go_sem,ha,hb7,hp3,hp4,hp5]
      case' false =>
        have hat:fU φ x.at_=φ x.at_:=by rw[fU,if_neg (of_decide_eq_false ha)]
        simp only[go_sem,ha,hb7,hp3,hp4,hp5];refine hf.fn x.at_ _ _ _ w2 (Kn.gs (hK.ge aX) _ _ _) ?_;simp only[go_sem,hb7,hp3,hp4,hp5]
      all_goals (
        (refine bL (OT.l [0,1,2,4,5,6,8,9,10,3,12,7,11,13,14,15,16,17] .nil) [(3,[6,10]),(7,[10])] ?_;simp only[go_sem,hb7,hp3,hp4,hp5]);refine hf.fn x.cell _ _ _ w1 (Kn.gs (hK.ge aX) _ _ _) ?_;simp only[go_sem,hb7,hp3,hp4,hp5];refine aAM hf x.left w3 _ _ _ (Kn.gs (hK.ge aX) _ _ _) ?_;simp only[go_sem,hb7,hp3,hp4,hp5];refine aBR hf x.right w4.n w4.t _ _ _ (Kn.gs (hK.ge aX) _ _ _) ?_;simp only[go_sem,hb7,hp3,hp4,hp5];refine⟨by decide,λy hy=>by simp only[bW]at hy;subst hy;rfl,dY rfl rfl (rV hnil) (λy hy=>aQ5 hy) (by simp only[aH,bK,aE,aF];omega) (λu hu=>?_)⟩;have hfu:=gD hu hfree;rw[fO hu];simp only[go_sem,hx,hix,hb7,hp3,hp4,hp5];refine⟨(i+1,some u),⟨⟨λh=>(by cases h),λt h=>by cases h;exact hfu⟩,hix⟩,by simp only;omega,cF i aB,?_⟩;rw[show(r.parts.take i).length+1=(r.parts.take (i+1)).length by simp only[bK];omega];simp only[go_sem,htk,cV,dO,mB,hat];exact jU aX)
    · have hii : i = r.parts.length := by have : ¬ i < r.parts.length := by simpa using h
                                          omega
      subst hii;rw[List.take_length]at hnil⊢;clear h hi;simp only[go_sem,hp3,hp4,hp5]
      refine Ex.soft (b:=p5) (e:=84) (cs:=[.str (φ r.name),gv tk ((r.parts.map (mB φ)).map Part.enc),X0,.nils,.nils,.int .i64 r.line,.int .i64 r.col]) (cs':=[.str (φ r.name),.list none ((r.parts.map (mB φ)).map Part.enc),X0,.nils,.nils,.int .i64 r.line,.int .i64 r.col]) gH
        ⟨⟨bB _,rfl⟩,⟨iY _ _ (λe=>by rw[hnil e];rfl),rfl⟩,⟨bB _,x1⟩,⟨bB _,rfl⟩,⟨bB _,rfl⟩,⟨bB _,rfl⟩,⟨bB _,rfl⟩,trivial⟩ ?_
      obtain⟨X1,hX1⟩:∃X,X=A.list none ((r.parts.map (mB φ)).map Part.enc):=⟨_,rfl⟩
      rw[<-hX1];have x2:X1.one=true:=by rw[hX1];rfl
      refine Ex.loop (ι:=Nat × Option Nat) (λc=>[(0,.fn f [] caps),(3,.ptr p3 0),(4,.ptr p4 0),(5,.ptr p5 0),(63,.list none (r.new.map Fresh.enc)),(64,.int .i64 (r.new.length:Nat)),(65,.int .i64 (c.1:Nat))])
        (λc=>gs (((s.setO p3 (.cells 84 r.cs)).setO p4 (.cells 84 Z)).setO p5 (.cells 84 [.str (φ r.name),X1,X0,gv c.2 (((r.new.take c.1).map (mP φ)).map Fresh.enc),.nils,.int .i64 r.line,.int .i64 r.col])) c.2 ((r.new.take c.1).map (mP φ)).length 141)
        (λc=>((c.2=none->(r.new.take c.1).map (mP φ)=[])/\∀t,c.2=some t->s.getT t=none)/\c.1<=r.new.length) (λc=>r.new.length-c.1) (0,none) ⟨⟨λ_=>rfl,λt e=>(by cases e)⟩,aU _⟩ ?_ (by simp only[xQ,mT];exact nB (aM _) hfree) ?_
      · simp only[go_sem]
        first|done|exact rfl|exact⟨rfl,rfl⟩
      · clear hnil hfree tk
        rintro⟨i,tk⟩ ⟨⟨hnil,hfree⟩,hi⟩;simp only at hnil hfree hi;refine bG (V:=[0,1,3,4,5,7,9,11,26,27,28,29,34,63,64,65,66,81,82,83,84]) _ _ _ _ ?_;simp only[go_sem];(refine aQ (λh=>?_) (λh=>?_))<;>simp only[go_sem,h]
        · have hix:i<r.new.length:=by simpa using h
          clear h;obtain⟨x,hx⟩:∃a,r.new[i]?=some a:=⟨_,aY hix⟩
          have htk:=rA (mP φ) hx;have w1:=hr.n x (cM hx);have hpn:=hr.nn;simp only[go_sem,hx,hix];(intro b9 hb9;try simp only[aZ,aI,ne_eq]at hb9);simp only[go_sem,hx,hix,hb9,hp3,hp4,hp5];(refine bL (OT.r 0 11) [(5,[1])] ?_;simp only[go_sem,hb9,hp3,hp4,hp5,x2]);refine aBR hf x.cells w1.n w1.t _ _ _ (Kn.gs (hK.ge aX) _ _ _) ?_;simp only[go_sem,hb9,hp3,hp4,hp5];refine⟨by decide,λy hy=>by simp only[bW]at hy;subst hy;rfl,dY rfl rfl (rV hnil) (λy hy=>aPe hy) (by simp only[aH,bK,aE,aF];omega) (λu hu=>?_)⟩;have hfu:=gD hu hfree;rw[fO hu];simp only[go_sem,hx,hix,hb9,hp3,hp4,hp5];refine⟨(i+1,some u),⟨⟨λh=>(by cases h),λt h=>by cases h;exact hfu⟩,hix⟩,by simp only;omega,cF i aB,?_⟩;rw[show(r.new.take i).length+1=(r.new.take (i+1)).length by simp only[bK];omega];simp only[go_sem,htk,cV,dO,mP];exact jU aX
        · have hii : i = r.new.length := by have : ¬ i < r.new.length := by simpa using h
                                            omega
          subst hii;rw[List.take_length]at hnil⊢;clear h hi;simp only[go_sem,hp3,hp4,hp5]
          refine Ex.soft (b:=p5) (e:=84) (cs:=[.str (φ r.name),X1,X0,gv tk ((r.new.map (mP φ)).map Fresh.enc),.nils,.int .i64 r.line,.int .i64 r.col]) (cs':=[.str (φ r.name),X1,X0,.list none ((r.new.map (mP φ)).map Fresh.enc),.nils,.int .i64 r.line,.int .i64 r.col]) gH
            ⟨⟨bB _,rfl⟩,⟨bB _,x2⟩,⟨bB _,x1⟩,⟨iY _ _ (λe=>by rw[hnil e];rfl),rfl⟩,⟨bB _,rfl⟩,⟨bB _,rfl⟩,⟨bB _,rfl⟩,trivial⟩ ?_
          obtain⟨X2,hX2⟩:∃X,X=A.list none ((r.new.map (mP φ)).map Fresh.enc):=⟨_,rfl⟩
          rw[<-hX2];have x3:X2.one=true:=by rw[hX2];rfl
          refine Ex.loop (ι:=Nat × Option Nat) (λc=>[(0,.fn f [] caps),(3,.ptr p3 0),(4,.ptr p4 0),(5,.ptr p5 0),(81,.list none (r.drop.map .str)),(82,.int .i64 (r.drop.length:Nat)),(83,.int .i64 (c.1:Nat))])
            (λc=>gs (((s.setO p3 (.cells 84 r.cs)).setO p4 (.cells 84 Z)).setO p5 (.cells 84 [.str (φ r.name),X1,X0,X2,gv c.2 (((r.drop.take c.1).map φ).map .str),.int .i64 r.line,.int .i64 r.col])) c.2 ((r.drop.take c.1).map φ).length 9)
            (λc=>((c.2=none->(r.drop.take c.1).map φ=[])/\∀t,c.2=some t->s.getT t=none)/\c.1<=r.drop.length) (λc=>r.drop.length-c.1) (0,none) ⟨⟨λ_=>rfl,λt e=>(by cases e)⟩,aU _⟩ ?_ (by simp only[xQ,mT];exact nB (aM _) hfree) ?_
          · simp only[go_sem]
            first|done|exact rfl|exact⟨rfl,rfl⟩
          · clear hnil hfree tk
            rintro⟨i,tk⟩ ⟨⟨hnil,hfree⟩,hi⟩;simp only at hnil hfree hi;refine bG (V:=[0,1,3,4,5,7,9,11,26,27,28,29,34,63,64,65,66,81,82,83,84]) _ _ _ _ ?_;simp only[go_sem];(refine aQ (λh=>?_) (λh=>?_))<;>simp only[go_sem,h]
            · have hix:i<r.drop.length:=by simpa using h
              clear h;obtain⟨x,hx⟩:∃a,r.drop[i]?=some a:=⟨_,aY hix⟩
              have htk:=rA φ hx;have w1:=hr.d x (cM hx);have hpn:=hr.dn;simp only[go_sem,hx,hix];(refine bL (OT.r 0 9) [(4,[1])] ?_;simp only[go_sem,hx,hp3,hp4,hp5,x2,x3]);refine hf.fn x _ _ _ w1 (Kn.gs (hK.ge aX) _ _ _) ?_;simp only[go_sem,hp3,hp4,hp5];refine⟨by decide,λy hy=>by simp only[bW]at hy;subst hy;rfl,dY rfl rfl (rV hnil) (λy hy=>by obtain⟨_,_,rfl⟩:=cC.1 hy;rfl) (by simp only[aH,bK,aE,aF];omega) (λu hu=>?_)⟩;have hfu:=gD hu hfree;rw[fO hu];simp only[go_sem,hx,hix,hp3,hp4,hp5];refine⟨(i+1,some u),⟨⟨λh=>(by cases h),λt h=>by cases h;exact hfu⟩,hix⟩,by simp only;omega,cF i aB,?_⟩;rw[show(r.drop.take i).length+1=(r.drop.take (i+1)).length by simp only[bK];omega];simp only[go_sem,htk,cV,dO];exact jU aX
            · have hii : i = r.drop.length := by have : ¬ i < r.drop.length := by simpa using h
                                                 omega
              subst hii;rw[List.take_length]at hnil⊢;clear h hi;subst hZ hX0 hX1 hX2;simp only[go_sem,hp3,hp4,hp5];have hk':=hk;simp only[Rul.enc,Rul.cs,oD]at hk';refine⟨rH _ _,?_⟩;refine DK.mk hk' (nB aX hfree) (show A.le (.agg [.str (φ r.name),.list none ((r.parts.map (mB φ)).map Part.enc),.list none ((r.cond.map (eG φ)).map Tm.enc),.list none ((r.new.map (mP φ)).map Fresh.enc),gv tk ((r.drop.map φ).map .str),.int .i64 r.line,.int .i64 r.col]) _ from A.le.agg ⟨⟨bB _,rfl⟩,⟨bB _,rfl⟩,⟨bB _,rfl⟩,⟨bB _,rfl⟩,⟨iY _ _ (λe=>by rw[hnil e];rfl),rfl⟩,⟨bB _,rfl⟩,⟨bB _,rfl⟩,trivial⟩)
end
end
abbrev Wd:=aC × Bool
def Wd.cs(w:Wd):List A:=[.str w.1,.bool w.2]
def Wd.enc(w:Wd):A:=.agg (Wd.cs w)
def aDA:List aC:=[[46],[44],[59],[41],[93],[125],[64]]
def aDD:List aC:=[[40],[91],[123],[64],[39]]
def xR(cur:List Wd)(s:aC):Bool:=match cur.getLast? with
 | none=>true
 | some l=>(decide (s∈aDA)||decide (l.1∈aDD))||(decide (s=[40])&&dM l.1)
def aL(cur:List Wd)(s:aC):List Wd:=cur++[(s,xR cur s)]
def bM(cur:List Wd)(l:List aC):List Wd:=l.foldl aL cur
def lW(cur:List Wd):List aC->List Wd
 | []=>cur
 | s::r=>r.foldl (λc s=>c++[(s,true)]) (aL cur s)
def eE{α:Type}(one:List Wd->α->List Wd):Bool->List Wd->List α->List Wd
 | _,cur,[]=>cur
 | b,cur,x::r=>eE one true (one (if b=true then aL cur [44] else cur) x) r
def mG(cur:List Wd):List Tm->List Wd
 | []=>cur
 | r::l=>mG (bM cur [[124],r.text]) l
mutual
def cI(cur:List Wd):Tm->List Wd
 | .mk k n x y ks rs =>
  if k=1 then(if n<0 then lW cur [[45],(Lib.itoa n).drop 1] else aL cur (Lib.itoa n))
  else if k=2 then aL cur (if n=1 then [116,114,117,101] else [102,97,108,115,101])
  else if k=3 then aL cur ([34]++x++[34])
  else if k=4 then bM cur [[39],x]
  else if k=5 then aL (gK false (bM cur [x,[40]]) ks) [41]
  else if k=6 then(if x=[95]\/x=[36] then aL cur x else lW cur [x,[58],y])
  else if k=7 then aL (mG (gK false (aL cur [91]) ks) rs) [93]
  else if k=8 then aL (mG (fQ false (aL cur [123]) ks) rs) [125]
  else cur
def gK:Bool->List Wd->List Tm->List Wd
 | _,cur,[]=>cur
 | b,cur,t::r=>gK true (cI (if b=true then aL cur [44] else cur) t) r
def fQ:Bool->List Wd->List Tm->List Wd
 | _,cur,[]=>cur
 | _,cur,[t]=>cur
 | b,cur,k::v::r=>fQ true (cI (aL (cI (if b=true then aL cur [44] else cur) k) [45,62]) v) r
end
def qI(cur:List Wd)(l:List Tm):List Wd:=if l=[] then cur else eE cI false (aL cur [105,102]) l
def oL(p:Piece):aC:=if p.sort=[] then [34]++p.text++[34] else p.sort
def qT(o:Opr):List Wd :=
 let c:=bM [] [[111,112],o.name,[58]]
 let c:=bM c (o.pieces.map oL)
 let c:=if o.pieces=[] then bM c o.args else c
 let c:=bM c [[45,62],o.sort]
 let c:=if 0<o.prec then bM c [[112,114,101,99],Lib.itoa o.prec] else c
 let c:=if o.assoc=1 then aL c [108,101,102,116] else if o.assoc=2 then aL c [114,105,103,104,116] else c
 let c:=if o.strict=[] then c else aL (eE (λc n=>aL c (Lib.itoa n)) false (bM c [[115,116,114,105,99,116],[40]]) o.strict) [41]
 aL c [46]
def uJ(o:Opr):List Wd:=aL (bM (bM (bM [] [[102,117,110],o.name,[58]]) o.args) [[45,62],o.sort]) [46]
def jF(cur:List Wd)(c:Cel):List Wd:=cI (bM cur [c.name,[58],c.sort,[61]]) c.init
def iP(n:Nat)(cur:List Wd):List Wd:=if 0<n then aL cur [59] else cur
def jX(cur:List Wd):List Tm->List Wd
 | []=>cur
 | t::r=>jX (cI (aL cur [61,62]) t) r
def lS(n:Nat)(cur:List Wd)(p:Part):List Wd :=
 let c:=aL (iP n cur) p.cell
 let c:=if p.at_=[] then c else bM c [[64],p.at_]
 jX (cI (aL c [58]) p.left) p.right
def lV(n:Nat)(cur:List Wd)(f:Fresh):List Wd:=aL (eE cI false (bM (iP n cur) [[110,101,119],[40]]) f.cells) [41]
def lT(n:Nat)(cur:List Wd)(s:aC):List Wd:=bM (iP n cur) [[100,114,111,112],[64],s]
def gM{α:Type}(one:Nat->List Wd->α->List Wd):Nat->List Wd->List α->List Wd
 | _,cur,[]=>cur
 | n,cur,x::r=>gM one (n+1) (one n cur x) r
def rL(r:Rul):List Wd :=
 let c:=bM [] [[114,117,108,101],r.name,[58]]
 let c:=gM lS 0 c r.parts
 let c:=gM lV r.parts.length c r.new
 let c:=gM lT (r.parts.length+r.new.length) c r.drop
 aL (qI c r.cond) [46]
def nP(k:aC)(l:List aC):List (List Wd):=if l=[] then [] else [aL (eE aL false (aL [] k) l) [46]]
def uE(s:Sig):List (List Wd) :=
 nP [115,111,114,116] s.sorts++(s.below.map (λx=>aL (bM [] [[115,117,98,115,111,114,116],x.low,[60],x.high]) [46]) ++
  (nP [118,97,108,117,101] s.values++(s.ops.map qT++s.funs.map uJ)))
def sR(x:Eqn):List Wd:=aL (qI (cI (aL (cI (aL [] [108,101,116]) x.left) [61]) x.right) x.cond) [46]
def mY(k x:aC):List (List Wd):=if x=[] then [] else [aL (bM [] [k,x]) [46]]
def fI(d:Dfn):List (List Wd) :=
  [aL (bM [] [[108,97,110,103,117,97,103,101],d.name]) [46]]++(uE d.sig++(d.eqs.map sR++(d.once.map (λc=>aL (jF (aL [] [99,101,108,108]) c) [46]) ++
    ((if d.kind = [] then [] else [aL (aL (eE jF false (bM [] [[109,97,110,121],d.kind,[40]]) d.many) [41]) [46]]) ++
      (mY [115,116,97,114,116] d.start++(mY [119,97,116,99,104] d.watch++d.rules.map rL))))))
def vS(ws:List Wd):aC:=ws.flatMap λw=>(if w.2=true then [] else [32])++w.1
def kH:aC->List aC->aC
 | _,[]=>[]
 | last,x::r =>
  (if last≠[]/\x≠[]/\(match last.getLast? with|some c=>eY c.toNat|none=>false)=true/\last≠[95]/\(match x.head? with|some c=>eY c.toNat|none=>false)=true then [32] else [])++(x++kH x r)
theorem gBm{f:FuncId}{c:Code}{args:List A}{KV Kp:St->A->Prop}{s:St}{fn:Func}(hf:mN.P.funcs[f]?=some fn)(V:List Nat)
  (h:gQ mN fn.ntmps V c (mJ mN fn.results.toList (DK KV) (DK Kp)) (pS 0 args) s)
  (hb:fn.body=some c:=by exact rfl)
  (hname : (fn.name == "runtime.NumGoroutine") = false := by exact rfl) (hn : args.length ≤ fn.ntmps := by exact lM rfl) : Den cx f args KV Kp s :=
 Den.drop (aRY (aES (C:=mN) hf hb hname hn (bG _ _ _ _ h)))
def gB(ws:List Wd):List A:=ws.flatMap Wd.cs
inductive WL (s:St):A->List Wd->Prop
 | nil:WL s .nils []
 | mg (b cap:Nat) (ws:List Wd) (J:List A) (hb:s.getO b=some (.cells 156 (gB ws++J))) (hc:ws.length<=cap) (hJ:J.length=(cap-ws.length) * 2) (h1:∀c,c∈J->c.one=true) (hn:ws≠[]):WL s (.mg b ws.length cap) ws
def yD:A->Option Nat
 | .mg b _ _=>some b
 | _=>none
structure Stp (r:Nat) (vl vl':A) (s s':St):Prop where
 ob:∀p o,s.getO p=some o->p≠r->yD vl≠some p->s'.getO p=some o
 new:∀b,yD vl'=some b->yD vl=some b\/s.getO b=none
 dom:∀p,s'.getO p=none->s.getO p=none
 tk:∀t m,s.getT t=some m->s'.getT t=some m
 ls:s'.ls=s.ls
theorem Stp.refl(r:Nat)(vl:A)(s:St):Stp r vl vl s s:=⟨λ_ _ h _ _=>h,λ_ h=>.inl h,λ_ h=>h,λ_ _ h=>h,rfl⟩
theorem Stp.trans{r:Nat}{v1 v2 v3:A}{a b c:St}(h:Stp r v1 v2 a b)(h':Stp r v2 v3 b c):Stp r v1 v3 a c :=
  ⟨fun p o x n m => h'.ob p o (h.ob p o x n m) n (fun e => by
      rcases h.new p e with e|e
      · exact m e
      · rw[e]at x;cases x),
   λb e=>by
      rcases h'.new b e with e|e
      · exact h.new b e
      · exact .inr (h.dom b e),
   λp e=>h.dom p (h'.dom p e),λt m x=>h'.tk t m (h.tk t m x),h'.ls.trans h.ls⟩
theorem aAU:∀ws:List Wd,(gB ws).length=ws.length * 2
 | []=>rfl
 | w::r=>by
  have:=aAU r;simp only[gB,nL,aG,Wd.cs,aE,aF]at this⊢;omega
theorem aIB(a b:List Wd):gB (a++b)=gB a++gB b:=by simp[gB]
theorem aPo{ws:List Wd}{i:Nat}{w:Wd}(h:ws[i]?=some w)(J:List A):(gB ws++J)[i * 2]?=some (.str w.1)/\(gB ws++J)[i * 2+1]?=some (.bool w.2):=by
 induction ws generalizing i with
 | nil=>cases h
 | cons x r ih =>
  cases i with
  | zero=>cases h;exact⟨rfl,rfl⟩
  | succ i =>
   have:=ih (i:=i) h;have e1:(i+1) * 2=i * 2+2:=by omega
   rw[e1];exact this
structure WrS (s:St) (r:Nat) (vi vl:A) (cur:List Wd):Prop where
 ob:s.getO r=some (.cells 149 [vi,vl])
 one:vi.one=true
 line:WL s vl cur
theorem aMU(r:Nat)(vi vl:A)(cur:List Wd)(x:aC)(s:St)(KV Kp:St->A->Prop)(hw:WrS s r vi vl cur)(hl:cur.length<=4294967296)(hk:KV s (.bool (xR cur x))):Den cx 249 [.ptr r 0,.str x] KV Kp s:=by
 obtain⟨hr,_,hwl⟩:=hw;cases hwl with
 | nil =>
  (refine gBm func249 [0,1,4,5,6,7,13] ?_;simp only[go_sem,ntmps249,f249]);simp only[go_sem,hr];exact aN hk
 | mg b cap _ J hb hc hJ h1 hn =>
  have hpos:0<cur.length:=by cases cur with|nil=>exact absurd rfl hn|cons _ _=>simp
  have w1:IntKind.i64.wrap ((cur.length:Int)-1)=((cur.length-1:Nat):Int):=by rw[iU _ aB aB];omega
  have d1:decide ((cur.length:Int)=0)=false:=by rw[fL];omega
  obtain⟨w,hwl⟩:∃w,cur[cur.length-1]?=some w:=⟨_,aY aB⟩
  have hgl:cur.getLast?=some w:=by rw[List.getLast?_eq_getElem?];exact hwl
  obtain⟨g1,g2⟩:=aPo hwl J;(refine gBm func249 [0,1,4,5,6,7,13] ?_;simp only[go_sem,ntmps249,f249]);simp only[go_sem,hr,d1];(refine bL (OT.r 0 14) [] ?_;simp only[go_sem,hr,d1,hb,w1]);refine⟨by omega,?_⟩;simp only[go_sem,hb,g1];refine zZ (yV _ aDA _ _ _ ?_);simp only[go_sem];refine zZ (yV _ aDD _ _ _ ?_);simp only[go_sem];have ek:xR cur x=((decide (x∈aDA)||decide (w.1∈aDD))||(decide (x=[40])&&dM w.1)):=by unfold xR;rw[hgl]
  rw[ek]at hk;cases e1:decide (x∈aDA)<;>cases e2:decide (w.1∈aDD)<;>rw[e1,e2]at hk<;>simp only[go_sem]
  .cases e3:decide (x=[40])<;>rw[e3]at hk<;>simp only[go_sem]
   .exact aN hk
   .refine zZ (wP _ _ _ _ ?_);simp only[go_sem];exact aN hk
  all_goals exact aN hk
theorem aOi{l:List aC}{i:Nat}{x:aC}(h:l[i]?=some x)(cur:List Wd):bM cur (l.take (i+1))=aL (bM cur (l.take i)) x:=by
 rw[iS,h];simp[bM,List.foldl_append]
theorem bU(l:List aC):∀cur:List Wd,(bM cur l).length=cur.length+l.length:=by
 induction l with
 | nil=>intro cur;rfl
 | cons x r ih=>intro cur;show(bM (aL cur x) r).length=_;rw[ih];simp[aL];omega
theorem WrS.app{s:St}{r:Nat}{vi vl:A}{cur:List Wd}{KV:St->A->Prop}{te:TI}(h:WrS s r vi vl cur)(w:Wd)(hl:cur.length+1<=4294967296)(hs:te.sz=2)
  (hk:∀s' b n cap,s'.getO r=some (.cells 149 [vi,vl])->WrS (s'.setO r (.cells 149 [vi,.mg b n cap])) r vi (.mg b n cap) (cur++[w])->Stp r vl (.mg b n cap) s (s'.setO r (.cells 149 [vi,.mg b n cap]))->KV s' (.mg b n cap)):qP mN s 156 te [Wd.enc w] KV vl:=by
 obtain⟨hr,h0,hwl⟩:=h;cases hwl with
 | nil =>
  refine⟨by simp,?_⟩;rw[aJn,hs];refine⟨by simp,λb cap J hb hc hJ h1=>?_⟩;have hbr:=cE hr hb;have e1:flat [w.enc]++J=gB [w]++J:=by simp[flat,gB,Wd.enc,A.cells]
  rw[e1];have g:∀v q,((s.setO b (.cells 156 (gB [w]++J))).setO r (.cells 149 [vi,v])).getO q=if r=q then some (.cells 149 [vi,v]) else if b=q then some (.cells 156 (gB [w]++J)) else s.getO q:=λv q=>by rw[aJ,aJ]
  refine hk _ _ _ _ (by rw[aJ,if_neg hbr.2];exact hr) ⟨by rw[g,if_pos rfl],h0,?_⟩ ⟨λp o hp hpr _=>?_,λq hq=>?_,λp hp=>?_,λ_ _ h=>h,rfl⟩
  .exact .mg b cap [w] J (by rw[g,if_neg hbr.1,if_pos rfl]) (by simpa using hc) (by simpa using hJ) h1 bD
  .rw[g,if_neg (λe=>hpr e.symm),if_neg (λe=>by rw[<-e,hb]at hp;cases hp)];exact hp
  .cases hq;exact .inr hb
  .rw[g]at hp;split at hp
   .cases hp
   .split at hp
    .cases hp
    .exact hp
 | mg b cap _ J hb hc hJ h1 hn =>
  show sM _ _ _ _ _ _ _ _ _ _ _;rw[hb];have hbr:¬ r=b:=λe=>by subst e;rw[hr]at hb;cases hb
  have hlen:(gB cur++J).length=cap * 2:=by rw[aG,aAU,hJ];omega
  rw[hs];refine⟨⟨rfl,rfl,hlen,hc,hl,by simp⟩,λb' cap' J' hb' hc' hJ' h1'=>?_⟩
  have e1:(gB cur++J).take (cur.length * 2)++(flat [w.enc]++J')=gB (cur++[w])++J':=by
   rw[<-aAU,List.take_left' rfl,aIB,bI];simp[flat,gB,Wd.enc,A.cells]
  rw[e1]
  have hbr':¬ r=b':=by
   rcases hb' with⟨rfl,_⟩|hb'
   .exact hbr
   .exact(cE hr hb').1
  have g:∀v q,((s.setO b' (.cells 156 (gB (cur++[w])++J'))).setO r (.cells 149 [vi,v])).getO q=if r=q then some (.cells 149 [vi,v]) else if b'=q then some (.cells 156 (gB (cur++[w])++J')) else s.getO q:=λv q=>by rw[aJ,aJ]
  refine hk _ _ _ _ (by rw[aJ,if_neg (λe=>hbr' e.symm)];exact hr) ⟨by rw[g,if_pos rfl],h0,?_⟩ ⟨λp o hp hpr hpb=>?_,λq hq=>?_,λp hp=>?_,λ_ _ h=>h,rfl⟩
  .have e2:cur.length+[w.enc].length=(cur++[w]).length:=by simp
   rw[e2];exact .mg b' cap' (cur++[w]) J' (by rw[g,if_neg hbr',if_pos rfl]) (by simpa using hc') (by simpa using hJ') h1' bD
  .rw[g,if_neg (λe=>hpr e.symm),if_neg (λe=>?_)]
   .exact hp
   .subst e;rcases hb' with⟨rfl,_⟩|hb'
    .exact hpb rfl
    .rw[hb']at hp;cases hp
  .cases hq;rcases hb' with⟨rfl,_⟩|hb'
   .exact .inl rfl
   .exact .inr hb'
  .rw[g]at hp;split at hp
   .cases hp
   .split at hp
    .cases hp
    .exact hp
theorem dI(l:List aC)(r:Nat)(vi vl:A)(cur:List Wd)(s:St)(KV Kp:St->A->Prop)(hw:WrS s r vi vl cur)(hl:cur.length+l.length<=4294967296)
    (hk:∀s' vl',WrS s' r vi vl' (bM cur l)->Stp r vl vl' s s'->KV s' (.tuple [])):Den cx 177 [.ptr r 0,.list none (l.map .str)] KV Kp s:=by
  (refine gBm func177 [0,1,5,6,7,8,9] ?_;simp only[go_sem,ntmps177,f177])
  refine Ex.loop (ι:=Nat × (St × A)) (λc=>[(0,.ptr r 0),(6,.list none (l.map .str)),(7,.int .i64 (l.length:Nat)),(8,.int .i64 (c.1:Nat))])
    (λc=>c.2.1) (λc=>c.1<=l.length/\WrS c.2.1 r vi c.2.2 (bM cur (l.take c.1))/\Stp r vl c.2.2 s c.2.1) (λc=>l.length-c.1) (0,(s,vl)) ⟨aU _,hw,Stp.refl r vl s⟩ ?_ (aM s) ?_
  · (simp only[go_sem];try exact rfl)
  · rintro⟨i,s1,v1⟩ ⟨hi,hw1,hs1⟩
    simp only at hi hw1 hs1;refine bG (V:=[0,1,5,6,7,8,9]) _ _ _ _ ?_;simp only[go_sem];(refine aQ (λh=>?_) (λh=>?_))<;>simp only[go_sem,h]
    · have hix:i<l.length:=by simpa using h
      clear h;obtain⟨x,hx⟩:∃a,l[i]?=some a:=⟨_,aY hix⟩
      have hr1:=hw1.ob;have htk:=aOi hx cur;have hlc:=bU (l.take i) cur;rw[bK,uR hi]at hlc;simp only[go_sem,hx,hix];(refine bL (OT.r 0 15) [(8,[4])] ?_;simp only[go_sem,hx,hix,hr1]);refine zZ (aMU r vi v1 _ x s1 _ _ hw1 aB ?_);simp only[go_sem,hx,hix,hr1];refine⟨by decide,λy hy=>by rw[bW.1 hy];rfl,?_⟩;refine hw1.app (x,xR (bM cur (l.take i)) x) aB rfl (λs2 b n cap hr2 hw2 hs2=>?_);simp only[go_sem,hr2,hw1.one];refine⟨(i+1,_,_),⟨hix,by rw[htk];exact hw2,hs1.trans hs2⟩,by simp only;omega,cF i aB,aM _⟩
    · have hii : i = l.length := by have : ¬ i < l.length := by simpa using h
                                    omega
      subst hii;rw[List.take_length]at hw1;exact aN (hk _ _ hw1 hs1)
theorem aOH{l:List aC}{x:aC}(h:l[0]?=some x)(cur:List Wd):lW cur (l.take 1)=aL cur x:=by
 cases l with
 | nil=>cases h
 | cons y r=>cases h;rfl
theorem aOI{l:List aC}{i:Nat}{x:aC}(hi:0<i)(h:l[i]?=some x)(cur:List Wd):lW cur (l.take (i+1))=lW cur (l.take i)++[(x,true)]:=by
 cases l with
 | nil=>cases h
 | cons y r =>
  obtain⟨k,rfl⟩:∃k,i=k+1:=⟨i-1,by omega⟩
  show(r.take (k+1)).foldl _ (aL cur y)=(r.take k).foldl _ (aL cur y)++[(x,true)];rw[iS,show r[k]?=some x from h];simp[List.foldl_append]
theorem aFA(l:List aC)(cur:List Wd):(lW cur l).length=cur.length+l.length:=by
 cases l with
 | nil=>rfl
 | cons x r =>
  have:∀(r:List aC) (c:List Wd),(r.foldl (λc s=>c++[(s,true)]) c).length=c.length+r.length:=by
   intro r
   induction r with
   | nil=>intro c;rfl
   | cons y r ih=>intro c;rw[List.foldl_cons,ih];simp;omega
  show(r.foldl _ (aL cur x)).length=_;rw[this];simp[aL];omega
theorem aPF(c:List Wd)(y:aC)(b:Bool)(J:List A):kO (gB (c++[(y,b)])++J) (c.length * 2+1) [.bool true]=gB (c++[(y,true)])++J:=by
 have e:∀b,gB (c++[(y,b)])++J=(gB c++[.str y])++([.bool b]++J):=λb=>by simp[aIB,gB,Wd.cs]
 rw[e b,e true];have hl:(gB c++[A.str y]).length=c.length * 2+1:=by rw[aG,aAU];rfl
 simp only[kO];rw[List.set_append_right _ _ aB,hl,Nat.sub_self];rfl
theorem WrS.shut{s:St}{r:Nat}{vi v:A}{c:List Wd}{y:aC}{b:Bool}(h:WrS s r vi v (c++[(y,b)])):∃bx cap J,v=.mg bx (c.length+1) cap/\s.getO r=some (.cells 149 [vi,.mg bx (c.length+1) cap]) /\
  s.getO bx=some (.cells 156 (gB (c++[(y,b)])++J))/\¬ bx=r/\(gB (c++[(y,b)])++J).length=cap * 2/\c.length+1<=cap /\
  WrS (s.setO bx (.cells 156 (gB (c++[(y,true)])++J))) r vi v (c++[(y,true)])/\Stp r v v s (s.setO bx (.cells 156 (gB (c++[(y,true)])++J))):=by
 obtain⟨hr,h0,hwl⟩:=h;generalize hc':c++[(y,b)]=c' at hwl;cases hwl with
 | nil=>simp at hc'
 | mg bx cap _ J hb hc hJ h1 hn =>
  subst hc';have e1:(c++[(y,b)]).length=c.length+1:=by simp
  have e2:(c++[(y,true)]).length=c.length+1:=by simp
  have hbr:¬ bx=r:=λe=>by subst e;rw[hr]at hb;cases hb
  rw[e1]at hr hc hJ;refine⟨bx,cap,J,by rw[e1],hr,hb,hbr,by rw[aG,aAU,e1,hJ];omega,hc,⟨by rw[aJ,if_neg hbr,e1];exact hr,h0,?_⟩,?_⟩
  .rw[e1,<-e2];exact .mg bx cap (c++[(y,true)]) J (by rw[aJ,if_pos rfl]) (by rw[e2];exact hc) (by rw[e2];exact hJ) h1 bD
  .refine⟨λp o hp hpr hpb=>?_,λq hq=>.inl hq,λp hp=>?_,λ_ _ h=>h,rfl⟩
   .rw[aJ,if_neg (λe=>hpb (by subst e;rfl))];exact hp
   .rw[aJ]at hp;split at hp
    .cases hp
    .exact hp
theorem aHI(l : List aC)(r : Nat)(vi vl : A)(cur : List Wd)(s : St)(KV Kp : St -> A -> Prop)(hw : WrS s r vi vl cur)(hl : cur.length + l.length <= 4294967296)
    (hk:∀s' vl',WrS s' r vi vl' (lW cur l)->Stp r vl vl' s s'->KV s' (.tuple [])):Den cx 252 [.ptr r 0,.list none (l.map .str)] KV Kp s:=by
  (refine gBm func252 [0,1,4,5,6,7,8,9,18] ?_;simp only[go_sem,ntmps252,f252])
  refine Ex.loop (ι:=Nat × (St × A)) (λc=>[(0,.ptr r 0),(6,.list none (l.map .str)),(7,.int .i64 (l.length:Nat)),(8,.int .i64 (c.1:Nat))])
    (λc=>c.2.1) (λc=>c.1<=l.length/\WrS c.2.1 r vi c.2.2 (lW cur (l.take c.1))/\Stp r vl c.2.2 s c.2.1) (λc=>l.length-c.1) (0,(s,vl)) ⟨aU _,hw,Stp.refl r vl s⟩ ?_ (aM s) ?_
  · (simp only[go_sem];try exact rfl)
  · rintro⟨i,s1,v1⟩ ⟨hi,hw1,hs1⟩
    simp only at hi hw1 hs1;refine bG (V:=[0,1,4,5,6,7,8,9,18]) _ _ _ _ ?_;simp only[go_sem];(refine aQ (λh=>?_) (λh=>?_))<;>simp only[go_sem,h]
    · have hix : i < l.length := by simpa using h
      clear h;obtain⟨y,hy⟩:∃a,l[i]?=some a:=⟨_,aY hix⟩
      have w1:=cF i aB;have d0:decide ((0:Int)<(i:Int))=decide (0<i):=by rw[gG];omega
      have hlc:=aFA (l.take i) cur;rw[bK,uR hi]at hlc;simp only[go_sem,hy,hix];refine zZ (dI [y] r vi v1 _ s1 _ _ hw1 (by simp only[aE,aF];omega) (λs2 v2 hw2 hs2=>?_));have hw3:WrS s2 r vi v2 (lW cur (l.take i)++[(y,xR (lW cur (l.take i)) y)]):=hw2;cases h0:decide (0<i)with
      | false =>
        obtain rfl : i = 0 := by have : ¬ 0 < i := by simpa using h0
                                 omega
        simp only[go_sem,d0,h0,Int.reduceLT];refine⟨(1,s2,v2),⟨hix,by rw[aOH hy];exact hw2,hs1.trans hs2⟩,by simp only;omega,w1,aM _⟩
      | true =>
        have hi0:0<i:=by simpa using h0
        obtain⟨bx,cap,J,rfl,hr2,hb2,hbr,hlen,hcap,hw4,hs4⟩:=hw3.shut;have w2:IntKind.i64.wrap (((lW cur (l.take i)).length+1:Nat)-1:Int)=(((lW cur (l.take i)).length:Nat):Int):=by rw[iU _ aB aB];omega
        simp only[go_sem,d0,h0];(refine bL (OT.r 0 13) [] ?_;simp only[go_sem,hr2,hb2,w2]);refine⟨by omega,by rw[hlen];omega,⟨(i+1,_,_),⟨hix,by rw[aOI hi0 hy];exact hw4,(hs1.trans hs2).trans hs4⟩,by simp only;omega,w1,?_⟩⟩;have hset:=aPF (lW cur (l.take i)) y (xR (lW cur (l.take i)) y) J;simp only[kO]at hset;rw[hset];exact aM _
    · have hii : i = l.length := by have : ¬ i < l.length := by simpa using h
                                    omega
      subst hii;rw[List.take_length]at hw1;exact aN (hk _ _ hw1 hs1)
theorem WrS.new{s:St}{r:Nat}{vi vl:A}{cur:List Wd}(h:WrS s r vi vl cur){p:Nat}(hp:s.getO p=none)(o:Ob):WrS (s.setO p o) r vi vl cur :=
 ⟨by rw [aJ,if_neg (cE h.ob hp).2]; exact h.ob,h.one,by
  cases h.line with
  | nil=>exact .nil
  | mg b cap _ J hb hc hJ h1 hn=>exact .mg b cap cur J (by rw[aJ,if_neg (cE hb hp).2];exact hb) hc hJ h1 hn⟩
theorem Stp.new1{r:Nat}{v1 v2:A}{s s':St}{p:Nat}{o:Ob}(hp:s.getO p=none)(h:Stp r v1 v2 (s.setO p o) s'):Stp r v1 v2 s s' :=
  ⟨fun q x hq n m => h.ob q x (by rw [aJ,if_neg (fun e => by subst e; rw [hp] at hq; cases hq)]; exact hq) n m,
   λb e=>by
    rcases h.new b e with e|e
    · exact .inl e
    · rw[aJ]at e
      split at e
      · cases e
      · exact .inr e,
   λq hq=>by
    have:=h.dom q hq;rw[aJ]at this;split at this
    · cases this
    · exact this,h.tk,h.ls⟩
theorem Stp.keep{r:Nat}{vi v1 v2:A}{s s':St}{cur:List Wd}(h:Stp r v1 v2 s s')(hw:WrS s r vi v1 cur){p:Nat}{e:TypeId}{cs:List A}(hp:s.getO p=some (.cells e cs))(h1:e≠149)(h2:e≠156):s'.getO p=some (.cells e cs):=by
 refine h.ob p _ hp (λc=>?_) (λc=>?_)
 .subst c;rw[hw.ob]at hp;cases hp;exact h1 rfl
 .cases hw.line with
  | nil=>cases c
  | mg b cap _ J hb hc hJ h1' hn=>cases c;rw[hb]at hp;cases hp;exact h2 rfl
inductive WI (s:St) (ex:Option Nat):A->List (List Wd)->Prop
 | nil:WI s ex .nils []
 | mg (b cap:Nat) (LS:List (List Wd)) (vs J:List A) (hb:s.getO b=some (.cells 147 (vs++J))) (hl:vs.length=LS.length) (hc:LS.length<=cap) (hJ:J.length=cap-LS.length) (h1:∀c,c∈vs++J->c.one=true)
   (hv:∀(k:Nat) (v:A) (ws:List Wd),vs[k]?=some v->LS[k]?=some ws->WL s v ws/\∀b,yD v=some b->ex≠some b):WI s ex (.mg b LS.length cap) LS
structure WfS (s:St) (r:Nat) (vi vl:A) (LS:List (List Wd)) (cur:List Wd):Prop where
 w:WrS s r vi vl cur
 i:WI s (yD vl) vi LS
def lY:Ob->Prop
 | .cells e _=>e≠149/\e≠147/\e≠156
 | .iter _ _=>True
structure Frm (s s':St):Prop where
 ob:∀p o,s.getO p=some o->lY o->s'.getO p=some o
 dom:∀p,s'.getO p=none->s.getO p=none
 tk:∀t m,s.getT t=some m->s'.getT t=some m
 ls:s'.ls=s.ls
theorem Frm.refl(s:St):Frm s s:=⟨λ_ _ h _=>h,λ_ h=>h,λ_ _ h=>h,rfl⟩
theorem Frm.trans{a b c:St}(h:Frm a b)(h':Frm b c):Frm a c:=⟨λp o x n=>h'.ob p o (h.ob p o x n) n,λp e=>h.dom p (h'.dom p e),λt m x=>h'.tk t m (h.tk t m x),h'.ls.trans h.ls⟩
theorem Stp.frm{r:Nat}{vi v1 v2:A}{s s':St}{cur:List Wd}(h:Stp r v1 v2 s s')(hw:WrS s r vi v1 cur):Frm s s' :=
 ⟨fun p o hp hn => by
  refine h.ob p o hp (λc=>?_) (λc=>?_)
  .subst c;rw[hw.ob]at hp;cases hp;exact hn.1 rfl
  .cases hw.line with
   | nil=>cases c
   | mg b cap _ J hb hc hJ h1' _=>cases c;rw[hb]at hp;cases hp;exact hn.2.2 rfl,h.dom,h.tk,h.ls⟩
theorem Frm.new1{s s':St}{p:Nat}{o:Ob}(hp:s.getO p=none)(h:Frm (s.setO p o) s'):Frm s s' :=
  ⟨fun q x hq n => h.ob q x (by rw [aJ,if_neg (fun e => by subst e; rw [hp] at hq; cases hq)]; exact hq) n,
   λq hq=>by
    have:=h.dom q hq;rw[aJ]at this;split at this
    · cases this
    · exact this,h.tk,h.ls⟩
theorem WL.stp{s s':St}{v:A}{ws:List Wd}(h:WL s v ws)(hs:∀b,yD v=some b->∀o,s.getO b=some o->s'.getO b=some o):WL s' v ws:=by
 cases h with
 | nil=>exact .nil
 | mg b cap _ J hb hc hJ h1 hn=>exact .mg b cap ws J (hs b rfl _ hb) hc hJ h1 hn
theorem WfS.step{s s':St}{r:Nat}{vi v1 v2:A}{LS:List (List Wd)}{cur cur':List Wd}(h:WfS s r vi v1 LS cur)(hs:Stp r v1 v2 s s')(hw:WrS s' r vi v2 cur'):WfS s' r vi v2 LS cur':=by
 refine⟨hw,?_⟩;cases h.i with
 | nil=>exact .nil
 | mg b cap _ vs J hb hl hc hJ h1 hv =>
  refine .mg b cap LS vs J (hs.keep h.w hb aD aD) hl hc hJ h1 (λk v ws hk hw=>?_);obtain⟨g1,g2⟩:=hv k v ws hk hw
  have key:∀b,yD v=some b->∃o,s.getO b=some o:=λb hb=>by
   cases g1 with
   | nil=>cases hb
   | mg b' _ _ _ hb'=>cases hb;exact⟨_,hb'⟩
  refine⟨g1.stp λb hb o ho=>hs.ob b o ho (λc=>?_) (g2 b hb),λb hb e=>?_⟩
  .subst c;rw[h.w.ob]at ho;cases g1 with
   | nil=>cases hb
   | mg b' _ _ _ hb'=>cases hb;rw[h.w.ob]at hb';cases hb'
  .rcases hs.new b e with e|e
   .exact g2 b hb e
   .obtain⟨o,ho⟩:=key b hb;rw[e]at ho;cases ho
theorem WI.app{s:St}{r:Nat}{vi vl:A}{LS:List (List Wd)}{cur:List Wd}{KV:St->A->Prop}{te:TI}(h:WfS s r vi vl LS cur)(hl:LS.length+1<=4294967296)(hs:te.sz=1)
  (hk:∀s' b n cap,s'.getO r=some (.cells 149 [vi,vl])->WfS (s'.setO r (.cells 149 [.mg b n cap,.nils])) r (.mg b n cap) .nils (LS++[cur]) []->Frm s (s'.setO r (.cells 149 [.mg b n cap,.nils]))->KV s' (.mg b n cap)):qP mN s 147 te [vl] KV vi:=by
 have hw:=h.w;obtain⟨⟨hr,h0,hwl⟩,hi⟩:=h;have hv1:vl.cells=[vl]/\vl.one=true:=by cases hwl<;>exact⟨rfl,rfl⟩
 have hf:flat [vl]=[vl]:=by simp[flat,hv1.1]
 have fin:∀(b':Nat) (cap':Nat) (vs J':List A),¬ r=b'->vs.length=LS.length->LS.length+1<=cap'->J'.length=cap'-(LS.length+1)->(∀c,c∈(vs++[vl])++J'->c.one=true) ->
   (∀p o,s.getO p=some o->lY o->¬ p=b')->(∀(k:Nat) (v:A) (ws:List Wd),vs[k]?=some v->LS[k]?=some ws->WL s v ws)->(∀p cs,s.getO p=some (.cells 156 cs)->¬ p=b') ->
   KV (s.setO b' (.cells 147 ((vs++[vl])++J'))) (.mg b' (LS.length+1) cap'):=by
  intro b' cap' vs J' hbr hl1 hc1 hJ1 h11 hn1 hv1' h156;have g:∀v q,((s.setO b' (.cells 147 ((vs++[vl])++J'))).setO r (.cells 149 [v,.nils])).getO q=if r=q then some (.cells 149 [v,.nils]) else if b'=q then some (.cells 147 ((vs++[vl])++J')) else s.getO q:=λv q=>by rw[aJ,aJ]
  have e2:LS.length+1=(LS++[cur]).length:=by simp
  have hWL:∀v (ws:List Wd),WL s v ws->WL ((s.setO b' (.cells 147 ((vs++[vl])++J'))).setO r (.cells 149 [.mg b' (LS.length+1) cap',.nils])) v ws:=λv ws hw2=>by
   refine hw2.stp λq hq o ho=>?_
   have ho2:∃cs,o=.cells 156 cs:=by
    cases hw2 with
    | nil=>cases hq
    | mg b1 _ _ _ hb1=>cases hq;rw[hb1]at ho;cases ho;exact⟨_,rfl⟩
   obtain⟨cs,rfl⟩:=ho2;rw[g,if_neg (λe=>by subst e;rw[hr]at ho;cases ho),if_neg (λe=>h156 q cs ho e.symm)];exact ho
  refine hk _ _ _ _ (by rw[aJ,if_neg (λe=>hbr e.symm)];exact hr) ⟨⟨by rw[g,if_pos rfl],rfl,.nil⟩,?_⟩ ⟨λp o hp hn=>?_,λp hp=>?_,λ_ _ h=>h,rfl⟩
  .show WI _ none _ _;rw[e2];refine .mg b' cap' (LS++[cur]) (vs++[vl]) J' (by rw[g,if_neg hbr,if_pos rfl]) (by simp[hl1]) (by simpa using hc1) (by simpa using hJ1) h11 (λk v ws hk hw2=>⟨?_,λb hb=>by simp⟩);rw[<-e2];apply hWL;by_cases hkl:k<vs.length
   .rw[kC hkl]at hk;rw[kC aB]at hw2;exact hv1' k v ws hk hw2
   .rw[oT aB]at hk;rw[oT aB]at hw2
    have hk0:k-vs.length=0:=by
     have:=(dV.1 hk).1;simp at this;omega
    rw[hk0]at hk;rw[show k-LS.length=0 by omega]at hw2;cases hk;cases hw2;exact hwl
  .rw[g,if_neg (λe=>by subst e;rw[hr]at hp;cases hp;exact hn.1 rfl),if_neg (λe=>hn1 p o hp hn e.symm)];exact hp
  .rw[g]at hp;split at hp
   .cases hp
   .split at hp
    .cases hp
    .exact hp
 cases hi with
 | nil =>
  refine⟨by simp,?_⟩;rw[aJn,hs];refine⟨by simp,λb cap J hb hc hJ h1=>?_⟩;rw[hf];refine fin b cap [] J (cE hr hb).1 rfl (by simpa using hc) (by simpa using hJ) (λc hc=>?_) (λp o hp _ e=>by rw[<-e,hp]at hb;cases hb) (λk v ws h=>by cases h) (λp cs hp e=>by rw[<-e,hp]at hb;cases hb);simp only[aW,cW,bW]at hc;rcases hc with rfl|hc
  .exact hv1.2
  .exact h1 c hc
 | mg b cap _ vs J hb hlv hc hJ h1 hv =>
  show sM _ _ _ _ _ _ _ _ _ _ _;rw[hb];have hbr:¬ r=b:=λe=>by subst e;rw[hr]at hb;cases hb
  rw[hs];refine⟨⟨rfl,rfl,by rw[aG,hlv,hJ];omega,hc,hl,by simp⟩,λb' cap' J' hb' hc' hJ' h1'=>?_⟩
  have e1:(vs++J).take (LS.length * 1)++(flat [vl]++J')=(vs++[vl])++J':=by
   rw[Nat.mul_one,<-hlv,List.take_left' rfl,hf,bI]
  rw[e1];refine fin b' cap' vs J' (λe=>?_) hlv (by simpa using hc') (by simpa using hJ') (λc hc=>?_) (λp o hp hn e=>?_) (λk v ws hk hw2=>(hv k v ws hk hw2).1) (λp cs hp e=>?_)
  .rcases hb' with⟨rfl,_⟩|hb'
   .exact hbr e
   .exact(cE hr hb').1 e
  .simp only[cW,bW]at hc;rcases hc with(hc|rfl)|hc
   .exact h1 c (List.mem_append_left _ hc)
   .exact hv1.2
   .exact h1' c hc
  .subst e;rcases hb' with⟨rfl,_⟩|hb'
   .rw[hb]at hp;cases hp;exact hn.2.1 rfl
   .rw[hb']at hp;cases hp
  .subst e;rcases hb' with⟨rfl,_⟩|hb'
   .rw[hb]at hp;cases hp
   .rw[hb']at hp;cases hp
theorem qE(r:Nat)(vi vl:A)(LS:List (List Wd))(cur:List Wd)(s:St)(KV Kp:St->A->Prop)(hw:WfS s r vi vl LS cur)(hl:cur.length+1<=4294967296)(hl2:LS.length+1<=4294967296)
  (hk:∀s' vi',WfS s' r vi' .nils (LS++[aL cur [46]]) []->Frm s s'->KV s' (.tuple [])):Den cx 178 [.ptr r 0] KV Kp s:=by
 (refine gBm func178 [0] ?_;simp only[go_sem,ntmps178,f178]);refine zZ (dI [[46]] r vi vl cur s _ _ hw.w (by simpa using hl) (λs1 v1 hw1 hs1=>?_));have hr1:=hw1.ob;have hwf:=hw.step hs1 hw1
 obtain⟨b1,n1,c1,rfl⟩:∃b n c,v1=.mg b n c:=by
  have hl:=hw1.line;generalize hcc:bM cur [[46]]=cc at hl;cases hl with
  | nil=>have:=bU [[46]] cur;rw[hcc]at this;simp at this
  | mg b cap _ J _ _ _ _ _=>exact⟨_,_,_,rfl⟩
 simp only[go_sem,hr1];(refine bL (OT.r 0 14) [] ?_;simp only[go_sem,hr1]);refine⟨by decide,λy hy=>by rw[bW.1 hy];rfl,WI.app hwf hl2 rfl (λs2 b n cap hr2 hw2 hs2=>?_)⟩;simp only[go_sem,hr2];exact aN (hk _ _ hw2 ((hs1.frm hw.w).trans hs2))
section
section
variable {s:St} {KV Kp:St->A->Prop}
theorem aFj:A.le .emp (.list none []):=λg v h=>by
 obtain⟨a,rfl⟩:=h.emp_inv;exact .list0 none (some a) 0 (aU _) (λt e=>by cases e)
theorem aNa(l:List A)(h1:∀y,y∈l->y.cells.length=1)(hl:l.length<=4294967296)(hk:KV s (.list none l)):Den cx 266 [.list none l] KV Kp s:=by
 (refine aO func266 [0,2,4] ?_;simp only[go_sem,ntmps266,f266]);cases l with
 | nil =>
  simp only[go_sem,false_or];exact⟨DK.mk hk (aM _) A.le.nil,by decide,λy hy=>(by cases hy),DK.mk hk (aM _) aFj⟩
 | cons x r =>
  have hl2:r.length<=4294967295:=Nat.le_of_succ_le_succ hl;simp only[go_sem];refine⟨by decide,h1,hl2,?_⟩;intro t ht;simp only[go_sem];exact DK.mk hk (yX ht) (iY (some t) (x::r) (λe=>by cases e))
theorem aEE(l:List A)(h1:∀y,y∈l->y.cells.length=1)(hl:l.length<=4294967296)(hk:KV s (.list none l)):Den cx 268 [.list none l] KV Kp s:=by
 (refine aO func268 [0,2,4] ?_;simp only[go_sem,ntmps268,f268]);cases l with
 | nil =>
  simp only[go_sem,false_or];exact⟨DK.mk hk (aM _) A.le.nil,by decide,λy hy=>(by cases hy),DK.mk hk (aM _) aFj⟩
 | cons x r =>
  have hl2:r.length<=4294967295:=Nat.le_of_succ_le_succ hl;simp only[go_sem];refine⟨by decide,h1,hl2,?_⟩;intro t ht;simp only[go_sem];exact DK.mk hk (yX ht) (iY (some t) (x::r) (λe=>by cases e))
end
end
theorem aQJ:A.le .nils (.list none []):=A.le.nil
theorem aRK:A.le .emp (.list none []):=aFj
def PcK(s:St)(ps:List Piece)(K:St->A->Prop):Prop:=match ps with
 | []=>K s .nils/\K s .emp
 | p::r=>∀b cap J,s.getO b=none->(p::r).length<=cap->J.length=(cap-(p::r).length) * 2->(∀c,c∈J->c.one=true)->K (s.setO b (.cells 143 (flat ((p::r).map Piece.enc)++J))) (.mg b (p::r).length cap)
theorem aOO(l:List Piece)(hl:l.length<=4294967295)(s:St)(KV Kp:St->A->Prop)(hk:PcK s l KV):Den cx 267 [.list none (l.map Piece.enc)] KV Kp s:=by
 cases l with
 | nil =>
  (refine aO func267 [0,2,4] ?_;simp only[go_sem,ntmps267,f267]);exact .inr ⟨aN hk.1,by decide,λy hy=>by(cases hy),aN hk.2⟩
 | cons x r =>
  (refine gBm func267 [0,2,4] ?_;simp only[go_sem,ntmps267,f267]);refine⟨by decide,λy hy=>?_,by simp only[aE]at hl;omega,λb cap J hb hc hJ h1=>?_⟩
  .rcases List.mem_cons.1 hy with rfl|hy
   .rfl
   .obtain⟨_,_,rfl⟩:=cC.1 hy;rfl
  .exact aN (hk b cap J hb hc hJ h1)
theorem aMD(o:Opr)(ha:o.args.length<=4294967295)(hp:o.pieces.length<=4294967295)(hs:o.strict.length<=4294967295)(s:St)(KV Kp:St->A->Prop)
  (hk:PcK s o.pieces (λs' v=>KV s' (.agg [.str o.name,.list none (o.args.map .str),.str o.sort,v,.int .i64 o.prec,.int .i64 o.assoc,.list none (o.strict.map (.int .i64))]))):Den cx 201 [.agg o.cs] KV Kp s:=by
 (refine aO func201 [0,1,2] ?_;simp only[go_sem,ntmps201,f201]);(intro p1 hp1;try simp only[aI,ne_eq]at hp1);simp only[go_sem,hp1];(intro p2 hp2;try simp only[aI,ne_eq]at hp2);simp only[go_sem,hp1,hp2];(refine bL (OT.l [0,1,3,4,6,7,2,9,5,8,10,11,12,13,14] .nil) [(2,[4,7]),(5,[7])] ?_;simp only[go_sem,hp1,hp2]);refine aNa (o.args.map .str) (λy hy=>by obtain⟨_,_,rfl⟩:=cC.1 hy;rfl) (by rw[aH];omega) ?_;simp only[go_sem,hp1,hp2];refine aOO o.pieces hp _ _ _ ?_;cases hq:o.pieces with
 | nil =>
  rw[hq]at hk;refine⟨?_,?_⟩
  .simp only[go_sem,hp1,hp2];refine aEE (o.strict.map (.int .i64)) (λy hy=>by obtain⟨_,_,rfl⟩:=cC.1 hy;rfl) (by rw[aH];omega) ?_;simp only[go_sem,hp1,hp2];exact aP hk.1 aX
  .simp only[go_sem,hp1,hp2];refine aEE (o.strict.map (.int .i64)) (λy hy=>by obtain⟨_,_,rfl⟩:=cC.1 hy;rfl) (by rw[aH];omega) ?_;simp only[go_sem,hp1,hp2];exact aP hk.2 aX
 | cons q r =>
  rw[hq]at hk;intro b cap J hb hc hJ h1;simp only[aI,ne_eq]at hb;simp only[go_sem,hp1,hp2,hb];refine aEE (o.strict.map (.int .i64)) (λy hy=>by obtain⟨_,_,rfl⟩:=cC.1 hy;rfl) (by rw[aH];omega) ?_;simp only[go_sem,hp1,hp2,hb];refine aP (hk b cap J hb.2.2 hc hJ h1) ?_;exact aX
def St.delO(s:St)(b:Nat):St:={ s with ob:=λu=>if u=b then none else s.ob u,ov:=yN b s.ov }
theorem aEF(s:St)(b q:Nat):(s.delO b).getO q=if q=b then none else s.getO q:=aFD b s.ob q s.ov
theorem R.shutB{C:Ctx}{F:Fr}{g:Gh}{s:St}{w:World}(h:R C F g s w){b:Nat}{e:TypeId}{cs:List A}(hb:s.getO b=some (.cells e cs)) :
  ∃k vs,g.beta b=some k/\Rzs g cs vs/\g.le (g.know k (vs))/\R C F (g.know k vs) (s.delO b) w:=by
 obtain⟨k,hk,⟨vs,rest,hx,hv,h1⟩,hpi,hF⟩:=h.obj b _ hb;have hle:=aB7 hpi vs
 have hsub:∀q o,(s.delO b).getO q=some o->q≠b/\s.getO q=some o:=λq o ho=>by
  rw[aEF]at ho;split at ho
  .cases ho
  .exact⟨‹_›,ho⟩
 have hne:∀{c:Nat},g.pi c≠none->c≠k:=λhc e=>hc (e▸hpi)
 have hp:∀{c:Nat},c≠k->(g.know k vs).pi c=g.pi c:=λhc=>by simp only[Gh.know,hc,↓reduceIte]
 refine⟨k,vs,hk,hv,hle,?_⟩;refine⟨λq o ho=>?_,λt n e' ht=>?_,h.sep,λc pre hc=>?_,λc o ho=>?_,λc cs' hc=>?_,h.fsh,h.bet,h.inj,h.dtm,λx hx=>(h.lst x hx).mono hle,h.bfr,h.env⟩
 .obtain⟨n1,ho'⟩:=hsub q o ho;obtain⟨k',a1,a2,a3,a4⟩:=h.obj q o ho';have:k'≠k:=λe=>n1 (h.inj q b k (e▸a1) hk)
  exact⟨k',a1,a2.mono hle,by rw[hp this];exact a3,a4⟩
 .obtain⟨v,xs,a1,a2,a3,a4⟩:=h.tok t n e' ht;refine⟨v,xs,a1,a2,a3,λc hc=>?_⟩;obtain⟨b1,b2⟩:=a4 c hc;exact⟨by rw[hp (hne (by rw[b1];simp))];exact b1,b2⟩
 .by_cases hck:c=k
  .subst hck;simp only[Gh.know,↓reduceIte,bJ]at hc;subst hc;exact⟨rest,e,_,hx⟩
  .rw[hp hck]at hc;exact h.pis c pre hc
 .obtain⟨a1,a2⟩:=h.frm c o ho;have:c≠k:=λe=>by rw[e,hF]at ho;cases ho
  exact⟨a1,by rw[hp this];exact a2⟩
 .obtain⟨pre,ty,fr,a1,a2,a3,a4⟩:=h.glb c cs' hc;exact⟨pre,ty,fr,a1,a2,a3,λj x v hj hv=>(a4 j x v hj hv).mono hle⟩
theorem aNi{α:Type}{l:List α}{i:Nat}{x:α}(h:l[i]?=some x)(J:List α):(l++J)[i]?=some x:=by
 rw[kC (dV.1 h).1];exact h
theorem aQU{g:Gh}{b cap sz k:Nat}{es J:List A}{vs:List Value}{v:Value}(hk:g.beta b=some k)(hvs:Rzs g (flat es++J) vs)(hsz:∀e,e∈es->e.cells.length=sz)(h1:∀e,e∈es->∀c,c∈e.cells->c.one=true)
  (hle:g.le (g.know k vs))(h:Rz (g.know k vs) (.mg b es.length cap) v):Rz (g.know k vs) (.list none es) v:=by
 obtain⟨k',rfl,hb,hc,hm⟩:=h.mg_inv;have hb':g.beta b=some k':=hb;rw[hk]at hb';cases hb';have hl:=hvs.1;rw[aG,wN hsz]at hl;refine .list none es k 0 sz cap vs (by simp[Gh.know]) aB hc hm hsz h1 (λi e j c v he hj hv=>?_) (λt h=>by cases h);have:=aJQ hsz he hj;rw[gI]at hv;exact(hvs.2 (i * sz+j) c v (aNi this J) hv).mono hle
theorem Ex.shut{C:Cx}{n:Nat}{c:Code}{Q:XK->Env->St->Prop}{ev:Env}{s:St}{b q i cap sz:Nat}{e eq:TypeId}{es J ds:List A}(hb:s.getO b=some (.cells e (flat es++J)))(hq:s.getO q=some (.cells eq ds))(hne:q≠b)
  (hi:ds[i]?=some (.mg b es.length cap))(hsz:∀e,e∈es->e.cells.length=sz)(h1:∀e,e∈es->∀c,c∈e.cells->c.one=true)
  (h:Ex C n c Q ev ((s.delO b).setO q (.cells eq (ds.set i (.list none es))))):Ex C n c Q ev s:=λF g w a hR he=>by
 obtain⟨k,vs,hk,hvs,hle,hR'⟩:=hR.shutB hb;have hq':(s.delO b).getO q=some (.cells eq ds):=by rw[aEF,if_neg hne];exact hq
 obtain⟨k2,hk2,⟨us,rest,e1,e2,e3⟩,hpi,hF⟩:=hR'.obj q _ hq'
 have hR2:R C.toCtx F (g.know k vs) ((s.delO b).setO q (.cells eq (ds.set i (.list none es)))) w:=by
  refine hR'.setObj hq' hk2 (λj _=>rfl) ⟨us,rest,e1,⟨by rw[List.length_set];exact e2.1,λj x v hx hv=>?_⟩,λc hc=>?_⟩
  .by_cases hj:i=j
   .subst hj;rw[List.getElem?_set_self (dV.1 hi).1]at hx;cases hx;exact aQU hk hvs hsz h1 hle (e2.2 i _ v hi hv)
   .rw[List.getElem?_set_ne hj]at hx;exact e2.2 j x v hx hv
  .rcases wG hc with hc|rfl
   .exact e3 c hc
   .rfl
 exact oY (λex a' w' hp=>Post.mono hle hp λ_ _ _ h=>h) (h F (g.know k vs) w a hR2 (he.mono hle))
section
theorem aQ1{f:FuncId}{caps:List A}{L:List (Nat × Ob)}{φ:aC->aC}(h:FnK f caps L φ)(hφ:LenS φ)(p:Nat):FnK 110 [.ptr p 0] ((p,.cells 162 [.fn f [] caps])::L) (dT φ):=by
 intro x s KV Kp hx hK hk;have g1:=hK _ (bY ..);simp only at g1;unfold dT at hk;show Den cx 110 [.str x,.ptr p 0] KV Kp s;(refine aO func110 [0,1,3,4,5] ?_;simp only[go_sem,ntmps110,f110]);refine aE7 _ _ _ _ aB ?_;have hm:(140737488355328:Nat)+140737488355328<=maxLen:=by decide
 cases hf:pG x
 .rw[hf]at hk;simp only[cJ,if_false]at hk⊢;simp only[go_sem,g1];refine h x s _ _ hx (λp hp=>hK p (cT _ hp)) ?_;have:=hφ x hx;simp only[go_sem];refine⟨by omega,?_⟩;rw[eM];exact aN hk
 .rw[hf]at hk;simp only[if_true]at hk⊢;simp only[go_sem,g1];have hx2:(x.take (x.length-2)).length<=140737488355328:=by rw[bK];omega
  refine h _ s _ _ hx2 (λp hp=>hK p (cT _ hp)) ?_;have:=hφ _ hx2;simp only[go_sem];refine⟨by rw[dR];omega,?_⟩;exact aN hk
def iN(φ:aC->aC)(p:Piece):Piece:={ p with sort:=fU φ p.sort }
def fT(op φ:aC->aC)(o:Opr):Opr:={ o with name:=op o.name,args:=o.args.map φ,sort:=φ o.sort,pieces:=o.pieces.map (iN φ) }
structure OprB (o:Opr):Prop where
 n:o.name.length<=140737488355328
 s:o.sort.length<=140737488355328
 an:o.args.length<=4294967295
 a:∀x,x∈o.args->x.length<=140737488355328
 pn:o.pieces.length<=4294967295
 p:∀x,x∈o.pieces->x.sort.length<=140737488355328
 t:o.strict.length<=4294967295
theorem aJK{l:List Opr}{y:A}(hy:y∈l.map Opr.enc):y.cells.length=7:=by
 obtain⟨z,_,rfl⟩:=cC.1 hy;rfl
def PF(l:List Piece):List A:=flat (l.map Piece.enc)
theorem aK9(a b:List Piece):PF (a++b)=PF a++PF b:=by simp[PF,flat]
theorem aFU(x:Piece)(b:List Piece):PF (x::b)=x.cs++PF b:=rfl
theorem aLv(l:List Piece):(PF l).length=2 * l.length:=by
 induction l with
 | nil=>rfl
 | cons x r ih=>rw[aFU,aG,ih];simp[Piece.cs];omega
def tA(φ:aC->aC)(P:List Piece)(j:Nat):List Piece:=(P.take j).map (iN φ)++P.drop j
theorem aS8(φ:aC->aC){P:List Piece}{j:Nat}{x:Piece}(h:P[j]?=some x):tA φ P j=(P.take j).map (iN φ)++x::P.drop (j+1)/\tA φ P (j+1)=(P.take j).map (iN φ)++iN φ x::P.drop (j+1):=by
 refine⟨by rw[tA,aIK h],?_⟩;rw[tA,iS,h,cV,bI];rfl
theorem aSz(a b:List Piece)(x:Piece)(J:List A):((PF (a++x::b)++J).drop (a.length * 2)).take 2=x.cs/\a.length * 2+2<=(PF (a++x::b)++J).length:=by
 have e:PF (a++x::b)++J=PF a++(x.cs++(PF b++J)):=by rw[aK9,aFU];simp
 have hl:(PF a).length=a.length * 2:=by rw[aLv];omega
 refine⟨by rw[e,List.drop_left' hl];rfl,?_⟩;rw[e,aG,hl];simp[Piece.cs]
theorem aSG(a b:List Piece)(x:Piece)(z:aC)(J:List A):(PF (a++x::b)++J).set (a.length * 2+1) (.str z)=PF (a++⟨x.text,z⟩::b)++J:=by
 have e:∀y:Piece,PF (a++y::b)++J=PF a++(y.cs++(PF b++J)):=λy=>by rw[aK9,aFU];simp
 have hl:(PF a).length=a.length * 2:=by rw[aLv];omega
 rw[e,e,List.set_append_right _ _ aB,hl];simp[Piece.cs,show a.length * 2+1-a.length * 2=1 by omega]
theorem aRx{s:St}{b q:Nat}{O1 O2 O:Ob}{tk:Option Nat}{n:Nat}{e:TypeId}(hb:s.getO b=none)(hne:¬ q=b):(((gs ((s.setO q O1).setO b O2) tk n e).delO b).setO q O).ge (gs (s.setO q O) tk n e):=by
 refine⟨λc x hx=>?_,λt m hm=>?_,λy hy=>?_⟩
 .rw[aZ,aJ]at hx;rw[aJ,aEF,aZ,aJ,aJ];by_cases h:q=c
  .rw[if_pos h]at hx⊢;exact hx
  .have hcb:¬ c=b:=λe=>by rw[if_neg h,e,hb]at hx;cases hx
   rw[if_neg h]at hx⊢;rw[if_neg hcb,if_neg (λe=>hcb e.symm),if_neg h];exact hx
 .cases tk<;>exact hm
 .cases tk<;>exact hy
section
variable {f:FuncId} {caps:List A} {L:List (Nat × Ob)} {φ:aC->aC} (hf:ChF f caps L φ) {fo:FuncId} {co:List A} {op:aC->aC} (ho:FnK fo co L op)
include hf ho
theorem aHU(l:List Opr)(hl:l.length<=4294967295)(hw:∀o,o∈l->OprB o)(c1 c2 c3:Nat)(s:St)(KV Kp:St->A->Prop)(hK:Kn L s)
    (g1:s.getO c1=some (.cells 116 [.fn fo [] co]))(g2:s.getO c2=some (.cells 215 [.fn 199 [] []]))(g3:s.getO c3=some (.cells 116 [.fn f [] caps]))
    (hk:KV s (.list none ((l.map (fT op φ)).map Opr.enc))):Den cx 200 [.list none (l.map Opr.enc),.ptr c1 0,.ptr c2 0,.ptr c3 0] KV Kp s:=by
  (refine aO func200 [0,1,2,3,5,6,8,9,10,11,12,13,14,36,37,38,39,45] ?_;simp only[go_sem,ntmps200,f200])
  refine Ex.loop (ι:=Nat × Option Nat) (λc=>[(1,.ptr c1 0),(2,.ptr c2 0),(3,.ptr c3 0),(6,gv c.2 (((l.take c.1).map (fT op φ)).map Opr.enc)),(11,.list none (l.map Opr.enc)),(12,.int .i64 (l.length:Nat)),(13,.int .i64 (c.1:Nat))])
    (λc=>gs s c.2 ((l.take c.1).map (fT op φ)).length 73)
    (λc=>((c.2=none->(l.take c.1).map (fT op φ)=[])/\∀t,c.2=some t->s.getT t=none)/\c.1<=l.length) (λc=>l.length-c.1) (0,none) ⟨⟨λ_=>rfl,λt e=>(by cases e)⟩,aU _⟩ ?_ (by exact aM _) ?_
  · simp only[go_sem]
    first|done|exact rfl|exact⟨rfl,rfl⟩
  · rintro ⟨i,tk⟩ ⟨⟨hnil,hfree⟩,hi⟩
    simp only at hnil hfree hi;refine Ex.seq (bG (V:=[0,1,2,3,5,6,8,9,10,11,12,13,14,36,37,38,39,45]) _ _ _ _ ?_);simp only[go_sem];refine Ex.seq (bG (V:=[0,1,2,3,5,6,8,9,10,11,12,13,14,36,37,38,39,45]) _ _ _ _ ?_);simp only[go_sem];(refine aQ (λh=>?_) (λh=>?_))<;>simp only[go_sem,h]
    · have hix:i<l.length:=by simpa using h
      clear h;obtain⟨x,hx⟩:∃a,l[i]?=some a:=⟨_,aY hix⟩
      have htk:=rA (fT op φ) hx;have hb:=hw x (cM hx);refine Ex.seq (Ex.block ?_);refine Ex.seq (bG (V:=[0,1,2,3,5,6,8,9,10,11,12,13,14,36,37,38,39,45]) _ _ _ _ ?_);simp only[go_sem,hx,hix];(intro b8 hb8;try simp only[aZ,aI,ne_eq]at hb8);simp only[go_sem,hx,hix,hb8];refine Ex.seq (bG (V:=[0,1,2,3,5,6,8,9,10,11,12,13,14,36,37,38,39,45]) _ _ _ _ ?_);simp only[go_sem,hb8];refine aMD x hb.an hb.pn hb.t _ _ _ ?_;have n1:=cE g1 hb8;have n2:=cE g2 hb8;have n3:=cE g3 hb8;cases hq:x.pieces with
      | nil =>
        refine⟨?_,?_⟩
        all_goals (
          simp only[go_sem,hb8];refine Ex.seq (bG (V:=[0,1,2,3,5,6,8,9,10,11,12,13,14,36,37,38,39,45]) _ _ _ _ ?_);simp only[go_sem];(refine bL (OT.l [0,1,2,4,5,6,7,9,10,11,3,13,8,12,14,15,16,17,18] .nil) [(3,[4,6,7,9,11]),(8,[9,11])] ?_;simp only[go_sem,hb8,n1,n2,n3,g1,g2,g3]);refine ho x.name _ _ _ hb.n (Kn.gs (hK.ge aX) _ _ _) ?_;simp only[go_sem,hb8,n1,n2,n3,g1,g2,g3];refine aBV hf x.args hb.an hb.a _ _ _ (Kn.gs (hK.ge aX) _ _ _) ?_;simp only[go_sem,hb8,n1,n2,n3,g1,g2,g3];refine hf.fn x.sort _ _ _ hb.s (Kn.gs (hK.ge aX) _ _ _) ?_;simp only[go_sem,hb8,n1,n2,n3,g1,g2,g3];refine Ex.seq (bG (V:=[0,1,2,3,5,6,8,9,10,11,12,13,14,36,37,38,39,45]) _ _ _ _ ?_);simp only[go_sem,hb8];refine Ex.loop (ι:=Unit) (λ_=>[(1,.ptr c1 0),(2,.ptr c2 0),(3,.ptr c3 0),(6,gv tk (((l.take i).map (fT op φ)).map Opr.enc)),(8,.ptr b8 0),(11,.list none (l.map Opr.enc)),(12,.int .i64 (l.length:Nat)),(13,.int .i64 (i:Nat)),(37,.int .i64 0),(38,.int .i64 0)]) (λ_=>_) (λ_=>True) (λ_=>0) () trivial ?_ (aM _) ?_
          · simp only[go_sem]
            first|done|exact rfl|exact⟨rfl,rfl⟩
          rintro⟨⟩ -;refine bG (V:=[0,1,2,3,5,6,8,9,10,11,12,13,14,36,37,38,39,45]) _ _ _ _ ?_;simp only[go_sem,Int.reduceLT]
          refine Ex.soft (b:=b8) (e:=73) (cs:=[.str (op x.name),.list none ((x.args.map φ).map .str),.str (φ x.sort),_,.int .i64 x.prec,.int .i64 x.assoc,.list none (x.strict.map (.int .i64))]) (cs':=(fT op φ x).cs) gH
            ⟨⟨bB _,rfl⟩,⟨bB _,rfl⟩,⟨bB _,rfl⟩,⟨by rw[show(fT op φ x).pieces=[]by simp[fT,hq]];first|exact aQJ|exact aRK,rfl⟩,⟨bB _,rfl⟩,⟨bB _,rfl⟩,⟨bB _,rfl⟩,trivial⟩ ?_
          refine bG (V:=[0,1,2,3,5,6,8,9,10,11,12,13,14,36,37,38,39,45]) _ _ _ _ ?_;simp only[go_sem,hb8];refine⟨by decide,λy hy=>by simp only[bW]at hy;subst hy;rfl,dY rfl rfl (rV hnil) (λy hy=>aJK hy) (by simp only[aH,bK,aE,aF];omega) (λu hu=>?_)⟩;have hfu:=gD hu hfree;rw[fO hu];simp only[go_sem,hb8];refine bG (V:=[0,1,2,3,5,6,8,9,10,11,12,13,14,36,37,38,39,45]) _ _ _ _ ?_;simp only[go_sem];refine⟨(i+1,some u),⟨⟨λh=>(by cases h),λt h=>by cases h;exact hfu⟩,hix⟩,by simp only;omega,⟨?_,cF i aB⟩,?_⟩
          · simp only[go_sem,dO,htk,cV]
          · rw[show(l.take i).length+1=(l.take (i+1)).length by simp only[bK];omega]
            exact jU aX)
      | cons p0 r0 =>
        have hbp:=hb.p;have hbn:=hb.pn;have hchp:(fT op φ x).pieces=(x.pieces).map (iN φ):=rfl;rw[hq]at hbp hbn hchp;obtain⟨P,hP⟩:∃P,P=p0::r0:=⟨_,rfl⟩
        rw[<-hP]at hbp hbn hchp;intro b cap J hbf hcap hJ hJ1;rw[<-hP]at hcap hJ⊢;simp only[aZ,aI,ne_eq]at hbf;simp only[go_sem,hb8,hbf];refine Ex.seq (bG (V:=[0,1,2,3,5,6,8,9,10,11,12,13,14,36,37,38,39,45]) _ _ _ _ ?_);simp only[go_sem];have m1:=cE g1 hbf.2;have m2:=cE g2 hbf.2;have m3:=cE g3 hbf.2;(refine bL (OT.l [0,1,2,4,5,6,7,9,10,11,3,13,8,12,14,15,16,17,18] .nil) [(3,[4,6,7,9,11]),(8,[9,11])] ?_;simp only[go_sem,hb8,hbf,n1,n2,n3,m1,m2,m3,g1,g2,g3]);refine ho x.name _ _ _ hb.n (Kn.gs (hK.ge aX) _ _ _) ?_;simp only[go_sem,hb8,hbf,n1,n2,n3,m1,m2,m3,g1,g2,g3];refine aBV hf x.args hb.an hb.a _ _ _ (Kn.gs (hK.ge aX) _ _ _) ?_;simp only[go_sem,hb8,hbf,n1,n2,n3,m1,m2,m3,g1,g2,g3];refine hf.fn x.sort _ _ _ hb.s (Kn.gs (hK.ge aX) _ _ _) ?_;simp only[go_sem,hb8,hbf,n1,n2,n3,m1,m2,m3,g1,g2,g3];refine Ex.seq (bG (V:=[0,1,2,3,5,6,8,9,10,11,12,13,14,36,37,38,39,45]) _ _ _ _ ?_);simp only[go_sem,hb8,hbf];have hP0:flat (P.map Piece.enc)++J=PF (tA φ P 0)++J:=by simp[tA,PF]
        rw[hP0]
        refine Ex.loop (ι:=Nat) (λj=>[(1,.ptr c1 0),(2,.ptr c2 0),(3,.ptr c3 0),(6,gv tk (((l.take i).map (fT op φ)).map Opr.enc)),(8,.ptr b8 0),(11,.list none (l.map Opr.enc)),(12,.int .i64 (l.length:Nat)),(13,.int .i64 (i:Nat)),(36,.mg b P.length cap),(37,.int .i64 (P.length:Nat)),(38,.int .i64 (j:Nat))])
          (λj=>gs ((s.setO b8 (.cells 73 [.str (op x.name),.list none ((x.args.map φ).map .str),.str (φ x.sort),.mg b P.length cap,.int .i64 x.prec,.int .i64 x.assoc,.list none (x.strict.map (.int .i64))])).setO b (.cells 143 (PF (tA φ P j)++J))) tk (l.take i).length 73)
          (λj=>j<=P.length) (λj=>P.length-j) 0 (aU _) ?_ aX ?_
        · simp only[go_sem]
          first|done|exact rfl|exact⟨rfl,rfl⟩
        · intro j hj
          refine bG (V:=[0,1,2,3,5,6,8,9,10,11,12,13,14,36,37,38,39,45]) _ _ _ _ ?_;simp only[go_sem];(refine aQ (λh=>?_) (λh=>?_))<;>simp only[go_sem,h]
          · have hjx:j<P.length:=by simpa using h
            clear h;obtain⟨y,hy⟩:∃a,P[j]?=some a:=⟨_,aY hjx⟩
            have w1:=cF j aB;have hys:=hbp y (cM hy);obtain⟨a1,a2⟩:=aS8 φ hy;have hal:((P.take j).map (iN φ)).length=j:=by rw[aH,bK];omega
            have e0:=aSz ((P.take j).map (iN φ)) (P.drop (j+1)) y J;rw[hal,<-a1]at e0;obtain⟨e1,e2⟩:=e0;have e2':(j * 2+2<=(PF (tA φ P j)++J).length)=True:=eq_true e2;simp only[go_sem,hbf,hjx,e1,e2',if_true];(intro b10 hb10;try simp only[aZ,aI,ne_eq]at hb10);simp only[go_sem,hbf,hb8,hb10];cases hs:decide (y.sort=[])
            · have hs':¬ y.sort=[]:=by simpa using hs
              have q1:=cE g1 hb10.2.2;have q2:=cE g2 hb10.2.2;have q3:=cE g3 hb10.2.2;simp only[go_sem,hs];(refine bL (OT.r 0 10) [(6,[1])] ?_;simp only[go_sem,hbf,hb8,hb10,n1,n2,n3,m1,m2,m3,q1,q2,q3,g1,g2,g3]);refine hf.fn y.sort _ _ _ hys (Kn.gs (hK.ge aX) _ _ _) ?_;simp only[go_sem,hbf,hb8,hb10];have es:=aSG ((P.take j).map (iN φ)) (P.drop (j+1)) y (φ y.sort) J;rw[hal,<-a1,show(⟨y.text,φ y.sort⟩:Piece)=iN φ y by rw[iN,fU,if_neg hs'],<-a2]at es;refine⟨hjx,by omega,j+1,hjx,by omega,w1,?_⟩;rw[es];exact aX
            · simp only[go_sem,hs]
              have hch:iN φ y=y:=by rw[iN,fU,if_pos (qA hs),<-qA hs]
              refine⟨j+1,hjx,by omega,w1,?_⟩;rw[a2,hch,<-a1];exact aX
          · have hjj : j = P.length := by have : ¬ j < P.length := by simpa using h
                                          omega
            subst hjj;clear h;have hPc:tA φ P P.length=(fT op φ x).pieces:=by rw[hchp,tA,List.take_length,aGY,eM]
            rw[hPc];have hPl:P.length=((fT op φ x).pieces.map Piece.enc).length:=by rw[hchp,aH,aH]
            rw[hPl];refine Ex.shut (b:=b) (q:=b8) (i:=3) (es:=(fT op φ x).pieces.map Piece.enc) (J:=J) (sz:=2) (cap:=cap) gH gH (λe=>hbf.1.1 e) (by simp only[List.getElem?_cons_succ,kM,hchp,aH];rw[hP]) (λe he=>by obtain⟨_,_,rfl⟩:=cC.1 he;rfl) (λe he c hc=>?_) ?_
            · obtain⟨z,_,rfl⟩:=cC.1 he
              simp only[Piece.enc,Piece.cs,A.cells,eB,List.mem_nil_iff,fH]at hc;rcases hc with rfl|rfl<;>rfl
            refine Ex.weaken (s':=gs (s.setO b8 (.cells 73 (fT op φ x).cs)) tk (l.take i).length 73) (Env.ge.refl _) ?_ ?_
            · exact aRx hbf.2 (λe=>hbf.1.1 e)
            refine bG (V:=[0,1,2,3,5,6,8,9,10,11,12,13,14,36,37,38,39,45]) _ _ _ _ ?_;simp only[go_sem,hb8];refine⟨by decide,λy hy=>by simp only[bW]at hy;subst hy;rfl,dY rfl rfl (rV hnil) (λy hy=>aJK hy) (by simp only[aH,bK,aE,aF];omega) (λu hu=>?_)⟩;have hfu:=gD hu hfree;rw[fO hu];simp only[go_sem,hb8];refine bG (V:=[0,1,2,3,5,6,8,9,10,11,12,13,14,36,37,38,39,45]) _ _ _ _ ?_;simp only[go_sem];refine⟨(i+1,some u),⟨⟨λh=>(by cases h),λt h=>by cases h;exact hfu⟩,hix⟩,by simp only;omega,⟨?_,cF i aB⟩,?_⟩
            · simp only[go_sem,dO,htk,cV]
            · rw[show(l.take i).length+1=(l.take (i+1)).length by simp only[bK];omega]
              exact jU aX
    · have hii : i = l.length := by have : ¬ i < l.length := by simpa using h
                                    omega
      subst hii;rw[List.take_length]at hnil⊢;exact DK.mk hk (nB (aM _) hfree) (iY _ _ (λe=>by rw[hnil e];rfl))
end
end
section
def pW(φ:aC->aC)(b:Below):Below:=⟨φ b.low,φ b.high⟩
def uK(op φ:aC->aC)(x:Sig):Sig:=⟨x.sorts.map φ,x.below.map (pW φ),x.ops.map (fT op φ),x.funs.map (fT op φ),x.values.map φ⟩
structure StrsB (l:List aC):Prop where
 n:l.length<=4294967295
 s:∀x,x∈l->x.length<=140737488355328
structure SigB (x:Sig):Prop where
 so:StrsB x.sorts
 va:StrsB x.values
 bn:x.below.length<=4294967295
 b:∀y,y∈x.below->y.low.length<=140737488355328/\y.high.length<=140737488355328
 on:x.ops.length<=4294967295
 o:∀y,y∈x.ops->OprB y
 fn:x.funs.length<=4294967295
 f:∀y,y∈x.funs->OprB y
theorem aPv{l:List Below}{y:A}(hy:y∈l.map Below.enc):y.cells.length=2:=by
 obtain⟨z,_,rfl⟩:=cC.1 hy;rfl
section
variable {f:FuncId} {caps:List A} {L:List (Nat × Ob)} {φ:aC->aC} (hf:ChF f caps L φ) {fo:FuncId} {co:List A} {op:aC->aC} (ho:FnK fo co L op)
include hf ho
theorem aOv(x:Sig)(hx:SigB x)(s:St)(KV Kp:St->A->Prop)(hK:Kn L s)(hk:KV s (uK op φ x).enc):Den cx 112 [.agg x.cs,.fn f [] caps,.fn fo [] co] KV Kp s:=by
  (refine aO func112 [0,1,2,3,4,5,6,7,8,9,11,33,34,35,36] ?_;simp only[go_sem,ntmps112,f112]);(intro p3 hp3;try simp only[aI,ne_eq]at hp3);simp only[go_sem,hp3];(intro p4 hp4;try simp only[aI,ne_eq]at hp4);simp only[go_sem,hp3,hp4];(intro p5 hp5;try simp only[aI,ne_eq]at hp5);simp only[go_sem,hp3,hp4,hp5];(intro p6 hp6;try simp only[aI,ne_eq]at hp6);simp only[go_sem,hp3,hp4,hp5,hp6];(intro p7 hp7;try simp only[aI,ne_eq]at hp7);simp only[go_sem,hp3,hp4,hp5,hp6,hp7];(refine bL (OT.l [0,1,2,3,5,6,7,8,10,11,12,14,15,16,4,9,13,17,18,19,20] .nil) [(4,[5,7,8,12,16]),(9,[12,16]),(13,[16]),(19,[0,2,3,5,7,8,12,16])] ?_;simp only[go_sem,hp3,hp4,hp5,hp6,hp7]);refine aBV hf x.sorts hx.so.n hx.so.s _ _ _ (hK.ge aX) ?_;simp only[go_sem,hp3,hp4,hp5,hp6,hp7];refine aBV hf x.values hx.va.n hx.va.s _ _ _ (hK.ge aX) ?_;simp only[go_sem,hp3,hp4,hp5,hp6,hp7];refine aHU hf ho x.ops hx.on hx.o p5 p7 p4 _ _ _ (hK.ge aX) gH gH gH ?_;simp only[go_sem,hp3,hp4,hp5,hp6,hp7];refine aHU hf ho x.funs hx.fn hx.f p5 p7 p4 _ _ _ (hK.ge aX) gH gH gH ?_;simp only[go_sem,hp3,hp4,hp5,hp6,hp7];(intro p9 hp9;try simp only[aI,ne_eq]at hp9);simp only[go_sem,hp3,hp4,hp5,hp6,hp7,hp9];obtain⟨X0,h0⟩:∃X,X=A.list none ((x.sorts.map φ).map .str):=⟨_,rfl⟩
  obtain⟨X1,h1⟩:∃X,X=A.list none ((x.ops.map (fT op φ)).map Opr.enc):=⟨_,rfl⟩
  obtain⟨X2,h2⟩:∃X,X=A.list none ((x.funs.map (fT op φ)).map Opr.enc):=⟨_,rfl⟩
  obtain⟨X3,h3⟩:∃X,X=A.list none ((x.values.map φ).map .str):=⟨_,rfl⟩
  rw[<-h0,<-h1,<-h2,<-h3];have x0:X0.one=true:=by rw[h0];rfl
  have x1:X1.one=true:=by rw[h1];rfl
  have x2:X2.one=true:=by rw[h2];rfl
  have x3:X3.one=true:=by rw[h3];rfl
  refine Ex.loop (ι:=Nat × Option Nat) (λc=>[(4,.ptr p4 0),(6,.ptr p6 0),(9,.ptr p9 0),(33,.list none (x.below.map Below.enc)),(34,.int .i64 (x.below.length:Nat)),(35,.int .i64 (c.1:Nat))])
    (λc=>gs (((s.setO p4 (.cells 116 [.fn f [] caps])).setO p6 (.cells 28 [.nils,.nils,.nils,.nils,.nils])).setO p9 (.cells 28 [X0,gv c.2 (((x.below.take c.1).map (pW φ)).map Below.enc),X1,X2,X3])) c.2 ((x.below.take c.1).map (pW φ)).length 104)
    (λc=>((c.2=none->(x.below.take c.1).map (pW φ)=[])/\∀t,c.2=some t->s.getT t=none)/\c.1<=x.below.length) (λc=>x.below.length-c.1) (0,none) ⟨⟨λ_=>rfl,λt e=>(by cases e)⟩,aU _⟩ ?_ (by show St.ge _ (St.setO _ p9 (.cells 28 [X0,.nils,X1,X2,X3]));exact aX) ?_
  · simp only[go_sem]
    first|done|exact rfl|exact⟨rfl,rfl⟩
  · rintro⟨i,tk⟩ ⟨⟨hnil,hfree⟩,hi⟩
    simp only at hnil hfree hi;refine bG (V:=[0,1,2,3,4,5,6,7,8,9,11,33,34,35,36]) _ _ _ _ ?_;simp only[go_sem];(refine aQ (λh=>?_) (λh=>?_))<;>simp only[go_sem,h]
    · have hix:i<x.below.length:=by simpa using h
      clear h;obtain⟨y,hy⟩:∃a,x.below[i]?=some a:=⟨_,aY hix⟩
      have htk:=rA (pW φ) hy;obtain⟨w1,w2⟩:=hx.b y (cM hy);have hbn:=hx.bn;simp only[go_sem,hy,hix];(intro b11 hb11;try simp only[aZ,aI,ne_eq]at hb11);simp only[go_sem,hy,hix,hb11,hp4,hp6,hp9];(refine bL (OT.l [0,1,2,3,4,6,7,8,5,9,10,11,12,13,14] .nil) [(5,[1,6,8]),(9,[1])] ?_;simp only[go_sem,hb11,hp4,hp6,hp9,x0,x1,x2,x3]);refine hf.fn y.low _ _ _ w1 (Kn.gs (hK.ge aX) _ _ _) ?_;simp only[go_sem,hb11,hp4,hp6,hp9];refine hf.fn y.high _ _ _ w2 (Kn.gs (hK.ge aX) _ _ _) ?_;simp only[go_sem,hb11,hp4,hp6,hp9];refine⟨by decide,λy hy=>by simp only[bW]at hy;subst hy;rfl,dY rfl rfl (rV hnil) (λy hy=>aPv hy) (by simp only[aH,bK,aE,aF];omega) (λu hu=>?_)⟩;have hfu:=gD hu hfree;rw[fO hu];simp only[go_sem,hy,hix,hb11,hp4,hp6,hp9];refine⟨(i+1,some u),⟨⟨λh=>(by cases h),λt h=>by cases h;exact hfu⟩,hix⟩,by simp only;omega,cF i aB,?_⟩;rw[show(x.below.take i).length+1=(x.below.take (i+1)).length by simp only[bK];omega];simp only[go_sem,htk,cV,dO,pW];exact jU aX
    · have hii : i = x.below.length := by have : ¬ i < x.below.length := by simpa using h
                                          omega
      subst hii;rw[List.take_length]at hnil⊢;clear h hi;subst h0 h1 h2 h3;simp only[go_sem,hp4,hp6,hp9];have hk':=hk;simp only[Sig.enc,Sig.cs,uK]at hk';refine⟨rH _ _,?_⟩;refine DK.mk hk' (nB aX hfree) (show A.le (.agg [.list none ((x.sorts.map φ).map .str),gv tk ((x.below.map (pW φ)).map Below.enc),.list none ((x.ops.map (fT op φ)).map Opr.enc),.list none ((x.funs.map (fT op φ)).map Opr.enc),.list none ((x.values.map φ).map .str)]) _ from A.le.agg ⟨⟨bB _,rfl⟩,⟨iY _ _ (λe=>by rw[hnil e];rfl),rfl⟩,⟨bB _,rfl⟩,⟨bB _,rfl⟩,⟨bB _,rfl⟩,trivial⟩)
end
end
def mM(φ:aC->aC)(e:Eqn):Eqn:={ e with left:=eG φ e.left,right:=eG φ e.right,cond:=e.cond.map (eG φ) }
def wD(φ:aC->aC)(d:Dfn):Dfn:=⟨φ d.name,uK (dT φ) φ d.sig,d.eqs.map (mM φ),d.once.map (kK φ),φ d.kind,d.many.map (kK φ),d.rules.map (oD φ),φ d.start,φ d.watch⟩
structure EqnB (e:Eqn):Prop where
 l:TmB e.left
 r:TmB e.right
 c:TmsB e.cond
structure DfnC (d:Dfn):Prop where
 name:d.name.length<=140737488355328
 kind:d.kind.length<=140737488355328
 start:d.start.length<=140737488355328
 watch:d.watch.length<=140737488355328
 sig:SigB d.sig
 en:d.eqs.length<=4294967295
 e:∀e,e∈d.eqs->EqnB e
 on:d.once.length<=4294967295
 o:∀c,c∈d.once->CelB c
 mn:d.many.length<=4294967295
 m:∀c,c∈d.many->CelB c
 rn:d.rules.length<=4294967295
 r:∀r,r∈d.rules->RulB r
theorem aRl{l:List Eqn}{y:A}(hy:y∈l.map Eqn.enc):y.cells.length=15:=by
 obtain⟨z,_,rfl⟩:=cC.1 hy;rfl
theorem aSp{l:List Rul}{y:A}(hy:y∈l.map Rul.enc):y.cells.length=7:=by
 obtain⟨z,_,rfl⟩:=cC.1 hy;rfl
theorem LenS.ne{φ:aC->aC}(h:LenS φ):LenS (fU φ):=λx hx=>by
 unfold fU;split
 .simp
 .exact h x hx
theorem aMI{f0:FuncId}{caps0:List A}{L0:List (Nat × Ob)}{φ0:aC->aC}(h0:ChF f0 caps0 L0 φ0)(d:Dfn)(hd:DfnC d)(s:St)(KV Kp:St->A->Prop)(hK:Kn L0 s)(hk:KV s (wD (fU φ0) d).enc) :
    Den cx 60 [.agg d.cs,.fn f0 [] caps0] KV Kp s:=by
  obtain⟨φ,hφ⟩:∃φ,φ=fU φ0:=⟨_,rfl⟩
  (refine aO func60 [0,1,2,3,4,5,6,7,9,11,45,46,47,48,75,76,77,78] ?_;simp only[go_sem,ntmps60,f60]);(intro p2 hp2;try simp only[aI,ne_eq]at hp2);simp only[go_sem,hp2];(intro p3 hp3;try simp only[aI,ne_eq]at hp3);simp only[go_sem,hp2,hp3];(intro p4 hp4;try simp only[aI,ne_eq]at hp4);simp only[go_sem,hp2,hp3,hp4];(intro p5 hp5;try simp only[aI,ne_eq]at hp5);simp only[go_sem,hp2,hp3,hp4,hp5];have hf1:ChF 109 [.ptr p3 0] ((p3,.cells 116 [.fn f0 [] caps0])::L0) φ:=by rw[hφ];exact⟨aQo h0.fn p3,h0.len.ne⟩
  have ho:FnK 110 [.ptr p5 0] ((p5,.cells 162 [.fn 109 [] [.ptr p3 0]])::((p3,.cells 116 [.fn f0 [] caps0])::L0)) (dT φ):=aQ1 hf1.fn hf1.len p5;have hf:ChF 109 [.ptr p3 0] ((p5,.cells 162 [.fn 109 [] [.ptr p3 0]])::((p3,.cells 116 [.fn f0 [] caps0])::L0)) φ:=⟨hf1.fn.more (λp hp=>cT _ hp),hf1.len⟩;rw[<-hφ]at hk;generalize hL:(p5,Ob.cells 162 [.fn 109 [] [.ptr p3 0]])::((p3,Ob.cells 116 [.fn f0 [] caps0])::L0)=L at hf ho
  have hKn:∀S:St,S.getO p5=some (.cells 162 [.fn 109 [] [.ptr p3 0]])->S.getO p3=some (.cells 116 [.fn f0 [] caps0])->S.ge s->Kn L S:=λS a b c p hp=>by
    rw[<-hL]at hp;rcases List.mem_cons.1 hp with rfl|hp
    · exact a
    rcases List.mem_cons.1 hp with rfl|hp
    · exact b
    exact hK.ge c p hp
  (refine bL (OT.l [0,1,2,4,5,6,7,9,10,11,13,14,15,17,18,19,21,22,23,25,26,27,3,8,12,16,20,24,28,29,30,31] .nil) [(3,[5,6,9,11,13,15,17,19,21,23,25,27]),(8,[9,11,13,15,17,19,21,23,25,27]),(12,[13,15,17,19,21,23,25,27]),(16,[17,19,21,23,25,27]),(20,[21,23,25,27]),(24,[25,27]),(30,[0,2,5,6,9,11,13,15,17,19,21,23,25,27])] ?_;simp only[go_sem,hp2,hp3,hp4,hp5]);refine hf.fn d.name _ _ _ hd.name (hKn _ gH gH aX) ?_;simp only[go_sem,hp2,hp3,hp4,hp5];refine aOv hf ho d.sig hd.sig _ _ _ (hKn _ gH gH aX) ?_;simp only[go_sem,hp2,hp3,hp4,hp5];refine aG4 hf d.once hd.on hd.o _ _ _ (hKn _ gH gH aX) ?_;simp only[go_sem,hp2,hp3,hp4,hp5];refine hf.fn d.kind _ _ _ hd.kind (hKn _ gH gH aX) ?_;simp only[go_sem,hp2,hp3,hp4,hp5];refine aG4 hf d.many hd.mn hd.m _ _ _ (hKn _ gH gH aX) ?_;simp only[go_sem,hp2,hp3,hp4,hp5];refine hf.fn d.start _ _ _ hd.start (hKn _ gH gH aX) ?_;simp only[go_sem,hp2,hp3,hp4,hp5];refine hf.fn d.watch _ _ _ hd.watch (hKn _ gH gH aX) ?_;simp only[go_sem,hp2,hp3,hp4,hp5];(intro p7 hp7;try simp only[aI,ne_eq]at hp7);simp only[go_sem,hp2,hp3,hp4,hp5,hp7];obtain⟨Z,hZ⟩:∃Z,Z=[A.str [],.nils,.nils,.nils,.nils,.nils,.nils,.nils,.str [],.nils,.nils,.str [],.str []]:=⟨_,rfl⟩
  rw[<-hZ];obtain⟨S0,eS0⟩:∃X,X=A.list none ((uK (dT φ) φ d.sig).sorts.map .str):=⟨_,rfl⟩
  obtain⟨S1,eS1⟩:∃X,X=A.list none ((uK (dT φ) φ d.sig).below.map Below.enc):=⟨_,rfl⟩
  obtain⟨S2,eS2⟩:∃X,X=A.list none ((uK (dT φ) φ d.sig).ops.map Opr.enc):=⟨_,rfl⟩
  obtain⟨S3,eS3⟩:∃X,X=A.list none ((uK (dT φ) φ d.sig).funs.map Opr.enc):=⟨_,rfl⟩
  obtain⟨S4,eS4⟩:∃X,X=A.list none ((uK (dT φ) φ d.sig).values.map .str):=⟨_,rfl⟩
  obtain⟨O0,eO0⟩:∃X,X=A.list none ((d.once.map (kK φ)).map Cel.enc):=⟨_,rfl⟩
  obtain⟨M0,eM0⟩:∃X,X=A.list none ((d.many.map (kK φ)).map Cel.enc):=⟨_,rfl⟩
  rw[<-eS0,<-eS1,<-eS2,<-eS3,<-eS4,<-eO0,<-eM0];have xS0:S0.one=true:=by rw[eS0];rfl
  have xS1:S1.one=true:=by rw[eS1];rfl
  have xS2:S2.one=true:=by rw[eS2];rfl
  have xS3:S3.one=true:=by rw[eS3];rfl
  have xS4:S4.one=true:=by rw[eS4];rfl
  have xO0:O0.one=true:=by rw[eO0];rfl
  have xM0:M0.one=true:=by rw[eM0];rfl
  refine Ex.loop (ι:=Nat × Option Nat) (λc=>[(2,.ptr p2 0),(4,.ptr p4 0),(5,.ptr p5 0),(7,.ptr p7 0),(45,.list none (d.eqs.map Eqn.enc)),(46,.int .i64 (d.eqs.length:Nat)),(47,.int .i64 (c.1:Nat))])
    (λc=>gs (((((s.setO p2 (.cells 33 d.cs)).setO p3 (.cells 116 [.fn f0 [] caps0])).setO p4 (.cells 33 Z)).setO p5 (.cells 162 [.fn 109 [] [.ptr p3 0]])).setO p7 (.cells 33 [.str (φ d.name),S0,S1,S2,S3,S4,gv c.2 (((d.eqs.take c.1).map (mM φ)).map Eqn.enc),O0,.str (φ d.kind),M0,.nils,.str (φ d.start),.str (φ d.watch)])) c.2 ((d.eqs.take c.1).map (mM φ)).length 80)
    (λc=>((c.2=none->(d.eqs.take c.1).map (mM φ)=[])/\∀t,c.2=some t->s.getT t=none)/\c.1<=d.eqs.length) (λc=>d.eqs.length-c.1) (0,none) ⟨⟨λ_=>rfl,λt e=>(by cases e)⟩,aU _⟩ ?_ (by exact aM _) ?_
  · simp only[go_sem]
    first|done|exact rfl|exact⟨rfl,rfl⟩
  · rintro⟨i,tk⟩ ⟨⟨hnil,hfree⟩,hi⟩
    simp only at hnil hfree hi;refine bG (V:=[0,1,2,3,4,5,6,7,9,11,45,46,47,48,75,76,77,78]) _ _ _ _ ?_;simp only[go_sem];(refine aQ (λh=>?_) (λh=>?_))<;>simp only[go_sem,h]
    · have hix:i<d.eqs.length:=by simpa using h
      clear h;obtain⟨y,hy⟩:∃a,d.eqs[i]?=some a:=⟨_,aY hix⟩
      have htk:=rA (mM φ) hy;obtain⟨w1,w2,w3⟩:=hd.e y (cM hy);have hbn:=hd.en;simp only[go_sem,hy,hix];(intro b9 hb9;try simp only[aZ,aI,ne_eq]at hb9);simp only[go_sem,hy,hix,hb9,hp2,hp3,hp4,hp5,hp7];(refine bL (OT.l [0,1,2,3,4,6,7,8,10,11,12,14,15,16,17,5,9,13,18,19,20,21,22] .nil) [(5,[1,6,8,10,12,15,17]),(9,[1,10,12,15,17]),(13,[1,15,17])] ?_;simp only[go_sem,hb9,hp2,hp3,hp4,hp5,hp7]);refine aAM hf y.left w1 _ _ _ (Kn.gs (hKn _ gH gH aX) _ _ _) ?_;simp only[go_sem,hb9,hp2,hp3,hp4,hp5,hp7];refine aAM hf y.right w2 _ _ _ (Kn.gs (hKn _ gH gH aX) _ _ _) ?_;simp only[go_sem,hb9,hp2,hp3,hp4,hp5,hp7];refine aBR hf y.cond w3.n w3.t _ _ _ (Kn.gs (hKn _ gH gH aX) _ _ _) ?_;simp only[go_sem,hb9,hp2,hp3,hp4,hp5,hp7];refine⟨by decide,λy hy=>by simp only[bW]at hy;subst hy;rfl,dY rfl rfl (rV hnil) (λy hy=>aRl hy) (by simp only[aH,bK,aE,aF];omega) (λu hu=>?_)⟩;have hfu:=gD hu hfree;rw[fO hu];simp only[go_sem,hy,hix,hb9,hp2,hp3,hp4,hp5,hp7];refine⟨(i+1,some u),⟨⟨λh=>(by cases h),λt h=>by cases h;exact hfu⟩,hix⟩,by simp only;omega,cF i aB,?_⟩;rw[show(d.eqs.take i).length+1=(d.eqs.take (i+1)).length by simp only[bK];omega];simp only[go_sem,htk,cV,dO,mM];exact jU aX
    · have hii : i = d.eqs.length := by have : ¬ i < d.eqs.length := by simpa using h
                                        omega
      subst hii;rw[List.take_length]at hnil⊢;clear h hi;simp only[go_sem,hp2,hp3,hp4,hp5,hp7]
      refine Ex.soft (b:=p7) (e:=33) (cs:=[.str (φ d.name),S0,S1,S2,S3,S4,gv tk ((d.eqs.map (mM φ)).map Eqn.enc),O0,.str (φ d.kind),M0,.nils,.str (φ d.start),.str (φ d.watch)]) (cs':=[.str (φ d.name),S0,S1,S2,S3,S4,.list none ((d.eqs.map (mM φ)).map Eqn.enc),O0,.str (φ d.kind),M0,.nils,.str (φ d.start),.str (φ d.watch)]) gH
        ⟨⟨bB _,rfl⟩,⟨bB _,xS0⟩,⟨bB _,xS1⟩,⟨bB _,xS2⟩,⟨bB _,xS3⟩,⟨bB _,xS4⟩,⟨iY _ _ (λe=>by rw[hnil e];rfl),rfl⟩,⟨bB _,xO0⟩,⟨bB _,rfl⟩,⟨bB _,xM0⟩,⟨bB _,rfl⟩,⟨bB _,rfl⟩,⟨bB _,rfl⟩,trivial⟩ ?_
      obtain⟨E0,eE0⟩:∃X,X=A.list none ((d.eqs.map (mM φ)).map Eqn.enc):=⟨_,rfl⟩
      rw[<-eE0];have xE0:E0.one=true:=by rw[eE0];rfl
      refine Ex.loop (ι:=Nat × Option Nat) (λc=>[(2,.ptr p2 0),(4,.ptr p4 0),(5,.ptr p5 0),(7,.ptr p7 0),(75,.list none (d.rules.map Rul.enc)),(76,.int .i64 (d.rules.length:Nat)),(77,.int .i64 (c.1:Nat))])
        (λc=>gs (((((s.setO p2 (.cells 33 d.cs)).setO p3 (.cells 116 [.fn f0 [] caps0])).setO p4 (.cells 33 Z)).setO p5 (.cells 162 [.fn 109 [] [.ptr p3 0]])).setO p7 (.cells 33 [.str (φ d.name),S0,S1,S2,S3,S4,E0,O0,.str (φ d.kind),M0,gv c.2 (((d.rules.take c.1).map (oD φ)).map Rul.enc),.str (φ d.start),.str (φ d.watch)])) c.2 ((d.rules.take c.1).map (oD φ)).length 84)
        (λc=>((c.2=none->(d.rules.take c.1).map (oD φ)=[])/\∀t,c.2=some t->s.getT t=none)/\c.1<=d.rules.length) (λc=>d.rules.length-c.1) (0,none) ⟨⟨λ_=>rfl,λt e=>(by cases e)⟩,aU _⟩ ?_ (by simp only[xQ,mT];exact nB (aM _) hfree) ?_
      · simp only[go_sem]
        first|done|exact rfl|exact⟨rfl,rfl⟩
      · clear hnil hfree tk
        rintro⟨i,tk⟩ ⟨⟨hnil,hfree⟩,hi⟩;simp only at hnil hfree hi;refine bG (V:=[0,1,2,3,4,5,6,7,9,11,45,46,47,48,75,76,77,78]) _ _ _ _ ?_;simp only[go_sem];(refine aQ (λh=>?_) (λh=>?_))<;>simp only[go_sem,h]
        · have hix:i<d.rules.length:=by simpa using h
          clear h;obtain⟨y,hy⟩:∃a,d.rules[i]?=some a:=⟨_,aY hix⟩
          have htk:=rA (oD φ) hy;have w1:=hd.r y (cM hy);have hbn:=hd.rn;simp only[go_sem,hy,hix];(intro b11 hb11;try simp only[aZ,aI,ne_eq]at hb11);simp only[go_sem,hy,hix,hb11,hp2,hp3,hp4,hp5,hp7];(refine bL (OT.r 0 9) [(4,[1])] ?_;simp only[go_sem,hb11,hp2,hp3,hp4,hp5,hp7,xE0,xS0,xS1,xS2,xS3,xS4,xO0,xM0]);refine aNW hf y w1 _ _ _ (Kn.gs (hKn _ gH gH aX) _ _ _) ?_;simp only[go_sem,hb11,hp2,hp3,hp4,hp5,hp7];refine⟨by decide,λy hy=>by simp only[bW]at hy;subst hy;rfl,dY rfl rfl (rV hnil) (λy hy=>aSp hy) (by simp only[aH,bK,aE,aF];omega) (λu hu=>?_)⟩;have hfu:=gD hu hfree;rw[fO hu];simp only[go_sem,hy,hix,hb11,hp2,hp3,hp4,hp5,hp7];refine⟨(i+1,some u),⟨⟨λh=>(by cases h),λt h=>by cases h;exact hfu⟩,hix⟩,by simp only;omega,cF i aB,?_⟩;rw[show(d.rules.take i).length+1=(d.rules.take (i+1)).length by simp only[bK];omega];simp only[go_sem,htk,cV,dO];exact jU aX
        · have hii : i = d.rules.length := by have : ¬ i < d.rules.length := by simpa using h
                                              omega
          subst hii;rw[List.take_length]at hnil⊢;clear h hi;subst hZ eS0 eS1 eS2 eS3 eS4 eO0 eM0 eE0;simp only[go_sem,hp2,hp3,hp4,hp5,hp7];have hk':=hk;simp only[Dfn.enc,Dfn.cs,Sig.cs,wD,aV,aW]at hk';refine⟨rH _ _,?_⟩;refine DK.mk hk' (nB aX hfree) ?_;refine A.le.agg ?_;exact⟨⟨bB _,rfl⟩,⟨bB _,rfl⟩,⟨bB _,rfl⟩,⟨bB _,rfl⟩,⟨bB _,rfl⟩,⟨bB _,rfl⟩,⟨bB _,rfl⟩,⟨bB _,rfl⟩,⟨bB _,rfl⟩,⟨bB _,rfl⟩,⟨iY _ _ (λe=>by rw[hnil e];rfl),rfl⟩,⟨bB _,rfl⟩,⟨bB _,rfl⟩,trivial⟩
theorem bX(c:List Wd)(x:aC):(aL c x).length=c.length+1:=by simp[aL]
theorem zG:∀(l:List Tm) (c:List Wd),(mG c l).length=c.length+2 * l.length
 | [],c=>rfl
 | r::l,c=>by rw[mG,zG l,bU];simp;omega
theorem aH0(x:Tm):∀(l:List Tm) (b:Bool) (c:List Wd),gK b c (l++[x])=cI (if b=true\/l≠[] then aL (gK b c l) [44] else gK b c l) x
 | [],b,c=>by cases b<;>simp[gK]
 | t::r,b,c=>by
  simp only[aV,gK];rw[aH0 x r true];simp
theorem aOj{l:List Tm}{i:Nat}{x:Tm}(h:l[i]?=some x)(c:List Wd):gK false c (l.take (i+1))=cI (if 0<i then aL (gK false c (l.take i)) [44] else gK false c (l.take i)) x:=by
 rw[iS,h];have e:=aH0 x (l.take i) false c;have hi:i<l.length:=(dV.1 h).1;rw[show l.take i++(some x).toList=l.take i++[x] from rfl,e];by_cases h0:0<i
 .rw[if_pos h0,if_pos (.inr (λe=>by rcases List.take_eq_nil_iff.1 e with e|e;exact absurd h0 aB;(subst e;simp at hi)))]
 .obtain rfl:i=0:=by omega
  simp
theorem aBP:∀(l:List Tm) (b:Bool) (c:List Wd),eE cI b c l=gK b c l
 | [],b,c=>rfl
 | t::r,b,c=>by rw[eE,gK,aBP r true]
theorem aHW(k v:Tm):∀(m:Nat) (l:List Tm) (b:Bool) (c:List Wd),l.length<=m->l.length % 2=0 ->
  fQ b c (l++[k,v])=cI (aL (cI (if b=true\/l≠[] then aL (fQ b c l) [44] else fQ b c l) k) [45,62]) v
 | _,[],b,c,_,_=>by cases b<;>simp[fQ]
 | _,[_],b,c,_,h=>by simp at h
 | 0,x::y::r,b,c,h,_=>by simp at h
 | m+1,x::y::r,b,c,h,he=>by
  have:=aHW k v m r true;simp only[aV,fQ];rw[this _ (by simp only[aE]at h;omega) (by simp only[aE]at he;omega)];simp
theorem aQ0(m:Nat):(∀(t:Tm) (c:List Wd),SizeOf.sizeOf t<m->(cI c t).length+1<=c.length+8 * t.cnt):=by
 induction m with
 | zero=>intro t c h;omega
 | succ m ih =>
  intro t c hm
  have hk:∀(l:List Tm) (b:Bool) (c:List Wd),(∀x,x∈l->SizeOf.sizeOf x<m)->(gK b c l).length<=c.length+8 * dL l:=by
   intro l
   induction l with
   | nil=>intro b c _;simp[gK]
   | cons x r ihr =>
    intro b c h;have h1:=ih x (if b=true then aL c [44] else c) (h x (bY ..));have h2:=ihr true (cI (if b=true then aL c [44] else c) x) (λy hy=>h y (cT _ hy));have h3:(if b=true then aL c [44] else c).length<=c.length+1:=by split<;>simp[aL]
    simp only[gK,dL];omega
  have he:∀(q:Nat) (l:List Tm) (b:Bool) (c:List Wd),l.length<=q->(∀x,x∈l->SizeOf.sizeOf x<m)->(fQ b c l).length<=c.length+8 * dL l:=by
   intro q
   induction q with
   | zero=>intro l b c hq _;have:l=[]:=fK aB;subst this;simp[fQ]
   | succ q ihq =>
    intro l b c hq h;cases l with
    | nil=>simp[fQ]
    | cons x r =>
     cases r with
     | nil=>simp[fQ]
     | cons y r =>
      have h1:=ih x (if b=true then aL c [44] else c) (h x (bY ..));have h2:=ih y (aL (cI (if b=true then aL c [44] else c) x) [45,62]) (h y (cT _ (bY ..)));have h4:=ihq r true (cI (aL (cI (if b=true then aL c [44] else c) x) [45,62]) y) (by simp only[aE]at hq;omega) (λz hz=>h z (cT _ (cT _ hz)));have h3:(if b=true then aL c [44] else c).length<=c.length+1:=by split<;>simp[aL]
      rw[bX]at h2;simp only[fQ,dL];omega
  have hcn:=aAQ t;obtain⟨k,n,x,y,a,b⟩:=t;simp only[Tm.mk.sizeOf_spec]at hm;simp only[Tm.kids,Tm.rest]at hcn;have ha:=λz (hz:z∈a)=>(show SizeOf.sizeOf z<m by have:=List.sizeOf_lt_of_mem hz;omega)
  have hb:=xA b;rw[cI];split
  .split
   .rw[aFA];simp;omega
   .rw[bX];omega
  split
  .rw[bX];omega
  split
  .rw[bX];omega
  split
  .rw[bU];simp;omega
  split
  .have:=hk a false (bM c [x,[40]]) ha;rw[bU]at this;rw[bX];simp at this;omega
  split
  .split
   .rw[bX];omega
   .rw[aFA];simp;omega
  split
  .have:=hk a false (aL c [91]) ha;rw[bX]at this;rw[bX,zG];omega
  split
  .have:=he a.length a false (aL c [123]) (bT _) ha;rw[bX]at this;rw[bX,zG];omega
  .omega
theorem rD(t:Tm)(c:List Wd):(cI c t).length+1<=c.length+8 * t.cnt:=aQ0 _ t c (jB _)
theorem xO(l:List Tm):∀(b:Bool) (c:List Wd),(gK b c l).length<=c.length+8 * dL l:=by
 induction l with
 | nil=>intro b c;simp[gK]
 | cons x r ihr =>
  intro b c;have h1:=rD x (if b=true then aL c [44] else c);have h2:=ihr true (cI (if b=true then aL c [44] else c) x);have h3:(if b=true then aL c [44] else c).length<=c.length+1:=by split<;>simp[aL]
  simp only[gK,dL];omega
theorem aQT{l:List Tm}(h:l≠[])(c:List Wd):(gK false c l).length+1<=c.length+8 * dL l:=by
 cases l with
 | nil=>exact absurd rfl h
 | cons x r =>
  have h1:=rD x c;have h2:=xO r true (cI c x);simp only[gK,dL,cJ,if_false];omega
theorem aNd(l:List Tm)(i:Nat):dL (l.take i)<=dL l:=by
 have:=aCz (l.take i) (l.drop i);rw[List.take_append_drop]at this;omega
theorem aB5{l:List Tm}{i:Nat}{x:Tm}(h:l[i]?=some x):dL (l.take i)+x.cnt<=dL l:=by
 have:=aNd l (i+1);rw[iS,h,aCz]at this;simp[dL]at this;omega
def TwOk(t:Tm):Prop:=∀(r:Nat) (vi vl:A) (cur:List Wd) (s:St) (KV Kp:St->A->Prop),WrS s r vi vl cur->cur.length+8 * t.cnt<=4294967296 ->
  (∀s' vl',WrS s' r vi vl' (cI cur t)->Stp r vl vl' s s'->KV s' (.tuple []))->Den cx 180 [.ptr r 0,.agg t.cs] KV Kp s
theorem aBN(l:List Tm)(ih:∀t,t∈l->TwOk t)(r:Nat)(vi vl:A)(cur:List Wd)(s:St)(KV Kp:St->A->Prop)(hw:WrS s r vi vl cur)(hl:cur.length+8 * dL l<=4294967296)
    (hk:∀s' vl',WrS s' r vi vl' (gK false cur l)->Stp r vl vl' s s'->KV s' (.tuple [])):Den cx 254 [.ptr r 0,.list none (l.map Tm.enc),.fn 180 [.ptr r 0] []] KV Kp s:=by
  refine jD λhz1=>?_
  have hlw:=hz1 _ (cT _ (bY ..));(refine aO func254 [0,1,2,6,7,8,9,10,11,16] ?_;simp only[go_sem,ntmps254,f254])
  refine Ex.loop (ι:=Nat × (St × A)) (λc=>[(0,.ptr r 0),(2,.fn 180 [.ptr r 0] []),(8,.list none (l.map Tm.enc)),(9,.int .i64 (l.length:Nat)),(10,.int .i64 (c.1:Nat))])
    (λc=>c.2.1) (λc=>c.1<=l.length/\WrS c.2.1 r vi c.2.2 (gK false cur (l.take c.1))/\Stp r vl c.2.2 s c.2.1) (λc=>l.length-c.1) (0,(s,vl)) ⟨aU _,hw,Stp.refl r vl s⟩ ?_ (aM s) ?_
  · (simp only[go_sem];try exact rfl)
  · rintro⟨i,s1,v1⟩ ⟨hi,hw1,hs1⟩
    simp only at hi hw1 hs1;refine bG (V:=[0,1,2,6,7,8,9,10,11,16]) _ _ _ _ ?_;simp only[go_sem];(refine aQ (λh=>?_) (λh=>?_))<;>simp only[go_sem,h]
    · have hix:i<l.length:=by simpa using h
      clear h;obtain⟨x,hx⟩:∃a,l[i]?=some a:=⟨_,aY hix⟩
      have hxm:x∈l:=cM hx;have w1:=hlw.wrap (i:=i) (by simpa using hix);have d0:decide ((0:Int)<(i:Int))=decide (0<i):=by rw[gG];omega
      have hc1:=aB5 hx;have hc2:=xO (l.take i) false cur;have hxp:=tT x;have htk:=aOj hx cur;simp only[go_sem,hx,hix];(intro b7 hb7;try simp only[aI,ne_eq]at hb7);simp only[go_sem,hx,hix,hb7];have hw2:=hw1.new hb7 (.cells 43 x.cs);cases h0:decide (0<i)with
      | false =>
        rw[if_neg (by simpa using h0)]at htk;simp only[go_sem,d0,h0,hb7];refine ih x hxm r vi v1 _ _ _ _ hw2 aB (λs3 v3 hw3 hs3=>?_);simp only[go_sem];exact⟨(i+1,s3,v3),⟨hix,by rw[htk];exact hw3,hs1.trans (hs3.new1 hb7)⟩,by simp only;omega,w1,aM _⟩
      | true =>
        rw[if_pos (by simpa using h0)]at htk;have hc3:=aQT (l:=l.take i) (λe=>by rcases List.take_eq_nil_iff.1 e with e|e;(subst e;simp at h0);(subst e;simp at hix)) cur;simp only[go_sem,d0,h0,hb7];refine dI [[44]] r vi v1 _ _ _ _ hw2 (by simp only[aE,aF];omega) (λs3 v3 hw3 hs3=>?_);have hb8:=hs3.keep hw2 (p:=b7) (e:=43) (cs:=x.cs) (by rw[aJ,if_pos rfl]<;>rfl) aD aD;simp only[go_sem,hb8];refine ih x hxm r vi v3 _ _ _ _ hw3 (by rw[bU];simp only[aE,aF];omega) (λs4 v4 hw4 hs4=>?_);simp only[go_sem];exact⟨(i+1,s4,v4),⟨hix,by rw[htk];exact hw4,hs1.trans ((hs3.trans hs4).new1 hb7)⟩,by simp only;omega,w1,aM _⟩
    · have hii : i = l.length := by have : ¬ i < l.length := by simpa using h
                                    omega
      subst hii;rw[List.take_length]at hw1;exact aN (hk _ _ hw1 hs1)
theorem aHx(t:Tm)(r:Nat)(vi vl:A)(cur:List Wd)(s:St)(KV Kp:St->A->Prop)(hw:WrS s r vi vl cur)(hl:cur.length+2 * t.rest.length<=4294967296)
    (hk:∀s' vl',WrS s' r vi vl' (mG cur t.rest)->Stp r vl vl' s s'->KV s' (.tuple [])):Den cx 255 [.ptr r 0,.agg t.cs] KV Kp s:=by
  have htk:∀(l:List Tm) (x:Tm) (c:List Wd),mG c (l++[x])=bM (mG c l) [[124],x.text]:=by
    intro l
    induction l with
    | nil=>intro x c;rfl
    | cons y l ih=>intro x c;exact ih x _
  refine jD λhz1=>?_
  have hza:=hz1 _ (cT _ (bY ..));have hlw:Rlz (.list none (t.rest.map Tm.enc)):=hza.cell (by simp[Tm.cs]);(refine aO func255 [0,1,3,5,7,8,9,10] ?_;simp only[go_sem,ntmps255,f255]);(intro p hp;try simp only[aI,ne_eq]at hp);have hw0:=hw.new hp (.cells 43 t.cs);simp only[go_sem,hp]
  refine Ex.loop (ι:=Nat × (St × A)) (λc=>[(0,.ptr r 0),(7,.list none (t.rest.map Tm.enc)),(8,.int .i64 (t.rest.length:Nat)),(9,.int .i64 (c.1:Nat))])
    (λc=>c.2.1) (λc=>c.1<=t.rest.length/\WrS c.2.1 r vi c.2.2 (mG cur (t.rest.take c.1))/\Stp r vl c.2.2 s c.2.1) (λc=>t.rest.length-c.1) (0,(s.setO p (.cells 43 t.cs),vl)) ⟨aU _,hw0,(Stp.refl r vl _).new1 hp⟩ ?_ (aM _) ?_
  · (simp only[go_sem];try exact rfl)
  · rintro⟨i,s1,v1⟩ ⟨hi,hw1,hs1⟩
    simp only at hi hw1 hs1;refine bG (V:=[0,1,3,5,7,8,9,10]) _ _ _ _ ?_;simp only[go_sem];(refine aQ (λh=>?_) (λh=>?_))<;>simp only[go_sem,h]
    · have hix:i<t.rest.length:=by simpa using h
      clear h;obtain⟨x,hx⟩:∃a,t.rest[i]?=some a:=⟨_,aY hix⟩
      have w1:=hlw.wrap (i:=i) (by simpa using hix);have hlc:=zG (t.rest.take i) cur;rw[bK,uR hi]at hlc;simp only[go_sem,hx,hix];(intro b5 hb5;try simp only[aI,ne_eq]at hb5);simp only[go_sem,hx,hix,hb5];have hw2:=hw1.new hb5 (.cells 43 x.cs);refine dI [[124],x.text] r vi v1 _ _ _ _ hw2 (by simp only[aE,aF];omega) (λs3 v3 hw3 hs3=>?_);simp only[go_sem];refine⟨(i+1,s3,v3),⟨hix,?_,hs1.trans (hs3.new1 hb5)⟩,by simp only;omega,w1,aM _⟩;simp only;rw[iS,hx];exact(htk _ x cur)▸hw3
    · have hii : i = t.rest.length := by have : ¬ i < t.rest.length := by simpa using h
                                         omega
      subst hii;rw[List.take_length]at hw1;exact aN (hk _ _ hw1 hs1)
theorem aNy(n:Int)(h:n<0)(s:St)(KV Kp:St->A->Prop)(hk:KV s (.str ((Lib.itoa n).drop 1))):Den cx 253 [.str (Lib.itoa n),.str [45]] KV Kp s:=by
 have e:Lib.itoa n=45::Lib.decDigits n.natAbs:=by unfold Lib.itoa;rw[if_pos h]
 rw[e]at hk⊢;(refine aO func253 [0,1,4] ?_;simp only[go_sem,ntmps253,f253]);(refine aO func293 [0,1,4,7] ?_;simp only[go_sem,ntmps293,f293]);refine aG2 _ _ _ _ _ ?_;have eh:lU (45::Lib.decDigits n.natAbs) [45]=true:=by simp[lU]
 rw[eh];simp only[go_sem];refine aN ?_;rw[show(Lib.decDigits n.natAbs).length+1-1=(Lib.decDigits n.natAbs).length from rfl,List.take_length];simp only[go_sem];exact aN hk
def mD:List Tm->List (List Tm)
 | k::v::r=>[k,v]::mD r
 | _=>[]
def uF(l:List Tm):A:=.list none (l.map Tm.enc)
def aIt:Prop:=∀(l:List Tm) (p1 p2:Nat) (s:St) (KV Kp:St->A->Prop),s.getO p1=some (.cells 41 [.list none (l.map Tm.enc)])->s.getO p2=some (.cells 3 [.int .i64 2])->l.length % 2=0->l.length<=4294967296 ->
  KV s (.list none ((mD l).map uF))->Den cx 257 [.fn 295 [] [.ptr p1 0,.ptr p2 0]] KV Kp s
theorem aNb(l:List Tm)(s:St)(KV Kp:St->A->Prop)(hk:∀p1 p2,s.getO p1=none->s.getO p2=none->p1≠p2->KV ((s.setO p1 (.cells 41 [.list none (l.map Tm.enc)])).setO p2 (.cells 3 [.int .i64 2])) (.fn 295 [] [.ptr p1 0,.ptr p2 0])):Den cx 258 [.list none (l.map Tm.enc),.int .i64 2] KV Kp s:=by
 (refine aO func258 [0,1,2,3,4,6] ?_;simp only[go_sem,ntmps258,f258]);(intro p hp;try simp only[aI,ne_eq]at hp);simp only[go_sem,hp];(intro q hq;try simp only[aI,ne_eq]at hq);simp only[go_sem,hp,hq,Int.reduceLT];exact aN (hk p q hp hq.2 hq.1.1)
inductive ShT:Tm->Prop
 | mk (t:Tm) (hs:t.shape=true) (hk:∀x,x∈t.kids->ShT x):ShT t
theorem aG8(k v:Tm)(hk1:TwOk k)(hv1:TwOk v)(r:Nat)(vi vl:A)(cur:List Wd)(s:St)(KV Kp:St->A->Prop)(hw:WrS s r vi vl cur)(hl:cur.length+8 * (k.cnt+v.cnt)<=4294967296)
  (hk:∀s' vl',WrS s' r vi vl' (cI (aL (cI cur k) [45,62]) v)->Stp r vl vl' s s'->KV s' (.tuple [])):Den cx 259 [.ptr r 0,.list none [.agg k.cs,.agg v.cs]] KV Kp s:=by
 have h1:=rD k cur;have hkp:=tT k;(refine aO func259 [0,1,5,15,16,17,18] ?_;simp only[go_sem,ntmps259,f259]);refine hk1 r vi vl cur _ _ _ hw aB (λs1 v1 hw1 hs1=>?_);simp only[go_sem];refine dI [[45,62]] r vi v1 _ _ _ _ hw1 (by simp only[aE,aF];omega) (λs2 v2 hw2 hs2=>?_);simp only[go_sem];refine⟨λx hx=>?_,⟨by omega,by omega⟩,?_⟩
 .simp only[eB,List.mem_nil_iff,fH]at hx;rcases hx with rfl|rfl<;>rfl
 have e1:∀(a b:A),List.take (2-Int.toNat 1) (List.drop (Int.toNat 1) [a,b])=[b]:=λa b=>rfl
 refine Ex.loop (ι:=Nat × (St × A)) (λc=>[(0,.ptr r 0),(15,.list none [v.enc]),(16,.int .i64 (1:Nat)),(17,.int .i64 (c.1:Nat))])
  (λc=>c.2.1) (λc=>c.1=0/\c.2=(s2,v2)\/c.1=1/\WrS c.2.1 r vi c.2.2 (cI (aL (cI cur k) [45,62]) v)/\Stp r v2 c.2.2 s2 c.2.1) (λc=>1-c.1) (0,(s2,v2)) (.inl ⟨rfl,rfl⟩) ?_ (aM s2) ?_
 .simp only[go_sem];have t1:Int.toNat 1=1:=rfl;simp only[t1,List.drop_succ_cons,rY,Nat.reduceSub,List.take_succ_cons,List.take_nil];exact⟨trivial,rfl,rfl⟩
 .rintro⟨i,s3,v3⟩ hi;simp only at hi;refine bG (V:=[0,1,5,15,16,17,18]) _ _ _ _ ?_;rcases hi with⟨rfl,h2⟩|⟨rfl,hw3,hs3⟩
  .cases h2;simp only[go_sem,Int.reduceLT];(intro b5 hb5;try simp only[aI,ne_eq]at hb5);simp only[go_sem,hb5];have hvp:=tT v;refine hv1 r vi v2 _ _ _ _ (hw2.new hb5 _) (by rw[bU];simp only[aE,aF];omega) (λs4 v4 hw4 hs4=>?_);simp only[go_sem];exact⟨(1,s4,v4),.inr ⟨rfl,hw4,hs4.new1 hb5⟩,by simp,by first|rfl|(simp;rfl),aM _⟩
  .simp only[go_sem,Int.reduceLT];exact aN (hk _ _ hw3 ((hs1.trans hs2).trans hs3))
theorem aFd:∀(m:Nat) (l:List Tm),l.length<=m->l.length % 2=0->2 * (mD l).length=l.length
 | _,[],_,_=>rfl
 | _,[_],_,h=>by simp at h
 | 0,x::y::r,h,_=>by simp at h
 | m+1,x::y::r,h,he=>by
  have:=aFd m r (by simp only[aE]at h;omega) (by simp only[aE]at he;omega);simp only[mD,aE];omega
theorem aH8:∀(j:Nat) (l:List Tm) (k v:Tm),l[2 * j]?=some k->l[2 * j+1]?=some v->(mD l)[j]?=some [k,v]
 | _,[],k,v,h,_=>by cases h
 | 0,[_],k,v,_,h=>by cases h
 | j+1,[_],k,v,_,h=>by cases h
 | 0,x::y::r,k,v,h1,h2=>by cases h1;cases h2;rfl
 | j+1,x::y::r,k,v,h1,h2=>aH8 j r k v h1 h2
theorem aOz{l:List Tm}{i:Nat}{x y:Tm}(he:i % 2=0)(hx:l[i]?=some x)(hy:l[i+1]?=some y)(c:List Wd) :
  fQ false c (l.take (i+2))=cI (aL (cI (if 0<i then aL (fQ false c (l.take i)) [44] else fQ false c (l.take i)) x) [45,62]) y:=by
 have hi:i<l.length:=(dV.1 hx).1;rw[iS,iS,hx,hy];have e:=aHW x y (l.take i).length (l.take i) false c (bT _) (by rw[bK,uR aB];exact he);rw[show l.take i++(some x).toList++(some y).toList=l.take i++[x,y]by simp,e];by_cases h0:0<i
 .rw[if_pos h0,if_pos (.inr (λe=>by rcases List.take_eq_nil_iff.1 e with e|e;exact absurd h0 aB;(subst e;simp at hi)))]
 .obtain rfl:i=0:=by omega
  simp
theorem aFu(m:Nat):∀(l:List Tm) (b:Bool) (c:List Wd),l.length<=m->(fQ b c l).length<=c.length+8 * dL l:=by
 induction m with
 | zero=>intro l b c h;have:l=[]:=fK aB;subst this;simp[fQ]
 | succ m ih =>
  intro l b c h;cases l with
  | nil=>simp[fQ]
  | cons x r =>
   cases r with
   | nil=>simp[fQ]
   | cons y r =>
    have h1:=rD x (if b=true then aL c [44] else c);have h2:=rD y (aL (cI (if b=true then aL c [44] else c) x) [45,62]);have h4:=ih r true (cI (aL (cI (if b=true then aL c [44] else c) x) [45,62]) y) (by simp only[aE]at h;omega);have h3:(if b=true then aL c [44] else c).length<=c.length+1:=by split<;>simp[aL]
    rw[bX]at h2;simp only[fQ,dL];omega
theorem aQC{l:List Tm}(h:l≠[])(c:List Wd):(fQ false c l).length+1<=c.length+8 * dL l:=by
 cases l with
 | nil=>exact absurd rfl h
 | cons x r =>
  cases r with
  | nil=>have:=tT x;simp only[fQ,dL];omega
  | cons y r =>
   have h1:=rD x c;have h2:=rD y (aL (cI c x) [45,62]);have h4:=aFu r.length r true (cI (aL (cI c x) [45,62]) y) (bT _);rw[bX]at h2;simp only[fQ,dL,cJ,if_false];omega
theorem aMT(L:List Tm)(he:L.length % 2=0)(ih:∀t,t∈L->TwOk t)(r:Nat)(vi vl:A)(cur:List Wd)(s:St)(KV Kp:St->A->Prop)(hw:WrS s r vi vl cur)(hl:cur.length+8 * dL L<=4294967296)
  (hk:∀s' vl',WrS s' r vi vl' (fQ false cur L)->Stp r vl vl' s s'->KV s' (.tuple [])):Den cx 256 [.ptr r 0,.list none ((mD L).map uF),.fn 259 [.ptr r 0] []] KV Kp s:=by
 refine jD λhz1=>?_
 have hlw:=hz1 _ (cT _ (bY ..));have hpl:=aFd L.length L (bT _) he;(refine aO func256 [0,1,2,6,7,8,9,10,11,16] ?_;simp only[go_sem,ntmps256,f256])
 refine Ex.loop (ι:=Nat × (St × A)) (λc=>[(0,.ptr r 0),(2,.fn 259 [.ptr r 0] []),(8,.list none ((mD L).map uF)),(9,.int .i64 ((mD L).length:Nat)),(10,.int .i64 (c.1:Nat))])
  (λc=>c.2.1) (λc=>c.1<=(mD L).length/\WrS c.2.1 r vi c.2.2 (fQ false cur (L.take (2 * c.1)))/\Stp r vl c.2.2 s c.2.1) (λc=>(mD L).length-c.1) (0,(s,vl)) ⟨aU _,hw,Stp.refl r vl s⟩ ?_ (aM s) ?_
 ·(simp only[go_sem];try exact rfl)
 .rintro⟨j,s1,v1⟩ ⟨hi,hw1,hs1⟩;simp only at hi hw1 hs1;refine bG (V:=[0,1,2,6,7,8,9,10,11,16]) _ _ _ _ ?_;simp only[go_sem];(refine aQ (λh=>?_) (λh=>?_))<;>simp only[go_sem,h]
  .have hix:j<(mD L).length:=by simpa using h
   clear h;obtain⟨x,hx⟩:∃a,L[2 * j]?=some a:=⟨_,aY aB⟩
   obtain⟨y,hy⟩:∃a,L[2 * j+1]?=some a:=⟨_,aY aB⟩
   have hxm:x∈L:=cM hx;have hym:y∈L:=cM hy;have hpg:=aH8 j L x y hx hy;have w1:=hlw.wrap (i:=j) (by simpa using hix);have d0:decide ((0:Int)<(j:Int))=decide (0<2 * j):=by rw[gG];omega
   have hc1:=aB5 hx;have hc4:=aB5 hy;have hc5:dL (L.take (2 * j+1))=dL (L.take (2 * j))+x.cnt:=by rw[iS,hx,aCz];simp[dL]
   have hc2:=aFu (2 * j) (L.take (2 * j)) false cur (by rw[bK];omega);have hxp:=tT x;have htk:=aOz aB hx hy cur;simp only[go_sem,hpg,hix,uF];cases h0:decide (0<2 * j)with
   | false =>
    rw[if_neg (by simpa using h0)]at htk;simp only[go_sem,d0,h0];refine aG8 x y (ih x hxm) (ih y hym) r vi v1 _ _ _ _ hw1 aB (λs3 v3 hw3 hs3=>?_);simp only[go_sem];exact⟨(j+1,s3,v3),⟨hix,by simp only;rw[show 2 * (j+1)=2 * j+2 by omega,htk];exact hw3,hs1.trans hs3⟩,by simp only;omega,w1,aM _⟩
   | true =>
    rw[if_pos (by simpa using h0)]at htk;have hc3:=aQC (l:=L.take (2 * j)) (λe=>by rcases List.take_eq_nil_iff.1 e with e|e;(have:j=0:=by omega);(subst this;simp at h0);(subst e;simp at hx)) cur;simp only[go_sem,d0,h0];refine dI [[44]] r vi v1 _ _ _ _ hw1 (by simp only[aE,aF];omega) (λs3 v3 hw3 hs3=>?_);simp only[go_sem];refine aG8 x y (ih x hxm) (ih y hym) r vi v3 _ _ _ _ hw3 (by rw[bU];simp only[aE,aF];omega) (λs4 v4 hw4 hs4=>?_);simp only[go_sem];exact⟨(j+1,s4,v4),⟨hix,by simp only;rw[show 2 * (j+1)=2 * j+2 by omega,htk];exact hw4,hs1.trans (hs3.trans hs4)⟩,by simp only;omega,w1,aM _⟩
  .have h9:¬ j<(mD L).length:=by simpa using h
   have hii:j=(mD L).length:=by omega
   subst hii;rw[hpl,List.take_length]at hw1;exact aN (hk _ _ hw1 hs1)
theorem aQu(t:Tm)(cur:List Wd):cI cur t =
  if t.kind=1 then(if t.n<0 then lW cur [[45],(Lib.itoa t.n).drop 1] else aL cur (Lib.itoa t.n))
  else if t.kind=2 then aL cur (if t.n=1 then [116,114,117,101] else [102,97,108,115,101])
  else if t.kind=3 then aL cur ([34]++t.text++[34])
  else if t.kind=4 then bM cur [[39],t.text]
  else if t.kind=5 then aL (gK false (bM cur [t.text,[40]]) t.kids) [41]
  else if t.kind=6 then(if t.text=[95]\/t.text=[36] then aL cur t.text else lW cur [t.text,[58],t.sort])
  else if t.kind=7 then aL (mG (gK false (aL cur [91]) t.kids) t.rest) [93]
  else if t.kind=8 then aL (mG (fQ false (aL cur [123]) t.kids) t.rest) [125]
  else cur:=by cases t;rw[cI];rfl
theorem aN3(HC:aIt):∀t,ShT t->TwOk t:=by
 suffices H:∀n t,t.cnt<=n->ShT t->TwOk t fromλt h=>H _ t (bT _) h
 intro n
 induction n with
 | zero=>intro t h;have:=tT t;omega
 | succ n ih0 =>
 intro t hc hsh;have hs:t.shape=true:=by cases hsh;assumption
 have hsk:∀x,x∈t.kids->ShT x:=by cases hsh;assumption
 have hct:=aAQ t;have hkc:∀x,x∈t.kids->x.cnt<=n:=λx hx=>by have:=zN hx;omega
 have ih:∀x,x∈t.kids->TwOk x:=λx hx=>ih0 x (hkc x hx) (hsk x hx)
 clear ih0;intro r vi vl cur s KV Kp hw hl hk;have hkl:=xO t.kids;have hrl:=xA t.rest;rw[aQu]at hk;have hp1:=tT t;(refine aO func180 [0,1,3,5,6,10,24,33,42,49,65,74,87,104] ?_;simp only[go_sem,ntmps180,f180]);(intro p hp;try simp only[aI,ne_eq]at hp);simp only[go_sem,hp];have hwp:=hw.new hp (.cells 43 t.cs);have gp:(s.setO p (.cells 43 t.cs)).getO p=some (.cells 43 t.cs):=by rw[aJ,if_pos rfl]
 have fin:∀{s':St} {v':A},Stp r vl v' (s.setO p (.cells 43 t.cs)) s'->Stp r vl v' s s':=λh=>h.new1 hp
 cases k1:decide (t.kind=1)with
 | true =>
  rw[if_pos (by simpa using k1)]at hk
  have hb:-9223372036854775808<=t.n/\t.n<=9223372036854775807:=by
   rw[Tm.shape,if_pos (by simpa using k1)]at hs;simp only[aAl,cL,qB,cU]at hs;omega
  simp only[go_sem,hp,k1];cases n1:decide (t.n<0)with
  | true =>
   rw[if_pos (by simpa using n1)]at hk;simp only[go_sem,hp,n1];refine aA0 t.n hb.1 hb.2 _ _ _ ?_;simp only[go_sem,hp];refine aNy t.n (by simpa using n1) _ _ _ ?_;simp only[go_sem,hp];refine aHI [[45],(Lib.itoa t.n).drop 1] r vi vl cur _ _ _ hwp (by simp only[aE,aF];omega) (λs1 v1 hw1 hs1=>?_);simp only[go_sem];exact aN (hk _ _ hw1 (fin hs1))
  | false =>
   rw[if_neg (by simpa using n1)]at hk;simp only[go_sem,hp,n1];refine aA0 t.n hb.1 hb.2 _ _ _ ?_;simp only[go_sem,hp];refine dI [Lib.itoa t.n] r vi vl cur _ _ _ hwp (by simp only[aE,aF];omega) (λs1 v1 hw1 hs1=>?_);simp only[go_sem];exact aN (hk _ _ hw1 (fin hs1))
 | false =>
 rw[if_neg (by simpa using k1)]at hk;simp only[go_sem,hp,k1];cases k2:decide (t.kind=2)with
 | true =>
  rw[if_pos (by simpa using k2)]at hk;simp only[go_sem,hp,k2];refine aRd _ _ _ _ ?_;simp only[go_sem,hp];refine dI [if decide (t.n=1)=true then [116,114,117,101] else [102,97,108,115,101]] r vi vl cur _ _ _ hwp (by simp only[aE,aF];omega) (λs1 v1 hw1 hs1=>?_);simp only[go_sem];simp only[cU]at hw1;exact aN (hk _ _ hw1 (fin hs1))
 | false =>
 rw[if_neg (by simpa using k2)]at hk;simp only[go_sem,hp,k2];cases k3:decide (t.kind=3)with
 | true =>
  rw[if_pos (by simpa using k3)]at hk;simp only[go_sem,hp,k3]
  have ht3:t.text.length<=1000:=by
   have k3':t.kind=3:=by simpa using k3
   rw[Tm.shape,if_neg aB,if_neg aB,if_pos k3']at hs;simp only[nT,cL,cU]at hs;omega
  refine⟨by simp only[maxLen];omega,by simp only[maxLen];omega,?_⟩;refine dI [[34]++t.text++[34]] r vi vl cur _ _ _ hwp (by simp only[aE,aF];omega) (λs1 v1 hw1 hs1=>?_);simp only[go_sem];exact aN (hk _ _ hw1 (fin hs1))
 | false =>
 rw[if_neg (by simpa using k3)]at hk;simp only[go_sem,hp,k3];cases k4:decide (t.kind=4)with
 | true =>
  rw[if_pos (by simpa using k4)]at hk;simp only[go_sem,hp,k4];refine dI [[39],t.text] r vi vl cur _ _ _ hwp (by simp only[aE,aF];omega) (λs1 v1 hw1 hs1=>?_);simp only[go_sem];exact aN (hk _ _ hw1 (fin hs1))
 | false =>
 rw[if_neg (by simpa using k4)]at hk;simp only[go_sem,hp,k4];cases k5:decide (t.kind=5)with
 | true =>
  rw[if_pos (by simpa using k5)]at hk;simp only[go_sem,hp,k5];refine dI [t.text,[40]] r vi vl cur _ _ _ hwp (by simp only[aE,aF];omega) (λs1 v1 hw1 hs1=>?_);simp only[go_sem,hp];have g1:s1.getO p=some (.cells 43 t.cs):=hs1.keep hwp gp aD aD;simp only[go_sem,g1];refine aBN t.kids ih r vi v1 _ _ _ _ hw1 (by rw[bU];simp only[aE,aF];omega) (λs2 v2 hw2 hs2=>?_);simp only[go_sem];refine dI [[41]] r vi v2 _ _ _ _ hw2 (by have:=hkl false (bM cur [t.text,[40]]);rw[bU]at this;simp only[aE,aF]at this⊢;omega) (λs3 v3 hw3 hs3=>?_);simp only[go_sem];exact aN (hk _ _ hw3 (fin (hs1.trans (hs2.trans hs3))))
 | false =>
 rw[if_neg (by simpa using k5)]at hk;simp only[go_sem,hp,k5];cases k6:decide (t.kind=6)with
 | true =>
  rw[if_pos (by simpa using k6)]at hk;simp only[go_sem,hp,k6];cases x1:decide (t.text=[95])with
  | true =>
   rw[if_pos (.inl (by simpa using x1))]at hk;simp only[go_sem,hp,k6,x1];refine dI [t.text] r vi vl cur _ _ _ hwp (by simp only[aE,aF];omega) (λs1 v1 hw1 hs1=>?_);simp only[go_sem];exact aN (hk _ _ hw1 (fin hs1))
  | false =>
   simp only[go_sem,hp,k6,x1];cases x2:decide (t.text=[36])with
   | true =>
    rw[if_pos (.inr (by simpa using x2))]at hk;simp only[go_sem,hp,k6,x1,x2];refine dI [t.text] r vi vl cur _ _ _ hwp (by simp only[aE,aF];omega) (λs1 v1 hw1 hs1=>?_);simp only[go_sem];exact aN (hk _ _ hw1 (fin hs1))
   | false =>
    rw[if_neg (by simp only[fL]at x1 x2;exactλe=>e.elim x1 x2)]at hk;simp only[go_sem,hp,k6,x1,x2];refine aHI [t.text,[58],t.sort] r vi vl cur _ _ _ hwp (by simp only[aE,aF];omega) (λs1 v1 hw1 hs1=>?_);simp only[go_sem];exact aN (hk _ _ hw1 (fin hs1))
 | false =>
 rw[if_neg (by simpa using k6)]at hk;simp only[go_sem,hp,k6];cases k7:decide (t.kind=7)with
 | true =>
  rw[if_pos (by simpa using k7)]at hk;simp only[go_sem,hp,k7];refine dI [[91]] r vi vl cur _ _ _ hwp (by simp only[aE,aF];omega) (λs1 v1 hw1 hs1=>?_);have g1:=hs1.keep hwp gp aD aD;simp only[go_sem,g1];have l1:=bU [[91]] cur;simp only[aE,aF]at l1;refine aBN t.kids ih r vi v1 _ _ _ _ hw1 aB (λs2 v2 hw2 hs2=>?_);have g2:=hs2.keep hw1 g1 aD aD;have l2:=hkl false (bM cur [[91]]);simp only[go_sem,g2];refine aHx t r vi v2 _ _ _ _ hw2 aB (λs3 v3 hw3 hs3=>?_);simp only[go_sem];have l3:=zG t.rest (gK false (bM cur [[91]]) t.kids);refine dI [[93]] r vi v3 _ _ _ _ hw3 (by simp only[aE,aF];omega) (λs4 v4 hw4 hs4=>?_);simp only[go_sem];exact aN (hk _ _ hw4 (fin (hs1.trans (hs2.trans (hs3.trans hs4)))))
 | false =>
 rw[if_neg (by simpa using k7)]at hk;simp only[go_sem,hp,k7];cases k8:decide (t.kind=8)with
 | true =>
  rw[if_pos (by simpa using k8)]at hk
  have he:t.kids.length % 2=0:=by
   have k8':t.kind=8:=by simpa using k8
   rw[Tm.shape,if_neg aB,if_neg aB,if_neg aB,if_neg aB,if_neg aB,if_neg aB,if_neg aB,if_pos k8']at hs;simp only[cL,cU]at hs;exact hs.1.2
  have hkn:=xA t.kids;simp only[go_sem,hp,k8];refine dI [[123]] r vi vl cur _ _ _ hwp (by simp only[aE,aF];omega) (λs1 v1 hw1 hs1=>?_);have g1:=hs1.keep hwp gp aD aD;simp only[go_sem,g1];have l1:=bU [[123]] cur;simp only[aE,aF]at l1;refine aNb t.kids _ _ _ (λp1 p2 hp1 hp2 hne=>?_);simp only[go_sem];refine HC t.kids p1 p2 _ _ _ ?_ ?_ he aB ?_
  .simp only[aJ,hne,hne.symm,if_false];first|rfl|simp
  .simp only[aJ];first|rfl|simp
  simp only[go_sem];have hn2:(s1.setO p1 (.cells 41 [.list none (t.kids.map Tm.enc)])).getO p2=none:=by simp only[aJ,hne,hne.symm,if_false];exact hp2
  have hw1':=(hw1.new hp1 (.cells 41 [.list none (t.kids.map Tm.enc)])).new hn2 (.cells 3 [.int .i64 2]);refine aMT t.kids he ih r vi v1 _ _ _ _ hw1' aB (λs2 v2 hw2 hs2=>?_);have hs2':=(hs2.new1 hn2).new1 hp1;have g2:=hs2'.keep hw1 g1 aD aD;have l2:=aFu t.kids.length t.kids false (bM cur [[123]]) (bT _);simp only[go_sem,g2];refine aHx t r vi v2 _ _ _ _ hw2 aB (λs3 v3 hw3 hs3=>?_);simp only[go_sem];have l3:=zG t.rest (fQ false (bM cur [[123]]) t.kids);refine dI [[125]] r vi v3 _ _ _ _ hw3 (by simp only[aE,aF];omega) (λs4 v4 hw4 hs4=>?_);simp only[go_sem];exact aN (hk _ _ hw4 (fin (hs1.trans (hs2'.trans (hs3.trans hs4)))))
 | false =>
 exfalso;simp only[fL]at k1 k2 k3 k4 k5 k6 k7 k8;rw[Tm.shape,if_neg k1,if_neg k2,if_neg k3,if_neg k4,if_neg k5,if_neg k6,if_neg k7,if_neg k8]at hs;cases hs
def fS{α:Type}(bd:α->Nat):List α->Nat
 | []=>0
 | x::r=>bd x+1+fS bd r
theorem aJ7{α:Type}(bd:α->Nat):∀a b:List α,fS bd (a++b)=fS bd a+fS bd b
 | [],b=>by simp[fS]
 | x::r,b=>by simp only[aV,fS,aJ7 bd r b];omega
theorem zL{α:Type}(bd:α->Nat){l:List α}{i:Nat}{x:α}(h:l[i]?=some x):fS bd (l.take i)+bd x+1<=fS bd l:=by
 have hi:i<l.length:=(dV.1 h).1;have e:fS bd l=fS bd (l.take i)+fS bd (l.drop i):=by rw[<-aJ7,List.take_append_drop]
 have e2:l.drop i=x::l.drop (i+1):=by
  rw[yS hi];rw[aY hi]at h;cases h;rfl
 rw[e,e2,fS];omega
theorem wT{α:Type}(one:List Wd->α->List Wd)(bd:α->Nat)(hbd:∀x c,(one c x).length<=c.length+bd x):∀(l:List α) (b:Bool) (c:List Wd),(eE one b c l).length<=c.length+fS bd l
 | [],b,c=>by simp[eE,fS]
 | x::r,b,c=>by
  have h1:=wT one bd hbd r true (one (if b=true then aL c [44] else c) x);have h2:=hbd x (if b=true then aL c [44] else c);have h3:(if b=true then aL c [44] else c).length<=c.length+1:=by split<;>simp[aL]
  simp only[eE,fS];omega
theorem aHH{α:Type}(one:List Wd->α->List Wd):∀(a b:List α) (t:Bool) (c:List Wd),a≠[]->eE one t c (a++b)=eE one true (eE one t c a) b
 | [x],b,t,c,_=>rfl
 | x::y::r,b,t,c,_=>by
  rw[aV,eE,eE,aHH one (y::r) b true _ bD]
theorem aED{α:Type}(one:List Wd->α->List Wd){l:List α}{i:Nat}{x:α}(h:l[i]?=some x)(c:List Wd) :
  eE one false c (l.take (i+1))=one (if 0<i then aL (eE one false c (l.take i)) [44] else eE one false c (l.take i)) x:=by
 have hi:i<l.length:=(dV.1 h).1;rw[iS,h];by_cases h0:0<i
 .rw[if_pos h0];exact aHH one (l.take i) [x] false c (λe=>by rcases List.take_eq_nil_iff.1 e with e|e;(subst e;simp at h0);(subst e;simp at hi))
 .obtain rfl:i=0:=by omega
  rfl
theorem aMC(l:List aC)(one:List Wd->aC->List Wd)(bd:aC->Nat)(hbd:∀x c,(one c x).length<=c.length+bd x)(f:FuncId)(caps:List A)(I:St->Prop)(r:Nat)(vi:A)
    (hI:∀s s' v v' cur,WrS s r vi v cur->Stp r v v' s s'->I s->I s')
    (hf:∀x,x∈l->∀vl cur s KV Kp,I s->WrS s r vi vl cur->cur.length+bd x<=4294967296->(∀s' vl',WrS s' r vi vl' (one cur x)->Stp r vl vl' s s'->KV s' (.tuple []))->Den cx f ([]++[.str x]++caps) KV Kp s)
    (vl:A)(cur:List Wd)(s:St)(KV Kp:St->A->Prop)(hw:WrS s r vi vl cur)(hIs:I s)(hl:cur.length+fS bd l<=4294967296)
    (hk:∀s' vl',WrS s' r vi vl' (eE one false cur l)->Stp r vl vl' s s'->KV s' (.tuple [])):Den cx 289 [.ptr r 0,.list none (l.map (.str)),.fn f [] caps] KV Kp s:=by
  refine jD λhz1=>?_
  have hlw:=hz1 _ (cT _ (bY ..));(refine aO func289 [0,1,2,6,7,8,9,10,11,16] ?_;simp only[go_sem,ntmps289,f289])
  refine Ex.loop (ι:=Nat × (St × A)) (λc=>[(0,.ptr r 0),(2,.fn f [] caps),(8,.list none (l.map (.str))),(9,.int .i64 (l.length:Nat)),(10,.int .i64 (c.1:Nat))])
    (λc=>c.2.1) (λc=>c.1<=l.length/\WrS c.2.1 r vi c.2.2 (eE one false cur (l.take c.1))/\Stp r vl c.2.2 s c.2.1) (λc=>l.length-c.1) (0,(s,vl)) ⟨aU _,hw,Stp.refl r vl s⟩ ?_ (aM s) ?_
  · (simp only[go_sem];try exact rfl)
  · rintro⟨i,s1,v1⟩ ⟨hi,hw1,hs1⟩
    simp only at hi hw1 hs1;have hI1:=hI _ _ _ _ _ hw hs1 hIs;refine bG (V:=[0,1,2,6,7,8,9,10,11,16]) _ _ _ _ ?_;simp only[go_sem];(refine aQ (λh=>?_) (λh=>?_))<;>simp only[go_sem,h]
    · have hix:i<l.length:=by simpa using h
      clear h;obtain⟨x,hx⟩:∃a,l[i]?=some a:=⟨_,aY hix⟩
      have hxm:x∈l:=cM hx;have w1:=hlw.wrap (i:=i) (by simpa using hix);have d0:decide ((0:Int)<(i:Int))=decide (0<i):=by rw[gG];omega
      have hc1:=zL bd hx;have hc2:=wT one bd hbd (l.take i) false cur;have htk:=aED one hx cur;simp only[go_sem,hx,hix];cases h0:decide (0<i)with
      | false =>
        rw[if_neg (by simpa using h0)]at htk;simp only[go_sem,d0,h0];refine hf x hxm v1 _ _ _ _ hI1 hw1 aB (λs3 v3 hw3 hs3=>?_);simp only[go_sem];exact⟨(i+1,s3,v3),⟨hix,by rw[htk];exact hw3,hs1.trans hs3⟩,by simp only;omega,w1,aM _⟩
      | true =>
        rw[if_pos (by simpa using h0)]at htk;simp only[go_sem,d0,h0];refine dI [[44]] r vi v1 _ _ _ _ hw1 (by simp only[aE,aF];omega) (λs3 v3 hw3 hs3=>?_);have hI3:=hI _ _ _ _ _ hw1 hs3 hI1;simp only[go_sem];refine hf x hxm v3 _ _ _ _ hI3 hw3 (by rw[bU];simp only[aE,aF];omega) (λs4 v4 hw4 hs4=>?_);simp only[go_sem];exact⟨(i+1,s4,v4),⟨hix,by rw[htk];exact hw4,hs1.trans (hs3.trans hs4)⟩,by simp only;omega,w1,aM _⟩
    · have hii : i = l.length := by have : ¬ i < l.length := by simpa using h
                                    omega
      subst hii;rw[List.take_length]at hw1;exact aN (hk _ _ hw1 hs1)
theorem aMG(l:List Int)(one:List Wd->Int->List Wd)(bd:Int->Nat)(hbd:∀x c,(one c x).length<=c.length+bd x)(f:FuncId)(caps:List A)(I:St->Prop)(r:Nat)(vi:A)
    (hI:∀s s' v v' cur,WrS s r vi v cur->Stp r v v' s s'->I s->I s')
    (hf:∀x,x∈l->∀vl cur s KV Kp,I s->WrS s r vi vl cur->cur.length+bd x<=4294967296->(∀s' vl',WrS s' r vi vl' (one cur x)->Stp r vl vl' s s'->KV s' (.tuple []))->Den cx f ([]++[.int .i64 x]++caps) KV Kp s)
    (vl:A)(cur:List Wd)(s:St)(KV Kp:St->A->Prop)(hw:WrS s r vi vl cur)(hIs:I s)(hl:cur.length+fS bd l<=4294967296)
    (hk:∀s' vl',WrS s' r vi vl' (eE one false cur l)->Stp r vl vl' s s'->KV s' (.tuple [])):Den cx 291 [.ptr r 0,.list none (l.map (.int .i64)),.fn f [] caps] KV Kp s:=by
  refine jD λhz1=>?_
  have hlw:=hz1 _ (cT _ (bY ..));(refine aO func291 [0,1,2,6,7,8,9,10,11,16] ?_;simp only[go_sem,ntmps291,f291])
  refine Ex.loop (ι:=Nat × (St × A)) (λc=>[(0,.ptr r 0),(2,.fn f [] caps),(8,.list none (l.map (.int .i64))),(9,.int .i64 (l.length:Nat)),(10,.int .i64 (c.1:Nat))])
    (λc=>c.2.1) (λc=>c.1<=l.length/\WrS c.2.1 r vi c.2.2 (eE one false cur (l.take c.1))/\Stp r vl c.2.2 s c.2.1) (λc=>l.length-c.1) (0,(s,vl)) ⟨aU _,hw,Stp.refl r vl s⟩ ?_ (aM s) ?_
  · (simp only[go_sem];try exact rfl)
  · rintro⟨i,s1,v1⟩ ⟨hi,hw1,hs1⟩
    simp only at hi hw1 hs1;have hI1:=hI _ _ _ _ _ hw hs1 hIs;refine bG (V:=[0,1,2,6,7,8,9,10,11,16]) _ _ _ _ ?_;simp only[go_sem];(refine aQ (λh=>?_) (λh=>?_))<;>simp only[go_sem,h]
    · have hix:i<l.length:=by simpa using h
      clear h;obtain⟨x,hx⟩:∃a,l[i]?=some a:=⟨_,aY hix⟩
      have hxm:x∈l:=cM hx;have w1:=hlw.wrap (i:=i) (by simpa using hix);have d0:decide ((0:Int)<(i:Int))=decide (0<i):=by rw[gG];omega
      have hc1:=zL bd hx;have hc2:=wT one bd hbd (l.take i) false cur;have htk:=aED one hx cur;simp only[go_sem,hx,hix];cases h0:decide (0<i)with
      | false =>
        rw[if_neg (by simpa using h0)]at htk;simp only[go_sem,d0,h0];refine hf x hxm v1 _ _ _ _ hI1 hw1 aB (λs3 v3 hw3 hs3=>?_);simp only[go_sem];exact⟨(i+1,s3,v3),⟨hix,by rw[htk];exact hw3,hs1.trans hs3⟩,by simp only;omega,w1,aM _⟩
      | true =>
        rw[if_pos (by simpa using h0)]at htk;simp only[go_sem,d0,h0];refine dI [[44]] r vi v1 _ _ _ _ hw1 (by simp only[aE,aF];omega) (λs3 v3 hw3 hs3=>?_);have hI3:=hI _ _ _ _ _ hw1 hs3 hI1;simp only[go_sem];refine hf x hxm v3 _ _ _ _ hI3 hw3 (by rw[bU];simp only[aE,aF];omega) (λs4 v4 hw4 hs4=>?_);simp only[go_sem];exact⟨(i+1,s4,v4),⟨hix,by rw[htk];exact hw4,hs1.trans (hs3.trans hs4)⟩,by simp only;omega,w1,aM _⟩
    · have hii : i = l.length := by have : ¬ i < l.length := by simpa using h
                                    omega
      subst hii;rw[List.take_length]at hw1;exact aN (hk _ _ hw1 hs1)
theorem aHj(l:List Tm)(ih:∀t,t∈l->TwOk t)(r:Nat)(vi vl:A)(cur:List Wd)(s:St)(KV Kp:St->A->Prop)(hw:WrS s r vi vl cur)(hl:cur.length+1+8 * dL l<=4294967296)
  (hk:∀s' vl',WrS s' r vi vl' (qI cur l)->Stp r vl vl' s s'->KV s' (.tuple [])):Den cx 181 [.ptr r 0,.list none (l.map Tm.enc)] KV Kp s:=by
 have hkw:∀(l:List Tm) (b:Bool) (c:List Wd),gK b c l=eE cI b c l:=by
  intro l
  induction l with
  | nil=>intro b c;rfl
  | cons x r ih=>intro b c;rw[gK,eE,ih]
 (refine aO func181 [0,1,6] ?_;simp only[go_sem,ntmps181,f181]);have d0:decide ((0:Int)<(l.length:Int))=decide (0<l.length):=by rw[gG];omega
 cases h0:decide (0<l.length)with
 | false =>
  have e:l=[]:=fK (by simpa using h0);subst e;simp only[go_sem,Int.reduceLT];exact aN (hk _ _ hw (Stp.refl r vl s))
 | true =>
  rw[qI,if_neg (λe=>by subst e;simp at h0)]at hk;simp only[go_sem,d0,h0];refine dI [[105,102]] r vi vl _ _ _ _ hw (by simp only[aE,aF];omega) (λs1 v1 hw1 hs1=>?_);simp only[go_sem];refine aBN l ih r vi v1 _ _ _ _ hw1 (by rw[bU];simp only[aE,aF];omega) (λs2 v2 hw2 hs2=>?_);simp only[go_sem];rw[hkw]at hw2;exact aN (hk _ _ hw2 (hs1.trans hs2))
theorem aCQ{α:Type}(l:List α):fS (λ_=>1) l=2 * l.length:=by
 induction l with
 | nil=>rfl
 | cons x r ih=>simp only[fS,ih,aE];omega
theorem aLG{r p:Nat}{vi:A}:∀(s s':St) (v v':A) (cur:List Wd),WrS s r vi v cur->Stp r v v' s s'->s.getO p=some (.cells 110 [.ptr r 0])->s'.getO p=some (.cells 110 [.ptr r 0]) :=
 λ_ _ _ _ _ hw hs h=>hs.keep hw h aD aD
theorem aNo(x:aC)(p r:Nat)(vi v0:A)(cur:List Wd)(s:St)(KV Kp:St->A->Prop)(gp0:s.getO p=some (.cells 110 [.ptr r 0]))(hw0:WrS s r vi v0 cur)(hl:cur.length+1<=4294967296)
  (hk:∀s' vl',WrS s' r vi vl' (aL cur x)->Stp r v0 vl' s s'->KV s' (.tuple [])):Den cx 290 ([]++[.str x]++[.ptr p 0]) KV Kp s:=by
 show Den cx 290 [.str x,.ptr p 0] KV Kp s;(refine aO func290 [0,1] ?_;simp only[go_sem,ntmps290,f290]);simp only[go_sem,gp0];refine dI [x] r vi v0 _ _ _ _ hw0 (by(try simp only[bU,bX,aE,aF,aG,aH]);omega) (λs1 v1 hw1 hs1=>?_);have gp1:=hs1.keep hw0 gp0 aD aD;simp only[go_sem,gp1];exact aN (hk _ _ hw1 hs1)
theorem aOs(n:Int)(h0:-9223372036854775808<=n)(h1:n<=9223372036854775807)(p r:Nat)(vi v0:A)(cur:List Wd)(s:St)(KV Kp:St->A->Prop)(gp0:s.getO p=some (.cells 110 [.ptr r 0]))(hw0:WrS s r vi v0 cur)(hl:cur.length+1<=4294967296)
  (hk:∀s' vl',WrS s' r vi vl' (aL cur (Lib.itoa n))->Stp r v0 vl' s s'->KV s' (.tuple [])):Den cx 292 ([]++[.int .i64 n]++[.ptr p 0]) KV Kp s:=by
 show Den cx 292 [.int .i64 n,.ptr p 0] KV Kp s;(refine aO func292 [0,1] ?_;simp only[go_sem,ntmps292,f292]);(refine bL (OT.r 0 5) [(2,[0])] ?_;simp only[go_sem]);simp only[go_sem,gp0];refine aA0 n h0 h1 _ _ _ ?_;simp only[go_sem,gp0];refine dI [Lib.itoa n] r vi v0 _ _ _ _ hw0 (by(try simp only[bU,bX,aE,aF,aG,aH]);omega) (λs1 v1 hw1 hs1=>?_);have gp1:=hs1.keep hw0 gp0 aD aD;simp only[go_sem,gp1];exact aN (hk _ _ hw1 hs1)
theorem aG9(l:List aC)(r:Nat)(vi v0:A)(cur:List Wd)(s:St)(KV Kp:St->A->Prop)(hw0:WrS s r vi v0 cur)(hl:cur.length+2 * l.length<=4294967296)
  (hk:∀s' vl',WrS s' r vi vl' (eE aL false cur l)->Stp r v0 vl' s s'->KV s' (.tuple [])):Den cx 250 [.ptr r 0,.list none (l.map .str)] KV Kp s:=by
 (refine aO func250 [0,1,2] ?_;simp only[go_sem,ntmps250,f250]);(intro p hp;try simp only[aI,ne_eq]at hp);simp only[go_sem,hp]
 refine aMC l aL (λ_=>1) (λx c=>by rw[bX];exact bT _) 290 [.ptr p 0] (λs=>s.getO p=some (.cells 110 [.ptr r 0])) r vi aLG (λx _ vl cur s KV Kp hI hw hl hk=>aNo x p r vi vl cur s KV Kp hI hw hl hk)
  v0 cur _ _ _ (hw0.new hp _) (by rw[aJ,if_pos rfl]) (by rw[aCQ];exact hl) (λs1 v1 hw1 hs1=>?_)
 simp only[go_sem];exact aN (hk _ _ hw1 (hs1.new1 hp))
theorem aEM(c:Cel)(ht:TwOk c.init)(r:Nat)(vi v0:A)(cur:List Wd)(s:St)(KV Kp:St->A->Prop)(hw0:WrS s r vi v0 cur)(hl:cur.length+4+8 * c.init.cnt<=4294967296)
  (hk:∀s' vl',WrS s' r vi vl' (jF cur c)->Stp r v0 vl' s s'->KV s' (.tuple [])):Den cx 182 [.ptr r 0,.agg c.cs] KV Kp s:=by
 (refine aO func182 [0,1,3] ?_;simp only[go_sem,ntmps182,f182]);(intro p hp;try simp only[aI,ne_eq]at hp);simp only[go_sem,hp];have hw0':=hw0.new hp (.cells 68 c.cs);refine dI [c.name,[58],c.sort,[61]] r vi v0 _ _ _ _ hw0' (by simp only[aE,aF];omega) (λs1 v1 hw1 hs1=>?_);have g1:=hs1.keep hw0' (p:=p) (e:=68) (cs:=c.cs) (by rw[aJ,if_pos rfl]<;>rfl) aD aD;simp only[go_sem,g1];refine ht r vi v1 _ _ _ _ hw1 (by rw[bU];simp only[aE,aF];omega) (λs2 v2 hw2 hs2=>?_);simp only[go_sem];exact aN (hk _ _ hw2 ((hs1.trans hs2).new1 hp))
end Go.AV
