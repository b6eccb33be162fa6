/-
  Of DefRenamed.
-/
import Derived.Test.YtamikhobdffnfaaGreatDoorRe09
import Derived.Lib.ItoaNum
set_option linter.all false
set_option maxRecDepth 99999
set_option maxHeartbeats 0
namespace Go.AV
open Go Go.Proofs Tryz
theorem tF(s:St)(x:aC)(KV Kp)(hk:KV s (.bool (decide (x∈gX)))):Den cx 145 [.str x] KV Kp s:=by
 (refine aO func145 [0,2] ?_;simp only[go_sem,ntmps145,f145]);refine aMx _ _ _ ?_;simp only[go_sem,zY];refine yV _ _ _ _ _ ?_;simp only[go_sem];exact aN hk
theorem aME(s:St)(x:aC)(KV Kp)(hk:KV s (.bool (decide (x∈aAY)))):Den cx 107 [.str x] KV Kp s:=by
 (refine aO func107 [0,2] ?_;simp only[go_sem,ntmps107,f107]);refine aMB _ _ _ ?_;simp only[go_sem,zY];refine yV _ _ _ _ _ ?_;simp only[go_sem];exact aN hk
def aAl(n:Int):Bool:=decide (-2147483647<=n)&&decide (n<=2147483647)
theorem aIE(s:St)(n:Int)(KV Kp)(hk:KV s (.bool (aAl n))):Den cx 272 [.int .i64 n] KV Kp s:=by
 unfold aAl at hk;(refine aO func272 [0,2] ?_;simp only[go_sem,ntmps272,f272])
 (repeat' (first|exact aP hk cS|((refine aQ (λh=>?_) (λh=>?_))<;>simp only[go_sem,h]<;>(try simp only[h,eW,eU,fB,fG,jN,jT,jM,iJ,eV,fM]at hk))))
theorem aRd(s:St)(b:Bool)(KV Kp)(hk:KV s (.str (if b=true then [116,114,117,101] else [102,97,108,115,101]))):Den cx 211 [.bool b] KV Kp s:=by
 (refine aO func211 [0,2] ?_;simp only[go_sem,ntmps211,f211]);(refine aO func276 [0,2,3] ?_;simp only[go_sem,ntmps276,f276]);cases b with
 | true=>simp only[go_sem];refine aN ?_;simp only[go_sem];exact aN hk
 | false=>simp only[go_sem];refine aN ?_;simp only[go_sem];exact aN hk
def pG(x:aC):Bool:=decide (2<x.length)&&(decide (x[x.length-2]?=some 39)&&(match x[x.length-1]? with|some c=>decide (49<=c.toNat)&&decide (c.toNat<=56)|none=>false))
theorem aE7(s:St)(x:aC)(KV Kp)(hl:x.length<=4611686018427387904)(hk:KV s (if pG x=true then .tuple [.str (x.take (x.length-2)),.str (x.drop (x.length-2))] else .tuple [.str x,.str []])):Den cx 111 [.str x] KV Kp s:=by
 have w0:IntKind.i64.wrap ((x.length:Int)-2)=(x.length:Int)-2:=by
  exact iU _ aB aB
 (refine aO func111 [0,2,3,4,29] ?_;simp only[go_sem,ntmps111,f111]);by_cases h2:2<x.length
 .have w1:(x.length:Int)-2=((x.length-2:Nat):Int):=by omega
  have w3:=w0.trans w1
  have w2:IntKind.i64.wrap (((x.length-2:Nat):Int)+1)=((x.length-1:Nat):Int):=by
   rw[cF _ aB];omega
  have d1:decide ((0:Int)<((x.length-2:Nat):Int))=true:=by rw[cU];omega
  obtain⟨c1,h1⟩:∃c,x[x.length-2]?=some c:=⟨_,aY aB⟩
  obtain⟨c2,h3⟩:∃c,x[x.length-1]?=some c:=⟨_,aY aB⟩
  have l1:x.length-2<x.length:=by omega
  have l2:x.length-1<x.length:=by omega
  simp only[go_sem,w3,w2,d1,h1,h3,Int.toNat_natCast,l1,l2]
  have ef:pG x=(decide ((c1.toNat:Int)=39)&&(decide ((49:Int)<=(c2.toNat:Int))&&decide ((c2.toNat:Int)<=56))):=by
   unfold pG;rw[h1,h3,kD h2,eW]
   have e1:decide (some c1=some (39:UInt8))=decide ((c1.toNat:Int)=39):=by
    rw[gG,bJ,<-tH];show c1.toNat=39↔_;omega
   have e2:decide ((49:Int)<=(c2.toNat:Int))=decide (49<=c2.toNat):=by rw[gG];omega
   have e3:decide ((c2.toNat:Int)<=56)=decide (c2.toNat<=56):=by rw[gG];omega
   rw[e1,e2,e3]
  rw[ef]at hk;cases hA:decide ((c1.toNat:Int)=39)<;>rw[hA]at hk<;>simp only[go_sem,w3,w2,h1,h3,Int.toNat_natCast,l1,l2,hA]
  .exact aN hk
  .cases hB:decide ((49:Int)<=(c2.toNat:Int))<;>rw[hB]at hk<;>simp only[go_sem,w3,w2,h1,h3,Int.toNat_natCast,l1,l2,hA,hB]
   .exact aN hk
   .cases hC:decide ((c2.toNat:Int)<=56)<;>rw[hC]at hk<;>simp only[go_sem,w3,w2,h1,h3,Int.toNat_natCast,l1,l2,hA,hB,hC]
    .exact aN hk
    ·(refine bL (OT.r 0 8) [] ?_;simp only[go_sem]);exact⟨by omega,by omega,aN hk⟩
 .have d1:decide ((0:Int)<(x.length:Int)-2)=false:=by rw[fL];omega
  simp only[go_sem,w0,d1];rw[if_neg (by simp[pG,h2])]at hk;exact aN hk
def aBt(x:aC):Bool:=dM (if pG x=true then x.take (x.length-2) else x)
theorem aQE(s:St)(x:aC)(KV Kp)(hl:x.length<=4611686018427387904)(hk:KV s (.bool (aBt x))):Den cx 274 [.str x] KV Kp s:=by
 (refine aO func274 [0,2,3] ?_;simp only[go_sem,ntmps274,f274]);refine aE7 _ _ _ _ hl ?_;cases hf:pG x<;>simp only[aBt,hf,if_true,cJ,if_false]at hk⊢<;>simp only[go_sem]<;>refine wP _ _ _ _ ?_<;>simp only[go_sem]<;>exact aN hk
def bwA(r:Nat):Option Nat->A
 | none=>.nilp
 | some _=>.ptr r 0
def bwO(e:TypeId)(r:Nat)(tk:Option Nat)(acc:aC):Ob:=.cells e [bwA r tk,gv tk (eP acc)]
structure Bw (s:St) (e:TypeId) (r:Nat) (tk:Option Nat) (acc:aC):Prop where
 ob:s.getO r=some (bwO e r tk acc)
 own:∀t,tk=some t->s.getT t=some (acc.length,5)
 nil:tk=none->acc=[]
def uP(s:St)(e:TypeId)(r t:Nat)(acc:aC):St:=(s.setT t (acc.length,5)).setO r (bwO e r (some t) acc)
theorem aTr(s:St)(e:TypeId)(r t:Nat)(acc:aC):Bw (uP s e r t acc) e r (some t) acc :=
 ⟨by rw[uP,aJ,if_pos rfl],λu h=>by cases h;rw[uP,getT_setO,dE,if_pos rfl],λh=>by cases h⟩
theorem aOt(x y:aC):eP (x++y)=eP x++eP y:=by simp[eP]
theorem aOY(x:aC):∀y,y∈eP x->y.cells.length=1:=by
 intro y hy;simp only[eP,cC]at hy;obtain⟨c,_,rfl⟩:=hy;rfl
theorem aOo(b o:Nat)(s:St)(KV Kp:St->A->Prop)(hk:KV s (.ptr b o)):Den cx 262 [.ptr b o] KV Kp s:=by
 refine aE2 (C:=cx) (fn:=f262) func262 rfl rfl rfl (e:=Extern.AbiNoEscape.same) (by kernel_rfl) λg vals hv=>?_
 have hl:=hv.1
 match vals,hl with
 | [v],_=>exact⟨v,_,λw=>rfl,hv.2 0 _ v rfl rfl,hk⟩
theorem cv1:cx.cv 151 253=some 154:=rfl
theorem cv2:cx.cv 253 151=some 154:=rfl
theorem aNE(e:TypeId)(r:Nat)(tk:Option Nat)(v:A)(s:St)(KV Kp:St->A->Prop)(hv:v.one=true)(he:e=154\/e=187)(hr:s.getO r=some (.cells e [bwA r tk,v]))
  (hk:KV (s.setO r (.cells e [.ptr r 0,v])) (.tuple [])):Den cx 186 [.ptr r 0] KV Kp s:=by
 (refine aO func186 [0,6,19] ?_;simp only[go_sem,ntmps186,f186]);cases tk with
 | none =>
  simp only[bwA]at hr;rcases he with rfl|rfl
  all_goals simp only[go_sem,hr,cv1,cv2,true_or,or_true]
  all_goals (refine aOo _ _ _ _ _ ?_;simp only[go_sem,hr,cv1,cv2,hv,true_or,or_true])
  all_goals exact aP hk cS
 | some t =>
  simp only[bwA]at hr;simp only[go_sem,hr,Nat.beq_refl,hv];exact aP hk (sA hr)
theorem aSu{s:St}{tk:Option Nat}{acc x:aC}{KV:St->A->Prop}(hn:tk=none->acc=[])(ht:∀t,tk=some t->s.getT t=some (acc.length,5))(hl:acc.length+x.length<=4294967296)
  (hK:∀t,(tk=some t\/tk=none/\s.getT t=none)->KV (s.setT t ((acc++x).length,5)) (.list (some t) (eP (acc++x)))):yK cx s 5 x KV (gv tk (eP acc)):=by
 cases tk with
 | none =>
  have h0:=hn rfl;subst h0;refine⟨by simpa using hl,λt h=>?_⟩;exact hK t (.inr ⟨rfl,h⟩)
 | some t =>
  refine⟨⟨by rw[wS];exact ht t rfl,aOY acc,by rw[wS];exact hl⟩,?_⟩;have:=hK t (.inl rfl);rw[aOt,aG]at this;rw[wS];exact this
theorem sE1:aAv cx { k:=TK.slice 5,sz:=1,bytes:=24,zero:=[A.nils] } 9=some 5:=by
 simp only[aAv,go_sem]
theorem aOA(e:TypeId)(r:Nat)(tk:Option Nat)(acc x:aC)(s:St)(KV Kp:St->A->Prop)(he:e=154\/e=187)(hb:Bw s e r tk acc)(hl:acc.length+x.length<=4294967296)
  (hk:∀t,(tk=some t\/tk=none/\s.getT t=none)->KV (uP s e r t (acc++x)) (.tuple [.int .i64 x.length,.nili])):Den cx 102 [.ptr r 0,.str x] KV Kp s:=by
 have hr:=hb.ob;unfold bwO at hr;(refine aO func102 [0,1,4,5] ?_;simp only[go_sem,ntmps102,f102]);refine aNE e r tk _ _ _ _ (rH ..) he hr ?_;simp only[go_sem];simp only[go_sem,sE1];refine aSu hb.nil (λt h=>by rw[getT_setO];exact hb.own t h) hl (λt ht=>?_);simp only[go_sem];refine aP (hk t ht) ?_;unfold uP;exact cS
theorem aHT(e:TypeId)(r t:Nat)(acc:aC)(s:St)(KV Kp:St->A->Prop)(hb:Bw s e r (some t) acc)(hne:acc≠[])
  (hk:KV (s.delT t) (.str acc)):Den cx 103 [.ptr r 0] KV Kp s:=by
 have hr:=hb.ob;have ht:=hb.own t rfl;unfold bwO at hr;rw[dO]at hr;cases acc with
 | nil=>exact absurd rfl hne
 | cons c x =>
 have eb:eP (c::x)=.int .u8 c.toNat::eP x:=rfl;rw[eb]at hr;(refine aO func103 [0,2] ?_;simp only[go_sem,ntmps103,f103]);(refine bL (OT.l [0,1,2,3,5,6,7,8,9,4,10,11] .nil) [(4,[8])] ?_;simp only[go_sem,hr]);exact⟨by rw[ht,aE,wS],c::x,rfl,aN hk⟩
section
def Tok.name(t:Tok):aC:=if t.kind=2 then Lib.itoa t.n else t.text
def eH(t:Tok)(x:aC):Bool:=(decide (t.kind=4)||decide (t.kind=1))&&decide (t.text=x)
def isT(x:aC):List Tok->Bool
 | []=>false
 | t::_=>eH t x
def Tok.free(t:Tok):Bool:=decide (t.kind=1)&&!decide (t.text∈gX)
def fW(fin:Fault)(code:Int):List Tok->Fault
 | []=>fin
 | t::_=>⟨code,t.name,t.line,t.col⟩
def pR(fin:Fault):List Tok->Fault
 | []=>fin
 | t::_=>⟨3,[],t.line,t.col⟩
inductive Rd (α:Type) where
 | ok (a:α) (w:List Tok) (n:Nat)
 | bad (f:Fault)
def Rd.bind{α β:Type}(r:Rd α)(k:α->List Tok->Nat->Rd β):Rd β:=match r with
 | .ok a w n=>k a w n
 | .bad f=>.bad f
def Rd.to{α:Type}(r:Rd α)(k:α->List Tok->Nat->Prop)(b:Fault->Prop):Prop:=match r with
 | .ok a w n=>k a w n
 | .bad f=>b f
theorem bR{α β:Type}(r:Rd α)(k:α->List Tok->Nat->Rd β)(p:β->List Tok->Nat->Prop)(b:Fault->Prop) :
  (r.bind k).to p b=r.to (λa w n=>(k a w n).to p b) b:=by cases r<;>rfl
theorem aT{α:Type}{r:Rd α}{p p':α->List Tok->Nat->Prop}{b b':Fault->Prop}(h:r.to p b)(hp:∀a w n,p a w n->p' a w n)(hb:∀f,b f->b' f):r.to p' b':=by
 cases r with
 | ok a w n=>exact hp a w n h
 | bad f=>exact hb f h
theorem bZ{α:Type}(a:α)(w:List Tok)(n:Nat)(p:α->List Tok->Nat->Prop)(b:Fault->Prop):(Rd.ok a w n).to p b=p a w n:=rfl
theorem eJ{α:Type}(f:Fault)(p:α->List Tok->Nat->Prop)(b:Fault->Prop):(Rd.bad f:Rd α).to p b=b f:=rfl
theorem zJ{α:Type}(c:Prop) [Decidable c] (x y:Rd α) (p:α->List Tok->Nat->Prop) (b:Fault->Prop):(if c then x else y).to p b=if c then x.to p b else y.to p b:=by
 split<;>rfl
section
variable (lk:Bool) (fin:Fault)
def fZ(x:aC)(w:List Tok)(n:Nat):Rd Unit:=if isT x w=true then .ok () w.tail n else .bad (fW fin 11 w)
def eN:List Tok->Nat->Rd aC
 | [],_=>.bad fin
 | t::w,n=>if t.free=true then .ok t.text w n else .bad (fW fin 11 (t::w))
def rG(most:Int):List Tok->Nat->Rd Int
 | [],_=>.bad fin
 | t::w,n=>if t.kind=2 then(if t.n<1\/most<t.n then .bad (fW fin 20 (t::w)) else .ok t.n w n) else .bad (fW fin 11 (t::w))
def tZ(have_ most:Nat)(w:List Tok)(n:Nat):Rd Unit:=if most<=have_ then .bad (pR fin w) else .ok () w n
def dD{σ:Type}(sep:aC)(one:σ->List Tok->Nat->Rd σ):Nat->σ->List Tok->Nat->Rd σ
 | 0,_,_,_=>.bad fin
 | f+1,a,w,n=>(one a w n).bind λa w n=>if isT sep w=true then dD sep one f a w.tail n else .ok a w n
def jR{α:Type}(one:List α->List Tok->Nat->Rd α)(acc:List α)(w:List Tok)(n:Nat):Rd (List α) :=
 dD fin [44] (λacc w n=>(one acc w n).bind λa w n=>.ok (acc++[a]) w n) (w.length+1) acc w n
def Tok.begins(t:Tok):Bool :=
 if t.kind=2\/t.kind=3 then true
 else if t.kind=1 then !decide (t.text∈gX)||(decide (t.text=[116,114,117,101])||decide (t.text=[102,97,108,115,101]))
 else decide (t.text∈[[45],[39],[95],[91],[123],[36]])
def sU(x:aC):Bool:=dM x&&(match x with|c::_=>decide (97<=c.toNat)&&decide (c.toNat<=122)|[]=>false)&&!decide (x=[116,114,117,101])&&!decide (x=[102,97,108,115,101])
def oO(first:Tok)(w:List Tok)(n:Nat):Rd Unit:=if 2000<n+1 then .bad ⟨3,[],first.line,first.col⟩ else .ok () w (n+1)
def qO(first:Tok)(last:Bool)(sort:aC)(w:List Tok)(n:Nat):Rd (List Tm) :=
 if isT [124] w=true then
  match w.tail with
  | []=>.bad fin
  | t::w=>if t.free=true then(if last=true then .bad ⟨19,t.text,t.line,t.col⟩ else(oO first w n).bind λ_ w n=>.ok [.mk 6 0 t.text sort [] []] w n) else .bad (fW fin 11 (t::w))
 else .ok [] w n
def nY(first:Tok)(tm:List Tok->Nat->Rd Tm)(acc:List Tm)(w:List Tok)(n:Nat):Rd Tm :=
 if acc.length=8 then
  match w with
  | []=>.bad fin
  | t::w=>if t.begins=true then .bad (if lk=true/\2000<=n then⟨3,[],first.line,first.col⟩ else⟨3,[],t.line,t.col⟩) else tm (t::w) n
 else tm w n
def sH(first:Tok)(tm:List Tok->Nat->Rd Tm)(t:Tok)(w:List Tok)(n:Nat):Rd Tm :=
 if t.text=[116,114,117,101] then .ok (.mk 2 1 [] [] [] []) w n
 else if t.text=[102,97,108,115,101] then .ok (.mk 2 0 [] [] [] []) w n
 else if isT [58] w=true then(eN fin w.tail n).bind λx w n=>.ok (.mk 6 0 t.text x [] []) w n
 else(fZ fin [40] w n).bind λ_ w n =>
  if isT [41] w=true then .ok (.mk 5 0 t.text [] [] []) w.tail n
  else(jR fin (nY lk fin first tm) [] w n).bind λl w n=>(fZ fin [41] w n).bind λ_ w n=>.ok (.mk 5 0 t.text [] l []) w n
def nX(tm:List Tok->Nat->Rd Tm)(acc:List Tm)(w:List Tok)(n:Nat):Rd (List Tm) :=
 (tm w n).bind λk w n=>(fZ fin [45,62] w n).bind λ_ w n=>(tm w n).bind λv w n=>.ok (acc++[k,v]) w n
def mV(first:Tok)(tm:List Tok->Nat->Rd Tm)(last:Bool)(t:Tok)(w:List Tok)(n:Nat):Rd Tm :=
 if t.text=[45] then
  match w with
  | []=>.bad fin
  | u::w=>if u.kind=2/\u.line=t.line/\u.col=t.col+1 then .ok (.mk 1 (-u.n) [] [] [] []) w n else .bad (fW fin 11 (u::w))
 else if t.text=[39] then
  match w with
  | []=>.bad fin
  | u::w=>if u.free=true/\sU u.text=true then .ok (.mk 4 0 u.text [] [] []) w n else .bad (fW fin 11 (u::w))
 else if t.text=[91] then
  (if isT [124] w = true ∨ isT [93] w = true then Rd.ok [] w n else jR fin (fun _ => tm) [] w n).bind fun l w n =>
   (qO fin first last [76,105,115,116] w n).bind λr w n=>(fZ fin [93] w n).bind λ_ w n=>.ok (.mk 7 0 [] [] l r) w n
 else if t.text=[123] then
  (if isT [124] w = true ∨ isT [125] w = true then Rd.ok [] w n else dD fin [44] (nX fin tm) (w.length + 1) [] w n).bind fun l w n =>
   (qO fin first last [77,97,112] w n).bind λr w n=>(fZ fin [125] w n).bind λ_ w n=>.ok (.mk 8 0 [] [] l r) w n
 else .ok (.mk 6 0 t.text [65,110,121] [] []) w n
def fC(first:Tok):Nat->List Tok->Nat->Rd Tm
 | _,[],_=>.bad fin
 | 0,t::w,_=>if t.begins=true then .bad (fW fin 19 (t::w)) else .bad (fW fin 11 (t::w))
 | k+1,t::w,n =>
  if t.begins=true then
   (oO first w n).bind fun _ w n =>
    if t.kind=2 then .ok (.mk 1 t.n [] [] [] []) w n
    else if t.kind=3 then .ok (.mk 3 0 t.text [] [] []) w n
    else if t.kind=1 then sH lk fin first (fC first k) t w n
    else mV fin first (fC first k) (decide (k=0)) t w n
  else .bad (fW fin 11 (t::w))
def gE(w:List Tok)(n:Nat):Rd Tm:=match w with
 | []=>.bad fin
 | t::_=>match fC lk fin t 60 w 0 with
  | .ok a w _=>.ok a w n
  | .bad f=>.bad f
def pP(w:List Tok)(n:Nat):Rd (List Tm) :=
 if isT [105,102] w=true then
  jR fin (λacc w n=>match w with
   | []=>.bad fin
   | t::r=>if t.begins=true then(tZ fin acc.length 20 (t::r) n).bind λ_ w n=>gE lk fin w n else gE lk fin (t::r) n) [] w.tail n
 else .ok [] w n
def lI{α:Type}(most have_:Nat)(w:List Tok)(n:Nat)(k:List Tok->Nat->Rd α):Rd α:=match w with
 | []=>.bad fin
 | t::r=>if t.free=true/\most<=have_ then .bad (pR fin (t::r)) else k (t::r) n
def oP(w:List Tok)(n:Nat):Rd Cel:=match w with
 | []=>.bad fin
 | t::r=>(eN fin (t::r) n).bind λx w n=>(fZ fin [58] w n).bind λ_ w n=>(eN fin w n).bind λy w n=>(fZ fin [61] w n).bind λ_ w n =>
   (gE lk fin w n).bind λi w n=>.ok ⟨x,y,i,t.line,t.col⟩ w n
def pJ:Nat->List Piece->List aC->Bool->List Tok->Nat->Rd (List Piece × List aC × Bool)
 | 0,_,_,_,_,_=>.bad fin
 | f+1,ps,az,tx,w,n =>
  if isT [45,62] w=true then .ok (ps,az,tx) w.tail n
  else match w with
   | []=>.bad fin
   | t::w=>if t.kind=3\/t.free=true then
     (if 20<=ps.length then .bad (pR fin (t::w))
     else if t.kind=3 then pJ f (ps++[⟨t.text,[]⟩]) az true w n
     else if 8<=az.length then .bad (pR fin (t::w))
     else pJ f (ps++[⟨[],t.text⟩]) (az++[t.text]) tx w n)
    else .bad (fW fin 11 (t::w))
def iE:Nat->Opr->List Tok->Nat->Rd Opr
 | 0,_,_,_=>.bad fin
 | f+1,o,w,n =>
  if isT [46] w=true then .ok o w n
  else match w with
   | []=>.bad fin
   | t::w =>
    if¬ t.kind=1 then .bad (fW fin 11 (t::w))
    else if t.text=[112,114,101,99] then
     (if 0<o.prec then .bad (fW fin 14 (t::w)) else(rG fin 20 w n).bind λm w n=>iE f { o with prec:=m } w n)
    else if t.text=[108,101,102,116] then
     (if o.assoc=0 then iE f { o with assoc:=1 } w n else .bad (fW fin 14 (t::w)))
    else if t.text=[114,105,103,104,116] then
     (if o.assoc=0 then iE f { o with assoc:=2 } w n else .bad (fW fin 14 (t::w)))
    else if t.text=[115,116,114,105,99,116] then
     (if 0 < o.strict.length then .bad (fW fin 14 (t :: w)) else
      (fZ fin [40] w n).bind λ_ w n=>(jR fin (λ_=>rG fin 8) [] w n).bind λl w n=>(fZ fin [41] w n).bind λ_ w n=>iE f { o with strict:=l } w n)
    else .bad (fW fin 11 (t::w))
def wB(w:List Tok)(n:Nat):Rd Opr :=
 (eN fin w n).bind fun x w n => (fZ fin [58] w n).bind fun _ w n => (pJ fin (w.length + 1) [] [] false w n).bind fun p w n =>
  (eN fin w n).bind λy w n=>iE fin (w.length+1) ⟨x,p.2.1,y,if p.2.2=true then p.1 else [],0,0,[]⟩ w n
def mH:Nat->List aC->List Tok->Nat->Rd (List aC)
 | 0,_,_,_=>.bad fin
 | f+1,az,w,n =>
  if isT [45,62] w=true then .ok az w.tail n
  else(lI fin 8 az.length w n λw n=>eN fin w n).bind λx w n=>mH f (az++[x]) w n
def vX(w:List Tok)(n:Nat):Rd Opr :=
 (eN fin w n).bind fun x w n => (fZ fin [58] w n).bind fun _ w n => (mH fin (w.length + 1) [] w n).bind fun az w n =>
  (eN fin w n).bind λy w n=>.ok ⟨x,az,y,[],0,0,[]⟩ w n
def oN(r:Rul)(w:List Tok)(n:Nat):Rd Rul:=match w with
 | []=>.bad fin
 | t::w =>
  if eH t [110,101,119]=true then
   (fZ fin [40] w n).bind λ_ w n=>(jR fin (λ_=>gE lk fin) [] w n).bind λl w n=>(fZ fin [41] w n).bind λ_ w n=>.ok { r with new:=r.new++[⟨l⟩] } w n
  else if eH t [100,114,111,112]=true then
   (fZ fin [64] w n).bind λ_ w n=>(eN fin w n).bind λx w n=>.ok { r with drop:=r.drop++[x] } w n
  else
   (eN fin (t :: w) n).bind fun x w n =>
    (if isT [64] w = true then eN fin w.tail n else Rd.ok [] w n).bind fun y w n => (fZ fin [58] w n).bind fun _ w n => (gE lk fin w n).bind fun l w n =>
     (if isT [61,62] w = true then (gE lk fin w.tail n).bind fun u w n => Rd.ok [u] w n else Rd.ok [] w n).bind fun rs w n =>
      .ok { r with parts:=r.parts++[⟨x,y,l,rs,t.line,t.col⟩] } w n
def rJ(c:Rul × Nat)(w:List Tok)(n:Nat):Rd (Rul × Nat):=match w with
 | []=>.bad fin
 | t::r=>if(t.kind=1/\(¬ t.text∈gX\/t.text=[110,101,119]\/t.text=[100,114,111,112]))/\20<=c.2 then .bad (pR fin (t::r))
  else(oN lk fin c.1 (t::r) n).bind λx w n=>.ok (x,c.2+1) w n
def vT(line col:Int)(w:List Tok)(n:Nat):Rd Rul :=
 (eN fin w n).bind fun x w n => (fZ fin [58] w n).bind fun _ w n =>
  (dD fin [59] (rJ lk fin) (w.length+1) (⟨x,[],[],[],[],line,col⟩,0) w n).bind λc w n=>(pP lk fin w n).bind λl w n=>.ok { c.1 with cond:=l } w n
def mX(d:Dfn)(t:Tok)(w:List Tok)(n:Nat):Rd Dfn :=
 if eH t [115,116,97,114,116]=true then
  (if d.start=[] then(eN fin w n).bind λx w n=>.ok { d with start:=x } w n else .bad (fW fin 14 (t::w)))
 else if eH t [119,97,116,99,104]=true then
  (if d.watch=[] then(eN fin w n).bind λx w n=>.ok { d with watch:=x } w n else .bad (fW fin 14 (t::w)))
 else if eH t [99,101,108,108]=true then
  (if 12<=d.once.length then .bad (pR fin (t::w)) else(oP lk fin w n).bind λc w n=>.ok { d with once:=d.once++[c] } w n)
 else if eH t [109,97,110,121]=true then
  (if d.kind = [] then
   (eN fin w n).bind fun x w n => (fZ fin [40] w n).bind fun _ w n =>
    (jR fin (λacc w n=>lI fin 12 acc.length w n λw n=>oP lk fin w n) d.many w n).bind λl w n=>(fZ fin [41] w n).bind λ_ w n=>.ok { d with kind:=x,many:=l } w n
  else .bad (fW fin 14 (t::w)))
 else .bad (fW fin 11 (t::w))
def gY(d:Dfn)(w:List Tok)(n:Nat):Rd Dfn:=match w with
 | []=>.bad fin
 | t::w =>
  (if eH t [115,111,114,116] = true then
   (jR fin (λacc w n=>lI fin 40 acc.length w n λw n=>eN fin w n) d.sig.sorts w n).bind λl w n=>Rd.ok { d with sig:={ d.sig with sorts:=l } } w n
  else if eH t [115,117,98,115,111,114,116]=true then
   (if 200 ≤ d.sig.below.length then Rd.bad (pR fin (t :: w)) else
    (eN fin w n).bind λx w n=>(fZ fin [60] w n).bind λ_ w n=>(eN fin w n).bind λy w n=>Rd.ok { d with sig:={ d.sig with below:=d.sig.below++[⟨x,y⟩] } } w n)
  else if eH t [118,97,108,117,101]=true then
   (jR fin (λ_=>eN fin) [] w n).bind λl w n=>Rd.ok { d with sig:={ d.sig with values:=d.sig.values++l } } w n
  else if eH t [111,112]=true\/eH t [102,117,110]=true then
   (if 200<=d.sig.ops.length+d.sig.funs.length then Rd.bad (pR fin (t::w))
   else if t.text=[111,112] then(wB fin w n).bind λo w n=>Rd.ok { d with sig:={ d.sig with ops:=d.sig.ops++[o] } } w n
   else(vX fin w n).bind λo w n=>Rd.ok { d with sig:={ d.sig with funs:=d.sig.funs++[o] } } w n)
  else if eH t [108,101,116]=true then
   (if 300 ≤ d.eqs.length then Rd.bad (pR fin (t :: w)) else
    (gE lk fin w n).bind fun l w n => (fZ fin [61] w n).bind fun _ w n => (gE lk fin w n).bind fun r w n => (pP lk fin w n).bind fun c w n =>
     Rd.ok { d with eqs:=d.eqs++[⟨l,r,c,t.line,t.col⟩] } w n)
  else if eH t [114,117,108,101]=true then
   (if 300<=d.rules.length then Rd.bad (pR fin (t::w)) else(vT lk fin t.line t.col w n).bind λr w n=>Rd.ok { d with rules:=d.rules++[r] } w n)
  else mX lk fin d t w n).bind λd w n=>(fZ fin [46] w n).bind λ_ w n=>.ok d w n
def oJ:Nat->Dfn->List Tok->Nat->Rd Dfn
 | 0,_,_,_=>.bad fin
 | f+1,d,w,n=>match w with
  | []=>.ok d [] n
  | _::_=>(gY lk fin d w n).bind λd w n=>oJ f d w n
def gL:Dfn:=⟨[],⟨[],[],[],[],[]⟩,[],[],[],[],[],[],[]⟩
def kV(w:List Tok):Rd Dfn :=
 (fZ fin [108,97,110,103,117,97,103,101] w 0).bind λ_ w n=>(eN fin w n).bind λx w n=>(fZ fin [46] w n).bind λ_ w n=>oJ lk fin (w.length+1) { gL with name:=x } w n
end
end
theorem oZ{α:Type}{r:α->α->Bool}(h:∀a,r a a=true)(xs:List α):cO r xs xs=true :=
 (iK rfl).2 λi a b ha hb=>by rw[ha]at hb;cases hb;exact h a
theorem aAS(l:List aC):cO (λa b=>decide (a=b)) l l=true:=oZ (r:=λa b:aC=>decide (a=b)) (λa=>kD rfl) l
theorem aA2(l:List Tm):cO Tm.same l l=true:=oZ Tm.same_self l
theorem Opr.same_self(a:Opr):a.same a=true:=by
 unfold Opr.same;rw[aAS,oZ (λa=>by simp),oZ (λa=>by simp)];simp
theorem Sig.same_self(a:Sig):a.same a=true:=by
 unfold Sig.same;rw[aAS,aAS,oZ Opr.same_self,oZ Opr.same_self,oZ (λa=>by simp)];rfl
theorem Eqn.same_self(a:Eqn):a.same a=true:=by simp[Eqn.same,Tm.same_self,aA2]
theorem Cel.same_self(a:Cel):a.same a=true:=by simp[Cel.same,Tm.same_self]
theorem Part.same_self(a:Part):a.same a=true:=by simp[Part.same,Tm.same_self,aA2]
theorem Fresh.same_self(a:Fresh):a.same a=true:=aA2 _
theorem Rul.same_self(a:Rul):a.same a=true:=by simp[Rul.same,aA2,aAS,oZ Part.same_self,oZ Fresh.same_self]
theorem Dfn.same_self(a:Dfn):a.same a=true:=by
 simp[Dfn.same,Sig.same_self,oZ Eqn.same_self,oZ Cel.same_self,oZ Rul.same_self]
section
@[reducible] def Tok.to(t:Tok)(l c:Int):Tok:=⟨t.kind,t.text,t.n,l,c⟩
def Adj(t:Tok)(w:List Tok):Prop:=∀v z,w=v::z->t.kind≠1->t.kind≠2->t.kind≠3->t.text=[45]->v.kind=2->v.line=t.line/\v.col=t.col+1
inductive Mv:List Tok->List Tok->Prop
 | nil:Mv [] []
 | cons {t:Tok} {l c:Int} {w w':List Tok} (ha:Adj (t.to l c) w') (hw:Mv w w'):Mv (t::w) (t.to l c::w')
theorem Mv.len{w w':List Tok}(h:Mv w w'):w.length=w'.length:=by
 induction h with
 | nil=>rfl
 | cons _ _ ih=>simp only[aE,ih]
theorem Mv.tail{w w':List Tok}(h:Mv w w'):Mv w.tail w'.tail:=by
 cases h with
 | nil=>exact .nil
 | cons _ h=>exact h
theorem Mv.isT{w w':List Tok}(h:Mv w w')(x:aC):isT x w'=isT x w:=by
 cases h<;>rfl
section
variable {α β σ:Type} {P:α->α->Prop} {Q:β->β->Prop}
@[reducible] def fz(a b:Int):Fault:=⟨12,[],a,b⟩
def Rd.pl(P:α->α->Prop):Rd α->Rd α->Prop
 | .bad f,_=>f.code≠0
 | .ok a w n,r=>∃b w',r=.ok b w' n/\P a b/\Mv w w'
def Pl(P:α->α->Prop)(F1 F2:List Tok->Nat->Rd α):Prop:=∀w w' n,Mv w w'->(F1 w n).pl P (F2 w' n)
theorem dP{f:Fault}{r:Rd α}(h:f.code≠0:=by first|decide|simp[fW,pR,fz]):(Rd.bad f:Rd α).pl P r:=h
theorem nC{a b:α}(h:P a b){w w':List Tok}(hw:Mv w w')(n:Nat):(Rd.ok a w n).pl P (.ok b w' n):=⟨b,w',rfl,h,hw⟩
theorem Pl.ok{a b:α}(h:P a b):Pl P (λw n=>.ok a w n) (λw n=>.ok b w n):=λw w' n hw=>nC h hw n
theorem jW{r1 r2:Rd α}{k1 k2:α->List Tok->Nat->Rd β}(h:r1.pl P r2)(hk:∀a b,P a b->Pl Q (k1 a) (k2 b)):(r1.bind k1).pl Q (r2.bind k2):=by
 cases r1 with
 | bad f=>exact h
 | ok a w n =>
  obtain⟨b,w',rfl,hp,hw⟩:=h;exact hk a b hp w w' n hw
theorem Pl.bind{F1 F2:List Tok->Nat->Rd α}{k1 k2:α->List Tok->Nat->Rd β}(h:Pl P F1 F2)(hk:∀a b,P a b->Pl Q (k1 a) (k2 b)) :
  Pl Q (λw n=>(F1 w n).bind (k1 ·)) (λw n=>(F2 w n).bind (k2 ·)):=λw w' n hw=>jW (h w w' n hw) hk
theorem dN(c:Prop) [Decidable c] {r1 r2 s1 s2:Rd α} (h:r1.pl P r2) (g:s1.pl P s2):(if c then r1 else s1).pl P (if c then r2 else s2):=by
 by_cases hc:c
 .simp only[hc,if_true];exact h
 .simp only[hc,if_false];exact g
theorem aC6(c:Prop) [Decidable c] {r1 r2 s1 s2:Rd α} (h:c->r1.pl P r2) (g:¬ c->s1.pl P s2):(if c then r1 else s1).pl P (if c then r2 else s2):=by
 by_cases hc:c
 .simp only[hc,if_true];exact h hc
 .simp only[hc,if_false];exact g hc
theorem aK1(c:Prop) [Decidable c] {F1 F2 G1 G2:List Tok->Nat->Rd α} (h:Pl P F1 F2) (g:Pl P G1 G2) :
  Pl P (λw n=>if c then F1 w n else G1 w n) (λw n=>if c then F2 w n else G2 w n):=λw w' n hw=>dN c (h w w' n hw) (g w w' n hw)
theorem Pl.isT(x:aC){F1 F2 G1 G2:List Tok->Nat->Rd α}(h:Pl P F1 F2)(g:Pl P G1 G2) :
  Pl P (λw n=>if Go.AV.isT x w=true then F1 w.tail n else G1 w n) (λw n=>if Go.AV.isT x w=true then F2 w.tail n else G2 w n):=λw w' n hw=>by
 simp only[hw.isT x];exact dN _ (h _ _ n hw.tail) (g _ _ n hw)
theorem aJ1(x y:aC){F1 F2 G1 G2:List Tok->Nat->Rd α}(h:Pl P F1 F2)(g:Pl P G1 G2) :
  Pl P (λw n=>if Go.AV.isT x w=true\/Go.AV.isT y w=true then F1 w n else G1 w n) (λw n=>if Go.AV.isT x w=true\/Go.AV.isT y w=true then F2 w n else G2 w n):=λw w' n hw=>by
 simp only[hw.isT x,hw.isT y];exact dN _ (h _ _ n hw) (g _ _ n hw)
theorem Pl.bad{f:List Tok->Nat->Fault}{F2:List Tok->Nat->Rd α}(h:∀w n,(f w n).code≠0):Pl P (λw n=>.bad (f w n)) F2:=λw w' n hw=>h w n
theorem Pl.of{F1 F2:List Tok->Nat->Rd α}(h0:∀n,(F1 [] n).pl P (F2 [] n))(h1:∀t l c w w' n,Adj (t.to l c) w'->Mv w w'->(F1 (t::w) n).pl P (F2 (t.to l c::w') n)):Pl P F1 F2:=by
 intro w w' n hw;cases hw with
 | nil=>exact h0 n
 | cons ha hw=>exact h1 _ _ _ _ _ n ha hw
theorem Pl.len{F1 F2:Nat->List Tok->Nat->Rd α}(h:∀f,Pl P (F1 f) (F2 f)):Pl P (λw n=>F1 (w.length+1) w n) (λw n=>F2 (w.length+1) w n):=λw w' n hw=>by
 show(F1 (w.length+1) w n).pl P (F2 (w'.length+1) w' n);rw[<-hw.len];exact h _ w w' n hw
end
section
variable {α σ:Type} {a1 b1:Int} {f2:Fault} {P:α->α->Prop}
theorem jP(x:aC):Pl Eq (fZ (fz a1 b1) x) (fZ f2 x):=by
 have h:=Pl.isT x (Pl.ok (P:=Eq) (rfl:()=())) (Pl.bad (P:=Eq) (f:=λw _=>fW (fz a1 b1) 11 w) (F2:=λw _=>.bad (fW f2 11 w)) (λw n=>by cases w<;>simp[fW,fz]));exact h
theorem kP:Pl Eq (eN (fz a1 b1)) (eN f2):=Pl.of (λn=>dP) (λt l c w w' n ha hw=>dN _ (nC rfl hw n) dP)
theorem aID(most:Int):Pl Eq (rG (fz a1 b1) most) (rG f2 most):=Pl.of (λn=>dP) (λt l c w w' n ha hw=>dN _ (dN _ dP (nC rfl hw n)) dP)
theorem aR0(a b:Nat):Pl Eq (tZ (fz a1 b1) a b) (tZ f2 a b):=λw w' n hw=>dN _ (dP (by cases w<;>simp[pR,fz])) (nC rfl hw n)
theorem aCY(sep:aC){S:σ->σ->Prop}{one1 one2:σ->List Tok->Nat->Rd σ}(h:∀a b,S a b->Pl S (one1 a) (one2 b)):∀(f:Nat) (a b:σ),S a b->Pl S (dD (fz a1 b1) sep one1 f a) (dD f2 sep one2 f b)
 | 0,a,b,_=>λw w' n hw=>dP
 | f+1,a,b,hab=>by
  have ih:=aCY sep h f
  have e:=Pl.bind (h a b hab) (Q:=S) (k1:=λa w n=>if isT sep w=true then dD (fz a1 b1) sep one1 f a w.tail n else .ok a w n) (k2:=λa w n=>if isT sep w=true then dD f2 sep one2 f a w.tail n else .ok a w n)
   (λa b hab=>Pl.isT sep (ih a b hab) (Pl.ok hab))
  exact e
theorem aJ9{L:List α->List α->Prop}(happ:∀{l l':List α} {a b:α},L l l'->P a b->L (l++[a]) (l'++[b])){one1 one2:List α->List Tok->Nat->Rd α}(h:∀l l',L l l'->Pl P (one1 l) (one2 l')){acc acc':List α}(hacc:L acc acc') :
  Pl L (jR (fz a1 b1) one1 acc) (jR f2 one2 acc') :=
 Pl.len (F1:=λf w n=>dD (fz a1 b1) [44] (λacc w n=>(one1 acc w n).bind λa w n=>.ok (acc++[a]) w n) f acc w n) (F2:=λf w n=>dD f2 [44] (λacc w n=>(one2 acc w n).bind λa w n=>.ok (acc++[a]) w n) f acc' w n)
  (λf=>aCY [44] (λa b hab=>Pl.bind (h a b hab) (λx y hxy=>Pl.ok (happ hab hxy))) f acc acc' hacc)
theorem xP{one1 one2:List α->List Tok->Nat->Rd α}(h:∀l,Pl Eq (one1 l) (one2 l))(acc:List α):Pl Eq (jR (fz a1 b1) one1 acc) (jR f2 one2 acc) :=
 aJ9 (L:=Eq) (P:=Eq) (λh1 h2=>by rw[h1,h2]) (λl l' e=>by subst e;exact h l) rfl
theorem aRp(t u:Tok):Pl Eq (oO t) (oO u):=λw w' n hw=>dN _ dP (nC rfl hw _)
theorem aKD(t u:Tok)(last:Bool)(sort:aC):Pl Eq (qO (fz a1 b1) t last sort) (qO f2 u last sort):=by
 refine Pl.of (λn=>nC rfl .nil n) (λx l c w w' n ha hw=>?_);refine dN _ ?_ (nC rfl (.cons ha hw) n);cases hw with
 | nil=>exact dP
 | cons ha hw=>exact dN _ (dN _ dP (jW (aRp t u _ _ n hw) (λ_ _ _=>Pl.ok rfl))) dP
theorem aTx(t u:Tok){tm1 tm2:List Tok->Nat->Rd Tm}(h:Pl Eq tm1 tm2)(acc:List Tm):Pl Eq (nY false (fz a1 b1) t tm1 acc) (nY false f2 u tm2 acc):=by
 by_cases h8:acc.length=8
 .refine Pl.of (λn=>by simp only[nY,h8,if_true];exact dP) (λx l c w w' n ha hw=>?_);simp only[nY,h8,if_true];exact dN _ dP (h _ _ n (.cons ha hw))
 .have e:∀f t tm,nY false f t tm acc=tm:=λf t tm=>by funext w n;simp only[nY,h8,if_false]
  rw[e,e];exact h
theorem aP1(t u:Tok){tm1 tm2:List Tok->Nat->Rd Tm}(h:Pl Eq tm1 tm2)(x:Tok)(l c:Int):Pl Eq (sH false (fz a1 b1) t tm1 x) (sH false f2 u tm2 (x.to l c)):=by
 have e:=aK1 (P:=Eq) (x.text=[116,114,117,101]) (Pl.ok (rfl:Tm.mk 2 1 [] [] [] []=_)) (aK1 (x.text=[102,97,108,115,101]) (Pl.ok (rfl:Tm.mk 2 0 [] [] [] []=_))
  (Pl.isT [58] (Pl.bind (kP (a1 := a1) (b1 := b1) (f2 := f2)) (fun y z hyz => Pl.ok (congrArg (fun y => Tm.mk 6 0 x.text y [] []) hyz)))
   (Pl.bind (jP (a1 := a1) (b1 := b1) (f2 := f2) [40]) (fun _ _ _ => Pl.isT [41] (Pl.ok (rfl : Tm.mk 5 0 x.text [] [] [] = _))
    (Pl.bind (xP (a1:=a1) (b1:=b1) (f2:=f2) (aTx (a1:=a1) (b1:=b1) (f2:=f2) t u h) []) (λy z hyz=>Pl.bind (jP (a1:=a1) (b1:=b1) (f2:=f2) [41]) (λ_ _ _=>Pl.ok (congrArg (λy=>Tm.mk 5 0 x.text [] y []) hyz))))))))
 exact e
theorem aTF{tm1 tm2:List Tok->Nat->Rd Tm}(h:Pl Eq tm1 tm2)(acc acc':List Tm)(hacc:acc=acc'):Pl Eq (nX (fz a1 b1) tm1 acc) (nX f2 tm2 acc'):=by
 subst hacc;have e:=Pl.bind (Q:=Eq) h (λk k' hk=>Pl.bind (jP (a1:=a1) (b1:=b1) (f2:=f2) [45,62]) (λ_ _ _=>Pl.bind h (λv v' hv=>Pl.ok (by rw[hk,hv]:acc++[k,v]=acc++[k',v']))));exact e
theorem aPO(t u:Tok){tm1 tm2:List Tok->Nat->Rd Tm}(h:Pl Eq tm1 tm2)(last:Bool)(x:Tok)(l c:Int)(hx:x.kind≠1/\x.kind≠2/\x.kind≠3)(w w':List Tok)(n:Nat)(ha:Adj (x.to l c) w')(hw:Mv w w') :
  (mV (fz a1 b1) t tm1 last x w n).pl Eq (mV f2 u tm2 last (x.to l c) w' n):=by
 have el:Pl Eq (λw n=>dD (fz a1 b1) [44] (nX (fz a1 b1) tm1) (w.length+1) [] w n) (λw n=>dD f2 [44] (nX f2 tm2) (w.length+1) [] w n) :=
  Pl.len (F1:=λf w n=>dD (fz a1 b1) [44] (nX (fz a1 b1) tm1) f [] w n) (F2:=λf w n=>dD f2 [44] (nX f2 tm2) f [] w n) (λf=>aCY [44] (aTF h) f [] [] rfl)
 refine aC6 _ (λhm=>?_) (λ_=>dN _ ?_ (dN _ ?_ (dN _ ?_ (nC rfl hw n))))
 .cases hw with
  | nil=>exact dP
  | @cons v l2 c2 z z' ha2 hw =>
   by_cases hc:v.kind=2/\v.line=x.line/\v.col=x.col+1
   .have h2:=ha _ _ rfl hx.1 hx.2.1 hx.2.2 hm hc.1;show(if _ then _ else _:Rd Tm).pl Eq (if _ then _ else _);rw[if_pos hc,if_pos ⟨hc.1,h2⟩];exact nC rfl hw n
   .show(if _ then _ else _:Rd Tm).pl Eq (if _ then _ else _);rw[if_neg hc];exact dP
 .cases hw with
  | nil=>exact dP
  | cons ha2 hw=>exact dN _ (nC rfl hw n) dP
 .exact(Pl.bind (P:=Eq) (Q:=Eq) (aJ1 [124] [93] (Pl.ok (rfl:([]:List Tm)=_)) (xP (a1:=a1) (b1:=b1) (f2:=f2) (λ_=>h) [])) (λa a' e1=>Pl.bind (aKD (a1:=a1) (b1:=b1) (f2:=f2) t u last [76,105,115,116]) (λr r' e2=>Pl.bind (jP (a1:=a1) (b1:=b1) (f2:=f2) [93]) (λ_ _ _=>Pl.ok (by rw[e1,e2]:Tm.mk 7 0 [] [] a r=Tm.mk 7 0 [] [] a' r'))))) w w' n hw
 .exact(Pl.bind (P:=Eq) (Q:=Eq) (aJ1 [124] [125] (Pl.ok (rfl:([]:List Tm)=_)) el) (λa a' e1=>Pl.bind (aKD (a1:=a1) (b1:=b1) (f2:=f2) t u last [77,97,112]) (λr r' e2=>Pl.bind (jP (a1:=a1) (b1:=b1) (f2:=f2) [125]) (λ_ _ _=>Pl.ok (by rw[e1,e2]:Tm.mk 8 0 [] [] a r=Tm.mk 8 0 [] [] a' r'))))) w w' n hw
theorem aKJ(t u:Tok):∀(k:Nat),Pl Eq (fC false (fz a1 b1) t k) (fC false f2 u k)
 | 0=>Pl.of (λn=>dP) (λx l c w w' n ha hw=>dN _ dP dP)
 | k+1=>by
  have ih:=aKJ t u k;refine Pl.of (λn=>dP) (λx l c w w' n ha hw=>?_);refine dN _ ?_ dP;unfold oO;by_cases hn:2000<n+1
  .simp only[hn,if_true];exact dP
  .simp only[hn,if_false,Rd.bind];refine aC6 _ (λ_=>nC rfl hw _) (λh2=>aC6 _ (λ_=>nC rfl hw _) (λh3=>aC6 _ (λ_=>aP1 t u ih x l c _ _ _ hw) (λh1=>?_)));exact aPO t u ih _ x l c ⟨h1,h2,h3⟩ w w' _ ha hw
theorem vC:Pl Eq (gE false (fz a1 b1)) (gE false f2):=by
 refine Pl.of (λn=>dP) (λx l c w w' n ha hw=>?_);have h:=aKJ (a1:=a1) (b1:=b1) (f2:=f2) x (x.to l c) 60 _ _ 0 (Mv.cons ha hw);simp only[gE];cases hr:fC false (fz a1 b1) x 60 (x::w) 0 with
 | bad f=>rw[hr]at h;exact h
 | ok a w2 m =>
  rw[hr]at h;obtain⟨b,w3,h1,h2,h3⟩:=h;rw[h1];exact nC h2 h3 n
theorem aFZ{k1 k2:List Tok->Nat->Rd α}(h:Pl P k1 k2)(a b:Nat):Pl P (λw n=>lI (fz a1 b1) a b w n k1) (λw n=>lI f2 a b w n k2) :=
 Pl.of (λn=>dP) (λt l c w w' n ha hw=>dN _ dP (h _ _ n (.cons ha hw)))
theorem aIW:Pl Eq (pP false (fz a1 b1)) (pP false f2):=by
 have one:∀acc:List Tm,Pl Eq (λw n=>match w with|[]=>.bad (fz a1 b1)|t::r=>if t.begins=true then(tZ (fz a1 b1) acc.length 20 (t::r) n).bind λ_ w n=>gE false (fz a1 b1) w n else gE false (fz a1 b1) (t::r) n)
   (λw n=>match w with|[]=>.bad f2|t::r=>if t.begins=true then(tZ f2 acc.length 20 (t::r) n).bind λ_ w n=>gE false f2 w n else gE false f2 (t::r) n):=λacc =>
  Pl.of (λn=>dP) (λt l c w w' n ha hw=>dN _ (jW (aR0 (a1:=a1) (b1:=b1) (f2:=f2) _ _ _ _ n (Mv.cons ha hw)) (λ_ _ _=>vC)) (vC _ _ n (.cons ha hw)))
 have e:=Pl.isT [105,102] (xP (a1:=a1) (b1:=b1) (f2:=f2) one []) (Pl.ok (rfl:([]:List Tm)=_));exact e
def Eqn.st(a:Eqn):Eqn:={ a with line:=0,col:=0 }
def Cel.st(a:Cel):Cel:={ a with line:=0,col:=0 }
def Part.st(a:Part):Part:={ a with line:=0,col:=0 }
def Rul.st(a:Rul):Rul:={ a with parts:=a.parts.map Part.st,line:=0,col:=0 }
def Dfn.st(a:Dfn):Dfn:={ a with eqs:=a.eqs.map Eqn.st,once:=a.once.map Cel.st,many:=a.many.map Cel.st,rules:=a.rules.map Rul.st }
theorem aKi:Pl (λa b=>a.st=b.st) (oP false (fz a1 b1)) (oP false f2):=by
 refine Pl.of (λn=>dP) (λt l c w w' n ha hw=>?_)
 exact(Pl.bind (P:=Eq) (kP (a1:=a1) (b1:=b1) (f2:=f2)) (λx x' e1=>Pl.bind (jP (a1:=a1) (b1:=b1) (f2:=f2) [58]) (λ_ _ _=>Pl.bind (kP (a1:=a1) (b1:=b1) (f2:=f2)) (λy y' e2=>Pl.bind (jP (a1:=a1) (b1:=b1) (f2:=f2) [61]) (λ_ _ _=>Pl.bind (vC (a1:=a1) (b1:=b1) (f2:=f2))
  (λi i' e3=>Pl.ok (P:=λa b:Cel=>a.st=b.st) (by subst e1;subst e2;subst e3;rfl:(⟨x,y,i,t.line,t.col⟩:Cel).st=(⟨x',y',i',l,c⟩:Cel).st))))))) _ _ n (Mv.cons ha hw)
theorem aFa:∀(f:Nat) (ps:List Piece) (az:List aC) (tx:Bool),Pl Eq (pJ (fz a1 b1) f ps az tx) (pJ f2 f ps az tx)
 | 0,ps,az,tx=>λw w' n hw=>dP
 | f+1,ps,az,tx=>by
  refine Pl.of (λn=>dP) (λt l c w w' n ha hw=>?_);refine dN _ (nC rfl hw n) (dN _ (dN _ dP (dN _ ?_ (dN _ dP ?_))) dP)
  .exact aFa f _ _ _ _ _ n hw
  .exact aFa f _ _ _ _ _ n hw
theorem aJS:∀(f:Nat) (o:Opr),Pl Eq (iE (fz a1 b1) f o) (iE f2 f o)
 | 0,o=>λw w' n hw=>dP
 | f+1,o=>by
  have ih:=aJS f;refine Pl.of (λn=>dP) (λt l c w w' n ha hw=>?_);refine dN _ (nC rfl (.cons ha hw) n) (dN _ dP (dN _ (dN _ dP ?_) (dN _ (dN _ ?_ dP) (dN _ (dN _ ?_ dP) (dN _ (dN _ dP ?_) dP)))))
  .exact jW (aID (a1:=a1) (b1:=b1) (f2:=f2) 20 _ _ n hw) (λm m' e=>by subst e;exact ih _)
  .exact ih _ _ _ n hw
  .exact ih _ _ _ n hw
  .exact jW (jP (a1:=a1) (b1:=b1) (f2:=f2) [40] _ _ n hw) (λ_ _ _=>Pl.bind (xP (a1:=a1) (b1:=b1) (f2:=f2) (λ_=>aID (a1:=a1) (b1:=b1) (f2:=f2) 8) []) (λa a' e=>Pl.bind (jP (a1:=a1) (b1:=b1) (f2:=f2) [41]) (λ_ _ _=>by subst e;exact ih _)))
theorem aTZ:Pl Eq (wB (fz a1 b1)) (wB f2):=by
 have e:=Pl.bind (Q:=Eq) (kP (a1:=a1) (b1:=b1) (f2:=f2)) (λx x' e1=>Pl.bind (jP (a1:=a1) (b1:=b1) (f2:=f2) [58]) (λ_ _ _=>Pl.bind (Pl.len (P:=Eq) (F1:=λf=>pJ (fz a1 b1) f [] [] false) (F2:=λf=>pJ f2 f [] [] false) (λf=>aFa f [] [] false))
  (fun p p' e2 => Pl.bind (kP (a1 := a1) (b1 := b1) (f2 := f2)) (fun y y' e3 => (show Pl Eq (fun w n => iE (fz a1 b1) (w.length + 1) ⟨x,p.2.1,y,if p.2.2 = true then p.1 else [],0,0,[]⟩ w n) (fun w n => iE f2 (w.length + 1) ⟨x',p'.2.1,y',if p'.2.2 = true then p'.1 else [],0,0,[]⟩ w n) from by
   subst e1;subst e2;subst e3;exact Pl.len (F1:=λf=>iE (fz a1 b1) f ⟨x,p.2.1,y,if p.2.2=true then p.1 else [],0,0,[]⟩) (F2:=λf=>iE f2 f ⟨x,p.2.1,y,if p.2.2=true then p.1 else [],0,0,[]⟩) (λf=>aJS f _))))))
 exact e
theorem aKg:∀(f:Nat) (az:List aC),Pl Eq (mH (fz a1 b1) f az) (mH f2 f az)
 | 0,az=>λw w' n hw=>dP
 | f+1,az=>by
  have e:=Pl.isT [45,62] (Pl.ok (rfl:az=_)) (Pl.bind (aFZ (a1:=a1) (b1:=b1) (f2:=f2) (kP (a1:=a1) (b1:=b1) (f2:=f2)) 8 az.length) (λx x' e=>(show Pl Eq (mH (fz a1 b1) f (az++[x])) (mH f2 f (az++[x'])) from by subst e;exact aKg f (az++[x]))));exact e
theorem aTG:Pl Eq (vX (fz a1 b1)) (vX f2):=by
 have e:=Pl.bind (Q:=Eq) (kP (a1:=a1) (b1:=b1) (f2:=f2)) (λx x' e1=>Pl.bind (jP (a1:=a1) (b1:=b1) (f2:=f2) [58]) (λ_ _ _=>Pl.bind (Pl.len (P:=Eq) (F1:=λf=>mH (fz a1 b1) f []) (F2:=λf=>mH f2 f []) (λf=>aKg f []))
  (λaz az' e2=>Pl.bind (kP (a1:=a1) (b1:=b1) (f2:=f2)) (λy y' e3=>Pl.ok (by subst e1;subst e2;subst e3;rfl:(⟨x,az,y,[],0,0,[]⟩:Opr)=⟨x',az',y',[],0,0,[]⟩)))))
 exact e
theorem aSy(r r':Rul)(hr:r.st=r'.st):Pl (λa b=>a.st=b.st) (oN false (fz a1 b1) r) (oN false f2 r'):=by
 have h1:r.name=r'.name:=(congrArg Rul.name hr :);have h2:r.parts.map Part.st=r'.parts.map Part.st:=(congrArg Rul.parts hr :);have h3:r.cond=r'.cond:=(congrArg Rul.cond hr :);have h4:r.new=r'.new:=(congrArg Rul.new hr :);have h5:r.drop=r'.drop:=(congrArg Rul.drop hr :);refine Pl.of (λn=>dP) (λt l c w w' n ha hw=>?_);refine dN _ ?_ (dN _ ?_ ?_)
 .exact jW (jP (a1:=a1) (b1:=b1) (f2:=f2) [40] _ _ n hw) (λ_ _ _=>Pl.bind (xP (a1:=a1) (b1:=b1) (f2:=f2) (λ_=>vC (a1:=a1) (b1:=b1) (f2:=f2)) []) (λa a' e=>Pl.bind (jP (a1:=a1) (b1:=b1) (f2:=f2) [41]) (λ_ _ _=>Pl.ok (by subst e;simp only[Rul.st,h1,h2,h3,h4,h5]))))
 .exact jW (jP (a1:=a1) (b1:=b1) (f2:=f2) [64] _ _ n hw) (λ_ _ _=>Pl.bind (kP (a1:=a1) (b1:=b1) (f2:=f2)) (λx x' e=>Pl.ok (by subst e;simp only[Rul.st,h1,h2,h3,h4,h5])))
 .exact jW (kP (a1:=a1) (b1:=b1) (f2:=f2) _ _ n (.cons ha hw)) (λx x' e1=>Pl.bind (Pl.isT [64] (kP (a1:=a1) (b1:=b1) (f2:=f2)) (Pl.ok (rfl:([]:aC)=_))) (λy y' e2=>Pl.bind (jP (a1:=a1) (b1:=b1) (f2:=f2) [58]) (λ_ _ _=>Pl.bind vC (λa a' e3 =>
   Pl.bind (P:=Eq) (Pl.isT [61,62] (Pl.bind (P:=Eq) (Q:=Eq) vC (λu u' e=>Pl.ok (congrArg (λu=>[u]) e))) (Pl.ok (rfl:([]:List Tm)=_))) (λrs rs' e4=>Pl.ok (by subst e1;subst e2;subst e3;subst e4;simp only[Rul.st,cV,bS,cY,Part.st,h1,h2,h3,h4,h5]))))))
theorem aPZ(a b:Rul × Nat)(h:a.1.st=b.1.st/\a.2=b.2):Pl (λa b=>a.1.st=b.1.st/\a.2=b.2) (rJ false (fz a1 b1) a) (rJ false f2 b):=by
 obtain⟨a,i⟩:=a;obtain⟨b,j⟩:=b;obtain⟨h1,rfl⟩:=h;exact Pl.of (λn=>dP) (λt l c w w' n ha hw=>dN _ dP (jW (aSy a b h1 _ _ n (.cons ha hw)) (λx y e=>Pl.ok ⟨e,rfl⟩)))
theorem aSv(li co li' co':Int):Pl (λa b=>a.st=b.st) (vT false (fz a1 b1) li co) (vT false f2 li' co'):=by
 have e:=Pl.bind (Q:=λa b:Rul=>a.st=b.st) (kP (a1:=a1) (b1:=b1) (f2:=f2)) (λx x' e1=>Pl.bind (jP (a1:=a1) (b1:=b1) (f2:=f2) [58]) (λ_ _ _ =>
  Pl.bind (Pl.len (F1:=λf=>dD (fz a1 b1) [59] (rJ false (fz a1 b1)) f (⟨x,[],[],[],[],li,co⟩,0)) (F2:=λf=>dD f2 [59] (rJ false f2) f (⟨x',[],[],[],[],li',co'⟩,0))
   (fun f => aCY [59] aPZ f _ _ ⟨by rw [e1]; rfl,rfl⟩)) (fun a b hab => Pl.bind (aIW (a1 := a1) (b1 := b1) (f2 := f2)) (fun k k' e2 => Pl.ok (by
    have h1:a.1.name=b.1.name:=(congrArg Rul.name hab.1 :);have h2:a.1.parts.map Part.st=b.1.parts.map Part.st:=(congrArg Rul.parts hab.1 :);have h4:a.1.new=b.1.new:=(congrArg Rul.new hab.1 :);have h5:a.1.drop=b.1.drop:=(congrArg Rul.drop hab.1 :);subst e2;simp only[Rul.st,h1,h2,h4,h5]:({ a.1 with cond:=k }:Rul).st=({ b.1 with cond:=k' }:Rul).st)))))
 exact e
structure DSt (d d':Dfn):Prop where
 name:d.name=d'.name
 sig:d.sig=d'.sig
 eqs:d.eqs.map Eqn.st=d'.eqs.map Eqn.st
 once:d.once.map Cel.st=d'.once.map Cel.st
 kind:d.kind=d'.kind
 many:d.many.map Cel.st=d'.many.map Cel.st
 rules:d.rules.map Rul.st=d'.rules.map Rul.st
 start:d.start=d'.start
 watch:d.watch=d'.watch
theorem sE{α β:Type}{f:α->β}{l l':List α}(h:l.map f=l'.map f):l.length=l'.length:=by
 have:=congrArg List.length h;simpa using this
theorem aCU{α β:Type}{f:α->β}{l l':List α}{a b:α}(h:l.map f=l'.map f)(e:f a=f b):(l++[a]).map f=(l'++[b]).map f:=by
 simp only[cV,h,bS,e,cY]
theorem aQw(d d':Dfn)(h:DSt d d')(t:Tok)(l c:Int)(w w':List Tok)(n:Nat)(ha:Adj (t.to l c) w')(hw:Mv w w'):(mX false (fz a1 b1) d t w n).pl DSt (mX false f2 d' (t.to l c) w' n):=by
 obtain⟨nm,sg,es,on,ki,ma,ru,sa,wa⟩:=d;obtain⟨nm',sg',es',on',ki',ma',ru',sa',wa'⟩:=d';obtain⟨g1,g2,g3,g4,g5,g6,g7,g8,g9⟩:=h;simp only at g1 g2 g3 g4 g5 g6 g7 g8 g9;subst g1;subst g2;subst g5;subst g8;subst g9;simp only[mX,<-sE g4];refine dN _ (dN _ ?_ dP) (dN _ (dN _ ?_ dP) (dN _ (dN _ dP ?_) (dN _ (dN _ ?_ dP) dP)))
 .exact jW (kP (a1:=a1) (b1:=b1) (f2:=f2) _ _ n hw) (λx x' e=>Pl.ok ⟨rfl,rfl,g3,g4,rfl,g6,g7,e,rfl⟩)
 .exact jW (kP (a1:=a1) (b1:=b1) (f2:=f2) _ _ n hw) (λx x' e=>Pl.ok ⟨rfl,rfl,g3,g4,rfl,g6,g7,rfl,e⟩)
 .exact jW (aKi (a1:=a1) (b1:=b1) (f2:=f2) _ _ n hw) (λx x' e=>Pl.ok ⟨rfl,rfl,g3,aCU g4 e,rfl,g6,g7,rfl,rfl⟩)
 .exact jW (kP (a1:=a1) (b1:=b1) (f2:=f2) _ _ n hw) (λx x' e=>Pl.bind (jP (a1:=a1) (b1:=b1) (f2:=f2) [40]) (λ_ _ _ =>
   Pl.bind (aJ9 (a1:=a1) (b1:=b1) (f2:=f2) (P:=λa b:Cel=>a.st=b.st) (L:=λl l'=>l.map Cel.st=l'.map Cel.st) aCU (λl l' hl=>by rw[sE hl];exact aFZ aKi 12 l'.length) g6)
    (λa a' e2=>Pl.bind (jP (a1:=a1) (b1:=b1) (f2:=f2) [41]) (λ_ _ _=>Pl.ok ⟨rfl,rfl,g3,g4,e,e2,g7,rfl,rfl⟩))))
theorem aSe(d d':Dfn)(h:DSt d d'):Pl DSt (gY false (fz a1 b1) d) (gY false f2 d'):=by
 have h0:=h;obtain⟨nm,sg,es,on,ki,ma,ru,sa,wa⟩:=d;obtain⟨nm',sg',es',on',ki',ma',ru',sa',wa'⟩:=d';obtain⟨g1,g2,g3,g4,g5,g6,g7,g8,g9⟩:=h;simp only at g1 g2 g3 g4 g5 g6 g7 g8 g9;subst g1;subst g2;subst g5;subst g8;subst g9;refine Pl.of (λn=>dP) (λt l c w w' n ha hw=>?_);simp only[gY,<-sE g3,<-sE g7];refine jW (P:=DSt) ?_ (λd d' hd=>Pl.bind (jP (a1:=a1) (b1:=b1) (f2:=f2) [46]) (λ_ _ _=>Pl.ok hd));refine dN _ ?_ (dN _ (dN _ dP ?_) (dN _ ?_ (dN _ (dN _ dP (dN _ ?_ ?_)) (dN _ (dN _ dP ?_) (dN _ (dN _ dP ?_) (aQw _ _ h0 t l c w w' n ha hw))))))
 .exact jW (xP (a1:=a1) (b1:=b1) (f2:=f2) (λacc=>aFZ (a1:=a1) (b1:=b1) (f2:=f2) (kP (a1:=a1) (b1:=b1) (f2:=f2)) 40 acc.length) sg.sorts _ _ n hw) (λa a' e=>Pl.ok ⟨rfl,by rw[e],g3,g4,rfl,g6,g7,rfl,rfl⟩)
 .exact jW (kP (a1:=a1) (b1:=b1) (f2:=f2) _ _ n hw) (λx x' e=>Pl.bind (jP (a1:=a1) (b1:=b1) (f2:=f2) [60]) (λ_ _ _=>Pl.bind (kP (a1:=a1) (b1:=b1) (f2:=f2)) (λy y' e2=>Pl.ok ⟨rfl,by rw[e,e2],g3,g4,rfl,g6,g7,rfl,rfl⟩)))
 .exact jW (xP (a1:=a1) (b1:=b1) (f2:=f2) (λ_=>kP (a1:=a1) (b1:=b1) (f2:=f2)) [] _ _ n hw) (λa a' e=>Pl.ok ⟨rfl,by rw[e],g3,g4,rfl,g6,g7,rfl,rfl⟩)
 .exact jW (aTZ (a1:=a1) (b1:=b1) (f2:=f2) _ _ n hw) (λa a' e=>Pl.ok ⟨rfl,by rw[e],g3,g4,rfl,g6,g7,rfl,rfl⟩)
 .exact jW (aTG (a1:=a1) (b1:=b1) (f2:=f2) _ _ n hw) (λa a' e=>Pl.ok ⟨rfl,by rw[e],g3,g4,rfl,g6,g7,rfl,rfl⟩)
 .exact jW (vC (a1:=a1) (b1:=b1) (f2:=f2) _ _ n hw) (λx x' e=>Pl.bind (jP (a1:=a1) (b1:=b1) (f2:=f2) [61]) (λ_ _ _=>Pl.bind (vC (a1:=a1) (b1:=b1) (f2:=f2)) (λy y' e2=>Pl.bind (aIW (a1:=a1) (b1:=b1) (f2:=f2)) (λk k' e3 =>
   Pl.ok ⟨rfl,rfl,aCU g3 (by subst e;subst e2;subst e3;rfl),g4,rfl,g6,g7,rfl,rfl⟩))))
 .exact jW (aSv (a1:=a1) (b1:=b1) (f2:=f2) _ _ _ _ _ _ n hw) (λx x' e=>Pl.ok ⟨rfl,rfl,g3,g4,rfl,g6,aCU g7 e,rfl,rfl⟩)
theorem aI7:∀(f:Nat) (d d':Dfn),DSt d d'->Pl DSt (oJ false (fz a1 b1) f d) (oJ false f2 f d')
 | 0,d,d',_=>λw w' n hw=>dP
 | f+1,d,d',h=>Pl.of (λn=>nC h .nil n) (λt l c w w' n ha hw=>jW (aSe d d' h _ _ n (.cons ha hw)) (λa b hab=>aI7 f a b hab))
theorem aCh{α β:Type}{f:α->β}{r:α->α->Bool}(h:∀a b,f a=f b->r a b=true){l l':List α}(e:l.map f=l'.map f):cO r l l'=true :=
 (iK (sE e)).2 fun i a b ha hb => h a b (by
  have:=congrArg (λl=>l[i]?) e;simp only[lB,ha,hb,mQ,bJ]at this;exact this)
theorem aNk(a b:Part)(h:a.st=b.st):a.same b=true:=by
 have e:a.same b=a.st.same b.st:=rfl;rw[e,h];exact Part.same_self _
theorem DSt.same{d d':Dfn}(h:DSt d d'):d.same d'=true:=by
 have e1:cO Eqn.same d.eqs d'.eqs=true:=aCh (λa b h=>by rw[show a.same b=a.st.same b.st from rfl,h];exact Eqn.same_self _) h.eqs;have ec:∀{l l':List Cel},l.map Cel.st=l'.map Cel.st->cO Cel.same l l'=true:=aCh (λa b h=>by rw[show a.same b=a.st.same b.st from rfl,h];exact Cel.same_self _)
 have er:cO Rul.same d.rules d'.rules=true:=aCh (λa b h=>by
  have h1:a.name=b.name:=(congrArg Rul.name h :);have h2:a.parts.map Part.st=b.parts.map Part.st:=(congrArg Rul.parts h :);have h3:a.cond=b.cond:=(congrArg Rul.cond h :);have h4:a.new=b.new:=(congrArg Rul.new h :);have h5:a.drop=b.drop:=(congrArg Rul.drop h :);simp[Rul.same,h1,h3,h4,h5,aCh aNk h2,aA2,aAS,oZ Fresh.same_self]) h.rules
 simp only[Dfn.same,h.name,h.kind,h.start,h.watch,h.sig,e1,ec h.once,ec h.many,er,Sig.same_self,uU,Bool.and_self]
theorem aIM{T T':List Tok}(hw:Mv T T'):(∃f,f.code≠0/\kV false (fz a1 b1) T=.bad f)\/∃d w n d' w',kV false (fz a1 b1) T=.ok d w n/\kV false f2 T'=.ok d' w' n/\d.same d'=true:=by
 have e:Rd.pl DSt (kV false (fz a1 b1) T) (kV false f2 T') :=
  (Pl.bind (jP (a1 := a1) (b1 := b1) (f2 := f2) [108,97,110,103,117,97,103,101]) (fun _ _ _ => Pl.bind (kP (a1 := a1) (b1 := b1) (f2 := f2)) (fun x x' e => Pl.bind (jP (a1 := a1) (b1 := b1) (f2 := f2) [46]) (fun _ _ _ =>
   Pl.len (F1:=λf=>oJ false (fz a1 b1) f { gL with name:=x }) (F2:=λf=>oJ false f2 f { gL with name:=x' }) (λf=>aI7 f _ _ ⟨e,rfl,rfl,rfl,rfl,rfl,rfl,rfl,rfl⟩))))) T T' 0 hw
 cases h:kV false (fz a1 b1) T with
 | bad f=>rw[h]at e;exact .inl ⟨f,e,rfl⟩
 | ok d w n =>
  rw[h]at e;obtain⟨d',w',h1,h2,_⟩:=e;exact .inr ⟨d,w,n,d',w',rfl,h1,h2.same⟩
end
end
theorem aH2(w:aC)(x:aC):∀(l:List aC) (n:Nat),lH w (l++[x]) n=if lH w l n<x.length/\lU w x=true then x.length else lH w l n
 | [],n=>rfl
 | y::l,n=>aH2 w x l _
theorem aFk(w:aC):∀(l:List aC) (n:Nat),n<=w.length->lH w l n<=w.length
 | [],n,h=>h
 | y::l,n,h=>by
  refine aFk w l _ ?_;split
  .rename_i hc;have:=hc.2;simp only[lU,cL,cU]at this;exact this.1
  .exact h
theorem aGk:∀(w:aC) (c:UInt8),Lib.indexByte w c<(w.length:Int)
 | [],c=>by simp[Lib.indexByte]
 | d::w,c=>by
  have ih:=aGk w c;have ig:=Lib.indexByte_ge w c;unfold Lib.indexByte;simp only[aE];split
  .omega
  .split<;>omega
theorem aPX(s:St)(r:Nat)(x:aC)(at_ l c:Nat)(sg:List aC)(op:Bool)(KV Kp)
  (hr:s.getO r=some (.cells 226 (gO x at_ l c sg op)))(hx:x.length<=4294967296)(ha:at_<x.length)(hsg:sg.length<=4294967296)
  (hk:KV s (.tuple [(gC (x.drop at_) sg op).1.enc,.int .i64 (gC (x.drop at_) sg op).2.1,.bool (gC (x.drop at_) sg op).2.2])):Den cx 278 [.ptr r 0] KV Kp s:=by
 obtain⟨b,w,hw⟩:∃b w,x.drop at_=b::w:=by
  cases h:x.drop at_ with
  | nil=>have:=congrArg List.length h;simp at this;omega
  | cons b w=>exact⟨b,w,rfl⟩
 have hlw:(b::w).length<=4294967296:=by rw[<-hw,dR];omega
 (refine aO func278 [0,2,3,4,5,6,8,20,33,41,67,68,69,70,81,100] ?_;simp only[go_sem,ntmps278,f278]);(intro q hq;try simp only[aI,ne_eq]at hq);have hne:=cE hr hq;simp only[go_sem,hr,hq,hne,gO];(refine bL (OT.r 0 10) [] ?_;simp only[go_sem,hr,hq,hne,gO]);rw[hw]at hk⊢;have hpos:0<(b::w).length:=by simp
 simp only[go_sem,Nat.le_of_lt ha,hpos];refine⟨⟨by omega,by omega⟩,?_⟩;have e1:List.take (Int.toNat 1) (b::w)=[b]:=rfl;rw[e1];refine wP _ _ _ _ ?_;simp only[go_sem];(refine aQ (λh=>?_) (λh=>?_))<;>simp only[go_sem,h,hr,hq,hne,gO]
 .refine aKr _ _ _ (λc=>eY c.toNat) _ _ hlw (λc KV Kp h=>aAP _ _ _ _ h) ?_;have hn:((b::w).takeWhile λc=>eY c.toNat).length<=(b::w).length:=(List.takeWhile_sublist _).length_le;simp only[gC,h,if_true]at hk;generalize ((b::w).takeWhile λc=>eY c.toNat).length=n at hk hn;simp only[go_sem,hr,hq,hne,gO,hn];refine⟨by simpa using hn,?_⟩;have e2:decide ((n:Int)<=40)=decide (n<=40):=by rw[gG];omega
  rw[e2];exact aP hk (dS hq)
 .refine aHp _ _ _ _ ?_;have hnm:¬ dM [b]=true:=by rw[h];simp
  simp only[go_sem];(refine aQ (λh=>?_) (λh=>?_))<;>simp only[go_sem,h,hr,hq,hne,gO]
  .simp only[gC,hnm,if_false,h,if_true,cJ]at hk;refine aOn _ _ _ _ hlw ?_;simp only[go_sem,hr,hq,hne];exact aP hk (dS hq)
  .have hnd:¬ iG b.toNat=true:=by rw[h];simp
   have h340:(34:UInt8).toNat=34:=rfl
   have e3:decide ((b.toNat:Int)=34)=decide (b=34):=by
    rw[gG,<-tH,h340];omega
   rw[e3];(refine aQ (λh=>?_) (λh=>?_))<;>simp only[go_sem,h,hr,hq,hne,gO]
   .have hb:b=34:=by simpa using h
    simp only[gC,hnm,hnd,hb,if_false,if_true]at hk;refine⟨⟨by omega,by omega⟩,?_⟩
    have e4:List.take (w.length+1-Int.toNat 1) (List.drop (Int.toNat 1) (b::w))=w:=by
     show List.take (w.length+1-1) w=w;simp
    have e5:(A.int IntKind.u8 34)=.int .u8 ((34:UInt8).toNat):=rfl;rw[e4,e5];refine aEu _ _ _ _ _ ?_;have hm1:=Lib.indexByte_ge w 34;have hm2:=aGk w 34;obtain⟨k,hk0⟩:∃k:Nat,Lib.indexByte w 34=(k:Int)-1:=⟨(Lib.indexByte w 34+1).toNat,by omega⟩
    rw[hk0]at hk hm2⊢;simp only[aE]at hlw;have hkw:k<=w.length:=by omega
    have ew:IntKind.i64.wrap ((k:Int)-1+2)=((k+1:Nat):Int):=by rw[iU _ aB aB];omega
    have ew2:IntKind.i64.wrap (((k+1:Nat):Int)-1)=(k:Int):=by rw[iU _ aB aB];omega
    have en:((k:Int)-1+2).toNat=k+1:=by omega
    simp only[en]at hk;simp only[go_sem,ew];(refine bL (OT.r 0 19) [] ?_;simp only[go_sem,hr,hq,hne,gO,ew2]);have em:(if(k:Int)<1 then(1:Int) else k)=((max k 1:Nat):Int):=by split<;>omega
    rw[em];refine⟨⟨by omega,by omega,by omega⟩,?_⟩
    have et:List.take (Int.toNat ((max k 1:Nat):Int)-Int.toNat 1) (List.drop (Int.toNat 1) (b::w))=w.take (k-1):=by
     show List.take (max k 1-1) w=w.take (k-1);congr 1;omega
    rw[et];have et2:k+1-2=k-1:=by omega
    rw[et2]at hk;(refine aQ (λh=>?_) (λh=>?_))<;>simp only[go_sem,h,hr,hq,hne,gO,ew2]
    .have hk1:1<k+1:=by have:=h;simp at this;omega
     refine⟨⟨by omega,by omega,by omega⟩,?_⟩;have et3:List.take (k-Int.toNat 1) (List.drop (Int.toNat 1) (b::w))=w.take (k-1):=rfl;rw[et3];refine aHa _ _ _ _ ?_;simp only[go_sem,hr,hq,hne];simp only[hk1,uU,eW]at hk;exact aP hk (dS hq)
    .have hk1:¬ 1<k+1:=by have:=h;simp at this;omega
     simp only[hk1,aAL,eU]at hk;exact aP hk (dS hq)
   .have hnb:¬ b=34:=by simpa using h
    simp only[gC,hnm,hnd,hnb,if_false]at hk;have hz:=aFk (b::w) sg 0 (aU _)
    refine Ex.loop (λi=>[(0,.ptr r 0),(2,.ptr q 0),(3,.int .i64 (lH (b::w) (sg.take i) 0:Nat)),(5,.str (b::w)),(6,.int .u8 b.toNat),(67,.list none (sg.map .str)),(68,.int .i64 (sg.length:Nat)),(69,.int .i64 (i:Nat))])
     (λ_=>s.setO q (.cells 60 [.int .i64 0,.str [],.int .i64 0,.int .i64 0,.int .i64 0])) (λi=>i<=sg.length) (λi=>sg.length-i) 0 (aU _) ?_ (aM _) ?_
    .simp[Env.has,Env.get,lH]
    .intro i hi;refine bG (V:=[0,2,3,4,5,6,8,20,33,41,67,68,69,70,81,100]) _ _ _ _ ?_;simp only[go_sem];(refine aQ (λh=>?_) (λh=>?_))<;>simp only[go_sem,h,hr,hq,hne,gO]
     .have hlt:i<sg.length:=by simpa using h
      obtain⟨y,hy⟩:∃y,sg[i]?=some y:=⟨sg[i],aY hlt⟩
      have hst:lH (b::w) (sg.take (i+1)) 0=if lH (b::w) (sg.take i) 0<y.length/\lU (b::w) y=true then y.length else lH (b::w) (sg.take i) 0:=by
       rw[<-aH2,iS,hy];rfl
      generalize lH (b::w) (sg.take i) 0=n at hst;refine⟨hlt,?_⟩;simp only[go_sem,hy];(refine aQ (λh=>?_) (λh=>?_))<;>simp only[go_sem,h,hr,hq,hne,gO]
      .have h5:n<y.length:=by simpa using h
       refine aG0 _ _ _ _ _ ?_;simp only[go_sem];(refine aQ (λh=>?_) (λh=>?_))<;>simp only[go_sem,h]
       .exact⟨i+1,by omega,by omega,⟨by rw[hst,if_pos ⟨h5,h⟩],cF i aB⟩,aM _⟩
       .exact⟨i+1,by omega,by omega,⟨by rw[hst,if_neg (by rw[h];simp)],cF i aB⟩,aM _⟩
      .have h5:¬ n<y.length:=by simpa using h
       exact⟨i+1,by omega,by omega,⟨by rw[hst,if_neg (by simp[h5])],cF i aB⟩,aM _⟩
     .have hge:sg.length<=i:=by simpa using h
      obtain rfl:i=sg.length:=by omega
      rw[List.take_length];generalize lH (b::w) sg 0=n at hk hz
      have hqr:(s.setO q (.cells 60 [.int .i64 0,.str [],.int .i64 0,.int .i64 0,.int .i64 0])).getO r=some (.cells 226 (gO x at_ l c sg op)):=by
       rw[aJ,if_neg hne.2];exact hr
      simp only[cJ,if_false]at hk;have h390:(39:UInt8).toNat=39:=rfl;have h950:(95:UInt8).toNat=95:=rfl;have e39:decide ((b.toNat:Int)=39)=decide (b=39):=by rw[gG,<-tH,h390];omega
      have e95:decide ((b.toNat:Int)=95)=decide (b=95):=by rw[gG,<-tH,h950];omega
      have e0:decide ((n:Int)=0)=decide (n=0):=by rw[gG];omega
      rw[e0];cases h0:decide (n=0)<;>cases op<;>simp only[go_sem,hqr,hq,hne,gO,e39,e95]<;>cases h39:decide (b=39)<;>cases h95:decide (b=95)<;>(try simp only[go_sem,hqr,hq,hne,gO,e39,e95,h39,h95])
      all_goals (simp only[cU,fL]at h0 h39 h95)
      all_goals (have ed:decide (0<(n:Int))=decide (0<n):=by rw[gG];omega)
      all_goals (simp only[aE]at hz)
      all_goals first
       | (rw[if_neg (λhc=>by simp_all)]at hk;refine⟨by omega,?_⟩;rw[ed];exact aP hk (dS hq))
       | (rw[if_pos (by simp_all)]at hk;refine⟨by omega,?_⟩;exact aP hk (dS hq))
theorem aGy(p:UInt8->Bool)(w:aC):(w.takeWhile p).length<=w.length:=(List.takeWhile_sublist _).length_le
theorem aLr{p:UInt8->Bool}{c:UInt8}{w:aC}(h:p c=true):1<=((c::w).takeWhile p).length:=by simp[List.takeWhile,h]
theorem aCb{c:UInt8}{r:aC}{sg:List aC}{op:Bool}{t:Tok}{n:Nat}(h:gC (c::r) sg op=(t,n,true)):1<=n/\n<=(c::r).length:=by
 simp only[gC]at h;split at h
 .rename_i hn;simp only[lO,cU]at h;obtain⟨_,rfl,_⟩:=h;refine⟨aLr ?_,aGy _ _⟩;simp only[dM,cL,List.all_cons]at hn;exact hn.2.2.1
 .split at h
  .rename_i hd;simp only[pL]at h;split at h
   .simp at h
   .simp only[lO,cU]at h;obtain⟨_,rfl,_⟩:=h;exact⟨aLr hd,aGy _ _⟩
  .split at h
   .simp only[lO,cL,cU]at h;have:=aGk r 34;simp only[aE];omega
   .have hz:=aFk (c::r) sg 0 (aU _);simp only[lO,cU]at h;obtain⟨_,rfl,h⟩:=h;refine⟨h,?_⟩;split
    .simp
    .exact hz
theorem zT:∀(f:Nat) (w:aC),oB f w<=w.length
 | 0,w=>aU _
 | f+1,[]=>aU _
 | f+1,b::r=>by
  simp only[oB];split
  .have:=zT f r;simp only[aE];omega
  .split
   .have:=zT f ((b::r).drop ((b::r).takeWhile (λc=>!decide (c=10))).length);rw[dR]at this;have:=aGy (λc=>!decide (c=10)) (b::r);omega
   .exact aU _
def Lx.out(KV:St->A->Prop):Lx->St->Prop
 | .ok l,s=>KV s (.tuple [.list none (l.map Tok.enc),Fault.none.enc])
 | .bad f,s=>KV s (.tuple [.list none [],f.enc])
theorem aR3(s:St)(r:Nat)(x:aC)(sg:List aC)(KV Kp)
  (hr:s.getO r=some (.cells 226 (gO x 0 1 1 sg true)))(hx:x.length<=4294967290)(hsg:sg.length<=4294967296)
  (hk:∀o,(jS sg true x).out KV (s.setO r o)):Den cx 215 [.ptr r 0] KV Kp s:=by
 (refine aO func215 [0,2,3,4,5,6,18,38] ?_;simp only[go_sem,ntmps215,f215]);(intro q hq;try simp only[aI,ne_eq]at hq);have hne:=cE hr hq;simp only[go_sem,hr,hq,hne,gO];refine aHX _ r x 0 1 1 sg true _ _ (by rw[aJ,if_neg hne.2];exact hr) aB (aU _) aB aB ?_;have hb0:=zT x.length x;change eZ x<=x.length at hb0;simp only[go_sem,hr,hq,hne,gO]
 refine Ex.loop (ι:=Nat × (Nat × Nat) × List Tok × Option Nat) (λi=>[(0,.ptr r 0),(2,gv i.2.2.2 (i.2.2.1.map Tok.enc)),(3,.ptr q 0)])
  (λi=>gs ((s.setO q (.cells 36 [.int .i64 0,.str [],.int .i64 0,.int .i64 0])).setO r (.cells 226 (gO x i.1 i.2.1.1 i.2.1.2 sg true))) i.2.2.2 i.2.2.1.length 60)
  (fun i => i.1 ≤ x.length ∧ i.2.1.1 ≤ i.1 + 1 ∧ i.2.1.2 ≤ i.1 + 1 ∧ (i.2.2.2 = none → i.2.2.1 = []) ∧ (∀ t,i.2.2.2 = some t → s.getT t = none) ∧ i.2.2.1.length ≤ i.1 ∧
   ∃f,x.length-i.1<=f/\jS sg true x=kX sg true f (x.drop i.1) i.2.1 i.2.2.1) (λi=>x.length-i.1)
  (eZ x,eI (1,1) (x.take (eZ x)),[],none) ?_ ?_ ?_ ?_
 .have:=vM (x.take (eZ x)) (1,1) 0 aB aB;rw[bK]at this;refine⟨hb0,by simp only;omega,by simp only;omega,λ_=>rfl,λt h=>(by cases h),aU _,x.length,by simp only;omega,rfl⟩
 .simp only[go_sem];rfl
 .simp only[go_sem];exact aM _
 .rintro⟨a,⟨l,c⟩,acc,tk⟩ ⟨ha,hl,hc,hn,hf,hla,f,hff,hlex⟩;simp only at ha hl hc hn hf hla hff hlex;refine bG (V:=[0,2,3,4,5,6,18,38]) _ _ _ _ ?_;simp only[go_sem];(refine bL (OT.r 0 10) [] ?_;simp only[go_sem,hne,gO]);(refine aQ (λh=>?_) (λh=>?_))<;>simp only[go_sem,h]
  .have hlt:a<x.length:=by simpa using h
   obtain⟨b,w,hw⟩:∃b w,x.drop a=b::w:=⟨_,_,yS hlt⟩
   obtain⟨f,rfl⟩:∃f',f=f'+1:=⟨f-1,by omega⟩
   refine aPX _ r x a l c sg true _ _ (by simp only[go_sem];rfl) aB hlt hsg ?_;rw[hw]at hlex⊢;simp only[kX]at hlex;rcases htok:gC (b::w) sg true with⟨⟨tkd,ttx,tn,tl,tc⟩,n,ok⟩
   rw[htok]at hlex;simp only[go_sem];(intro q2 hq2;try simp only[aI,ne_eq]at hq2)
   have hne2:q2≠r/\q2≠q:=by
    have h1:=hq2;rw[aZ,aJ]at h1;have h2:=hq2;rw[aZ,aJ]at h2;constructor<;>rintro rfl
    .simp at h1
    .rw[if_neg hne.1,aJ]at h2;simp at h2
   simp only[go_sem,hne,hne2,hq2];(refine bL (OT.r 0 12) [(9,[7])] ?_;simp only[go_sem,hne,hne2,gO]);(refine aQ (λh=>?_) (λh=>?_))<;>simp only[go_sem,h,hne,hne2,gO]
   .have hok:ok=false:=by simpa using h
    subst hok;simp only at hlex;(refine bL (OT.r 0 25) [] ?_;simp only[go_sem,hne,hne2,gO,Nat.le_of_lt hlt]);have ew:IntKind.i64.wrap ((a:Int)+1)=((a+1:Nat):Int):=cF a aB;rw[ew];refine⟨⟨by omega,by omega⟩,?_⟩;have et:List.take ((((a+1:Nat):Int)).toNat-a) (x.drop a)=[b]:=by rw[hw,Int.toNat_natCast,Nat.add_sub_cancel_left];rfl
    rw[et];rw[hlex]at hk;refine DK.mk (hk _) (nB (eC ?_ (eC ?_ (qD (dS hq)))) ?_) (A.le.tuple ⟨A.le.nil,bB _,trivial⟩)
    .rw[aJ,if_neg hne.1];exact hq
    .have h1:=hq2;rw[aZ,aJ,if_neg hne2.1.symm,aJ,if_neg hne2.2.symm]at h1;rw[aJ,if_neg hne2.1.symm];exact h1
    .exact hf
   .have hok:ok=true:=by simpa using h
    subst hok;simp only at hlex;obtain⟨hn1,hn2⟩:=aCb htok;refine⟨by decide,by simp[A.cells],dY rfl rfl (by rw[aH];exact iF λe=>by rw[hn e];rfl) (λy hy=>by simp only[cC]at hy;obtain⟨z,_,rfl⟩:=hy;rfl) (by simp;omega) λt ht=>?_⟩;have hft':s.getT t=none:=by have:=gD ht (λu hu=>hf u hu);exact this
    rw[fO ht];simp only[go_sem,hne,hne2];refine aCA _ r x a l c n sg true _ _ (by simp only[go_sem,hne,hne2];rfl) aB (by have:=congrArg List.length hw;rw[dR]at this;omega) aB aB ?_;simp only[go_sem];have hal:=vM ((b::w).take n) (l,c) a hl hc;rw[bK,uR hn2]at hal;have hwl:x.length-a=(b::w).length:=by rw[<-hw,dR]
    rw[hw];have hblk:=zT ((b::w).drop n).length ((b::w).drop n);change eZ ((b::w).drop n)<=_ at hblk;rw[dR]at hblk;have hdd:x.drop (a+n)=(b::w).drop n:=by rw[<-tI,hw]
    refine aHX _ r x (a+n) _ _ sg true _ _ (by simp only[go_sem,hne,hne2];rfl) aB aB aB aB ?_;simp only[go_sem];rw[hdd];refine⟨(a+n+eZ ((b::w).drop n),eI (eI (l,c) ((b::w).take n)) (((b::w).drop n).take (eZ ((b::w).drop n))),acc++[⟨tkd,ttx,tn,l,c⟩],some t),⟨?_,?_,?_,?_,?_,?_,f,?_,?_⟩,?_,?_,?_⟩
    .simp only;omega
    .have:=vM (((b::w).drop n).take (eZ ((b::w).drop n))) (eI (l,c) ((b::w).take n)) (a+n) aB aB;rw[bK,dR,uR hblk]at this;simp only;omega
    .have:=vM (((b::w).drop n).take (eZ ((b::w).drop n))) (eI (l,c) ((b::w).take n)) (a+n) aB aB;rw[bK,dR,uR hblk]at this;simp only;omega
    .intro h;cases h
    .intro u hu;cases hu;exact hft'
    .simp only[aG,aE,aF];omega
    .simp only;omega
    .simp only[hlex];congr 1;rw[<-tI,hdd]
    .simp only;omega
    .simp only[cV,bS,cY,dO];exact rfl
    .simp only[gs,aG,aE,aF];refine jU (aPp ?_ hne2.1);have h1:=hq2;rw[aZ,aJ,if_neg hne2.1.symm]at h1;exact h1
  ·(refine bL (OT.r 0 4) [] ?_; simp only [go_sem,hne,gO]);have hge : x.length ≤ a := by simpa using h
   have hlx:jS sg true x=.ok acc:=by
    rw[hlex,wH hge];cases f<;>rfl
   rw[hlx]at hk;refine DK.mk (hk _) (nB (eC ?_ (qD (dS hq))) ?_) (A.le.tuple ⟨iY tk _ (λe=>by rw[hn e];rfl),bB _,trivial⟩)
   .rw[aJ,if_neg hne.1];exact hq
   .exact hf
structure TokW (N:Nat) (t:Tok):Prop where
 kind:t.kind=1/\(∃c r,t.text=c::r/\sP c.toNat=true)\/t.kind=2/\t.text=[]\/t.kind=3\/t.kind=4/\(t.text∈dG\/t.text=[39]\/t.text=[95])
 num:0<=t.n/\t.n<=2147483647
 col:0<=t.col/\t.col<=N
 line:0<=t.line/\t.line<=N
 txt:t.text.length<=N
theorem aA8:∀(w:aC) (p:Nat × Nat),(eI p w).1<=p.1+w.length/\(eI p w).2<=p.2+w.length/\(1<=p.2->1<=(eI p w).2)
 | [],p=>⟨bT _,bT _,λh=>h⟩
 | b::r,(l,c)=>by
  simp only[eI];split
  .have:=aA8 r (l+1,1);simp only[aE]at this⊢;refine⟨?_,?_,λh=>this.2.2 (bT _)⟩<;>omega
  .have:=aA8 r (l,c+1);simp only[aE]at this⊢;refine⟨?_,?_,λh=>this.2.2 aB⟩<;>omega
theorem aB1(w:aC):∀(sg:List aC) (n:Nat),lH w sg n=n\/w.take (lH w sg n)∈sg
 | [],n=>.inl rfl
 | x::r,n=>by
  simp only[lH];split
  .rename_i h;rcases aB1 w r x.length with h1|h1
   .rw[h1];refine .inr (List.mem_cons.2 (.inl ?_));have h2:=h.2;simp only[lU,cL,cU]at h2;exact h2.2
   .exact .inr (List.mem_cons.2 (.inr h1))
  .rcases aB1 w r n with h1|h1
   .exact .inl h1
   .exact .inr (List.mem_cons.2 (.inr h1))
theorem aRG{c:UInt8}{r:aC}{t:Tok}{n N:Nat}(h:gC (c::r) dG true=(t,n,true))(hN:(c::r).length<=N)(l k:Nat)(hl:l<=N)(hk:k<=N):TokW N ⟨t.kind,t.text,t.n,l,k⟩:=by
 have htake:∀m,((c::r).take m).length<=N:=λm=>by rw[bK];omega
 have hlen:=aCb h;have hc:(0:Int)<=(k:Int)/\(k:Int)<=N:=⟨by omega,by omega⟩;have hl':(0:Int)<=(l:Int)/\(l:Int)<=N:=⟨by omega,by omega⟩;have h0:(0:Int)<=0/\(0:Int)<=2147483647:=by decide
 simp only[gC]at h;split at h
 .rename_i hn;simp only[lO,cU]at h;obtain⟨rfl,h2,_⟩:=h;refine⟨.inl ⟨rfl,?_⟩,h0,hc,hl',htake _⟩;have hlet:sP c.toNat=true:=by simp only[dM,cL]at hn;exact hn.2.1
  obtain⟨m,hm⟩:∃m,n=m+1:=⟨n-1,by omega⟩
  rw[hm]at h2;rw[h2];exact⟨c,r.take m,rfl,hlet⟩
 .split at h
  .simp only[pL]at h;split at h
   .simp only[lO,cJ,and_false]at h
   .simp only[lO,cU]at h;obtain⟨rfl,_,h3⟩:=h;exact⟨.inr (.inl ⟨rfl,rfl⟩),⟨Int.natCast_nonneg _,by simp only;omega⟩,hc,hl',aU _⟩
  .split at h
   .simp only[lO]at h;obtain⟨h1,h2,_⟩:=h;generalize (Lib.indexByte r 34+2).toNat-2=m at h1;subst h1;refine⟨.inr (.inr (.inl rfl)),h0,hc,hl',?_⟩;show(r.take m).length<=N;rw[bK];rw[aE]at hN;omega
   .simp only[lO,cU]at h;obtain⟨h1,h2,h3⟩:=h;rw[h2]at h1 h3;subst h1;refine⟨.inr (.inr (.inr ⟨rfl,?_⟩)),h0,hc,hl',htake n⟩;show(c::r).take n∈dG\/(c::r).take n=[39]\/(c::r).take n=[95];by_cases h4:lH (c::r) dG 0=0/\True/\(c=39\/c=95)
    .rw[if_pos (by simpa using h4)]at h2;subst h2;rcases h4.2.2 with rfl|rfl
     .exact .inr (.inl rfl)
     .exact .inr (.inr rfl)
    .rw[if_neg (by simpa using h4)]at h2;subst h2;rcases aB1 (c::r) dG 0 with h5|h5
     .omega
     .exact .inl h5
theorem aLh(N:Nat):∀(f:Nat) (w:aC) (p:Nat × Nat) (acc:List Tok) (l:List Tok),p.1+w.length<=N->p.2+w.length<=N->acc.length+w.length<=N->(∀t,t∈acc->TokW N t)->kX dG true f w p acc=.ok l ->
  l.length<=N/\∀t,t∈l->TokW N t
 | _,[],p,acc,l,h1,h2,h3,ha,h=>by
  simp only[kX]at h;cases h;exact⟨by simpa using h3,ha⟩
 | 0,_::_,p,acc,l,h1,h2,h3,ha,h=>by
  simp only[kX]at h;cases h;exact⟨by omega,ha⟩
 | f+1,c::r,p,acc,l,h1,h2,h3,ha,h=>by
  simp only[kX]at h;rcases htok:gC (c::r) dG true with⟨t,n,ok⟩
  rw[htok]at h;cases ok with
  | false=>cases h
  | true =>
   simp only at h;obtain⟨hn1,hn2⟩:=aCb htok;have hb:eZ ((c::r).drop n)<=((c::r).drop n).length:=zT _ _;have a1:=aA8 ((c::r).take n) p;have a2:=aA8 (((c::r).drop n).take (eZ ((c::r).drop n))) (eI p ((c::r).take n));simp only[bK,dR,aE]at a1 a2 hb h1 h2 h3 hn2;refine aLh N f _ _ _ l ?_ ?_ ?_ ?_ h
   .simp only[dR,aE];omega
   .simp only[dR,aE];omega
   .simp only[aG,aE,aF,dR]at h3⊢;omega
   .intro t' ht';rcases cW.1 ht' with h5|h5
    .exact ha t' h5
    .simp only[bW]at h5;subst h5;exact aRG htok (by simp only[aE];omega) p.1 p.2 aB aB
theorem aST{x:aC}{l:List Tok}(h:jS dG true x=.ok l):l.length<=x.length+1/\∀t,t∈l->TokW (x.length+1) t:=by
 have hb:eZ x<=x.length:=zT _ _;have a1:=aA8 (x.take (eZ x)) (1,1);simp only[bK]at a1;refine aLh (x.length+1) _ _ _ _ l ?_ ?_ ?_ (λt ht=>by cases ht) h
 .simp only[dR];omega
 .simp only[dR];omega
 .simp only[dR,aF];omega
theorem aJl(sg:List aC)(op:Bool):∀(f:Nat) (w:aC) (p:Nat × Nat) (acc:List Tok) (g:Fault),kX sg op f w p acc=.bad g->g.code=10
 | _,[],p,acc,g,h=>by simp only[kX]at h;cases h
 | 0,_::_,p,acc,g,h=>by simp only[kX]at h;cases h
 | f+1,c::r,p,acc,g,h=>by
  simp only[kX]at h;rcases htok:gC (c::r) sg op with⟨t,n,ok⟩
  rw[htok]at h;cases ok with
  | false=>cases h;rfl
  | true=>exact aJl sg op f _ _ _ g h
theorem aCp{x:aC}{g:Fault}(h:jS dG true x=.bad g):g.code=10:=aJl _ _ _ _ _ _ _ h
theorem aTm(c:UInt8)(w:aC):Lib.indexByte (c::w) c=0:=by
 unfold Lib.indexByte;rw[if_pos bD]
theorem aTp{d c:UInt8}(w:aC)(h:¬ d=c):Lib.indexByte (d::w) c=if Lib.indexByte w c=-1 then -1 else Lib.indexByte w c+1:=by
 conv=>lhs;unfold Lib.indexByte
 rw[if_neg (by simpa using h)];simp only[beq_iff_eq]
theorem aI6:∀(r:aC),r[(r.takeWhile kL).length]?=some 34->Lib.indexByte r 34=((r.takeWhile kL).length:Int)
 | [],h=>by simp at h
 | d::w,h=>by
  by_cases hd:kL d=true
  .rw[aEt hd,aE,List.getElem?_cons_succ]at h;have ih:=aI6 w h;have hne:¬ d=34:=by rintro rfl;revert hd;decide
   rw[aEt hd,aE];rw[aTp w hne];have:0<=Lib.indexByte w 34:=by rw[ih];omega
   split
   .omega
   .rw[ih];omega
  .rw[aBG hd,aF,kM]at h;cases h;rw[aBG hd];rw[aTm];rfl
theorem aEQ(p:UInt8->Bool):∀(r:aC),(r.take (r.takeWhile p).length).all p=true
 | []=>rfl
 | d::w=>by
  by_cases hd:p d=true
  .rw[aEt hd,aE,List.take_succ_cons,List.all_cons,hd,aEQ p w];rfl
  .rw[aBG hd];rfl
theorem aQD(r:aC)(sg:List aC)(op:Bool)(h:r[(r.takeWhile kL).length]?=some 34/\(r.takeWhile kL).length<=200) :
  gC (34::r) sg op=(⟨3,r.take (r.takeWhile kL).length,0,0,0⟩,(r.takeWhile kL).length+2,true):=by
 have e:=aI6 r h.1;simp only[gC];rw[if_neg aD,if_neg aD,if_pos trivial,e];rw[show(((r.takeWhile kL).length:Int)+2).toNat=(r.takeWhile kL).length+2 by omega,Nat.add_sub_cancel]
 have:nT (r.take (r.takeWhile kL).length)=true:=by
  unfold nT;rw[aEQ,eW,bK];exact kD aB
 rw[this,show decide (1<(r.takeWhile kL).length+2)=true from kD aB];rfl
theorem aJD:∀(x:aC) (a:Nat),a * 10 ^ x.length<=x.foldl (λn d=>n * 10+(d.toNat-48)) a
 | [],a=>by simp
 | d::x,a=>by
  simp only[List.foldl_cons,aE];refine nM ?_ (aJD x _);rw[Nat.pow_succ,Nat.mul_comm (10 ^ x.length) 10,<-Nat.mul_assoc];exact oU _ aB
theorem aFB:∀(x:aC),gA (x.dropWhile (mO 48))=gA x
 | []=>rfl
 | d::x=>by
  by_cases h:mO 48 d=true
  .rw[List.dropWhile_cons_of_pos h,aFB x];have:d=48:=by simpa [mO]using h
   subst this;rfl
  .rw[List.dropWhile_cons_of_neg h]
theorem aRy(x:aC)(hd:xW x)(hl:10<(x.dropWhile (mO 48)).length):2147483647<gA x:=by
 rw[<-aFB];have hsub:∀c,c∈x.dropWhile (mO 48)->c∈x:=λc hc=>(List.dropWhile_sublist _).subset hc
 have hh:∀c r,x.dropWhile (mO 48)=c::r->mO 48 c=false:=by
  intro c r h;have:=List.head?_dropWhile_not (mO 48) x;rw[h]at this;simpa using this
 generalize x.dropWhile (mO 48)=g at hl hsub hh;cases g with
 | nil=>simp at hl
 | cons c r =>
  have h1:=hh c r rfl;have h2:=hd c (hsub c bD)
  have h3:¬ c.toNat=48:=λe=>by
   have:c=48:=tH.1 e;subst this;cases h1
  simp only[gA,List.foldl_cons,Nat.zero_mul,gI];refine Nat.lt_of_lt_of_le ?_ (aJD r _);have h4:10<=r.length:=by simp only[aE]at hl;omega
  have h5:10 ^ 10<=10 ^ r.length:=Nat.pow_le_pow_right aB h4;have h6:1 * 10 ^ r.length<=(c.toNat-48) * 10 ^ r.length:=oU _ aB;have h7:(10:Nat) ^ 10=10000000000:=by decide
  omega
theorem aJX(x:aC)(h:¬ (2147483647<gA (x.take (x.takeWhile λc=>iG c.toNat).length)\/∃c,x[(x.takeWhile λc=>iG c.toNat).length]?=some c/\eY c.toNat=true))(hd:xW (x.take (x.takeWhile λc=>iG c.toNat).length)) :
  pL x=(⟨2,[],gA (x.take (x.takeWhile λc=>iG c.toNat).length),0,0⟩,(x.takeWhile λc=>iG c.toNat).length,true):=by
 unfold pL;simp only;rw[if_neg (λh1=>h (h1.elim (λh2=>.inl (aRy _ hd h2)) .inr)),aFB];rw[show decide (gA (x.take (x.takeWhile λc=>iG c.toNat).length)<=2147483647)=true from kD aB]
structure TokG (t:Tok):Prop where
 is:(t.kind=1/\t.n=0/\∃c r,t.text=c::r/\dM [c]=true/\(c::r).all (λc=>eY c.toNat)=true/\(c::r).length<=40) \/
  (t.kind=2/\t.text=[]/\0<=t.n/\t.n<=2147483647)\/(t.kind=3/\t.n=0/\nT t.text=true)\/(t.kind=4/\t.n=0/\(t.text∈dG\/t.text=[39]\/t.text=[95]))
def Tok.word(t:Tok):aC:=if t.kind=2 then Lib.itoa t.n else if t.kind=3 then 34::(t.text++[34]) else t.text
theorem aF1{p:UInt8->Bool}{x z:aC}{b:UInt8}(hx:∀c,c∈x->p c=true)(hb:p b=false):(x++b::z).takeWhile p=x:=by
 rw[List.takeWhile_append_of_pos hx,aBG (by simp[hb]),eM]
theorem aRb{c:UInt8}{r z:aC}{b:UInt8}(hc:dM [c]=true)(ha:(c::r).all (λc=>eY c.toNat)=true)(hl:(c::r).length<=40)(hb:eY b.toNat=false) :
  gC (c::r++b::z) dG true=(⟨1,c::r,0,0,0⟩,(c::r).length,true):=by
 have htw:(c::(r++b::z)).takeWhile (λc=>eY c.toNat)=c::r:=aF1 (x:=c::r) (λx hx=>iH.1 ha x hx) hb;show gC (c::(r++b::z)) dG true=_;simp only[gC];rw[if_pos hc,htw,show(c::(r++b::z)).take (c::r).length=c::r from List.take_left' (l₁:=c::r) rfl,show decide ((c::r).length<=40)=true from kD hl]
theorem aQN{x z:aC}(hx:nT x=true):gC (34::(x++[34])++z) dG true=(⟨3,x,0,0,0⟩,(34::(x++[34])).length,true):=by
 simp only[nT,cL,cU]at hx;have htw:(x++34::z).takeWhile kL=x:=aF1 (λc hc=>iH.1 hx.1 c hc) aD
 have h:=aQD (x++34::z) dG true (by
  rw[htw];exact⟨by rw[oT (bT _),Nat.sub_self];rfl,hx.2⟩)
 rw[htw,List.take_left' rfl]at h;have e:34::(x++[34])++z=34::(x++34::z):=by simp
 rw[e,h];simp
theorem aAg:∀(m u:Nat),u<m->∃c r,Lib.decDigits u=c::r/\48<=c.toNat/\c.toNat<=57
 | 0,u,h=>by omega
 | m+1,u,h=>by
  rw[Lib.decDigits];by_cases h0:u<10
  .rw[dif_pos h0];have:(UInt8.ofNat (48+u)).toNat=48+u:=by rw[UInt8.toNat_ofNat'];omega
   exact⟨_,[],rfl,by omega,by omega⟩
  .rw[dif_neg h0];obtain⟨c,r,e,h1,h2⟩:=aAg m (u / 10) aB;rw[e];exact⟨c,r++[UInt8.ofNat (48+u % 10)],rfl,h1,h2⟩
theorem aC1:∀(m u:Nat),u<m->gA (Lib.decDigits u)=u/\xW (Lib.decDigits u)
 | 0,u,h=>by omega
 | m+1,u,h=>by
  rw[Lib.decDigits];by_cases h0:u<10
  .rw[dif_pos h0];have e:(UInt8.ofNat (48+u)).toNat=48+u:=by rw[UInt8.toNat_ofNat'];omega
   refine⟨by simp only[gA,List.foldl_cons,List.foldl_nil];omega,λd hd=>?_⟩;simp only[bW]at hd;subst hd;omega
  .rw[dif_neg h0];obtain⟨h1,h2⟩:=aC1 m (u / 10) aB;have e:(UInt8.ofNat (48+u % 10)).toNat=48+u % 10:=by rw[UInt8.toNat_ofNat'];omega
   refine⟨by rw[aFo,h1];omega,λd hd=>?_⟩;rcases cW.1 hd with hd|hd
   .exact h2 d hd
   .simp only[bW]at hd;subst hd;omega
theorem aCX{c:UInt8}(h1:48<=c.toNat)(h2:c.toNat<=57):dM [c]=false/\iG c.toNat=true/\nN c=false/\c≠47/\c≠62:=by
 have k:∀n:Nat,48<=n->n<=57->dM [UInt8.ofNat n]=false/\iG (UInt8.ofNat n).toNat=true/\nN (UInt8.ofNat n)=false/\UInt8.ofNat n≠47/\UInt8.ofNat n≠62:=by
  intro n g1 g2;have:n=48\/n=49\/n=50\/n=51\/n=52\/n=53\/n=54\/n=55\/n=56\/n=57:=by omega
  rcases this with rfl|rfl|rfl|rfl|rfl|rfl|rfl|rfl|rfl|rfl<;>decide
 have:=k c.toNat h1 h2
 rwa[UInt8.ofNat_toNat]at this
theorem aRN{n:Int}{z:aC}{b:UInt8}(h0:0<=n)(h1:n<=2147483647)(hb:eY b.toNat=false):gC (Lib.itoa n++b::z) dG true=(⟨2,[],n,0,0⟩,(Lib.itoa n).length,true):=by
 have e:Lib.itoa n=Lib.decDigits n.toNat:=by unfold Lib.itoa;rw[if_neg aB]
 rw[e];obtain⟨c,r,hcr,hc1,hc2⟩:=aAg _ n.toNat (jB _);obtain⟨hnum,hdig⟩:=aC1 _ n.toNat (jB _);obtain⟨g1,g2,_⟩:=aCX hc1 hc2
 have hbd:iG b.toNat=false:=by
  simp only[eY,Bool.or_eq_false_iff]at hb;exact hb.2.1
 have htw:(Lib.decDigits n.toNat++b::z).takeWhile (λc=>iG c.toNat)=Lib.decDigits n.toNat:=aF1 (λd hd=>by
  have:=hdig d hd;simp only[iG,cL,cU];omega) hbd
 have hnt:=aJX (Lib.decDigits n.toNat++b::z) (by
  rw[htw,List.take_left' rfl,hnum];rintro(h|⟨d,hd,hp⟩)
  .omega
  .rw[oT (bT _),Nat.sub_self]at hd;cases hd;rw[hb]at hp;cases hp) (by rw[htw,List.take_left' rfl];exact hdig)
 rw[htw,List.take_left' rfl,hnum]at hnt;rw[show((n.toNat:Nat):Int)=n by omega]at hnt;rw[hcr]at hnt⊢;show gC (c::(r++b::z)) dG true=_;simp only[gC];rw[if_neg (by simp[g1]),if_pos g2];exact hnt
theorem aQ4{x z:aC}{b:UInt8}(hx:x∈dG\/x=[39]\/x=[95])(hb:b≠62):gC (x++b::z) dG true=(⟨4,x,0,0,0⟩,x.length,true):=by
 have hb':¬ b=62:=hb;have h2:∀n:Nat,decide (2<=n+1+1)=true:=λn=>kD aB
 have h1:∀n:Nat,decide (1<=n+1)=true:=λn=>kD aB
 simp only[dG,eB,List.mem_nil_iff,fH]at hx;rcases hx with(rfl|rfl|rfl|rfl|rfl|rfl|rfl|rfl|rfl|rfl|rfl|rfl|rfl|rfl|rfl|rfl|rfl|rfl)|rfl|rfl
 all_goals simp[gC,dM,sP,iG,lH,dG,lU,hb',h1,h2]
theorem aSq:∀x,x∈dG\/x=[39]\/x=[95]->∃c r,x=c::r/\nN c=false/\c≠47:=by
 intro x hx;simp only[dG,eB,List.mem_nil_iff,fH]at hx;rcases hx with(rfl|rfl|rfl|rfl|rfl|rfl|rfl|rfl|rfl|rfl|rfl|rfl|rfl|rfl|rfl|rfl|rfl|rfl)|rfl|rfl
 all_goals exact⟨_,_,rfl,by decide,by decide⟩
theorem aQQ{c:UInt8}(h:dM [c]=true):nN c=false/\c≠47:=by
 simp only[dM,sP,cL,qB,cU]at h;have h3:=h.2.1;refine⟨?_,λe=>?_⟩
 .simp only[nN,Bool.or_eq_false_iff,fL];refine⟨λe=>?_,λe=>?_,λe=>?_,λe=>?_⟩<;>(subst e;revert h3;decide)
 .subst e;revert h3;decide
theorem aA5{t:Tok}(h:TokG t):∃c r,t.word=c::r/\nN c=false/\c≠47:=by
 rcases h.is with⟨hk,_,c,r,ht,hn,_⟩|⟨hk,_,h0,_⟩|⟨hk,_,_⟩|⟨hk,_,hs⟩
 .refine⟨c,r,?_,aQQ hn⟩;unfold Tok.word;rw[hk,if_neg aD,if_neg aD,ht]
 .obtain⟨c,r,hcr,hc1,hc2⟩:=aAg _ t.n.toNat (jB _);obtain⟨_,_,g3,g4,_⟩:=aCX hc1 hc2;refine⟨c,r,?_,g3,g4⟩;unfold Tok.word Lib.itoa;rw[hk,if_pos rfl,if_neg aB,hcr]
 .refine⟨34,t.text++[34],?_,by decide,by decide⟩;unfold Tok.word;rw[hk,if_neg aD,if_pos rfl]
 .obtain⟨c,r,e,g⟩:=aSq _ hs;refine⟨c,r,?_,g⟩;unfold Tok.word;rw[hk,if_neg aD,if_neg aD,e]
def aGs(x:aC):Prop:=x=[]\/∃c r,x=c::r/\nN c=false/\c≠47
theorem aDa{x:aC}(h:aGs x)(f:Nat):oB f x=0:=by
 rcases h with rfl|⟨c,r,rfl,h1,h2⟩
 .cases f<;>rfl
 .cases f with
  | zero=>rfl
  | succ f =>
   have e:lU (c::r) [47,47]=false:=by
    simp only[lU,Bool.and_eq_false_iff,fL];refine .inr λe=>?_
    cases r with
    | nil=>cases e
    | cons d r=>simp only[aE,aF,gI,Nat.reduceAdd,List.take_succ_cons,List.take_zero,List.cons.injEq]at e;exact h2 e.1
   simp only[oB,h1,e,cJ,if_false]
theorem aRJ{c:UInt8}{r:aC}{t:Tok}{n:Nat}(h:gC (c::r) dG true=(t,n,true))(l k:Int):TokG ⟨t.kind,t.text,t.n,l,k⟩:=by
 have hlen:=aCb h;simp only[gC]at h;split at h
 .rename_i hn;simp only[lO,cU]at h;obtain⟨rfl,h2,h3⟩:=h;refine⟨.inl ⟨rfl,rfl,?_⟩⟩;obtain⟨m,hm⟩:∃m,n=m+1:=⟨n-1,by omega⟩
  refine⟨c,r.take m,?_,hn,?_,?_⟩
  .show(c::r).take _=_;rw[h2,hm];rfl
  .have:=aEQ (λc=>eY c.toNat) (c::r);rw[h2,hm]at this;exact this
  .rw[aE,bK];omega
 .split at h
  .simp only[pL]at h;split at h
   .simp only[lO,cJ,and_false]at h
   .simp only[lO,cU]at h;obtain⟨rfl,_,h3⟩:=h;exact⟨.inr (.inl ⟨rfl,rfl,Int.natCast_nonneg _,by simp only;omega⟩)⟩
  .split at h
   .simp only[lO,cL]at h;obtain⟨h1,h2,_,h3⟩:=h;subst h1;exact⟨.inr (.inr (.inl ⟨rfl,rfl,h3⟩))⟩
   .simp only[lO,cU]at h;obtain⟨h1,h2,h3⟩:=h;rw[h2]at h1 h3;subst h1;refine⟨.inr (.inr (.inr ⟨rfl,rfl,?_⟩))⟩;show(c::r).take n∈dG\/(c::r).take n=[39]\/(c::r).take n=[95];by_cases h4:lH (c::r) dG 0=0/\True/\(c=39\/c=95)
    .rw[if_pos (by simpa using h4)]at h2;subst h2;rcases h4.2.2 with rfl|rfl
     .exact .inr (.inl rfl)
     .exact .inr (.inr rfl)
    .rw[if_neg (by simpa using h4)]at h2;subst h2;rcases aB1 (c::r) dG 0 with h5|h5
     .omega
     .exact .inl h5
theorem aLm:∀(f:Nat) (w:aC) (p:Nat × Nat) (acc:List Tok) (l:List Tok),(∀t,t∈acc->TokG t)->kX dG true f w p acc=.ok l->∀t,t∈l->TokG t
 | _,[],p,acc,l,ha,h=>by
  simp only[kX]at h;cases h;exact ha
 | 0,_::_,p,acc,l,ha,h=>by
  simp only[kX]at h;cases h;exact ha
 | f+1,c::r,p,acc,l,ha,h=>by
  simp only[kX]at h;rcases htok:gC (c::r) dG true with⟨t,n,ok⟩
  rw[htok]at h;cases ok with
  | false=>cases h
  | true =>
   simp only at h;refine aLm f _ _ _ l (λt' ht'=>?_) h;rcases cW.1 ht' with h5|h5
   .exact ha t' h5
   .simp only[bW]at h5;subst h5;exact aRJ htok _ _
theorem aTE{x:aC}{l:List Tok}(h:jS dG true x=.ok l):∀t,t∈l->TokG t:=aLm _ _ _ _ l (λt ht=>by cases ht) h
abbrev Pc:=List (Option Tok)
def pcT:Pc->aC
 | []=>[]
 | some t::P=>t.word++pcT P
 | none::P=>32::pcT P
def bH:Pc->List Tok
 | []=>[]
 | some t::P=>t::bH P
 | none::P=>bH P
theorem lF:∀P Q:Pc,bH (P++Q)=bH P++bH Q
 | [],Q=>rfl
 | some t::P,Q=>by rw[aV,bH,bH,lF P Q,aV]
 | none::P,Q=>by rw[aV,bH,bH,lF P Q]
def clo:List aC:=[[40],[41],[44],[58],[93],[125]]
def jG:Pc->Prop
 | []=>True
 | some t::P=>TokG t/\(∀u Q,P=some u::Q->t.kind=1\/t.kind=2->u.kind=4/\u.text∈clo)/\(t.kind=4->t.text=[45]->∀Q,P≠none::Q)/\jG P
 | none::P=>(∃t Q,P=some t::Q)/\jG P
theorem aPs{c:UInt8}{r:aC}(hc:dM [c]=true)(ha:(c::r).all (λc=>eY c.toNat)=true)(hl:(c::r).length<=40) :
  gC (c::r) dG true=(⟨1,c::r,0,0,0⟩,(c::r).length,true):=by
 have htw:(c::r).takeWhile (λc=>eY c.toNat)=c::r:=by
  have:=List.takeWhile_append_of_pos (l₁:=c::r) (l₂:=[]) (p:=λc:UInt8=>eY c.toNat) (λx hx=>iH.1 ha x hx);simpa using this
 simp only[gC];rw[if_pos hc,htw,List.take_length,show decide ((c::r).length<=40)=true from kD hl]
theorem aQO{n:Int}(h0:0<=n)(h1:n<=2147483647):gC (Lib.itoa n) dG true=(⟨2,[],n,0,0⟩,(Lib.itoa n).length,true):=by
 have e:Lib.itoa n=Lib.decDigits n.toNat:=by unfold Lib.itoa;rw[if_neg aB]
 rw[e];obtain⟨c,r,hcr,hc1,hc2⟩:=aAg _ n.toNat (jB _);obtain⟨hnum,hdig⟩:=aC1 _ n.toNat (jB _);obtain⟨g1,g2,_⟩:=aCX hc1 hc2
 have htw:(Lib.decDigits n.toNat).takeWhile (λc=>iG c.toNat)=Lib.decDigits n.toNat:=by
  have:=List.takeWhile_append_of_pos (l₁:=Lib.decDigits n.toNat) (l₂:=[]) (p:=λc:UInt8=>iG c.toNat) (λd hd=>by
   have:=hdig d hd;simp only[iG,cL,cU];omega)
  simpa using this
 have hnt:=aJX (Lib.decDigits n.toNat) (by
  rw[htw,List.take_length,hnum];rintro(h|⟨d,hd,hp⟩)
  .omega
  .rw[qW (bT _)]at hd;cases hd) (by rw[htw,List.take_length];exact hdig)
 rw[htw,List.take_length,hnum]at hnt;rw[show((n.toNat:Nat):Int)=n by omega]at hnt;rw[hcr]at hnt⊢;simp only[gC];rw[if_neg (by simp[g1]),if_pos g2];exact hnt
theorem aO8{x:aC}(hx:x∈dG\/x=[39]\/x=[95]):gC x dG true=(⟨4,x,0,0,0⟩,x.length,true):=by
 simp only[dG,eB,List.mem_nil_iff,fH]at hx;rcases hx with(rfl|rfl|rfl|rfl|rfl|rfl|rfl|rfl|rfl|rfl|rfl|rfl|rfl|rfl|rfl|rfl|rfl|rfl)|rfl|rfl
 all_goals decide
theorem aR5{t:Tok}(h:TokG t){z:aC}(hz:z=[]\/∃b z',z=b::z'/\b≠62/\(t.kind=1\/t.kind=2->eY b.toNat=false)):gC (t.word++z) dG true=(⟨t.kind,t.text,t.n,0,0⟩,t.word.length,true):=by
 rcases h.is with⟨hk,hn,c,r,ht,hc,ha,hl⟩|⟨hk,ht,h0,h1⟩|⟨hk,hn,hs⟩|⟨hk,hn,hs⟩
 .have e:t.word=c::r:=by unfold Tok.word;rw[hk,if_neg aD,if_neg aD,ht]
  rcases hz with rfl|⟨b,z',rfl,_,hb⟩
  .rw[eM,e,aPs hc ha hl,hk,hn,ht]
  .rw[e,aRb hc ha hl (hb (.inl hk)),hk,hn,ht]
 .have e:t.word=Lib.itoa t.n:=by unfold Tok.word;rw[hk,if_pos rfl]
  rcases hz with rfl|⟨b,z',rfl,_,hb⟩
  .rw[eM,e,aQO h0 h1,hk,ht]
  .rw[e,aRN h0 h1 (hb (.inr hk)),hk,ht]
 .have e:t.word=34::(t.text++[34]):=by unfold Tok.word;rw[hk,if_neg aD,if_pos rfl]
  rw[e,aQN hs,hk,hn]
 .have e:t.word=t.text:=by unfold Tok.word;rw[hk,if_neg aD,if_neg aD]
  rcases hz with rfl|⟨b,z',rfl,hb,_⟩
  .rw[eM,e,aO8 hs,hk,hn]
  .rw[e,aQ4 hs hb,hk,hn]
theorem aR9{t:Tok}(h:TokG t){c:UInt8}{r:aC}(e:t.word=c::r):c≠62:=by
 rcases h.is with⟨hk,hn,d,s,ht,hc,ha,hl⟩|⟨hk,ht,h0,h1⟩|⟨hk,hn,hs⟩|⟨hk,hn,hs⟩
 .have e2:t.word=d::s:=by unfold Tok.word;rw[hk,if_neg aD,if_neg aD,ht]
  rw[e2]at e;cases e;rintro rfl;revert hc;decide
 .obtain⟨d,s,hcr,hc1,hc2⟩:=aAg _ t.n.toNat (jB _);obtain⟨_,_,_,_,g5⟩:=aCX hc1 hc2;have e2:t.word=d::s:=by unfold Tok.word Lib.itoa;rw[hk,if_pos rfl,if_neg aB,hcr]
  rw[e2]at e;cases e;exact g5
 .have e2:t.word=34::(t.text++[34]):=by unfold Tok.word;rw[hk,if_neg aD,if_pos rfl]
  rw[e2]at e;cases e;decide
 .have e2:t.word=t.text:=by unfold Tok.word;rw[hk,if_neg aD,if_neg aD]
  rw[e2]at e;simp only[dG,eB,List.mem_nil_iff,fH]at hs;rw[e]at hs;rcases hs with(h|h|h|h|h|h|h|h|h|h|h|h|h|h|h|h|h|h)|h|h<;>(cases h;decide)
def bE(x:aC):Tok:=⟨1,x,0,0,0⟩
def aR(x:aC):Tok:=⟨4,x,0,0,0⟩
abbrev aDC:aC:=[65,110,121]
abbrev aDr:aC:=[76,105,115,116]
abbrev aDz:aC:=[77,97,112]
abbrev aAi:aC:=[116,114,117,101]
abbrev aAb:aC:=[102,97,108,115,101]
def gV(e:Bool):List Tm->Pc
 | []=>[]
 | r::l=>(if e=true then [] else [none])++(some (aR [124])::none::some (bE r.text)::gV e l)
def oE(b:Bool):Pc:=if b=true then [some (aR [44]),none] else []
mutual
def Tm.pc:Tm->Pc
 | .mk k n t s ks rs =>
  if k=1 then(if n<0 then [some (aR [45]),some ⟨2,[],-n,0,1⟩] else [some ⟨2,[],n,0,0⟩])
  else if k=2 then [some (bE (if n=1 then aAi else aAb))]
  else if k=3 then [some ⟨3,t,0,0,0⟩]
  else if k=4 then [some (aR [39]),some (bE t)]
  else if k=5 then some (bE t)::some (aR [40])::(eS false ks++[some (aR [41])])
  else if k=6 then(if t=[95]\/t=[36] then [some (aR t)] else [some (bE t),some (aR [58]),some (bE s)])
  else if k=7 then some (aR [91])::(eS false ks++(gV ks.isEmpty rs++[some (aR [93])]))
  else if k=8 then some (aR [123])::(fA false ks++(gV ks.isEmpty rs++[some (aR [125])]))
  else []
def eS:Bool->List Tm->Pc
 | _,[]=>[]
 | b,t::r=>oE b++(t.pc++eS true r)
def fA:Bool->List Tm->Pc
 | _,[]=>[]
 | _,[_]=>[]
 | b,k::v::r=>oE b++(k.pc++(none::some (aR [45,62])::none::(v.pc++fA true r)))
end
theorem pc1(n:Int)(t s:aC)(ks rs:List Tm):(Tm.mk 1 n t s ks rs).pc=if n<0 then [some (aR [45]),some ⟨2,[],-n,0,1⟩] else [some ⟨2,[],n,0,0⟩]:=by rw[Tm.pc,if_pos rfl]
theorem pc2(n:Int)(t s:aC)(ks rs:List Tm):(Tm.mk 2 n t s ks rs).pc=[some (bE (if n=1 then aAi else aAb))]:=by rw[Tm.pc,if_neg aD,if_pos rfl]
theorem pc3(n:Int)(t s:aC)(ks rs:List Tm):(Tm.mk 3 n t s ks rs).pc=[some ⟨3,t,0,0,0⟩]:=by rw[Tm.pc,if_neg aD,if_neg aD,if_pos rfl]
theorem pc4(n:Int)(t s:aC)(ks rs:List Tm):(Tm.mk 4 n t s ks rs).pc=[some (aR [39]),some (bE t)]:=by rw[Tm.pc,if_neg aD,if_neg aD,if_neg aD,if_pos rfl]
theorem pc5(n:Int)(t s:aC)(ks rs:List Tm):(Tm.mk 5 n t s ks rs).pc=some (bE t)::some (aR [40])::(eS false ks++[some (aR [41])]):=by rw[Tm.pc,if_neg aD,if_neg aD,if_neg aD,if_neg aD,if_pos rfl]
theorem wC(n:Int)(t s:aC)(ks rs:List Tm):(Tm.mk 6 n t s ks rs).pc=if t=[95]\/t=[36] then [some (aR t)] else [some (bE t),some (aR [58]),some (bE s)]:=by rw[Tm.pc,if_neg aD,if_neg aD,if_neg aD,if_neg aD,if_neg aD,if_pos rfl]
theorem pc7(n:Int)(t s:aC)(ks rs:List Tm):(Tm.mk 7 n t s ks rs).pc=some (aR [91])::(eS false ks++(gV ks.isEmpty rs++[some (aR [93])])):=by rw[Tm.pc,if_neg aD,if_neg aD,if_neg aD,if_neg aD,if_neg aD,if_neg aD,if_pos rfl]
theorem pc8(n:Int)(t s:aC)(ks rs:List Tm):(Tm.mk 8 n t s ks rs).pc=some (aR [123])::(fA false ks++(gV ks.isEmpty rs++[some (aR [125])])):=by rw[Tm.pc,if_neg aD,if_neg aD,if_neg aD,if_neg aD,if_neg aD,if_neg aD,if_neg aD,if_pos rfl]
def Tm.wr(t:Tm):aC:=pcT t.pc
def sL(S:aC)(rs:List Tm):Prop:=rs=[]\/∃x,rs=[.mk 6 0 x S [] []]/\dM x=true/\x ∉ gX
inductive Gd:Tm->Prop
 | int (n:Int) (h1:-2147483647<=n) (h2:n<=2147483647):Gd (.mk 1 n [] [] [] [])
 | bool (n:Int) (h:n=0\/n=1):Gd (.mk 2 n [] [] [] [])
 | text (x:aC) (h:nT x=true):Gd (.mk 3 0 x [] [] [])
 | id (x:aC) (h:sU x=true) (hr:x ∉ gX):Gd (.mk 4 0 x [] [] [])
 | app (x:aC) (ks:List Tm) (h:dM x=true) (hr:x ∉ gX) (hl:ks.length<=8) (hk:∀y,y∈ks->Gd y):Gd (.mk 5 0 x [] ks [])
 | opn (x:aC) (h:x=[95]\/x=[36]):Gd (.mk 6 0 x aDC [] [])
 | var (x s:aC) (h:dM x=true) (hr:x ∉ gX) (h2:dM s=true) (hr2:s ∉ gX):Gd (.mk 6 0 x s [] [])
 | list (ks rs:List Tm) (hk:∀y,y∈ks->Gd y) (hr:sL aDr rs):Gd (.mk 7 0 [] [] ks rs)
 | map (ks rs:List Tm) (he:ks.length % 2=0) (hk:∀y,y∈ks->Gd y) (hr:sL aDz rs):Gd (.mk 8 0 [] [] ks rs)
theorem aFl{x:aC}(h:dM x=true):∃c r,x=c::r/\dM [c]=true/\(c::r).all (λc=>eY c.toNat)=true/\(c::r).length<=40:=by
 cases x with
 | nil=>simp[dM]at h
 | cons c r =>
  refine⟨c,r,rfl,?_⟩;simp only[dM,cL,cU]at h⊢;simp only[List.all_cons,cL]at h⊢
  grind
theorem aAo{x:aC}(h:dM x=true):TokG (bE x):=by
 obtain⟨c,r,e,h1,h2,h3⟩:=aFl h;exact⟨.inl ⟨rfl,rfl,c,r,e,h1,h2,h3⟩⟩
theorem aDv{x:aC}(h:x∈dG\/x=[39]\/x=[95]):TokG (aR x):=⟨.inr (.inr (.inr ⟨rfl,rfl,h⟩))⟩
theorem vK{x:aC}(h:dM x=true):x≠[124]/\x≠[93]/\x≠[125]/\x≠[41]/\x≠[45]/\x≠[95]/\x≠[36]:=by
 refine⟨?_,?_,?_,?_,?_,?_,?_⟩<;>(rintro rfl;revert h;decide)
structure Hd (u:Tok):Prop where
 g:TokG u
 b:u.begins=true
 n1:eH u [124]=false
 n2:eH u [93]=false
 n3:eH u [125]=false
 n4:eH u [41]=false
theorem aBb{x:aC}(h:dM x=true)(hr:x ∉ gX\/x=aAi\/x=aAb):Hd (bE x):=by
 obtain⟨h1,h2,h3,h4,_⟩:=vK h;refine⟨aAo h,?_,?_,?_,?_,?_⟩
 .unfold Tok.begins bE;simp only[Int.reduceEq,or_self,if_false,if_true,qB,oG,fL,cU];rcases hr with h|h|h
  .exact .inl h
  .exact .inr (.inl h)
  .exact .inr (.inr h)
 all_goals simp[eH,bE,h1,h2,h3,h4]
theorem aBc{x:aC}(h:x∈[[45],[39],[95],[91],[123],[36]]):Hd (aR x):=by
 simp only[eB,List.mem_nil_iff,fH]at h;rcases h with rfl|rfl|rfl|rfl|rfl|rfl<;>exact⟨aDv aD,by decide,by decide,by decide,by decide,by decide⟩
theorem Gd.hd{t:Tm}(h:Gd t):∃u P,t.pc=some u::P/\Hd u:=by
 cases h with
 | int n h1 h2 =>
  rw[pc1];by_cases hn:n<0
  .rw[if_pos hn];exact⟨_,_,rfl,aBc aD⟩
  .rw[if_neg hn];exact⟨_,_,rfl,⟨⟨.inr (.inl ⟨rfl,rfl,by simp only;omega,by simp only;omega⟩)⟩,rfl,rfl,rfl,rfl,rfl⟩⟩
 | bool n h =>
  refine⟨bE (if n=1 then aAi else aAb),[],pc2 .., aBb ?_ ?_⟩
  .split<;>decide
  .split
   .exact .inr (.inl rfl)
   .exact .inr (.inr rfl)
 | text x h=>exact⟨⟨3,x,0,0,0⟩,[],pc3 .., ⟨⟨.inr (.inr (.inl ⟨rfl,rfl,h⟩))⟩,rfl,rfl,rfl,rfl,rfl⟩⟩
 | id x h hr=>exact⟨_,_,pc4 ..,aBc aD⟩
 | app x ks h hr hl hk=>exact⟨_,_,pc5 ..,aBb h (.inl hr)⟩
 | opn x h =>
  refine⟨aR x,[],?_,?_⟩
  .rw[wC,if_pos h]
  .rcases h with rfl|rfl<;>exact aBc aD
 | var x s h hr h2 hr2 =>
  obtain⟨_,_,_,_,_,h6,h7⟩:=vK h;refine⟨bE x,[some (aR [58]),some (bE s)],?_,aBb h (.inl hr)⟩
  .rw[wC,if_neg (by simp[h6,h7])]
 | list ks rs hk hr=>exact⟨_,_,pc7 ..,aBc aD⟩
 | map ks rs he hk hr=>exact⟨_,_,pc8 ..,aBc aD⟩
def nF(Q:Pc):Prop:=∀u Q',Q=some u::Q'->u.kind=4/\u.text∈clo
theorem aKG(Q:Pc):nF (none::Q):=λu Q' h=>by cases h
theorem xV{x:aC}(h:x∈clo)(Q:Pc):nF (some (aR x)::Q):=λu Q' e=>by cases e;exact⟨rfl,h⟩
theorem zR{x:aC}(h:dM x=true){Q:Pc}(hQ:jG Q)(hs:nF Q):jG (some (bE x)::Q) :=
 ⟨aAo h,λu Q' e _=>hs u Q' e,λ_ e=>absurd e (vK h).2.2.2.2.1,hQ⟩
theorem pI{x:aC}(h:x∈dG\/x=[39]\/x=[95])(h5:x≠[45]){Q:Pc}(hQ:jG Q):jG (some (aR x)::Q) :=
 ⟨aDv h,(λu Q' _ k=>by rcases k with k|k<;>cases k),λ_ e=>absurd e h5,hQ⟩
theorem zX{u:Tok}{Q:Pc}(hQ:jG (some u::Q)):jG (none::some u::Q):=⟨⟨u,Q,rfl⟩,hQ⟩
theorem aLT{e:Bool}{S:aC}{rs:List Tm}(h:sL S rs){Q:Pc}(hQ:jG Q)(hs:nF Q):jG (gV e rs++Q)/\(e=false->nF (gV e rs++Q)):=by
 rcases h with rfl|⟨x,rfl,hx,_⟩
 .exact⟨hQ,λ_=>hs⟩
 .have h1:jG (some (aR [124])::none::some (bE x)::Q):=pI aD aD (zX (zR hx hQ hs));cases e with
  | true=>exact⟨h1,λh=>by cases h⟩
  | false=>exact⟨zX h1,λ_=>aKG _⟩
theorem aLR(l:List Tm)(hl:∀t,t∈l->Gd t)(ih:∀t,t∈l->∀Q,jG Q->nF Q->jG (t.pc++Q)):∀(b:Bool) (Q:Pc),jG Q->nF Q\/l=[]->jG (eS b l++Q)/\(b=true->nF Q->nF (eS b l++Q)):=by
 induction l with
 | nil=>intro b Q hQ hs;exact⟨by simpa only[eS,aW]using hQ,λ_ h=>by simpa only[eS,aW]using h⟩
 | cons t r ihl =>
  intro b Q hQ hs;have hs':nF Q:=by rcases hs with h|h;exact h;cases h
  obtain⟨h1,h2⟩:=ihl (λt ht=>hl t (cT _ ht)) (λt ht=>ih t (cT _ ht)) true Q hQ (.inl hs');have h3:=ih t (bY ..) _ h1 (h2 rfl hs');obtain⟨u,P,e,_⟩:=(hl t (bY ..)).hd;cases b with
  | false =>
   refine⟨?_,λh=>by cases h⟩;simp only[eS,oE,cJ,if_false,aW,bI];exact h3
  | true =>
   simp only[eS,oE,if_true,bI,aV,aW];refine⟨pI aD aD ?_,λ_ _=>xV aD _⟩;rw[e,aV]at h3⊢;exact zX h3
theorem aUk:∀(m:Nat) (l:List Tm),l.length<=m->l.length % 2=0->(∀t,t∈l->Gd t)->(∀t,t∈l->∀Q,jG Q->nF Q->jG (t.pc++Q))->∀(b:Bool) (Q:Pc),jG Q->nF Q\/l=[]->jG (fA b l++Q)/\(b=true->nF Q->nF (fA b l++Q)):=by
 intro m
 induction m with
 | zero =>
  intro l hm he hl ih b Q hQ hs;obtain rfl:=fK (by omega:l.length=0);exact⟨by simpa only[fA,aW]using hQ,λ_ h=>by simpa only[fA,aW]using h⟩
 | succ m ihm =>
  intro l hm he hl ih b Q hQ hs;cases l with
  | nil=>exact⟨by simpa only[fA,aW]using hQ,λ_ h=>by simpa only[fA,aW]using h⟩
  | cons k l =>
  cases l with
  | nil=>simp at he
  | cons v r =>
  have hs':nF Q:=by rcases hs with h|h;exact h;cases h
  obtain⟨h1,h2⟩:=ihm r (by simp only[aE]at hm;omega) (by simp only[aE]at he;omega) (λt ht=>hl t (cT _ (cT _ ht))) (λt ht=>ih t (cT _ (cT _ ht))) true Q hQ (.inl hs');have h3:=ih v (cT _ (bY ..)) _ h1 (h2 rfl hs');obtain⟨u,P,e,_⟩:=(hl v (cT _ (bY ..))).hd;obtain⟨u2,P2,e2,_⟩:=(hl k (bY ..)).hd
  have h4:jG (none::some (aR [45,62])::none::(v.pc++(fA true r++Q))):=by
   refine zX (pI aD aD ?_);rw[e,aV]at h3⊢;exact zX h3
  have h5:=ih k (bY ..) _ h4 (aKG _);cases b with
  | false =>
   refine⟨?_,λh=>by cases h⟩;simp only[fA,oE,cJ,if_false,aW,bI,aV];exact h5
  | true =>
   simp only[fA,oE,if_true,bI,aV,aW];refine⟨pI aD aD ?_,λ_ _=>xV aD _⟩;rw[e2,aV]at h5⊢;exact zX h5
theorem Gd.ok{t:Tm}(h:Gd t):∀Q,jG Q->nF Q->jG (t.pc++Q):=by
 induction h with
 | int n h1 h2 =>
  intro Q hQ hs;rw[pc1];by_cases hn:n<0
  .rw[if_pos hn];refine⟨aDv aD,(λu Q' _ k=>by rcases k with k|k<;>cases k),(λ_ _ Q' e=>by cases e),⟨.inr (.inl ⟨rfl,rfl,by simp only;omega,by simp only;omega⟩)⟩,λu Q' e _=>hs u Q' e,(λe=>by cases e),hQ⟩
  .rw[if_neg hn];exact⟨⟨.inr (.inl ⟨rfl,rfl,by simp only;omega,by simp only;omega⟩)⟩,λu Q' e _=>hs u Q' e,(λe=>by cases e),hQ⟩
 | bool n h =>
  intro Q hQ hs;rw[pc2];exact zR (x:=if n=1 then aAi else aAb) (by split<;>decide) hQ hs
 | text x h =>
  intro Q hQ hs;rw[pc3];exact⟨⟨.inr (.inr (.inl ⟨rfl,rfl,h⟩))⟩,(λu Q' _ k=>by rcases k with k|k<;>cases k),(λe=>by cases e),hQ⟩
 | id x h hr =>
  intro Q hQ hs;have hn:dM x=true:=by simp only[sU,cL]at h;exact h.1.1.1
  rw[pc4];exact pI (x:=[39]) aD aD (zR hn hQ hs)
 | app x ks h hr hl hk ih =>
  intro Q hQ hs;have h1:jG (eS false ks++(some (aR [41])::Q)):=(aLR ks hk ih false _ (pI aD aD hQ) (.inl (xV aD _))).1;have h2:=zR h (pI (x:=[40]) aD aD h1) (xV aD _)
  have e:(Tm.mk 5 0 x [] ks []).pc++Q=some (bE x)::some (aR [40])::(eS false ks++(some (aR [41])::Q)):=by
   rw[pc5];simp only[aV,bI,aW]
  rw[e];exact h2
 | opn x h =>
  intro Q hQ hs
  have e:(Tm.mk 6 0 x aDC [] []).pc=[some (aR x)]:=by
   rw[wC,if_pos h]
  rw[e];rcases h with rfl|rfl<;>exact pI aD aD hQ
 | var x s h hr h2 hr2 =>
  intro Q hQ hs;obtain⟨_,_,_,_,_,h6,h7⟩:=vK h
  have e:(Tm.mk 6 0 x s [] []).pc=[some (bE x),some (aR [58]),some (bE s)]:=by
   rw[wC,if_neg (by simp[h6,h7])]
  rw[e];exact zR h (pI aD aD (zR h2 hQ hs)) (xV aD _)
 | list ks rs hk hr ih =>
  intro Q hQ hs;obtain⟨h1,h2⟩:=aLT (e:=ks.isEmpty) hr (pI (x:=[93]) aD aD hQ) (xV aD _);have h3:=(aLR ks hk ih false _ h1 (by cases ks with|nil=>exact .inr rfl|cons a b=>exact .inl (h2 rfl))).1
  have e:(Tm.mk 7 0 [] [] ks rs).pc++Q=some (aR [91])::(eS false ks++(gV ks.isEmpty rs++(some (aR [93])::Q))):=by
   rw[pc7];simp only[aV,bI,aW]
  rw[e];exact pI aD aD h3
 | map ks rs he hk hr ih =>
  intro Q hQ hs;obtain⟨h1,h2⟩:=aLT (e:=ks.isEmpty) hr (pI (x:=[125]) aD aD hQ) (xV aD _);have h3:=(aUk _ ks (bT _) he hk ih false _ h1 (by cases ks with|nil=>exact .inr rfl|cons a b=>exact .inl (h2 rfl))).1
  have e:(Tm.mk 8 0 [] [] ks rs).pc++Q=some (aR [123])::(fA false ks++(gV ks.isEmpty rs++(some (aR [125])::Q))):=by
   rw[pc8];simp only[aV,bI,aW]
  rw[e];exact pI aD aD h3
theorem Bw.set{s:St}{e:TypeId}{r:Nat}{tk:Option Nat}{acc:aC}(h:Bw s e r tk acc){p:Nat}(hp:s.getO p=none)(o:Ob):Bw (s.setO p o) e r tk acc :=
 ⟨by rw[aJ,if_neg (λc:p=r=>by rw[c,h.ob]at hp;cases hp)];exact h.ob,λt ht=>by rw[getT_setO];exact h.own t ht,h.nil⟩
theorem Bw.ge{s:St}{e:TypeId}{r u:Nat}{acc:aC}(h:Bw s e r (some u) acc):s.ge (uP s e r u acc) :=
 pQ (vG h.ob (aJw (h.own u rfl) (xI _ _ _)))
theorem aQK(s:St)(e:TypeId)(r u:Nat)(a:aC)(q:Nat):(uP s e r u a).getO q=if r=q then some (bwO e r (some u) a) else s.getO q:=by
 rw[uP,aJ,kB]
end Go.AV
section
open Go.Proofs.Tryz
namespace Go.AV
open Go Go.Proofs
end Go.AV
end
namespace Go.AV
open Go Go.Proofs Tryz
theorem aQc(s:St)(x:aC)(KV Kp)(hx:x.length<=4294967290)(hk:(jS dG true x).out KV s):Den cx 141 [.str x] KV Kp s:=by
 (refine aO func141 [0,2,3] ?_;simp only[go_sem,ntmps141,f141]);(intro q hq;try simp only[aI,ne_eq]at hq);simp only[go_sem,hq];refine aM6 _ _ _ ?_;simp only[go_sem,zY];(intro r hr;try simp only[aI,ne_eq]at hr);have hq':q≠r:=hr.1.1;simp only[go_sem,hr,hq,hq'];refine aR3 _ r x dG _ _ (by rw[aJ,if_pos rfl];rfl) hx aD λo=>?_
 cases hl:jS dG true x with
 | ok l =>
  rw[hl]at hk;simp only[Lx.out]at hk⊢;simp only[go_sem,hr,hq,hq',Fault.none];exact aP hk (eC hq (eC hr.2 (dS hq)))
 | bad f =>
  rw[hl]at hk;simp only[Lx.out]at hk⊢;simp only[go_sem,hr,hq,hq'];exact aP hk (eC hq (eC hr.2 (dS hq)))
section
structure Dc where
 name:aC
 sorts:A
 below:A
 ops:A
 funs:A
 values:A
 eqs:A
 once:A
 kind:aC
 many:A
 rules:A
 start:aC
 watch:aC
def Dc.cs(d:Dc):List A:=[.str d.name,d.sorts,d.below,d.ops,d.funs,d.values,d.eqs,d.once,.str d.kind,d.many,d.rules,.str d.start,.str d.watch]
def psC(T:List Tok)(fin:Fault)(d:Dc)(first:Tok)(i n:Nat):List A :=
 .list none (T.map Tok.enc)::.int .i64 i::(fin.cs++(d.cs++(first.cs++[.int .i64 n,.bool false])))
def bC(T:List Tok)(fin:Fault)(d:Dc)(first:Tok)(i n:Nat):Ob:=.cells 91 (psC T fin d first i n)
attribute [go_sem] Dc.cs psC bC
structure TOk (T:List Tok):Prop where
 len:T.length<=4294967290
 num:∀t,t∈T->0<=t.n/\t.n<=2147483647
 col:∀t,t∈T->0<=t.col/\t.col<=4294967296
 txt:∀t,t∈T->t.text.length<=4294967296
def PK{α:Type}(T:List Tok)(i:Nat)(S:Nat->Nat->St)(enc:α->A)(KV:St->A->Prop)(a:α)(w:List Tok)(n:Nat):Prop:=∀j,i<=j->j<=T.length->T.drop j=w->n<=2000->KV (S j n) (enc a)
def PB(s:St)(r:Nat)(Kp:St->A->Prop)(f:Fault):Prop:=∀o,Kp (s.setO r o) (.iface 36 f.enc)
theorem lQ{T:List Tok}{i:Nat}{t:Tok}{w:List Tok}(h:T.drop i=t::w):T[i]?=some t/\i<T.length/\T.drop (i+1)=w/\t∈T:=by
 have hl:=congrArg List.length h;rw[dR,aE]at hl;have h0:(T.drop i)[0]?=some t:=by rw[h];rfl
 rw[oW,Nat.add_zero]at h0;refine⟨h0,by omega,?_,cM h0⟩;rw[<-tI,h];rfl
section
variable {T:List Tok} {fin:Fault} {d:Dc} {first:Tok} {i n:Nat} {s:St} {r:Nat} {KV Kp:St->A->Prop}
theorem kE(hr:s.getO r=some (bC T fin d first i n))(hi:i<=T.length)
  (hk:match T.drop i with|t::_=>KV s t.enc|[]=>Kp s (.iface 36 fin.enc)):Den cx 91 [.ptr r 0] KV Kp s:=by
 simp only[go_sem]at hr;(refine aO func91 [0,2,12] ?_;simp only[go_sem,ntmps91,f91]);intro b hb;have hne:=cE hr hb;simp only[go_sem,hb,hne,hr];(refine bL (OT.r 0 10) [] ?_;simp only[go_sem,hr,hne]);(refine aQ (λh=>?_) (λh=>?_))<;>simp only[go_sem,h,hr,hne]
 .have he:i=T.length:=by simpa using h
  rw[wH aB]at hk;exact aP hk (dS hb)
 .have hlt:i<T.length:=by
   have:¬ i=T.length:=by simpa using h
   omega
  rw[yS hlt]at hk;have ht:T[i]?=some T[i]:=aY hlt;(refine bL (OT.r 0 11) [] ?_;simp only[go_sem,hr,hne,ht,hlt]);exact aP hk (dS hb)
theorem nR(x:aC)(hr:s.getO r=some (bC T fin d first i n))(hi:i<=T.length)
  (hk:KV s (.bool (isT x (T.drop i)))):Den cx 149 [.ptr r 0,.str x] KV Kp s:=by
 simp only[go_sem]at hr;(refine aO func149 [0,1,4,5,15] ?_;simp only[go_sem,ntmps149,f149]);(refine bL (OT.r 0 10) [] ?_;simp only[go_sem,hr]);(refine aQ (λh=>?_) (λh=>?_))<;>simp only[go_sem,h,hr]
 .have he:i=T.length:=by simpa using h
  rw[wH aB]at hk;exact aN hk
 .have hlt:i<T.length:=by
   have:¬ i=T.length:=by simpa using h
   omega
  rw[yS hlt]at hk;have ht:T[i]?=some T[i]:=aY hlt;simp only[isT,eH]at hk;(refine bL (OT.r 0 12) [(10,[3,7,9])] ?_;simp only[go_sem,hr,ht,hlt]);intro b hb;have hne:=cE hr hb;simp only[go_sem,hb,hne,hr,ht,hlt]
  (repeat' (first|exact aP hk cS|((refine aQ (λh=>?_) (λh=>?_))<;>simp only[go_sem,h,hb]<;>(try simp only[h,eW,eU,fB,fG,jN,jT,jM,iJ,eV,fM]at hk))))
theorem jO(x:aC)(hr:s.getO r=some (bC T fin d first i n))(hi:i<=T.length)(hT:TOk T)
  (hk:match isT x (T.drop i)with|true=>KV (s.setO r (bC T fin d first (i+1) n)) (.bool true)|false=>KV s (.bool false)):Den cx 144 [.ptr r 0,.str x] KV Kp s:=by
 (refine aO func144 [0,1,4,8] ?_;simp only[go_sem,ntmps144,f144]);refine nR x hr hi ?_;simp only[go_sem]at hr;have:=hT.len;simp only[go_sem];(refine aQ (λh=>?_) (λh=>?_))<;>simp only[go_sem,h]
 .rw[show isT x (T.drop i)=false from by simpa using h]at hk;exact aN hk
 .rw[show isT x (T.drop i)=true from by simpa using h]at hk;simp only[go_sem,hr,cF i aB];exact aN hk
theorem lG{x:aC}(h:isT x (T.drop i)=true):i+1<=T.length:=by
 cases hw:T.drop i with
 | nil=>rw[hw]at h;cases h
 | cons t w=>exact(lQ hw).2.1
theorem aNM(t:Tok)(h0:0<=t.n)(h1:t.n<=2147483647)(hk:KV s (.str t.name)):Den cx 93 [t.enc] KV Kp s:=by
 unfold Tok.name at hk;simp only[go_sem];(refine aO func93 [0,1,2,5] ?_;simp only[go_sem,ntmps93,f93]);(intro b hb;try simp only[aI,ne_eq]at hb);simp only[go_sem,hb];(refine aQ (λh=>?_) (λh=>?_))<;>simp only[go_sem,h,hb]
 .have hk2:t.kind=2:=by simpa using h
  rw[if_pos hk2]at hk;refine aA0 t.n aB aB _ _ _ ?_;simp only[go_sem];exact aP hk (dS hb)
 .have hk2:¬ t.kind=2:=by simpa using h
  rw[if_neg hk2]at hk;exact aP hk (dS hb)
theorem aFn(t:Tok)(hk:Kp s (.iface 36 (Fault.enc ⟨3,[],t.line,t.col⟩))):Den cx 220 [t.enc] KV Kp s:=by
 simp only[go_sem]at hk;simp only[go_sem];(refine aO func220 [0,1] ?_;simp only[go_sem,ntmps220,f220]);(intro b hb;try simp only[aI,ne_eq]at hb);simp only[go_sem,hb];exact aP hk (dS hb)
theorem oH(code:Int)(hr:s.getO r=some (bC T fin d first i n))(hi:i<=T.length)(hT:TOk T)
  (hk:Kp s (.iface 36 (fW fin code (T.drop i)).enc)):Den cx 42 [.ptr r 0,.int .i64 code] KV Kp s:=by
 (refine aO func42 [0,1,4] ?_;simp only[go_sem,ntmps42,f42]);refine kE hr hi ?_;cases hw:T.drop i with
 | nil=>rw[hw]at hk;exact aN hk
 | cons t w =>
  rw[hw]at hk;obtain⟨h1,h2,h3,h4⟩:=lQ hw;obtain⟨h5,h6⟩:=hT.num t h4;simp only[fW]at hk;simp only[go_sem]at hk;simp only[go_sem];(intro b hb;try simp only[aI,ne_eq]at hb);simp only[go_sem,hb];(refine bL (OT.l [0,1,3,4,5,6,2,7,8,9] .nil) [(2,[4,6])] ?_;simp only[go_sem,hb]);refine aNM t h5 h6 ?_;simp only[go_sem,hb];exact aP hk (dS hb)
end
end
section
section
variable {T:List Tok} {fin:Fault} {d:Dc} {first:Tok} {i n:Nat} {s:St} {r:Nat} {KV Kp:St->A->Prop}
theorem PB.here{f:Fault}{o:Ob}(h:PB s r Kp f)(hr:s.getO r=some o):DK Kp s (.iface 36 f.enc):=aP (h o) (sA hr)
theorem PB.at{f:Fault}{o:Ob}{s1:St}(h:PB s r Kp f)(hg:s1.gx s r)(hr:s1.getO r=some o):DK Kp s1 (.iface 36 f.enc):=aP (h o) (hg.ge hr)
theorem fN(x:aC)(hr:s.getO r=some (bC T fin d first i n))(hi:i<=T.length)(hT:TOk T)
  (hk:(fZ fin x (T.drop i) n).to (λ_ w n'=>i+1<=T.length->T.drop (i+1)=w->n'=n->KV (s.setO r (bC T fin d first (i+1) n)) (.tuple [])) (PB s r Kp)):Den cx 84 [.ptr r 0,.list none [.str x]] KV Kp s:=by
 (refine aO func84 [0,1,5,6,7,8,9,15] ?_;simp only[go_sem,ntmps84,f84])
 refine Ex.loop (λk:Nat=>[(0,.ptr r 0),(6,.list none [.str x]),(7,.int .i64 1),(8,.int .i64 k)]) (λk=>match k with|0=>s|_+1=>s.setO r (bC T fin d first (i+1) n))
  (λk=>k=0\/k=1/\isT x (T.drop i)=true) (λk=>1-k) 0 (.inl rfl) ?_ (aM _) ?_
 .simp only[go_sem];exact⟨rfl,rfl⟩
 .rintro k (rfl|⟨rfl,hx⟩)
  .refine bG (V:=[0,1,5,6,7,8,9,15]) _ _ _ _ ?_;simp only[go_sem];refine⟨by simp,?_⟩;simp only[go_sem];refine jO x hr hi hT ?_;cases hx:isT x (T.drop i)with
   | true =>
    simp only[go_sem];exact⟨1,.inr rfl,by omega,rfl,aM _⟩
   | false =>
    simp only[go_sem];refine oH 11 hr hi hT ?_;simp only[fZ,hx,cJ,if_false,eJ]at hk;exact hk.here hr
  .refine bG (V:=[0,1,5,6,7,8,9,15]) _ _ _ _ ?_;simp only[fZ,hx,if_true,bZ]at hk;simp only[go_sem];exact aN (hk (lG hx) bD trivial)
theorem iL(hr:s.getO r=some (bC T fin d first i n))(hi:i<=T.length)(hT:TOk T)
  (hk:(eN fin (T.drop i) n).to (λx w n'=>i+1<=T.length->T.drop (i+1)=w->n'=n->KV (s.setO r (bC T fin d first (i+1) n)) (.str x)) (PB s r Kp)):Den cx 85 [.ptr r 0] KV Kp s:=by
 (refine aO func85 [0,2,3,13] ?_;simp only[go_sem,ntmps85,f85]);refine kE hr hi ?_;cases hw:T.drop i with
 | nil=>rw[hw]at hk;exact PB.here hk hr
 | cons t w =>
  rw[hw]at hk;obtain⟨h1,h2,h3,h4⟩:=lQ hw;have:=hT.len;simp only[eN]at hk;simp only[go_sem];(intro b hb;try simp only[aI,ne_eq]at hb);have hne:=cE hr hb;have hr':(s.setO b (.cells 60 t.cs)).getO r=some (bC T fin d first i n):=by rw[aJ,if_neg hne.2];exact hr
  have hr2:=hr;simp only[go_sem]at hr2
  have bad:∀KV',t.free=false->Den cx 42 [.ptr r 0,.int .i64 11] KV' (DK Kp) (s.setO b (.cells 60 t.cs)):=by
   intro KV' hf;refine oH 11 hr' hi hT ?_;rw[hf]at hk;simp only[cJ,if_false,eJ]at hk;rw[hw];exact hk.at aS hr'
  have good:t.free=true->KV (s.setO r (bC T fin d first (i+1) n)) (.str t.text):=by
   intro hf;rw[hf]at hk;simp only[if_true,bZ]at hk;exact hk h2 h3 trivial
  simp only[go_sem,hb,hne,hr2];(refine aQ (λh=>?_) (λh=>?_))<;>simp only[go_sem,h,hb,hne,hr2]
  .refine bad _ ?_;rw[Tok.free,show decide (t.kind=1)=false from by simpa using h];rfl
  .refine tF _ _ _ _ ?_;simp only[go_sem,hb,hne,hr2];have hk1:decide (t.kind=1)=true:=by simpa using h
   (refine aQ (λh=>?_) (λh=>?_))<;>simp only[go_sem,h,hb,hne,hr2]
   .refine bad _ ?_;rw[Tok.free,hk1,h];rfl
   .have hg:=good (by rw[Tok.free,hk1,h];rfl);simp only[go_sem,cF i aB];exact aP hg (St.gx.ge aS (by rw[aJ,if_pos rfl];rfl))
theorem aIY(hr:s.getO r=some (bC T fin d first i n))(hn:n<=2000)
  (hk:(oO first (T.drop i) n).to (λ_ w n=>w=T.drop i->n<=2000->KV (s.setO r (bC T fin d first i n)) (.tuple [])) (PB s r Kp)):Den cx 166 [.ptr r 0] KV Kp s:=by
 have hr2:=hr;simp only[go_sem]at hr2;(refine aO func166 [0,13] ?_;simp only[go_sem,ntmps166,f166]);simp only[go_sem,hr2,cF n aB];(refine aQ (λh=>?_) (λh=>?_))<;>simp only[go_sem,h,hr2]
 .refine aFn first ?_
  have hc:2000<n+1:=by have:=h;simp at this;omega
  simp only[oO,hc,if_true,eJ]at hk;exact hk.at aS (by rw[aJ,if_pos rfl])
 .have hc:¬ 2000<n+1:=by have:=h;simp at this;omega
  simp only[oO,hc,if_false,bZ]at hk;exact aN (hk trivial aB)
end
end
section
section
variable {T:List Tok} {fin:Fault} {d:Dc} {first:Tok} {i n:Nat} {s:St} {r:Nat} {KV Kp:St->A->Prop}
theorem aN8(t:Tok)(hk:KV s (.bool t.begins)):Den cx 236 [t.enc] KV Kp s:=by
 simp only[go_sem];(refine aO func236 [0,1,2,4,5,8] ?_;simp only[go_sem,ntmps236,f236]);(intro b hb;try simp only[aI,ne_eq]at hb);simp only[go_sem,hb];(refine aQ (λh=>?_) (λh=>?_))<;>simp only[go_sem,h,hb]
 .have h2:t.kind=2:=by simpa using h
  rw[show t.begins=true by simp[Tok.begins,h2]]at hk
  (try simp only[go_sem,hb])
  exact aP hk (dS hb)
 .have h2:¬ t.kind=2:=by simpa using h
  (try simp only[go_sem,hb])
  (refine aQ (λh=>?_) (λh=>?_))<;>simp only[go_sem,h,hb]
  .have h3:t.kind=3:=by simpa using h
   rw[show t.begins=true by simp[Tok.begins,h3]]at hk
   (try simp only[go_sem,hb])
   exact aP hk (dS hb)
  .have h3:¬ t.kind=3:=by simpa using h
   (try simp only[go_sem,hb])
   (refine aQ (λh=>?_) (λh=>?_))<;>simp only[go_sem,h,hb]
   .have h1:t.kind=1:=by simpa using h
    rw[show t.begins=(!decide (t.text∈gX)||(decide (t.text=[116,114,117,101])||decide (t.text=[102,97,108,115,101])))by simp[Tok.begins,h1]]at hk
    (try simp only[go_sem,hb])
    refine tF _ _ _ _ ?_;simp only[go_sem,hb];cases hr:decide (t.text∈gX)<;>simp only[go_sem,hb]
    .rw[hr]at hk;exact aP hk (dS hb)
    .rw[hr]at hk;cases ht:decide (t.text=[116,114,117,101])<;>simp only[go_sem,hb]
     .rw[ht]at hk;exact aP hk (dS hb)
     .rw[ht]at hk;exact aP hk (dS hb)
   .have h1:¬ t.kind=1:=by simpa using h
    rw[show t.begins=decide (t.text∈[[45],[39],[95],[91],[123],[36]])by simp[Tok.begins,h1,h2,h3]]at hk
    (try simp only[go_sem,hb])
    refine yV _ [[45],[39],[95],[91],[123],[36]] _ _ _ ?_;simp only[go_sem,hb];exact aP hk (dS hb)
theorem mU(a b:Int)(hr:s.getO r=some (bC T fin d first i n))(hi:i<=T.length)
  (hk:if b<=a then PB s r Kp (pR fin (T.drop i)) else KV s (.tuple [])):Den cx 148 [.ptr r 0,.int .i64 a,.int .i64 b] KV Kp s:=by
 (refine aO func148 [0,1,2,8] ?_;simp only[go_sem,ntmps148,f148]);(refine aQ (λh=>?_) (λh=>?_))<;>simp only[go_sem,h]
 .have hc:b<=a:=by simpa using h
  rw[if_pos hc]at hk;refine kE hr hi ?_;cases hw:T.drop i with
  | nil=>rw[hw]at hk;exact hk.here hr
  | cons t w =>
   rw[hw]at hk;simp only[go_sem];refine aFn t ?_;exact hk.here hr
 .have hc:¬ b<=a:=by simpa using h
  rw[if_neg hc]at hk;exact aN hk
theorem aB2(hr:s.getO r=some (bC T fin d first i n))(hi:i<=T.length)
  (hk:match T.drop i with|t::_=>KV s (.bool t.begins)|[]=>PB s r Kp fin):Den cx 165 [.ptr r 0] KV Kp s:=by
 have hr2:=hr;simp only[go_sem]at hr2;(refine aO func165 [0,2] ?_;simp only[go_sem,ntmps165,f165]);refine kE hr hi ?_;cases hw:T.drop i with
 | nil=>rw[hw]at hk;exact hk.here hr
 | cons t w =>
  rw[hw]at hk;simp only at hk;simp only[go_sem];refine aN8 t ?_;simp only[go_sem];cases hb:t.begins<;>simp only[go_sem,hr2]
  .rw[hb]at hk;exact aN hk
  .rw[hb]at hk;exact aN hk
theorem aHs(most:Int)(hr:s.getO r=some (bC T fin d first i n))(hi:i<=T.length)(hT:TOk T)
  (hk:(rG fin most (T.drop i) n).to (λx w n'=>i+1<=T.length->T.drop (i+1)=w->n'=n->KV (s.setO r (bC T fin d first (i+1) n)) (.int .i64 x)) (PB s r Kp)):Den cx 281 [.ptr r 0,.int .i64 most] KV Kp s:=by
 (refine aO func281 [0,1,4,5,10,21] ?_;simp only[go_sem,ntmps281,f281]);refine kE hr hi ?_;cases hw:T.drop i with
 | nil=>rw[hw]at hk;exact PB.here hk hr
 | cons t w =>
  rw[hw]at hk;obtain⟨h1,h2,h3,h4⟩:=lQ hw;have:=hT.len;simp only[rG]at hk;simp only[go_sem];(intro b hb;try simp only[aI,ne_eq]at hb);have hne:=cE hr hb;have hr':(s.setO b (.cells 60 t.cs)).getO r=some (bC T fin d first i n):=by rw[aJ,if_neg hne.2];exact hr
  have hr2:=hr;simp only[go_sem]at hr2
  have bad:∀KV' code,PB s r Kp (fW fin code (t::w))->Den cx 42 [.ptr r 0,.int .i64 code] KV' (DK Kp) (s.setO b (.cells 60 t.cs)):=by
   intro KV' code hf;refine oH code hr' hi hT ?_;rw[hw];exact hf.at aS hr'
  simp only[go_sem,hb,hne,hr2];(refine aQ (λh=>?_) (λh=>?_))<;>simp only[go_sem,h,hb,hne,hr2]
  .have h2:¬ t.kind=2:=by simpa using h
   rw[if_neg h2,eJ]at hk;exact bad _ _ hk
  .have h2:t.kind=2:=by simpa using h
   rw[if_pos h2]at hk;have range:(t.n<1\/most<t.n)->PB s r Kp (fW fin 20 (t::w)):=λhc=>by rw[if_pos hc]at hk;exact hk
   have good:¬ (t.n<1\/most<t.n)->KV (s.setO r (bC T fin d first (i+1) n)) (.int .i64 t.n):=λhc=>by
    rw[if_neg hc]at hk;exact hk aB h3 rfl
   cases c1:decide (t.n<1)
   .cases c2:decide (most<t.n)
    ·(try simp only[go_sem,hb,hne,hr2,c1,c2,cF i aB])
     exact aP (good (by simp at c1 c2;omega)) (St.gx.ge aS (by rw[aJ,if_pos rfl];rfl))
    ·(try simp only[go_sem,hb,hne,hr2,c1,c2])
     exact bad _ _ (range (by simp at c1 c2;omega))
   ·(try simp only[go_sem,hb,hne,hr2,c1])
    exact bad _ _ (range (by simp at c1;omega))
end
end
end Go.AV
