/-
  Of DefBack.
-/
import Derived.Test.YtamikhobdffnfaaGreatDoorBa09
import Derived.Lib.ItoaNum
set_option linter.all false
set_option maxRecDepth 99999
set_option maxHeartbeats 0
namespace Go.AV
open Go Go.Proofs Tryz
theorem vF(s:St)(x:aD)(KV Kp)(h:KV s (.bool (decide (x∈iM)))):Den cx 145 [.str x] KV Kp s:=by
 (refine aR func145 [0,2] ?_;simp only[go_sem,ntmps145,f145]);refine aOb _ _ _ ?_;simp only[go_sem,aBe];refine aAD _ _ _ _ _ ?_;simp only[go_sem];exact aO h
theorem aOc(s:St)(x:aD)(KV Kp)(h:KV s (.bool (decide (x∈aB9)))):Den cx 107 [.str x] KV Kp s:=by
 (refine aR func107 [0,2] ?_;simp only[go_sem,ntmps107,f107]);refine aOk _ _ _ ?_;simp only[go_sem,aBe];refine aAD _ _ _ _ _ ?_;simp only[go_sem];exact aO h
def aBj(n:Int):Bool:=decide (-2147483647<=n)&&decide (n<=2147483647)
theorem aJB(s:St)(n:Int)(KV Kp)(m:KV s (.bool (aBj n))):Den cx 272 [.int .i64 n] KV Kp s:=by
 unfold aBj at m;(refine aR func272 [0,2] ?_;simp only[go_sem,ntmps272,f272])
 (repeat' (first|exact aS m cD|((apply aT<;>intro h)<;>simp only[go_sem,h]<;>(try simp only[h,fG,fE,fS,fX,kI,kR,kH,jH,fF,gB]at m))))
theorem aSn(s:St)(b:Bool)(KV Kp)(h:KV s (.str (if b=true then [116,114,117,101] else [102,97,108,115,101]))):Den cx 211 [.bool b] KV Kp s:=by
 (refine aR func211 [0,2] ?_;simp only[go_sem,ntmps211,f211]);(refine aR func276 [0,2,3] ?_;simp only[go_sem,ntmps276,f276]);cases b with
 | true=>simp only[go_sem];refine aO ?_;simp only[go_sem];exact aO h
 | false=>simp only[go_sem];refine aO ?_;simp only[go_sem];exact aO h
def rS(x:aD):Bool:=decide (2<x.length)&&(decide (x[x.length-2]?=some 39)&&(match x[x.length-1]? with|some c=>decide (49<=c.toNat)&&decide (c.toNat<=56)|none=>false))
theorem aGh(s:St)(x:aD)(KV Kp)(hl:x.length<=4611686018427387904)(h:KV s (if rS x=true then .tuple [.str (x.take (x.length-2)),.str (x.drop (x.length-2))] else .tuple [.str x,.str []])):Den cx 111 [.str x] KV Kp s:=by
 have U:IntKind.i64.wrap ((x.length:Int)-2)=(x.length:Int)-2:=by
  exact hU _ aC aC
 (refine aR func111 [0,2,3,4,29] ?_;simp only[go_sem,ntmps111,f111]);by_cases h2:2<x.length
 .have w1:(x.length:Int)-2=((x.length-2:Nat):Int):=by omega
  have M:=U.trans w1
  have w2:IntKind.i64.wrap (((x.length-2:Nat):Int)+1)=((x.length-1:Nat):Int):=by
   rw[cF _ aC];omega
  have d1:decide ((0:Int)<((x.length-2:Nat):Int))=true:=by rw[dE];omega
  obtain⟨u,z⟩:∃c,x[x.length-2]?=some c:=⟨_,aX aC⟩
  obtain⟨m,y⟩:∃c,x[x.length-1]?=some c:=⟨_,aX aC⟩
  have F:x.length-2<x.length:=by omega
  have B:x.length-1<x.length:=by omega
  simp only[go_sem,M,w2,d1,z,y,Int.toNat_natCast,F,B]
  have ef:rS x=(decide ((u.toNat:Int)=39)&&(decide ((49:Int)<=(m.toNat:Int))&&decide ((m.toNat:Int)<=56))):=by
   unfold rS;rw[z,y,fN h2,fG]
   have Z:decide (some u=some (39:UInt8))=decide ((u.toNat:Int)=39):=by
    rw[gV,bQ,<-vH];show u.toNat=39↔_;omega
   have e2:decide ((49:Int)<=(m.toNat:Int))=decide (49<=m.toNat):=by rw[gV];omega
   have e3:decide ((m.toNat:Int)<=56)=decide (m.toNat<=56):=by rw[gV];omega
   rw[Z,e2,e3]
  rw[ef]at h;cases H:decide ((u.toNat:Int)=39)<;>rw[H]at h<;>simp only[go_sem,M,w2,z,y,Int.toNat_natCast,F,B,H]
  .exact aO h
  .cases O:decide ((49:Int)<=(m.toNat:Int))<;>rw[O]at h<;>simp only[go_sem,M,w2,z,y,Int.toNat_natCast,F,B,H,O]
   .exact aO h
   .cases S:decide ((m.toNat:Int)<=56)<;>rw[S]at h<;>simp only[go_sem,M,w2,z,y,Int.toNat_natCast,F,B,H,O,S]
    .exact aO h
    ·(refine bO (OT.r 0 8) [] ?_;simp only[go_sem]);exact⟨by omega,by omega,aO h⟩
 .have d1:decide ((0:Int)<(x.length:Int)-2)=false:=by rw[fR];omega
  simp only[go_sem,U,d1];rw[aB (by simp[rS,h2])]at h;exact aO h
def aCB(x:aD):Bool:=dT (if rS x=true then x.take (x.length-2) else x)
theorem aRP(s:St)(x:aD)(KV Kp)(hl:x.length<=4611686018427387904)(h:KV s (.bool (aCB x))):Den cx 274 [.str x] KV Kp s:=by
 (refine aR func274 [0,2,3] ?_;simp only[go_sem,ntmps274,f274]);refine aGh _ _ _ _ hl ?_;cases m:rS x<;>simp only[aCB,m,bT,cE,bR]at h⊢<;>simp only[go_sem]<;>refine yP _ _ _ _ ?_<;>simp only[go_sem]<;>exact aO h
def bwA(r:Nat):Option Nat->A
 | none=>.nilp
 | some _=>.ptr r 0
def bwO(e:TypeId)(r:Nat)(tk:Option Nat)(h:aD):Ob:=.cells e [bwA r tk,gv tk (eW h)]
structure Bw (s:St) (e:TypeId) (r:Nat) (tk:Option Nat) (acc:aD):Prop where
 ob:s.getO r=some (bwO e r tk acc)
 own:∀t,tk=some t->s.getT t=some (acc.length,5)
 nil:tk=none->acc=[]
def wR(s:St)(e:TypeId)(r t:Nat)(h:aD):St:=(s.setT t (h.length,5)).setO r (bwO e r (some t) h)
theorem aVi(s:St)(e:TypeId)(r t:Nat)(m:aD):Bw (wR s e r t m) e r (some t) m :=
 ⟨by rw[wR,aL,aF rfl],λu h=>by cases h;rw[wR,getT_setO,dM,aF rfl],λh=>by cases h⟩
theorem aPR(x y:aD):eW (x++y)=eW x++eW y:=by simp[eW]
theorem aRx(x:aD):∀y,y∈eW x->y.cells.length=1:=by
 intro y h;simp only[eW,cH]at h;obtain⟨c,_,rfl⟩:=h;rfl
theorem aQh(b o:Nat)(s:St)(KV Kp:St->A->Prop)(m:KV s (.ptr b o)):Den cx 262 [.ptr b o] KV Kp s:=by
 refine aF8 (C:=cx) (fn:=f262) func262 rfl rfl rfl (e:=Extern.AbiNoEscape.same) (by kernel_rfl) λg vals h=>?_
 have hl:=h.1
 match vals,hl with
 | [v],_=>exact⟨v,_,λw=>rfl,h.2 0 _ v rfl rfl,m⟩
theorem cv1:cx.cv 151 253=some 154:=rfl
theorem cv2:cx.cv 253 151=some 154:=rfl
theorem aPb(e:TypeId)(r:Nat)(tk:Option Nat)(v:A)(s:St)(KV Kp:St->A->Prop)(m:v.one=true)(y:e=154\/e=187)(h:s.getO r=some (.cells e [bwA r tk,v]))
  (u:KV (s.setO r (.cells e [.ptr r 0,v])) (.tuple [])):Den cx 186 [.ptr r 0] KV Kp s:=by
 (refine aR func186 [0,6,19] ?_;simp only[go_sem,ntmps186,f186]);cases tk with
 | none =>
  simp only[bwA]at h;rcases y with rfl|rfl
  all_goals simp only[go_sem,h,cv1,cv2,true_or,or_true]
  all_goals (refine aQh _ _ _ _ _ ?_;simp only[go_sem,h,cv1,cv2,m,true_or,or_true])
  all_goals exact aS u cD
 | some t =>
  simp only[bwA]at h;simp only[go_sem,h,Nat.beq_refl,m];exact aS u (tS h)
theorem aS7{s:St}{tk:Option Nat}{m x:aD}{KV:St->A->Prop}(z:tk=none->m=[])(y:∀t,tk=some t->s.getT t=some (m.length,5))(hl:m.length+x.length<=4294967296)
  (u:∀t,(tk=some t\/tk=none/\s.getT t=none)->KV (s.setT t ((m++x).length,5)) (.list (some t) (eW (m++x)))):aAm cx s 5 x KV (gv tk (eW m)):=by
 cases tk with
 | none =>
  have B:=z rfl;subst B;refine⟨gQ hl,λt h=>?_⟩;exact u t (.inr ⟨rfl,h⟩)
 | some t =>
  refine⟨⟨by rw[yS];exact y t rfl,aRx m,by rw[yS];exact hl⟩,?_⟩;have:=u t (.inl rfl);rw[aPR,aI]at this;rw[yS];exact this
theorem sE1:aBA cx { k:=TK.slice 5,sz:=1,bytes:=24,zero:=[A.nils] } 9=some 5:=by
 simp only[aBA,go_sem]
theorem aPO(e:TypeId)(r:Nat)(tk:Option Nat)(m x:aD)(s:St)(KV Kp:St->A->Prop)(z:e=154\/e=187)(u:Bw s e r tk m)(hl:m.length+x.length<=4294967296)
  (F:∀t,(tk=some t\/tk=none/\s.getT t=none)->KV (wR s e r t (m++x)) (.tuple [.int .i64 x.length,.nili])):Den cx 102 [.ptr r 0,.str x] KV Kp s:=by
 have y:=u.ob;unfold bwO at y;(refine aR func102 [0,1,4,5] ?_;simp only[go_sem,ntmps102,f102]);refine aPb e r tk _ _ _ _ (sU ..) z y ?_;simp only[go_sem];simp only[go_sem,sE1];refine aS7 u.nil (λt h=>by rw[getT_setO];exact u.own t h) hl (λt B=>?_);simp only[go_sem];refine aS (F t B) ?_;unfold wR;exact cD
theorem aJi(e:TypeId)(r t:Nat)(h:aD)(s:St)(KV Kp:St->A->Prop)(y:Bw s e r (some t) h)(u:h≠[])
  (F:KV (s.delT t) (.str h)):Den cx 103 [.ptr r 0] KV Kp s:=by
 have m:=y.ob;have z:=y.own t rfl;unfold bwO at m;rw[dF]at m;cases h with
 | nil=>exact cM rfl u
 | cons c x =>
 have B:eW (c::x)=.int .u8 c.toNat::eW x:=rfl;rw[B]at m;(refine aR func103 [0,2] ?_;simp only[go_sem,ntmps103,f103]);(refine bO (OT.l [0,1,2,3,5,6,7,8,9,4,10,11] .nil) [(4,[8])] ?_;simp only[go_sem,m]);exact⟨by rw[z,aG,yS],c::x,rfl,aO F⟩
section
def Tok.name(t:Tok):aD:=if t.kind=2 then Lib.itoa t.n else t.text
def eO(t:Tok)(x:aD):Bool:=(decide (t.kind=4)||decide (t.kind=1))&&decide (t.text=x)
def isT(x:aD):List Tok->Bool
 | []=>false
 | t::_=>eO t x
def Tok.free(t:Tok):Bool:=decide (t.kind=1)&&!decide (t.text∈iM)
def gK(fin:Fault)(h:Int):List Tok->Fault
 | []=>fin
 | t::_=>⟨h,t.name,t.line,t.col⟩
def rB(fin:Fault):List Tok->Fault
 | []=>fin
 | t::_=>⟨3,[],t.line,t.col⟩
inductive Rd (α:Type) where
 | ok (a:α) (w:List Tok) (n:Nat)
 | bad (f:Fault)
def Rd.bind{α β:Type}(r:Rd α)(k:α->List Tok->Nat->Rd β):Rd β:=match r with
 | .ok a w n=>k a w n
 | .bad f=>.bad f
def Rd.to{α:Type}(r:Rd α)(k:α->List Tok->Nat->Prop)(b:Fault->Prop):Prop:=match r with
 | .ok a w n=>k a w n
 | .bad f=>b f
theorem bX{α β:Type}(r:Rd α)(k:α->List Tok->Nat->Rd β)(p:β->List Tok->Nat->Prop)(b:Fault->Prop) :
  (r.bind k).to p b=r.to (λa w n=>(k a w n).to p b) b:=by cases r<;>rfl
theorem bB{α:Type}{r:Rd α}{p u:α->List Tok->Nat->Prop}{b m:Fault->Prop}(h:r.to p b)(y:∀a w n,p a w n->u a w n)(z:∀f,b f->m f):r.to u m:=by
 cases r with
 | ok a w n=>exact y a w n h
 | bad f=>exact z f h
theorem cG{α:Type}(a:α)(w:List Tok)(n:Nat)(p:α->List Tok->Nat->Prop)(b:Fault->Prop):(Rd.ok a w n).to p b=p a w n:=rfl
theorem eR{α:Type}(f:Fault)(p:α->List Tok->Nat->Prop)(b:Fault->Prop):(Rd.bad f:Rd α).to p b=b f:=rfl
theorem aAM{α:Type}(c:Prop) [Decidable c] (x y:Rd α) (p:α->List Tok->Nat->Prop) (b:Fault->Prop):(if c then x else y).to p b=if c then x.to p b else y.to p b:=by
 split<;>rfl
section
variable (lk:Bool) (fin:Fault)
def gP(x:aD)(w:List Tok)(n:Nat):Rd Unit:=if isT x w=true then .ok () w.tail n else .bad (gK fin 11 w)
def eU:List Tok->Nat->Rd aD
 | [],_=>.bad fin
 | t::w,n=>if t.free=true then .ok t.text w n else .bad (gK fin 11 (t::w))
def sR(h:Int):List Tok->Nat->Rd Int
 | [],_=>.bad fin
 | t::w,n=>if t.kind=2 then(if t.n<1\/h<t.n then .bad (gK fin 20 (t::w)) else .ok t.n w n) else .bad (gK fin 11 (t::w))
def wD(h m:Nat)(w:List Tok)(n:Nat):Rd Unit:=if m<=h then .bad (rB fin w) else .ok () w n
def dK{σ:Type}(sep:aD)(one:σ->List Tok->Nat->Rd σ):Nat->σ->List Tok->Nat->Rd σ
 | 0,_,_,_=>.bad fin
 | f+1,a,w,n=>(one a w n).bind λa w n=>if isT sep w=true then dK sep one f a w.tail n else .ok a w n
def kP{α:Type}(one:List α->List Tok->Nat->Rd α)(h:List α)(w:List Tok)(n:Nat):Rd (List α) :=
 dK fin [44] (λh w n=>(one h w n).bind λa w n=>.ok (h++[a]) w n) (w.length+1) h w n
def Tok.begins(t:Tok):Bool :=
 if t.kind=2\/t.kind=3 then true
 else if t.kind=1 then !decide (t.text∈iM)||(decide (t.text=[116,114,117,101])||decide (t.text=[102,97,108,115,101]))
 else decide (t.text∈[[45],[39],[95],[91],[123],[36]])
def tE(x:aD):Bool:=dT x&&(match x with|c::_=>decide (97<=c.toNat)&&decide (c.toNat<=122)|[]=>false)&&!decide (x=[116,114,117,101])&&!decide (x=[102,97,108,115,101])
def pO(first:Tok)(w:List Tok)(n:Nat):Rd Unit:=if 2000<n+1 then .bad ⟨3,[],first.line,first.col⟩ else .ok () w (n+1)
def rY(first:Tok)(h:Bool)(sort:aD)(w:List Tok)(n:Nat):Rd (List Tm) :=
 if isT [124] w=true then
  match w.tail with
  | []=>.bad fin
  | t::w=>if t.free=true then(if h=true then .bad ⟨19,t.text,t.line,t.col⟩ else(pO first w n).bind λ_ w n=>.ok [.mk 6 0 t.text sort [] []] w n) else .bad (gK fin 11 (t::w))
 else .ok [] w n
def oW(first:Tok)(m:List Tok->Nat->Rd Tm)(h:List Tm)(w:List Tok)(n:Nat):Rd Tm :=
 if h.length=8 then
  match w with
  | []=>.bad fin
  | t::w=>if t.begins=true then .bad (if lk=true/\2000<=n then⟨3,[],first.line,first.col⟩ else⟨3,[],t.line,t.col⟩) else m (t::w) n
 else m w n
def uC(first:Tok)(h:List Tok->Nat->Rd Tm)(t:Tok)(w:List Tok)(n:Nat):Rd Tm :=
 if t.text=[116,114,117,101] then .ok (.mk 2 1 [] [] [] []) w n
 else if t.text=[102,97,108,115,101] then .ok (.mk 2 0 [] [] [] []) w n
 else if isT [58] w=true then(eU fin w.tail n).bind λx w n=>.ok (.mk 6 0 t.text x [] []) w n
 else(gP fin [40] w n).bind λ_ w n =>
  if isT [41] w=true then .ok (.mk 5 0 t.text [] [] []) w.tail n
  else(kP fin (oW lk fin first h) [] w n).bind λl w n=>(gP fin [41] w n).bind λ_ w n=>.ok (.mk 5 0 t.text [] l []) w n
def oV(m:List Tok->Nat->Rd Tm)(h:List Tm)(w:List Tok)(n:Nat):Rd (List Tm) :=
 (m w n).bind λk w n=>(gP fin [45,62] w n).bind λ_ w n=>(m w n).bind λv w n=>.ok (h++[k,v]) w n
def nT(first:Tok)(m:List Tok->Nat->Rd Tm)(h:Bool)(t:Tok)(w:List Tok)(n:Nat):Rd Tm :=
 if t.text=[45] then
  match w with
  | []=>.bad fin
  | u::w=>if u.kind=2/\u.line=t.line/\u.col=t.col+1 then .ok (.mk 1 (-u.n) [] [] [] []) w n else .bad (gK fin 11 (u::w))
 else if t.text=[39] then
  match w with
  | []=>.bad fin
  | u::w=>if u.free=true/\tE u.text=true then .ok (.mk 4 0 u.text [] [] []) w n else .bad (gK fin 11 (u::w))
 else if t.text=[91] then
  (if isT [124] w = true ∨ isT [93] w = true then Rd.ok [] w n else kP fin (fun _ => m) [] w n).bind fun l w n =>
   (rY fin first h [76,105,115,116] w n).bind λr w n=>(gP fin [93] w n).bind λ_ w n=>.ok (.mk 7 0 [] [] l r) w n
 else if t.text=[123] then
  (if isT [124] w = true ∨ isT [125] w = true then Rd.ok [] w n else dK fin [44] (oV fin m) (w.length + 1) [] w n).bind fun l w n =>
   (rY fin first h [77,97,112] w n).bind λr w n=>(gP fin [125] w n).bind λ_ w n=>.ok (.mk 8 0 [] [] l r) w n
 else .ok (.mk 6 0 t.text [65,110,121] [] []) w n
def fU(first:Tok):Nat->List Tok->Nat->Rd Tm
 | _,[],_=>.bad fin
 | 0,t::w,_=>if t.begins=true then .bad (gK fin 19 (t::w)) else .bad (gK fin 11 (t::w))
 | k+1,t::w,n =>
  if t.begins=true then
   (pO first w n).bind fun _ w n =>
    if t.kind=2 then .ok (.mk 1 t.n [] [] [] []) w n
    else if t.kind=3 then .ok (.mk 3 0 t.text [] [] []) w n
    else if t.kind=1 then uC lk fin first (fU first k) t w n
    else nT fin first (fU first k) (decide (k=0)) t w n
  else .bad (gK fin 11 (t::w))
def gS(w:List Tok)(n:Nat):Rd Tm:=match w with
 | []=>.bad fin
 | t::_=>match fU lk fin t 60 w 0 with
  | .ok a w _=>.ok a w n
  | .bad f=>.bad f
def qT(w:List Tok)(n:Nat):Rd (List Tm) :=
 if isT [105,102] w=true then
  kP fin (λh w n=>match w with
   | []=>.bad fin
   | t::r=>if t.begins=true then(wD fin h.length 20 (t::r) n).bind λ_ w n=>gS lk fin w n else gS lk fin (t::r) n) [] w.tail n
 else .ok [] w n
def mK{α:Type}(m h:Nat)(w:List Tok)(n:Nat)(k:List Tok->Nat->Rd α):Rd α:=match w with
 | []=>.bad fin
 | t::r=>if t.free=true/\m<=h then .bad (rB fin (t::r)) else k (t::r) n
def pQ(w:List Tok)(n:Nat):Rd Cel:=match w with
 | []=>.bad fin
 | t::r=>(eU fin (t::r) n).bind λx w n=>(gP fin [58] w n).bind λ_ w n=>(eU fin w n).bind λy w n=>(gP fin [61] w n).bind λ_ w n =>
   (gS lk fin w n).bind λi w n=>.ok ⟨x,y,i,t.line,t.col⟩ w n
def qL:Nat->List Piece->List aD->Bool->List Tok->Nat->Rd (List Piece × List aD × Bool)
 | 0,_,_,_,_,_=>.bad fin
 | f+1,h,az,m,w,n =>
  if isT [45,62] w=true then .ok (h,az,m) w.tail n
  else match w with
   | []=>.bad fin
   | t::w=>if t.kind=3\/t.free=true then
     (if 20<=h.length then .bad (rB fin (t::w))
     else if t.kind=3 then qL f (h++[⟨t.text,[]⟩]) az true w n
     else if 8<=az.length then .bad (rB fin (t::w))
     else qL f (h++[⟨[],t.text⟩]) (az++[t.text]) m w n)
    else .bad (gK fin 11 (t::w))
def jB:Nat->Opr->List Tok->Nat->Rd Opr
 | 0,_,_,_=>.bad fin
 | f+1,o,w,n =>
  if isT [46] w=true then .ok o w n
  else match w with
   | []=>.bad fin
   | t::w =>
    if¬ t.kind=1 then .bad (gK fin 11 (t::w))
    else if t.text=[112,114,101,99] then
     (if 0<o.prec then .bad (gK fin 14 (t::w)) else(sR fin 20 w n).bind λm w n=>jB f { o with prec:=m } w n)
    else if t.text=[108,101,102,116] then
     (if o.assoc=0 then jB f { o with assoc:=1 } w n else .bad (gK fin 14 (t::w)))
    else if t.text=[114,105,103,104,116] then
     (if o.assoc=0 then jB f { o with assoc:=2 } w n else .bad (gK fin 14 (t::w)))
    else if t.text=[115,116,114,105,99,116] then
     (if 0 < o.strict.length then .bad (gK fin 14 (t :: w)) else
      (gP fin [40] w n).bind λ_ w n=>(kP fin (λ_=>sR fin 8) [] w n).bind λl w n=>(gP fin [41] w n).bind λ_ w n=>jB f { o with strict:=l } w n)
    else .bad (gK fin 11 (t::w))
def yB(w:List Tok)(n:Nat):Rd Opr :=
 (eU fin w n).bind fun x w n => (gP fin [58] w n).bind fun _ w n => (qL fin (w.length + 1) [] [] false w n).bind fun p w n =>
  (eU fin w n).bind λy w n=>jB fin (w.length+1) ⟨x,p.2.1,y,if p.2.2=true then p.1 else [],0,0,[]⟩ w n
def nF:Nat->List aD->List Tok->Nat->Rd (List aD)
 | 0,_,_,_=>.bad fin
 | f+1,az,w,n =>
  if isT [45,62] w=true then .ok az w.tail n
  else(mK fin 8 az.length w n λw n=>eU fin w n).bind λx w n=>nF f (az++[x]) w n
def xY(w:List Tok)(n:Nat):Rd Opr :=
 (eU fin w n).bind fun x w n => (gP fin [58] w n).bind fun _ w n => (nF fin (w.length + 1) [] w n).bind fun az w n =>
  (eU fin w n).bind λy w n=>.ok ⟨x,az,y,[],0,0,[]⟩ w n
def pN(r:Rul)(w:List Tok)(n:Nat):Rd Rul:=match w with
 | []=>.bad fin
 | t::w =>
  if eO t [110,101,119]=true then
   (gP fin [40] w n).bind λ_ w n=>(kP fin (λ_=>gS lk fin) [] w n).bind λl w n=>(gP fin [41] w n).bind λ_ w n=>.ok { r with new:=r.new++[⟨l⟩] } w n
  else if eO t [100,114,111,112]=true then
   (gP fin [64] w n).bind λ_ w n=>(eU fin w n).bind λx w n=>.ok { r with drop:=r.drop++[x] } w n
  else
   (eU fin (t :: w) n).bind fun x w n =>
    (if isT [64] w = true then eU fin w.tail n else Rd.ok [] w n).bind fun y w n => (gP fin [58] w n).bind fun _ w n => (gS lk fin w n).bind fun l w n =>
     (if isT [61,62] w = true then (gS lk fin w.tail n).bind fun u w n => Rd.ok [u] w n else Rd.ok [] w n).bind fun h w n =>
      .ok { r with parts:=r.parts++[⟨x,y,l,h,t.line,t.col⟩] } w n
def sX(c:Rul × Nat)(w:List Tok)(n:Nat):Rd (Rul × Nat):=match w with
 | []=>.bad fin
 | t::r=>if(t.kind=1/\(¬ t.text∈iM\/t.text=[110,101,119]\/t.text=[100,114,111,112]))/\20<=c.2 then .bad (rB fin (t::r))
  else(pN lk fin c.1 (t::r) n).bind λx w n=>.ok (x,c.2+1) w n
def xQ(line col:Int)(w:List Tok)(n:Nat):Rd Rul :=
 (eU fin w n).bind fun x w n => (gP fin [58] w n).bind fun _ w n =>
  (dK fin [59] (sX lk fin) (w.length+1) (⟨x,[],[],[],[],line,col⟩,0) w n).bind λc w n=>(qT lk fin w n).bind λl w n=>.ok { c.1 with cond:=l } w n
def nX(d:Dfn)(t:Tok)(w:List Tok)(n:Nat):Rd Dfn :=
 if eO t [115,116,97,114,116]=true then
  (if d.start=[] then(eU fin w n).bind λx w n=>.ok { d with start:=x } w n else .bad (gK fin 14 (t::w)))
 else if eO t [119,97,116,99,104]=true then
  (if d.watch=[] then(eU fin w n).bind λx w n=>.ok { d with watch:=x } w n else .bad (gK fin 14 (t::w)))
 else if eO t [99,101,108,108]=true then
  (if 12<=d.once.length then .bad (rB fin (t::w)) else(pQ lk fin w n).bind λc w n=>.ok { d with once:=d.once++[c] } w n)
 else if eO t [109,97,110,121]=true then
  (if d.kind = [] then
   (eU fin w n).bind fun x w n => (gP fin [40] w n).bind fun _ w n =>
    (kP fin (λh w n=>mK fin 12 h.length w n λw n=>pQ lk fin w n) d.many w n).bind λl w n=>(gP fin [41] w n).bind λ_ w n=>.ok { d with kind:=x,many:=l } w n
  else .bad (gK fin 14 (t::w)))
 else .bad (gK fin 11 (t::w))
def iP(d:Dfn)(w:List Tok)(n:Nat):Rd Dfn:=match w with
 | []=>.bad fin
 | t::w =>
  (if eO t [115,111,114,116] = true then
   (kP fin (λh w n=>mK fin 40 h.length w n λw n=>eU fin w n) d.sig.sorts w n).bind λl w n=>Rd.ok { d with sig:={ d.sig with sorts:=l } } w n
  else if eO t [115,117,98,115,111,114,116]=true then
   (if 200 ≤ d.sig.below.length then Rd.bad (rB fin (t :: w)) else
    (eU fin w n).bind λx w n=>(gP fin [60] w n).bind λ_ w n=>(eU fin w n).bind λy w n=>Rd.ok { d with sig:={ d.sig with below:=d.sig.below++[⟨x,y⟩] } } w n)
  else if eO t [118,97,108,117,101]=true then
   (kP fin (λ_=>eU fin) [] w n).bind λl w n=>Rd.ok { d with sig:={ d.sig with values:=d.sig.values++l } } w n
  else if eO t [111,112]=true\/eO t [102,117,110]=true then
   (if 200<=d.sig.ops.length+d.sig.funs.length then Rd.bad (rB fin (t::w))
   else if t.text=[111,112] then(yB fin w n).bind λo w n=>Rd.ok { d with sig:={ d.sig with ops:=d.sig.ops++[o] } } w n
   else(xY fin w n).bind λo w n=>Rd.ok { d with sig:={ d.sig with funs:=d.sig.funs++[o] } } w n)
  else if eO t [108,101,116]=true then
   (if 300 ≤ d.eqs.length then Rd.bad (rB fin (t :: w)) else
    (gS lk fin w n).bind fun l w n => (gP fin [61] w n).bind fun _ w n => (gS lk fin w n).bind fun r w n => (qT lk fin w n).bind fun c w n =>
     Rd.ok { d with eqs:=d.eqs++[⟨l,r,c,t.line,t.col⟩] } w n)
  else if eO t [114,117,108,101]=true then
   (if 300<=d.rules.length then Rd.bad (rB fin (t::w)) else(xQ lk fin t.line t.col w n).bind λr w n=>Rd.ok { d with rules:=d.rules++[r] } w n)
  else nX lk fin d t w n).bind λd w n=>(gP fin [46] w n).bind λ_ w n=>.ok d w n
def pK:Nat->Dfn->List Tok->Nat->Rd Dfn
 | 0,_,_,_=>.bad fin
 | f+1,d,w,n=>match w with
  | []=>.ok d [] n
  | _::_=>(iP lk fin d w n).bind λd w n=>pK f d w n
def gY:Dfn:=⟨[],⟨[],[],[],[],[]⟩,[],[],[],[],[],[],[]⟩
def lW(w:List Tok):Rd Dfn :=
 (gP fin [108,97,110,103,117,97,103,101] w 0).bind λ_ w n=>(eU fin w n).bind λx w n=>(gP fin [46] w n).bind λ_ w n=>pK lk fin (w.length+1) { gY with name:=x } w n
end
end
theorem qH{α:Type}{r:α->α->Bool}(h:∀a,r a a=true)(xs:List α):cV r xs xs=true :=
 (jI rfl).2 λi a b u m=>by rw[u]at m;cases m;exact h a
theorem aB1(l:List aD):cV (λa b=>decide (a=b)) l l=true:=qH (r:=λa b:aD=>decide (a=b)) (λa=>fN rfl) l
theorem aCa(l:List Tm):cV Tm.same l l=true:=qH Tm.same_self l
theorem Opr.same_self(a:Opr):a.same a=true:=by
 unfold Opr.same;rw[aB1,qH (λa=>by simp),qH (λa=>by simp)];simp
theorem Sig.same_self(a:Sig):a.same a=true:=by
 unfold Sig.same;rw[aB1,aB1,qH Opr.same_self,qH Opr.same_self,qH (λa=>by simp)];rfl
theorem Eqn.same_self(a:Eqn):a.same a=true:=by simp[Eqn.same,Tm.same_self,aCa]
theorem Cel.same_self(a:Cel):a.same a=true:=by simp[Cel.same,Tm.same_self]
theorem Part.same_self(a:Part):a.same a=true:=by simp[Part.same,Tm.same_self,aCa]
theorem Fresh.same_self(a:Fresh):a.same a=true:=aCa _
theorem Rul.same_self(a:Rul):a.same a=true:=by simp[Rul.same,aCa,aB1,qH Part.same_self,qH Fresh.same_self]
theorem Dfn.same_self(a:Dfn):a.same a=true:=by
 simp[Dfn.same,Sig.same_self,qH Eqn.same_self,qH Cel.same_self,qH Rul.same_self]
section
@[reducible] def Tok.to(t:Tok)(l c:Int):Tok:=⟨t.kind,t.text,t.n,l,c⟩
def Adj(t:Tok)(w:List Tok):Prop:=∀v z,w=v::z->t.kind≠1->t.kind≠2->t.kind≠3->t.text=[45]->v.kind=2->v.line=t.line/\v.col=t.col+1
inductive Mv:List Tok->List Tok->Prop
 | nil:Mv [] []
 | cons {t:Tok} {l c:Int} {w w':List Tok} (ha:Adj (t.to l c) w') (hw:Mv w w'):Mv (t::w) (t.to l c::w')
theorem Mv.len{w w':List Tok}(h:Mv w w'):w.length=w'.length:=by
 induction h with
 | nil=>rfl
 | cons _ _ m=>simp only[aG,m]
theorem Mv.tail{w w':List Tok}(h:Mv w w'):Mv w.tail w'.tail:=by
 cases h with
 | nil=>exact .nil
 | cons _ h=>exact h
theorem Mv.isT{w w':List Tok}(h:Mv w w')(x:aD):isT x w'=isT x w:=by
 cases h<;>rfl
section
variable {α β σ:Type} {P:α->α->Prop} {Q:β->β->Prop}
@[reducible] def fz(a b:Int):Fault:=⟨12,[],a,b⟩
def Rd.pl(P:α->α->Prop):Rd α->Rd α->Prop
 | .bad f,_=>f.code≠0
 | .ok a w n,r=>∃b w',r=.ok b w' n/\P a b/\Mv w w'
def Pl(P:α->α->Prop)(F1 F2:List Tok->Nat->Rd α):Prop:=∀w w' n,Mv w w'->(F1 w n).pl P (F2 w' n)
theorem dY{f:Fault}{r:Rd α}(h:f.code≠0:=by first|decide|simp[gK,rB,fz]):(Rd.bad f:Rd α).pl P r:=h
theorem nY{a b:α}(h:P a b){w w':List Tok}(m:Mv w w')(n:Nat):(Rd.ok a w n).pl P (.ok b w' n):=⟨b,w',rfl,h,m⟩
theorem Pl.ok{a b:α}(h:P a b):Pl P (λw n=>.ok a w n) (λw n=>.ok b w n):=λw w' n m=>nY h m n
theorem kU{m u:Rd α}{k1 k2:α->List Tok->Nat->Rd β}(h:m.pl P u)(B:∀a b,P a b->Pl Q (k1 a) (k2 b)):(m.bind k1).pl Q (u.bind k2):=by
 cases m with
 | bad f=>exact h
 | ok a w n =>
  obtain⟨b,w',rfl,z,y⟩:=h;exact B a b z w w' n y
theorem Pl.bind{F1 F2:List Tok->Nat->Rd α}{k1 k2:α->List Tok->Nat->Rd β}(h:Pl P F1 F2)(u:∀a b,P a b->Pl Q (k1 a) (k2 b)) :
  Pl Q (λw n=>(F1 w n).bind (k1 ·)) (λw n=>(F2 w n).bind (k2 ·)):=λw w' n m=>kU (h w w' n m) u
theorem dX(c:Prop) [Decidable c] {y u s1 s2:Rd α} (h:y.pl P u) (g:s1.pl P s2):(if c then y else s1).pl P (if c then u else s2):=by
 by_cases m:c
 .simp only[m,bT];exact h
 .simp only[m,bR];exact g
theorem aD6(c:Prop) [Decidable c] {y u s1 s2:Rd α} (h:c->y.pl P u) (g:¬ c->s1.pl P s2):(if c then y else s1).pl P (if c then u else s2):=by
 by_cases m:c
 .simp only[m,bT];exact h m
 .simp only[m,bR];exact g m
theorem aMG(c:Prop) [Decidable c] {F1 F2 m y:List Tok->Nat->Rd α} (h:Pl P F1 F2) (g:Pl P m y) :
  Pl P (λw n=>if c then F1 w n else m w n) (λw n=>if c then F2 w n else y w n):=λw w' n u=>dX c (h w w' n u) (g w w' n u)
theorem Pl.isT(x:aD){F1 F2 u y:List Tok->Nat->Rd α}(h:Pl P F1 F2)(g:Pl P u y) :
  Pl P (λw n=>if Go.AV.isT x w=true then F1 w.tail n else u w n) (λw n=>if Go.AV.isT x w=true then F2 w.tail n else y w n):=λw w' n m=>by
 simp only[m.isT x];exact dX _ (h _ _ n m.tail) (g _ _ n m)
theorem aLC(x y:aD){F1 F2 u z:List Tok->Nat->Rd α}(h:Pl P F1 F2)(g:Pl P u z) :
  Pl P (λw n=>if Go.AV.isT x w=true\/Go.AV.isT y w=true then F1 w n else u w n) (λw n=>if Go.AV.isT x w=true\/Go.AV.isT y w=true then F2 w n else z w n):=λw w' n m=>by
 simp only[m.isT x,m.isT y];exact dX _ (h _ _ n m) (g _ _ n m)
theorem Pl.bad{f:List Tok->Nat->Fault}{F2:List Tok->Nat->Rd α}(h:∀w n,(f w n).code≠0):Pl P (λw n=>.bad (f w n)) F2:=λw w' n m=>h w n
theorem Pl.of{F1 F2:List Tok->Nat->Rd α}(m:∀n,(F1 [] n).pl P (F2 [] n))(u:∀t l c w w' n,Adj (t.to l c) w'->Mv w w'->(F1 (t::w) n).pl P (F2 (t.to l c::w') n)):Pl P F1 F2:=by
 intro w w' n h;cases h with
 | nil=>exact m n
 | cons y h=>exact u _ _ _ _ _ n y h
theorem Pl.len{F1 F2:Nat->List Tok->Nat->Rd α}(h:∀f,Pl P (F1 f) (F2 f)):Pl P (λw n=>F1 (w.length+1) w n) (λw n=>F2 (w.length+1) w n):=λw w' n m=>by
 show(F1 (w.length+1) w n).pl P (F2 (w'.length+1) w' n);rw[<-m.len];exact h _ w w' n m
end
section
variable {α σ:Type} {a1 b1:Int} {f2:Fault} {P:α->α->Prop}
theorem kL(x:aD):Pl Eq (gP (fz a1 b1) x) (gP f2 x):=by
 have h:=Pl.isT x (Pl.ok (P:=Eq) (rfl:()=())) (Pl.bad (P:=Eq) (f:=λw _=>gK (fz a1 b1) 11 w) (F2:=λw _=>.bad (gK f2 11 w)) (λw n=>by cases w<;>simp[gK,fz]));exact h
theorem lT:Pl Eq (eU (fz a1 b1)) (eU f2):=Pl.of (λn=>dY) (λt l c w w' n m h=>dX _ (nY rfl h n) dY)
theorem aJU(h:Int):Pl Eq (sR (fz a1 b1) h) (sR f2 h):=Pl.of (λn=>dY) (λt l c w w' n u m=>dX _ (dX _ dY (nY rfl m n)) dY)
theorem aTH(a b:Nat):Pl Eq (wD (fz a1 b1) a b) (wD f2 a b):=λw w' n h=>dX _ (dY (by cases w<;>simp[rB,fz])) (nY rfl h n)
theorem aDU(sep:aD){S:σ->σ->Prop}{m u:σ->List Tok->Nat->Rd σ}(h:∀a b,S a b->Pl S (m a) (u b)):∀(f:Nat) (a b:σ),S a b->Pl S (dK (fz a1 b1) sep m f a) (dK f2 sep u f b)
 | 0,a,b,_=>λw w' n B=>dY
 | f+1,a,b,y=>by
  have z:=aDU sep h f
  have e:=Pl.bind (h a b y) (Q:=S) (k1:=λa w n=>if isT sep w=true then dK (fz a1 b1) sep m f a w.tail n else .ok a w n) (k2:=λa w n=>if isT sep w=true then dK f2 sep u f a w.tail n else .ok a w n)
   (λa b y=>Pl.isT sep (z a b y) (Pl.ok y))
  exact e
theorem aLB{L:List α->List α->Prop}(H:∀{l F:List α} {a b:α},L l F->P a b->L (l++[a]) (F++[b])){B z:List α->List Tok->Nat->Rd α}(h:∀l F,L l F->Pl P (B l) (z F)){m u:List α}(O:L m u) :
  Pl L (kP (fz a1 b1) B m) (kP f2 z u) :=
 Pl.len (F1:=λf w n=>dK (fz a1 b1) [44] (λm w n=>(B m w n).bind λa w n=>.ok (m++[a]) w n) f m w n) (F2:=λf w n=>dK f2 [44] (λm w n=>(z m w n).bind λa w n=>.ok (m++[a]) w n) f u w n)
  (λf=>aDU [44] (λa b M=>Pl.bind (h a b M) (λx y S=>Pl.ok (H M S))) f m u O)
theorem zQ{m u:List α->List Tok->Nat->Rd α}(h:∀l,Pl Eq (m l) (u l))(y:List α):Pl Eq (kP (fz a1 b1) m y) (kP f2 u y) :=
 aLB (L:=Eq) (P:=Eq) (λz h2=>by rw[z,h2]) (λl B e=>by subst e;exact h l) rfl
theorem aTI(t u:Tok):Pl Eq (pO t) (pO u):=λw w' n h=>dX _ dY (nY rfl h _)
theorem aLY(t u:Tok)(h:Bool)(sort:aD):Pl Eq (rY (fz a1 b1) t h sort) (rY f2 u h sort):=by
 refine Pl.of (λn=>nY rfl .nil n) (λx l c w w' n y m=>?_);refine dX _ ?_ (nY rfl (.cons y m) n);cases m with
 | nil=>exact dY
 | cons y m=>exact dX _ (dX _ dY (kU (aTI t u _ _ n m) (λ_ _ _=>Pl.ok rfl))) dY
theorem aUs(t u:Tok){z y:List Tok->Nat->Rd Tm}(h:Pl Eq z y)(m:List Tm):Pl Eq (oW false (fz a1 b1) t z m) (oW false f2 u y m):=by
 by_cases F:m.length=8
 .refine Pl.of (λn=>by simp only[oW,F,bT];exact dY) (λx l c w w' n M H=>?_);simp only[oW,F,bT];exact dX _ dY (h _ _ n (.cons M H))
 .have e:∀f t B,oW false f t B m=B:=λf t B=>by funext w n;simp only[oW,F,bR]
  rw[e,e];exact h
theorem aRX(t u:Tok){F B:List Tok->Nat->Rd Tm}(h:Pl Eq F B)(x:Tok)(l c:Int):Pl Eq (uC false (fz a1 b1) t F x) (uC false f2 u B (x.to l c)):=by
 have e:=aMG (P:=Eq) (x.text=[116,114,117,101]) (Pl.ok (rfl:Tm.mk 2 1 [] [] [] []=_)) (aMG (x.text=[102,97,108,115,101]) (Pl.ok (rfl:Tm.mk 2 0 [] [] [] []=_))
  (Pl.isT [58] (Pl.bind (lT (a1 := a1) (b1 := b1) (f2 := f2)) (fun y z m => Pl.ok (dV (fun y => Tm.mk 6 0 x.text y [] []) m)))
   (Pl.bind (kL (a1 := a1) (b1 := b1) (f2 := f2) [40]) (fun _ _ _ => Pl.isT [41] (Pl.ok (rfl : Tm.mk 5 0 x.text [] [] [] = _))
    (Pl.bind (zQ (a1:=a1) (b1:=b1) (f2:=f2) (aUs (a1:=a1) (b1:=b1) (f2:=f2) t u h) []) (λy z m=>Pl.bind (kL (a1:=a1) (b1:=b1) (f2:=f2) [41]) (λ_ _ _=>Pl.ok (dV (λy=>Tm.mk 5 0 x.text [] y []) m))))))))
 exact e
theorem aU6{B z:List Tok->Nat->Rd Tm}(h:Pl Eq B z)(m u:List Tm)(y:m=u):Pl Eq (oV (fz a1 b1) B m) (oV f2 z u):=by
 subst y;have e:=Pl.bind (Q:=Eq) h (λk H O=>Pl.bind (kL (a1:=a1) (b1:=b1) (f2:=f2) [45,62]) (λ_ _ _=>Pl.bind h (λv F M=>Pl.ok (by rw[O,M]:m++[k,v]=m++[H,F]))));exact e
theorem aRj(t u:Tok){B y:List Tok->Nat->Rd Tm}(h:Pl Eq B y)(m:Bool)(x:Tok)(l c:Int)(O:x.kind≠1/\x.kind≠2/\x.kind≠3)(w w':List Tok)(n:Nat)(ha:Adj (x.to l c) w')(F:Mv w w') :
  (nT (fz a1 b1) t B m x w n).pl Eq (nT f2 u y m (x.to l c) w' n):=by
 have el:Pl Eq (λw n=>dK (fz a1 b1) [44] (oV (fz a1 b1) B) (w.length+1) [] w n) (λw n=>dK f2 [44] (oV f2 y) (w.length+1) [] w n) :=
  Pl.len (F1:=λf w n=>dK (fz a1 b1) [44] (oV (fz a1 b1) B) f [] w n) (F2:=λf w n=>dK f2 [44] (oV f2 y) f [] w n) (λf=>aDU [44] (aU6 h) f [] [] rfl)
 refine aD6 _ (λhm=>?_) (λ_=>dX _ ?_ (dX _ ?_ (dX _ ?_ (nY rfl F n))))
 .cases F with
  | nil=>exact dY
  | @cons v l2 c2 z z' Z F =>
   by_cases H:v.kind=2/\v.line=x.line/\v.col=x.col+1
   .have h2:=ha _ _ rfl O.1 O.2.1 O.2.2 hm H.1;show(if _ then _ else _:Rd Tm).pl Eq (if _ then _ else _);rw[aF H,aF ⟨H.1,h2⟩];exact nY rfl F n
   .show(if _ then _ else _:Rd Tm).pl Eq (if _ then _ else _);rw[aB H];exact dY
 .cases F with
  | nil=>exact dY
  | cons Z F=>exact dX _ (nY rfl F n) dY
 .exact(Pl.bind (P:=Eq) (Q:=Eq) (aLC [124] [93] (Pl.ok (rfl:([]:List Tm)=_)) (zQ (a1:=a1) (b1:=b1) (f2:=f2) (λ_=>h) [])) (λa S U=>Pl.bind (aLY (a1:=a1) (b1:=b1) (f2:=f2) t u m [76,105,115,116]) (λr M e2=>Pl.bind (kL (a1:=a1) (b1:=b1) (f2:=f2) [93]) (λ_ _ _=>Pl.ok (by rw[U,e2]:Tm.mk 7 0 [] [] a r=Tm.mk 7 0 [] [] S M))))) w w' n F
 .exact(Pl.bind (P:=Eq) (Q:=Eq) (aLC [124] [125] (Pl.ok (rfl:([]:List Tm)=_)) el) (λa S U=>Pl.bind (aLY (a1:=a1) (b1:=b1) (f2:=f2) t u m [77,97,112]) (λr M e2=>Pl.bind (kL (a1:=a1) (b1:=b1) (f2:=f2) [125]) (λ_ _ _=>Pl.ok (by rw[U,e2]:Tm.mk 8 0 [] [] a r=Tm.mk 8 0 [] [] S M))))) w w' n F
theorem aL7(t u:Tok):∀(k:Nat),Pl Eq (fU false (fz a1 b1) t k) (fU false f2 u k)
 | 0=>Pl.of (λn=>dY) (λx l c w w' n y h=>dX _ dY dY)
 | k+1=>by
  have z:=aL7 t u k;refine Pl.of (λn=>dY) (λx l c w w' n y h=>?_);refine dX _ ?_ dY;unfold pO;by_cases m:2000<n+1
  .simp only[m,bT];exact dY
  .simp only[m,bR,Rd.bind];refine aD6 _ (λ_=>nY rfl h _) (λh2=>aD6 _ (λ_=>nY rfl h _) (λF=>aD6 _ (λ_=>aRX t u z x l c _ _ _ h) (λB=>?_)));exact aRj t u z _ x l c ⟨B,h2,F⟩ w w' _ y h
theorem xD:Pl Eq (gS false (fz a1 b1)) (gS false f2):=by
 refine Pl.of (λn=>dY) (λx l c w w' n B F=>?_);have h:=aL7 (a1:=a1) (b1:=b1) (f2:=f2) x (x.to l c) 60 _ _ 0 (Mv.cons B F);simp only[gS];cases u:fU false (fz a1 b1) x 60 (x::w) 0 with
 | bad f=>rw[u]at h;exact h
 | ok a w2 m =>
  rw[u]at h;obtain⟨b,H,z,h2,y⟩:=h;rw[z];exact nY h2 y n
theorem aG6{k1 k2:List Tok->Nat->Rd α}(h:Pl P k1 k2)(a b:Nat):Pl P (λw n=>mK (fz a1 b1) a b w n k1) (λw n=>mK f2 a b w n k2) :=
 Pl.of (λn=>dY) (λt l c w w' n u m=>dX _ dY (h _ _ n (.cons u m)))
theorem aK8:Pl Eq (qT false (fz a1 b1)) (qT false f2):=by
 have one:∀h:List Tm,Pl Eq (λw n=>match w with|[]=>.bad (fz a1 b1)|t::r=>if t.begins=true then(wD (fz a1 b1) h.length 20 (t::r) n).bind λ_ w n=>gS false (fz a1 b1) w n else gS false (fz a1 b1) (t::r) n)
   (λw n=>match w with|[]=>.bad f2|t::r=>if t.begins=true then(wD f2 h.length 20 (t::r) n).bind λ_ w n=>gS false f2 w n else gS false f2 (t::r) n):=λh =>
  Pl.of (λn=>dY) (λt l c w w' n u m=>dX _ (kU (aTH (a1:=a1) (b1:=b1) (f2:=f2) _ _ _ _ n (Mv.cons u m)) (λ_ _ _=>xD)) (xD _ _ n (.cons u m)))
 have e:=Pl.isT [105,102] (zQ (a1:=a1) (b1:=b1) (f2:=f2) one []) (Pl.ok (rfl:([]:List Tm)=_));exact e
def Eqn.st(a:Eqn):Eqn:={ a with line:=0,col:=0 }
def Cel.st(a:Cel):Cel:={ a with line:=0,col:=0 }
def Part.st(a:Part):Part:={ a with line:=0,col:=0 }
def Rul.st(a:Rul):Rul:={ a with parts:=a.parts.map Part.st,line:=0,col:=0 }
def Dfn.st(a:Dfn):Dfn:={ a with eqs:=a.eqs.map Eqn.st,once:=a.once.map Cel.st,many:=a.many.map Cel.st,rules:=a.rules.map Rul.st }
theorem aMh:Pl (λa b=>a.st=b.st) (pQ false (fz a1 b1)) (pQ false f2):=by
 refine Pl.of (λn=>dY) (λt l c w w' n z F=>?_)
 exact(Pl.bind (P:=Eq) (lT (a1:=a1) (b1:=b1) (f2:=f2)) (λx M h=>Pl.bind (kL (a1:=a1) (b1:=b1) (f2:=f2) [58]) (λ_ _ _=>Pl.bind (lT (a1:=a1) (b1:=b1) (f2:=f2)) (λy m B=>Pl.bind (kL (a1:=a1) (b1:=b1) (f2:=f2) [61]) (λ_ _ _=>Pl.bind (xD (a1:=a1) (b1:=b1) (f2:=f2))
  (λi u H=>Pl.ok (P:=λa b:Cel=>a.st=b.st) (by subst h;subst B;subst H;rfl:(⟨x,y,i,t.line,t.col⟩:Cel).st=(⟨M,m,u,l,c⟩:Cel).st))))))) _ _ n (Mv.cons z F)
theorem aGc:∀(f:Nat) (m:List Piece) (az:List aD) (h:Bool),Pl Eq (qL (fz a1 b1) f m az h) (qL f2 f m az h)
 | 0,m,az,h=>λw w' n u=>dY
 | f+1,m,az,h=>by
  refine Pl.of (λn=>dY) (λt l c w w' n y u=>?_);refine dX _ (nY rfl u n) (dX _ (dX _ dY (dX _ ?_ (dX _ dY ?_))) dY)
  .exact aGc f _ _ _ _ _ n u
  .exact aGc f _ _ _ _ _ n u
theorem aKF:∀(f:Nat) (o:Opr),Pl Eq (jB (fz a1 b1) f o) (jB f2 f o)
 | 0,o=>λw w' n h=>dY
 | f+1,o=>by
  have u:=aKF f;refine Pl.of (λn=>dY) (λt l c w w' n y h=>?_);refine dX _ (nY rfl (.cons y h) n) (dX _ dY (dX _ (dX _ dY ?_) (dX _ (dX _ ?_ dY) (dX _ (dX _ ?_ dY) (dX _ (dX _ dY ?_) dY)))))
  .exact kU (aJU (a1:=a1) (b1:=b1) (f2:=f2) 20 _ _ n h) (λm z e=>by subst e;exact u _)
  .exact u _ _ _ n h
  .exact u _ _ _ n h
  .exact kU (kL (a1:=a1) (b1:=b1) (f2:=f2) [40] _ _ n h) (λ_ _ _=>Pl.bind (zQ (a1:=a1) (b1:=b1) (f2:=f2) (λ_=>aJU (a1:=a1) (b1:=b1) (f2:=f2) 8) []) (λa B e=>Pl.bind (kL (a1:=a1) (b1:=b1) (f2:=f2) [41]) (λ_ _ _=>by subst e;exact u _)))
theorem aVJ:Pl Eq (yB (fz a1 b1)) (yB f2):=by
 have e:=Pl.bind (Q:=Eq) (lT (a1:=a1) (b1:=b1) (f2:=f2)) (λx B u=>Pl.bind (kL (a1:=a1) (b1:=b1) (f2:=f2) [58]) (λ_ _ _=>Pl.bind (Pl.len (P:=Eq) (F1:=λf=>qL (fz a1 b1) f [] [] false) (F2:=λf=>qL f2 f [] [] false) (λf=>aGc f [] [] false))
  (fun p h m => Pl.bind (lT (a1 := a1) (b1 := b1) (f2 := f2)) (fun y F z => (show Pl Eq (fun w n => jB (fz a1 b1) (w.length + 1) ⟨x,p.2.1,y,if p.2.2 = true then p.1 else [],0,0,[]⟩ w n) (fun w n => jB f2 (w.length + 1) ⟨B,h.2.1,F,if h.2.2 = true then h.1 else [],0,0,[]⟩ w n) from by
   subst u;subst m;subst z;exact Pl.len (F1:=λf=>jB (fz a1 b1) f ⟨x,p.2.1,y,if p.2.2=true then p.1 else [],0,0,[]⟩) (F2:=λf=>jB f2 f ⟨x,p.2.1,y,if p.2.2=true then p.1 else [],0,0,[]⟩) (λf=>aKF f _))))))
 exact e
theorem aMw:∀(f:Nat) (az:List aD),Pl Eq (nF (fz a1 b1) f az) (nF f2 f az)
 | 0,az=>λw w' n m=>dY
 | f+1,az=>by
  have e:=Pl.isT [45,62] (Pl.ok (rfl:az=_)) (Pl.bind (aG6 (a1:=a1) (b1:=b1) (f2:=f2) (lT (a1:=a1) (b1:=b1) (f2:=f2)) 8 az.length) (λx h e=>(show Pl Eq (nF (fz a1 b1) f (az++[x])) (nF f2 f (az++[h])) from by subst e;exact aMw f (az++[x]))));exact e
theorem aVm:Pl Eq (xY (fz a1 b1)) (xY f2):=by
 have e:=Pl.bind (Q:=Eq) (lT (a1:=a1) (b1:=b1) (f2:=f2)) (λx B u=>Pl.bind (kL (a1:=a1) (b1:=b1) (f2:=f2) [58]) (λ_ _ _=>Pl.bind (Pl.len (P:=Eq) (F1:=λf=>nF (fz a1 b1) f []) (F2:=λf=>nF f2 f []) (λf=>aMw f []))
  (λaz h m=>Pl.bind (lT (a1:=a1) (b1:=b1) (f2:=f2)) (λy F z=>Pl.ok (by subst u;subst m;subst z;rfl:(⟨x,az,y,[],0,0,[]⟩:Opr)=⟨B,h,F,[],0,0,[]⟩)))))
 exact e
theorem aTL(r h:Rul)(m:r.st=h.st):Pl (λa b=>a.st=b.st) (pN false (fz a1 b1) r) (pN false f2 h):=by
 have H:r.name=h.name:=(dV Rul.name m :);have h2:r.parts.map Part.st=h.parts.map Part.st:=(dV Rul.parts m :);have F:r.cond=h.cond:=(dV Rul.cond m :);have B:r.new=h.new:=(dV Rul.new m :);have z:r.drop=h.drop:=(dV Rul.drop m :);refine Pl.of (λn=>dY) (λt l c w w' n Z M=>?_);refine dX _ ?_ (dX _ ?_ ?_)
 .exact kU (kL (a1:=a1) (b1:=b1) (f2:=f2) [40] _ _ n M) (λ_ _ _=>Pl.bind (zQ (a1:=a1) (b1:=b1) (f2:=f2) (λ_=>xD (a1:=a1) (b1:=b1) (f2:=f2)) []) (λa O e=>Pl.bind (kL (a1:=a1) (b1:=b1) (f2:=f2) [41]) (λ_ _ _=>Pl.ok (by subst e;simp only[Rul.st,H,h2,F,B,z]))))
 .exact kU (kL (a1:=a1) (b1:=b1) (f2:=f2) [64] _ _ n M) (λ_ _ _=>Pl.bind (lT (a1:=a1) (b1:=b1) (f2:=f2)) (λx x' e=>Pl.ok (by subst e;simp only[Rul.st,H,h2,F,B,z])))
 .exact kU (lT (a1:=a1) (b1:=b1) (f2:=f2) _ _ n (.cons Z M)) (λx x' S=>Pl.bind (Pl.isT [64] (lT (a1:=a1) (b1:=b1) (f2:=f2)) (Pl.ok (rfl:([]:aD)=_))) (λy y' e2=>Pl.bind (kL (a1:=a1) (b1:=b1) (f2:=f2) [58]) (λ_ _ _=>Pl.bind xD (λa O e3 =>
   Pl.bind (P:=Eq) (Pl.isT [61,62] (Pl.bind (P:=Eq) (Q:=Eq) xD (λu u' e=>Pl.ok (dV (λu=>[u]) e))) (Pl.ok (rfl:([]:List Tm)=_))) (λrs U e4=>Pl.ok (by subst S;subst e2;subst e3;subst e4;simp only[Rul.st,cN,bN,dI,Part.st,H,h2,F,B,z]))))))
theorem aSg(a b:Rul × Nat)(h:a.1.st=b.1.st/\a.2=b.2):Pl (λa b=>a.1.st=b.1.st/\a.2=b.2) (sX false (fz a1 b1) a) (sX false f2 b):=by
 obtain⟨a,i⟩:=a;obtain⟨b,j⟩:=b;obtain⟨u,rfl⟩:=h;exact Pl.of (λn=>dY) (λt l c w w' n z m=>dX _ dY (kU (aTL a b u _ _ n (.cons z m)) (λx y e=>Pl.ok ⟨e,rfl⟩)))
theorem aTW(z y m u:Int):Pl (λa b=>a.st=b.st) (xQ false (fz a1 b1) z y) (xQ false f2 m u):=by
 have e:=Pl.bind (Q:=λa b:Rul=>a.st=b.st) (lT (a1:=a1) (b1:=b1) (f2:=f2)) (λx U F=>Pl.bind (kL (a1:=a1) (b1:=b1) (f2:=f2) [58]) (λ_ _ _ =>
  Pl.bind (Pl.len (F1:=λf=>dK (fz a1 b1) [59] (sX false (fz a1 b1)) f (⟨x,[],[],[],[],z,y⟩,0)) (F2:=λf=>dK f2 [59] (sX false f2) f (⟨U,[],[],[],[],m,u⟩,0))
   (fun f => aDU [59] aSg f _ _ ⟨by rw [F]; rfl,rfl⟩)) (fun a b h => Pl.bind (aK8 (a1 := a1) (b1 := b1) (f2 := f2)) (fun k M S => Pl.ok (by
    have O:a.1.name=b.1.name:=(dV Rul.name h.1 :);have h2:a.1.parts.map Part.st=b.1.parts.map Part.st:=(dV Rul.parts h.1 :);have H:a.1.new=b.1.new:=(dV Rul.new h.1 :);have B:a.1.drop=b.1.drop:=(dV Rul.drop h.1 :);subst S;simp only[Rul.st,O,h2,H,B]:({ a.1 with cond:=k }:Rul).st=({ b.1 with cond:=M }:Rul).st)))))
 exact e
structure DSt (d d':Dfn):Prop where
 name:d.name=d'.name
 sig:d.sig=d'.sig
 eqs:d.eqs.map Eqn.st=d'.eqs.map Eqn.st
 once:d.once.map Cel.st=d'.once.map Cel.st
 kind:d.kind=d'.kind
 many:d.many.map Cel.st=d'.many.map Cel.st
 rules:d.rules.map Rul.st=d'.rules.map Rul.st
 start:d.start=d'.start
 watch:d.watch=d'.watch
theorem tX{α β:Type}{f:α->β}{l m:List α}(h:l.map f=m.map f):l.length=m.length:=by
 have:=dV List.length h;simpa using this
theorem aD8{α β:Type}{f:α->β}{l m:List α}{a b:α}(h:l.map f=m.map f)(e:f a=f b):(l++[a]).map f=(m++[b]).map f:=by
 simp only[cN,h,bN,e,dI]
theorem aSM(d F:Dfn)(h:DSt d F)(t:Tok)(l c:Int)(w w':List Tok)(n:Nat)(ha:Adj (t.to l c) w')(z:Mv w w'):(nX false (fz a1 b1) d t w n).pl DSt (nX false f2 F (t.to l c) w' n):=by
 obtain⟨nm,sg,es,on,ki,ma,ru,sa,wa⟩:=d;obtain⟨b9,b4,b7,b5,b8,b3,b2,b0,b6⟩:=F;obtain⟨Z,M,u,m,S,g6,y,U,O⟩:=h;simp only at Z M u m S g6 y U O;subst Z;subst M;subst S;subst U;subst O;simp only[nX,<-tX m];refine dX _ (dX _ ?_ dY) (dX _ (dX _ ?_ dY) (dX _ (dX _ dY ?_) (dX _ (dX _ ?_ dY) dY)))
 .exact kU (lT (a1:=a1) (b1:=b1) (f2:=f2) _ _ n z) (λx H e=>Pl.ok ⟨rfl,rfl,u,m,rfl,g6,y,e,rfl⟩)
 .exact kU (lT (a1:=a1) (b1:=b1) (f2:=f2) _ _ n z) (λx H e=>Pl.ok ⟨rfl,rfl,u,m,rfl,g6,y,rfl,e⟩)
 .exact kU (aMh (a1:=a1) (b1:=b1) (f2:=f2) _ _ n z) (λx H e=>Pl.ok ⟨rfl,rfl,u,aD8 m e,rfl,g6,y,rfl,rfl⟩)
 .exact kU (lT (a1:=a1) (b1:=b1) (f2:=f2) _ _ n z) (λx H e=>Pl.bind (kL (a1:=a1) (b1:=b1) (f2:=f2) [40]) (λ_ _ _ =>
   Pl.bind (aLB (a1:=a1) (b1:=b1) (f2:=f2) (P:=λa b:Cel=>a.st=b.st) (L:=λl B=>l.map Cel.st=B.map Cel.st) aD8 (λl B hl=>by rw[tX hl];exact aG6 aMh 12 B.length) g6)
    (λa a' e2=>Pl.bind (kL (a1:=a1) (b1:=b1) (f2:=f2) [41]) (λ_ _ _=>Pl.ok ⟨rfl,rfl,u,m,e,e2,y,rfl,rfl⟩))))
theorem aTC(d F:Dfn)(h:DSt d F):Pl DSt (iP false (fz a1 b1) d) (iP false f2 F):=by
 have h0:=h;obtain⟨nm,sg,es,on,ki,ma,ru,sa,wa⟩:=d;obtain⟨b9,b4,b7,b5,b8,b3,b2,b0,b6⟩:=F;obtain⟨g1,S,m,B,Z,g6,u,g8,U⟩:=h;simp only at g1 S m B Z g6 u g8 U;subst g1;subst S;subst Z;subst g8;subst U;refine Pl.of (λn=>dY) (λt l c w w' n ha z=>?_);simp only[iP,<-tX m,<-tX u];refine kU (P:=DSt) ?_ (λd F hd=>Pl.bind (kL (a1:=a1) (b1:=b1) (f2:=f2) [46]) (λ_ _ _=>Pl.ok hd));refine dX _ ?_ (dX _ (dX _ dY ?_) (dX _ ?_ (dX _ (dX _ dY (dX _ ?_ ?_)) (dX _ (dX _ dY ?_) (dX _ (dX _ dY ?_) (aSM _ _ h0 t l c w w' n ha z))))))
 .exact kU (zQ (a1:=a1) (b1:=b1) (f2:=f2) (λM=>aG6 (a1:=a1) (b1:=b1) (f2:=f2) (lT (a1:=a1) (b1:=b1) (f2:=f2)) 40 M.length) sg.sorts _ _ n z) (λa H e=>Pl.ok ⟨rfl,by rw[e],m,B,rfl,g6,u,rfl,rfl⟩)
 .exact kU (lT (a1:=a1) (b1:=b1) (f2:=f2) _ _ n z) (λx x' e=>Pl.bind (kL (a1:=a1) (b1:=b1) (f2:=f2) [60]) (λ_ _ _=>Pl.bind (lT (a1:=a1) (b1:=b1) (f2:=f2)) (λy y' O=>Pl.ok ⟨rfl,by rw[e,O],m,B,rfl,g6,u,rfl,rfl⟩)))
 .exact kU (zQ (a1:=a1) (b1:=b1) (f2:=f2) (λ_=>lT (a1:=a1) (b1:=b1) (f2:=f2)) [] _ _ n z) (λa H e=>Pl.ok ⟨rfl,by rw[e],m,B,rfl,g6,u,rfl,rfl⟩)
 .exact kU (aVJ (a1:=a1) (b1:=b1) (f2:=f2) _ _ n z) (λa H e=>Pl.ok ⟨rfl,by rw[e],m,B,rfl,g6,u,rfl,rfl⟩)
 .exact kU (aVm (a1:=a1) (b1:=b1) (f2:=f2) _ _ n z) (λa H e=>Pl.ok ⟨rfl,by rw[e],m,B,rfl,g6,u,rfl,rfl⟩)
 .exact kU (xD (a1:=a1) (b1:=b1) (f2:=f2) _ _ n z) (λx x' e=>Pl.bind (kL (a1:=a1) (b1:=b1) (f2:=f2) [61]) (λ_ _ _=>Pl.bind (xD (a1:=a1) (b1:=b1) (f2:=f2)) (λy y' O=>Pl.bind (aK8 (a1:=a1) (b1:=b1) (f2:=f2)) (λk k' e3 =>
   Pl.ok ⟨rfl,rfl,aD8 m (by subst e;subst O;subst e3;rfl),B,rfl,g6,u,rfl,rfl⟩))))
 .exact kU (aTW (a1:=a1) (b1:=b1) (f2:=f2) _ _ _ _ _ _ n z) (λx x' e=>Pl.ok ⟨rfl,rfl,m,B,rfl,g6,aD8 u e,rfl,rfl⟩)
theorem aKQ:∀(f:Nat) (d m:Dfn),DSt d m->Pl DSt (pK false (fz a1 b1) f d) (pK false f2 f m)
 | 0,d,m,_=>λw w' n y=>dY
 | f+1,d,m,h=>Pl.of (λn=>nY h .nil n) (λt l c w w' n z y=>kU (aTC d m h _ _ n (.cons z y)) (λa b u=>aKQ f a b u))
theorem aDh{α β:Type}{f:α->β}{r:α->α->Bool}(h:∀a b,f a=f b->r a b=true){l m:List α}(e:l.map f=m.map f):cV r l m=true :=
 (jI (tX e)).2 fun i a b u y => h a b (by
  have:=dV (λl=>l[i]?) e;simp only[lO,u,y,nO,bQ]at this;exact this)
theorem aON(a b:Part)(h:a.st=b.st):a.same b=true:=by
 have e:a.same b=a.st.same b.st:=rfl;rw[e,h];exact Part.same_self _
theorem DSt.same{d m:Dfn}(h:DSt d m):d.same m=true:=by
 have B:cV Eqn.same d.eqs m.eqs=true:=aDh (λa b h=>by rw[show a.same b=a.st.same b.st from rfl,h];exact Eqn.same_self _) h.eqs;have y:∀{l u:List Cel},l.map Cel.st=u.map Cel.st->cV Cel.same l u=true:=aDh (λa b h=>by rw[show a.same b=a.st.same b.st from rfl,h];exact Cel.same_self _)
 have er:cV Rul.same d.rules m.rules=true:=aDh (λa b h=>by
  have F:a.name=b.name:=(dV Rul.name h :);have h2:a.parts.map Part.st=b.parts.map Part.st:=(dV Rul.parts h :);have M:a.cond=b.cond:=(dV Rul.cond h :);have H:a.new=b.new:=(dV Rul.new h :);have z:a.drop=b.drop:=(dV Rul.drop h :);simp[Rul.same,F,M,H,z,aDh aON h2,aCa,aB1,qH Fresh.same_self]) h.rules
 simp only[Dfn.same,h.name,h.kind,h.start,h.watch,h.sig,B,y h.once,y h.many,er,Sig.same_self,tR,Bool.and_self]
theorem aGb{T u:List Tok}(y:Mv T u):(∃f,f.code≠0/\lW false (fz a1 b1) T=.bad f)\/∃d w n m w',lW false (fz a1 b1) T=.ok d w n/\lW false f2 u=.ok m w' n/\d.same m=true:=by
 have e:Rd.pl DSt (lW false (fz a1 b1) T) (lW false f2 u) :=
  (Pl.bind (kL (a1 := a1) (b1 := b1) (f2 := f2) [108,97,110,103,117,97,103,101]) (fun _ _ _ => Pl.bind (lT (a1 := a1) (b1 := b1) (f2 := f2)) (fun x B e => Pl.bind (kL (a1 := a1) (b1 := b1) (f2 := f2) [46]) (fun _ _ _ =>
   Pl.len (F1:=λf=>pK false (fz a1 b1) f { gY with name:=x }) (F2:=λf=>pK false f2 f { gY with name:=B }) (λf=>aKQ f _ _ ⟨e,rfl,rfl,rfl,rfl,rfl,rfl,rfl,rfl⟩))))) T u 0 y
 cases h:lW false (fz a1 b1) T with
 | bad f=>rw[h]at e;exact .inl ⟨f,e,rfl⟩
 | ok d w n =>
  rw[h]at e;obtain⟨m,w',z,h2,_⟩:=e;exact .inr ⟨d,w,n,m,w',rfl,z,h2.same⟩
end
end
theorem aJb(w:aD)(x:aD):∀(l:List aD) (n:Nat),mI w (l++[x]) n=if mI w l n<x.length/\mV w x=true then x.length else mI w l n
 | [],n=>rfl
 | y::l,n=>aJb w x l _
theorem aF9(w:aD):∀(l:List aD) (n:Nat),n<=w.length->mI w l n<=w.length
 | [],n,h=>h
 | y::l,n,h=>by
  refine aF9 w l _ ?_;split
  .rename_i m;have:=m.2;simp only[mV,cT,dE]at this;exact this.1
  .exact h
theorem aHt:∀(w:aD) (c:UInt8),Lib.indexByte w c<(w.length:Int)
 | [],c=>by simp[Lib.indexByte]
 | d::w,c=>by
  have m:=aHt w c;have h:=Lib.indexByte_ge w c;unfold Lib.indexByte;simp only[aG];split
  .omega
  .split<;>omega
theorem aQQ(s:St)(r:Nat)(x:aD)(at_ l c:Nat)(u:List aD)(op:Bool)(KV Kp)
  (F:s.getO r=some (.cells 226 (iA x at_ l c u op)))(hx:x.length<=4294967296)(ha:at_<x.length)(bk:u.length<=4294967296)
  (z:KV s (.tuple [(gO (x.drop at_) u op).1.enc,.int .i64 (gO (x.drop at_) u op).2.1,.bool (gO (x.drop at_) u op).2.2])):Den cx 278 [.ptr r 0] KV Kp s:=by
 obtain⟨b,w,hw⟩:∃b w,x.drop at_=b::w:=by
  cases h:x.drop at_ with
  | nil=>have:=dV List.length h;simp at this;omega
  | cons b w=>exact⟨b,w,rfl⟩
 have S:(b::w).length<=4294967296:=by rw[<-hw,eC];omega
 (refine aR func278 [0,2,3,4,5,6,8,20,33,41,67,68,69,70,81,100] ?_;simp only[go_sem,ntmps278,f278]);(refine aQ λq B=>?_);have m:=cJ F B;simp only[go_sem,F,B,m,iA];(refine bO (OT.r 0 10) [] ?_;simp only[go_sem,F,B,m,iA]);rw[hw]at z⊢;have b9:0<(b::w).length:=by simp
 simp only[go_sem,Nat.le_of_lt ha,b9];refine⟨⟨by omega,by omega⟩,?_⟩;have e1:List.take (Int.toNat 1) (b::w)=[b]:=rfl;rw[e1];refine yP _ _ _ _ ?_;simp only[go_sem]
 (apply aT<;>intro h)<;>simp only[go_sem,h,F,B,m,iA]
 .refine aLy _ _ _ (λc=>fK c.toNat) _ _ S (λc KV Kp h=>aBV _ _ _ _ h) ?_;have hn:((b::w).takeWhile λc=>fK c.toNat).length<=(b::w).length:=(List.takeWhile_sublist _).length_le;simp only[gO,h,bT]at z;generalize ((b::w).takeWhile λc=>fK c.toNat).length=n at z hn;simp only[go_sem,F,B,m,iA,hn];refine⟨gQ hn,?_⟩;have e2:decide ((n:Int)<=40)=decide (n<=40):=by rw[gV];omega
  rw[e2];exact aS z (eB B)
 .refine aIT _ _ _ _ ?_;have O:¬ dT [b]=true:=by rw[h];simp
  simp only[go_sem]
  (apply aT<;>intro h)<;>simp only[go_sem,h,F,B,m,iA]
  .simp only[gO,O,bR,h,bT,cE]at z;refine aP1 _ _ _ _ S ?_;simp only[go_sem,F,B,m];exact aS z (eB B)
  .have b4:¬ jC b.toNat=true:=by rw[h];simp
   have b6:(34:UInt8).toNat=34:=rfl
   have e3:decide ((b.toNat:Int)=34)=decide (b=34):=by
    rw[gV,<-vH,b6];omega
   rw[e3]
   (apply aT<;>intro h)<;>simp only[go_sem,h,F,B,m,iA]
   .have hb:b=34:=gQ h;simp only[gO,O,b4,hb,bR,bT]at z;refine⟨⟨by omega,by omega⟩,?_⟩
    have e4:List.take (w.length+1-Int.toNat 1) (List.drop (Int.toNat 1) (b::w))=w:=by
     show List.take (w.length+1-1) w=w;simp
    have e5:(A.int IntKind.u8 34)=.int .u8 ((34:UInt8).toNat):=rfl;rw[e4,e5];refine aFy _ _ _ _ _ ?_;have bm:=Lib.indexByte_ge w 34;have bd:=aHt w 34;obtain⟨k,bc⟩:∃k:Nat,Lib.indexByte w 34=(k:Int)-1:=⟨(Lib.indexByte w 34+1).toNat,by omega⟩
    rw[bc]at z bd⊢;simp only[aG]at S;have bj:k<=w.length:=by omega
    have ew:IntKind.i64.wrap ((k:Int)-1+2)=((k+1:Nat):Int):=by rw[hU _ aC aC];omega
    have b8:IntKind.i64.wrap (((k+1:Nat):Int)-1)=(k:Int):=by rw[hU _ aC aC];omega
    have en:((k:Int)-1+2).toNat=k+1:=by omega
    simp only[en]at z;simp only[go_sem,ew];(refine bO (OT.r 0 19) [] ?_;simp only[go_sem,F,B,m,iA,b8]);have em:(if(k:Int)<1 then(1:Int) else k)=((max k 1:Nat):Int):=by split<;>omega
    rw[em];refine⟨⟨by omega,by omega,by omega⟩,?_⟩
    have et:List.take (Int.toNat ((max k 1:Nat):Int)-Int.toNat 1) (List.drop (Int.toNat 1) (b::w))=w.take (k-1):=by
     show List.take (max k 1-1) w=w.take (k-1);congr 1;omega
    rw[et];have bf:k+1-2=k-1:=by omega
    rw[bf]at z
    (apply aT<;>intro h)<;>simp only[go_sem,h,F,B,m,iA,b8]
    .have M:1<k+1:=by have:=h;simp at this;omega
     refine⟨⟨by omega,by omega,by omega⟩,?_⟩;have bg:List.take (k-Int.toNat 1) (List.drop (Int.toNat 1) (b::w))=w.take (k-1):=rfl;rw[bg];refine aIF _ _ _ _ ?_;simp only[go_sem,F,B,m];simp only[M,tR,fG]at z;exact aS z (eB B)
    .have M:¬ 1<k+1:=by have:=h;simp at this;omega
     simp only[M,aBQ,fE]at z;exact aS z (eB B)
   .have bh:¬ b=34:=gQ h;simp only[gO,O,b4,bh,bR]at z;have hz:=aF9 (b::w) u 0 (aU _)
    refine Ex.loop (λi=>[(0,.ptr r 0),(2,.ptr q 0),(3,.int .i64 (mI (b::w) (u.take i) 0:Nat)),(5,.str (b::w)),(6,.int .u8 b.toNat),(67,.list none (u.map .str)),(68,.int .i64 (u.length:Nat)),(69,.int .i64 (i:Nat))])
     (λ_=>s.setO q (.cells 60 [.int .i64 0,.str [],.int .i64 0,.int .i64 0,.int .i64 0])) (λi=>i<=u.length) (λi=>u.length-i) 0 (aU _) ?_ (aM _) ?_
    .simp[Env.has,Env.get,mI]
    .intro i hi;refine bE (V:=[0,2,3,4,5,6,8,20,33,41,67,68,69,70,81,100]) _ _ _ _ ?_;simp only[go_sem]
     (apply aT<;>intro h)<;>simp only[go_sem,h,F,B,m,iA]
     .have b0:i<u.length:=gQ h;obtain⟨y,hy⟩:∃y,u[i]?=some y:=⟨u[i],aX b0⟩
      have H:mI (b::w) (u.take (i+1)) 0=if mI (b::w) (u.take i) 0<y.length/\mV (b::w) y=true then y.length else mI (b::w) (u.take i) 0:=by
       rw[<-aJb,fD,hy];rfl
      generalize mI (b::w) (u.take i) 0=n at H;refine⟨b0,?_⟩;simp only[go_sem,hy]
      (apply aT<;>intro h)<;>simp only[go_sem,h,F,B,m,iA]
      .have h5:n<y.length:=gQ h;refine aIl _ _ _ _ _ ?_;simp only[go_sem]
       (apply aT<;>intro h)<;>simp only[go_sem,h]
       .exact⟨i+1,by omega,by omega,⟨by rw[H,aF ⟨h5,h⟩],cF i aC⟩,aM _⟩
       .exact⟨i+1,by omega,by omega,⟨by rw[H,aB (by rw[h];simp)],cF i aC⟩,aM _⟩
      .have h5:¬ n<y.length:=gQ h;exact⟨i+1,by omega,by omega,⟨by rw[H,aB (by simp[h5])],cF i aC⟩,aM _⟩
     .have bl:u.length<=i:=gQ h;obtain rfl:i=u.length:=by omega
      rw[List.take_length];generalize mI (b::w) u 0=n at z hz
      have b2:(s.setO q (.cells 60 [.int .i64 0,.str [],.int .i64 0,.int .i64 0,.int .i64 0])).getO r=some (.cells 226 (iA x at_ l c u op)):=by
       rw[aL,aB m.2];exact F
      simp only[cE,bR]at z;have b7:(39:UInt8).toNat=39:=rfl;have Z:(95:UInt8).toNat=95:=rfl;have U:decide ((b.toNat:Int)=39)=decide (b=39):=by rw[gV,<-vH,b7];omega
      have b5:decide ((b.toNat:Int)=95)=decide (b=95):=by rw[gV,<-vH,Z];omega
      have e0:decide ((n:Int)=0)=decide (n=0):=by rw[gV];omega
      rw[e0];cases h0:decide (n=0)<;>cases op<;>simp only[go_sem,b2,B,m,iA,U,b5]<;>cases bb:decide (b=39)<;>cases b3:decide (b=95)<;>(try simp only[go_sem,b2,B,m,iA,U,b5,bb,b3])
      all_goals (simp only[dE,fR]at h0 bb b3)
      all_goals (have ed:decide (0<(n:Int))=decide (0<n):=by rw[gV];omega)
      all_goals (simp only[aG]at hz)
      all_goals first
       | (rw[aB (λhc=>by simp_all)]at z;refine⟨by omega,?_⟩;rw[ed];exact aS z (eB B))
       | (rw[aF (by simp_all)]at z;refine⟨by omega,?_⟩;exact aS z (eB B))
theorem aHM(p:UInt8->Bool)(w:aD):(w.takeWhile p).length<=w.length:=(List.takeWhile_sublist _).length_le
theorem aMS{p:UInt8->Bool}{c:UInt8}{w:aD}(h:p c=true):1<=((c::w).takeWhile p).length:=by simp[List.takeWhile,h]
theorem aDs{c:UInt8}{r:aD}{m:List aD}{op:Bool}{t:Tok}{n:Nat}(h:gO (c::r) m op=(t,n,true)):1<=n/\n<=(c::r).length:=by
 simp only[gO]at h;split at h
 .rename_i u;simp only[mQ,dE]at h;obtain⟨_,rfl,_⟩:=h;refine⟨aMS ?_,aHM _ _⟩;simp only[dT,cT,List.all_cons]at u;exact u.2.2.1
 .split at h
  .rename_i hd;simp only[qW]at h;split at h
   .simp at h
   .simp only[mQ,dE]at h;obtain⟨_,rfl,_⟩:=h;exact⟨aMS hd,aHM _ _⟩
  .split at h
   .simp only[mQ,cT,dE]at h;have:=aHt r 34;simp only[aG];omega
   .have hz:=aF9 (c::r) m 0 (aU _);simp only[mQ,dE]at h;obtain⟨_,rfl,h⟩:=h;refine⟨h,?_⟩;split
    .simp
    .exact hz
theorem aA6:∀(f:Nat) (w:aD),oX f w<=w.length
 | 0,w=>aU _
 | f+1,[]=>aU _
 | f+1,b::r=>by
  simp only[oX];split
  .have:=aA6 f r;simp only[aG];omega
  .split
   .have:=aA6 f ((b::r).drop ((b::r).takeWhile (λc=>!decide (c=10))).length);rw[eC]at this;have:=aHM (λc=>!decide (c=10)) (b::r);omega
   .exact aU _
def Lx.out(KV:St->A->Prop):Lx->St->Prop
 | .ok l,s=>KV s (.tuple [.list none (l.map Tok.enc),Fault.none.enc])
 | .bad f,s=>KV s (.tuple [.list none [],f.enc])
theorem aTg(s:St)(r:Nat)(x:aD)(sg:List aD)(KV Kp)
  (hr:s.getO r=some (.cells 226 (iA x 0 1 1 sg true)))(hx:x.length<=4294967290)(hsg:sg.length<=4294967296)
  (hk:∀o,(kC sg true x).out KV (s.setO r o)):Den cx 215 [.ptr r 0] KV Kp s:=by
 (refine aR func215 [0,2,3,4,5,6,18,38] ?_;simp only[go_sem,ntmps215,f215]);(refine aQ λq hq=>?_);have hne:=cJ hr hq;simp only[go_sem,hr,hq,hne,iA];refine aJf _ r x 0 1 1 sg true _ _ (by rw[aL,aB hne.2];exact hr) aC (aU _) aC aC ?_;have hb0:=aA6 x.length x;change fL x<=x.length at hb0;simp only[go_sem,hr,hq,hne,iA]
 refine Ex.loop (ι:=Nat × (Nat × Nat) × List Tok × Option Nat) (λi=>[(0,.ptr r 0),(2,gv i.2.2.2 (i.2.2.1.map Tok.enc)),(3,.ptr q 0)])
  (λi=>gs ((s.setO q (.cells 36 [.int .i64 0,.str [],.int .i64 0,.int .i64 0])).setO r (.cells 226 (iA x i.1 i.2.1.1 i.2.1.2 sg true))) i.2.2.2 i.2.2.1.length 60)
  (fun i => i.1 ≤ x.length ∧ i.2.1.1 ≤ i.1 + 1 ∧ i.2.1.2 ≤ i.1 + 1 ∧ (i.2.2.2 = none → i.2.2.1 = []) ∧ (∀ t,i.2.2.2 = some t → s.getT t = none) ∧ i.2.2.1.length ≤ i.1 ∧
   ∃f,x.length-i.1<=f/\kC sg true x=lX sg true f (x.drop i.1) i.2.1 i.2.2.1) (λi=>x.length-i.1)
  (fL x,eP (1,1) (x.take (fL x)),[],none) ?_ ?_ ?_ ?_
 .have:=xO (x.take (fL x)) (1,1) 0 aC aC;rw[cQ]at this;refine⟨hb0,aP,aP,λ_=>rfl,λt h=>(by cases h),aU _,x.length,aP,rfl⟩
 .simp only[go_sem];rfl
 .simp only[go_sem];exact aM _
 .rintro⟨a,⟨l,c⟩,acc,tk⟩ ⟨ha,hl,hc,hn,hf,hla,f,hff,hlex⟩;simp only at ha hl hc hn hf hla hff hlex;refine bE (V:=[0,2,3,4,5,6,18,38]) _ _ _ _ ?_;simp only[go_sem];(refine bO (OT.r 0 10) [] ?_;simp only[go_sem,hne,iA])
  (apply aT<;>intro h)<;>simp only[go_sem,h]
  .have hlt:a<x.length:=gQ h;obtain⟨b,w,hw⟩:∃b w,x.drop a=b::w:=⟨_,_,aAz hlt⟩
   obtain⟨f,rfl⟩:∃f',f=f'+1:=⟨f-1,by omega⟩
   refine aQQ _ r x a l c sg true _ _ (by simp only[go_sem];rfl) aC hlt hsg ?_;rw[hw]at hlex⊢;simp only[lX]at hlex;rcases htok:gO (b::w) sg true with⟨⟨tkd,ttx,tn,tl,tc⟩,n,ok⟩
   rw[htok]at hlex;simp only[go_sem];(refine aQ λq2 hq2=>?_)
   have hne2:q2≠r/\q2≠q:=by
    have h1:=hq2;rw[cO,aL]at h1;have h2:=hq2;rw[cO,aL]at h2;constructor<;>rintro rfl
    .simp at h1
    .rw[aB hne.1,aL]at h2;simp at h2
   simp only[go_sem,hne,hne2,hq2];(refine bO (OT.r 0 12) [(9,[7])] ?_;simp only[go_sem,hne,hne2,iA])
   (apply aT<;>intro h)<;>simp only[go_sem,h,hne,hne2,iA]
   .have hok:ok=false:=gQ h;subst hok;simp only at hlex;(refine bO (OT.r 0 25) [] ?_;simp only[go_sem,hne,hne2,iA,Nat.le_of_lt hlt]);have ew:IntKind.i64.wrap ((a:Int)+1)=((a+1:Nat):Int):=cF a aC;rw[ew];refine⟨⟨by omega,by omega⟩,?_⟩;have et:List.take ((((a+1:Nat):Int)).toNat-a) (x.drop a)=[b]:=by rw[hw,Int.toNat_natCast,Nat.add_sub_cancel_left];rfl
    rw[et];rw[hlex]at hk;refine DK.mk (hk _) (lI (hH ?_ (hH ?_ (rM (eB hq)))) ?_) (A.le.tuple ⟨A.le.nil,bH _,trivial⟩)
    .rw[aL,aB hne.1];exact hq
    .have h1:=hq2;rw[cO,aL,aB hne2.1.symm,aL,aB hne2.2.symm]at h1;rw[aL,aB hne2.1.symm];exact h1
    .exact hf
   .have hok:ok=true:=gQ h;subst hok;simp only at hlex;obtain⟨hn1,hn2⟩:=aDs htok;refine⟨by decide,by simp[A.cells],eI rfl rfl (by rw[aK];exact iU λe=>by rw[hn e];rfl) (λy hy=>by simp only[cH]at hy;obtain⟨z,_,rfl⟩:=hy;rfl) (by simp;omega) λt ht=>?_⟩;have hft':s.getT t=none:=by have:=gI ht (λu hu=>hf u hu);exact this
    rw[fY ht];simp only[go_sem,hne,hne2];refine aDN _ r x a l c n sg true _ _ (by simp only[go_sem,hne,hne2];rfl) aC (by have:=dV List.length hw;rw[eC]at this;omega) aC aC ?_;simp only[go_sem];have hal:=xO ((b::w).take n) (l,c) a hl hc;rw[cQ,yH hn2]at hal;have hwl:x.length-a=(b::w).length:=by rw[<-hw,eC]
    rw[hw];have hblk:=aA6 ((b::w).drop n).length ((b::w).drop n);change fL ((b::w).drop n)<=_ at hblk;rw[eC]at hblk;have hdd:x.drop (a+n)=(b::w).drop n:=by rw[<-vI,hw]
    refine aJf _ r x (a+n) _ _ sg true _ _ (by simp only[go_sem,hne,hne2];rfl) aC aC aC aC ?_;simp only[go_sem];rw[hdd];refine⟨(a+n+fL ((b::w).drop n),eP (eP (l,c) ((b::w).take n)) (((b::w).drop n).take (fL ((b::w).drop n))),acc++[⟨tkd,ttx,tn,l,c⟩],some t),⟨?_,?_,?_,?_,?_,?_,f,?_,?_⟩,?_,?_,?_⟩
    .simp only;omega
    .have:=xO (((b::w).drop n).take (fL ((b::w).drop n))) (eP (l,c) ((b::w).take n)) (a+n) aC aC;rw[cQ,eC,yH hblk]at this;simp only;omega
    .have:=xO (((b::w).drop n).take (fL ((b::w).drop n))) (eP (l,c) ((b::w).take n)) (a+n) aC aC;rw[cQ,eC,yH hblk]at this;simp only;omega
    .intro h;cases h
    .intro u hu;cases hu;exact hft'
    .simp only[aI,aG,aH];omega
    .simp only;omega
    .simp only[hlex];congr 1;rw[<-vI,hdd]
    .simp only;omega
    .simp only[cN,bN,dI,dF];exact rfl
    .simp only[gs,aI,aG,aH];refine gR (aRE ?_ hne2.1);have h1:=hq2;rw[cO,aL,aB hne2.1.symm]at h1;exact h1
  ·(refine bO (OT.r 0 4) [] ?_; simp only [go_sem,hne,iA]);have hge : x.length ≤ a := gQ h
   have hlx:kC sg true x=.ok acc:=by
    rw[hlex,yF hge];cases f<;>rfl
   rw[hlx]at hk;refine DK.mk (hk _) (lI (hH ?_ (rM (eB hq))) ?_) (A.le.tuple ⟨iQ tk _ (λe=>by rw[hn e];rfl),bH _,trivial⟩)
   .rw[aL,aB hne.1];exact hq
   .exact hf
structure TokW (N:Nat) (t:Tok):Prop where
 kind:t.kind=1/\(∃c r,t.text=c::r/\uH c.toNat=true)\/t.kind=2/\t.text=[]\/t.kind=3\/t.kind=4/\(t.text∈dR\/t.text=[39]\/t.text=[95])
 num:0<=t.n/\t.n<=2147483647
 col:0<=t.col/\t.col<=N
 line:0<=t.line/\t.line<=N
 txt:t.text.length<=N
theorem aCl:∀(w:aD) (p:Nat × Nat),(eP p w).1<=p.1+w.length/\(eP p w).2<=p.2+w.length/\(1<=p.2->1<=(eP p w).2)
 | [],p=>⟨aV _,aV _,λh=>h⟩
 | b::r,(l,c)=>by
  simp only[eP];split
  .have:=aCl r (l+1,1);simp only[aG]at this⊢;refine⟨?_,?_,λh=>this.2.2 (aV _)⟩<;>omega
  .have:=aCl r (l,c+1);simp only[aG]at this⊢;refine⟨?_,?_,λh=>this.2.2 aC⟩<;>omega
theorem aDc(w:aD):∀(u:List aD) (n:Nat),mI w u n=n\/w.take (mI w u n)∈u
 | [],n=>.inl rfl
 | x::r,n=>by
  simp only[mI];split
  .rename_i h;rcases aDc w r x.length with m|m
   .rw[m];refine .inr (List.mem_cons.2 (.inl ?_));have h2:=h.2;simp only[mV,cT,dE]at h2;exact h2.2
   .exact .inr (List.mem_cons.2 (.inr m))
  .rcases aDc w r n with m|m
   .exact .inl m
   .exact .inr (List.mem_cons.2 (.inr m))
theorem aTM{c:UInt8}{r:aD}{t:Tok}{n N:Nat}(h:gO (c::r) dR true=(t,n,true))(hN:(c::r).length<=N)(l k:Nat)(hl:l<=N)(hk:k<=N):TokW N ⟨t.kind,t.text,t.n,l,k⟩:=by
 have u:∀m,((c::r).take m).length<=N:=λm=>by rw[cQ];omega
 have U:=aDs h;have F:(0:Int)<=(k:Int)/\(k:Int)<=N:=⟨by omega,by omega⟩;have y:(0:Int)<=(l:Int)/\(l:Int)<=N:=⟨by omega,by omega⟩;have M:(0:Int)<=0/\(0:Int)<=2147483647:=by decide
 simp only[gO]at h;split at h
 .rename_i Z;simp only[mQ,dE]at h;obtain⟨rfl,h2,_⟩:=h;refine⟨.inl ⟨rfl,?_⟩,M,F,y,u _⟩;have B:uH c.toNat=true:=by simp only[dT,cT]at Z;exact Z.2.1
  obtain⟨m,hm⟩:∃m,n=m+1:=⟨n-1,by omega⟩
  rw[hm]at h2;rw[h2];exact⟨c,r.take m,rfl,B⟩
 .split at h
  .simp only[qW]at h;split at h
   .simp only[mQ,cE,and_false]at h
   .simp only[mQ,dE]at h;obtain⟨rfl,_,S⟩:=h;exact⟨.inr (.inl ⟨rfl,rfl⟩),⟨Int.natCast_nonneg _,aP⟩,F,y,aU _⟩
  .split at h
   .simp only[mQ]at h;obtain⟨z,h2,_⟩:=h;generalize (Lib.indexByte r 34+2).toNat-2=m at z;subst z;refine⟨.inr (.inr (.inl rfl)),M,F,y,?_⟩;show(r.take m).length<=N;rw[cQ];rw[aG]at hN;omega
   .simp only[mQ,dE]at h;obtain⟨z,h2,S⟩:=h;rw[h2]at z S;subst z;refine⟨.inr (.inr (.inr ⟨rfl,?_⟩)),M,F,y,u n⟩;show(c::r).take n∈dR\/(c::r).take n=[39]\/(c::r).take n=[95];by_cases H:mI (c::r) dR 0=0/\True/\(c=39\/c=95)
    .rw[aF (gQ H)]at h2;subst h2;rcases H.2.2 with rfl|rfl
     .exact .inr (.inl rfl)
     .exact .inr (.inr rfl)
    .rw[aB (gQ H)]at h2;subst h2;rcases aDc (c::r) dR 0 with O|O
     .omega
     .exact .inl O
theorem aMB(N:Nat):∀(f:Nat) (w:aD) (p:Nat × Nat) (m:List Tok) (l:List Tok),p.1+w.length<=N->p.2+w.length<=N->m.length+w.length<=N->(∀t,t∈m->TokW N t)->lX dR true f w p m=.ok l ->
  l.length<=N/\∀t,t∈l->TokW N t
 | _,[],p,m,l,H,h2,y,z,h=>by
  simp only[lX]at h;cases h;exact⟨gQ y,z⟩
 | 0,_::_,p,m,l,H,h2,y,z,h=>by
  simp only[lX]at h;cases h;exact⟨by omega,z⟩
 | f+1,c::r,p,m,l,H,h2,y,z,h=>by
  simp only[lX]at h;rcases u:gO (c::r) dR true with⟨t,n,ok⟩
  rw[u]at h;cases ok with
  | false=>cases h
  | true =>
   simp only at h;obtain⟨O,M⟩:=aDs u;have S:fL ((c::r).drop n)<=((c::r).drop n).length:=aA6 _ _;have a1:=aCl ((c::r).take n) p;have a2:=aCl (((c::r).drop n).take (fL ((c::r).drop n))) (eP p ((c::r).take n));simp only[cQ,eC,aG]at a1 a2 S H h2 y M;refine aMB N f _ _ _ l ?_ ?_ ?_ ?_ h
   .simp only[eC,aG];omega
   .simp only[eC,aG];omega
   .simp only[aI,aG,aH,eC]at y⊢;omega
   .intro U F;rcases cZ.1 F with B|B
    .exact z U B
    .simp only[cC]at B;subst B;exact aTM u (by simp only[aG];omega) p.1 p.2 aC aC
theorem aUZ{x:aD}{l:List Tok}(h:kC dR true x=.ok l):l.length<=x.length+1/\∀t,t∈l->TokW (x.length+1) t:=by
 have u:fL x<=x.length:=aA6 _ _;have a1:=aCl (x.take (fL x)) (1,1);simp only[cQ]at a1;refine aMB (x.length+1) _ _ _ _ l ?_ ?_ ?_ (λt m=>by cases m) h
 .simp only[eC];omega
 .simp only[eC];omega
 .simp only[eC,aH];omega
theorem aK9(y:List aD)(op:Bool):∀(f:Nat) (w:aD) (p:Nat × Nat) (m:List Tok) (g:Fault),lX y op f w p m=.bad g->g.code=10
 | _,[],p,m,g,h=>by simp only[lX]at h;cases h
 | 0,_::_,p,m,g,h=>by simp only[lX]at h;cases h
 | f+1,c::r,p,m,g,h=>by
  simp only[lX]at h;rcases u:gO (c::r) y op with⟨t,n,ok⟩
  rw[u]at h;cases ok with
  | false=>cases h;rfl
  | true=>exact aK9 y op f _ _ _ g h
theorem aDK{x:aD}{g:Fault}(h:kC dR true x=.bad g):g.code=10:=aK9 _ _ _ _ _ _ _ h
theorem aVj(c:UInt8)(w:aD):Lib.indexByte (c::w) c=0:=by
 unfold Lib.indexByte;rw[aF bJ]
theorem aVh{d c:UInt8}(w:aD)(h:¬ d=c):Lib.indexByte (d::w) c=if Lib.indexByte w c=-1 then -1 else Lib.indexByte w c+1:=by
 conv=>lhs;unfold Lib.indexByte
 rw[aB (gQ h)];simp only[beq_iff_eq]
theorem aLk:∀(r:aD),r[(r.takeWhile lK).length]?=some 34->Lib.indexByte r 34=((r.takeWhile lK).length:Int)
 | [],h=>by simp at h
 | d::w,h=>by
  by_cases hd:lK d=true
  .rw[aFx hd,aG,List.getElem?_cons_succ]at h;have u:=aLk w h;have m:¬ d=34:=by rintro rfl;revert hd;decide
   rw[aFx hd,aG];rw[aVh w m];have:0<=Lib.indexByte w 34:=by rw[u];omega
   split
   .omega
   .rw[u];omega
  .rw[aCQ hd,aH,lM]at h;cases h;rw[aCQ hd];rw[aVj];rfl
theorem aFV(p:UInt8->Bool):∀(r:aD),(r.take (r.takeWhile p).length).all p=true
 | []=>rfl
 | d::w=>by
  by_cases hd:p d=true
  .rw[aFx hd,aG,List.take_succ_cons,List.all_cons,hd,aFV p w];rfl
  .rw[aCQ hd];rfl
theorem aR0(r:aD)(m:List aD)(op:Bool)(h:r[(r.takeWhile lK).length]?=some 34/\(r.takeWhile lK).length<=200) :
  gO (34::r) m op=(⟨3,r.take (r.takeWhile lK).length,0,0,0⟩,(r.takeWhile lK).length+2,true):=by
 have e:=aLk r h.1;simp only[gO];rw[aB aE,aB aE,aF trivial,e];rw[show(((r.takeWhile lK).length:Int)+2).toNat=(r.takeWhile lK).length+2 by omega,Nat.add_sub_cancel]
 have:oU (r.take (r.takeWhile lK).length)=true:=by
  unfold oU;rw[aFV,fG,cQ];exact fN aC
 rw[this,show decide (1<(r.takeWhile lK).length+2)=true from fN aC];rfl
theorem aKS:∀(x:aD) (a:Nat),a * 10 ^ x.length<=x.foldl (λn d=>n * 10+(d.toNat-48)) a
 | [],a=>by simp
 | d::x,a=>by
  simp only[List.foldl_cons,aG];refine mR ?_ (aKS x _);rw[Nat.pow_succ,Nat.mul_comm (10 ^ x.length) 10,<-Nat.mul_assoc];exact pZ _ aC
theorem aGL:∀(x:aD),gN (x.dropWhile (nM 48))=gN x
 | []=>rfl
 | d::x=>by
  by_cases h:nM 48 d=true
  .rw[List.dropWhile_cons_of_pos h,aGL x];have:d=48:=by simpa [nM]using h
   subst this;rfl
  .rw[List.dropWhile_cons_of_neg h]
theorem aUl(x:aD)(hd:zX x)(hl:10<(x.dropWhile (nM 48)).length):2147483647<gN x:=by
 rw[<-aGL];have m:∀c,c∈x.dropWhile (nM 48)->c∈x:=λc y=>(List.dropWhile_sublist _).subset y
 have u:∀c r,x.dropWhile (nM 48)=c::r->nM 48 c=false:=by
  intro c r h;have:=List.head?_dropWhile_not (nM 48) x;rw[h]at this;simpa using this
 generalize x.dropWhile (nM 48)=g at hl m u;cases g with
 | nil=>simp at hl
 | cons c r =>
  have z:=u c r rfl;have h2:=hd c (m c bJ)
  have M:¬ c.toNat=48:=λe=>by
   have:c=48:=vH.1 e;subst this;cases z
  simp only[gN,List.foldl_cons,Nat.zero_mul,fH];refine Nat.lt_of_lt_of_le ?_ (aKS r _);have B:10<=r.length:=by simp only[aG]at hl;omega
  have F:10 ^ 10<=10 ^ r.length:=Nat.pow_le_pow_right aC B;have O:1 * 10 ^ r.length<=(c.toNat-48) * 10 ^ r.length:=pZ _ aC;have H:(10:Nat) ^ 10=10000000000:=by decide
  omega
theorem aMa(x:aD)(h:¬ (2147483647<gN (x.take (x.takeWhile λc=>jC c.toNat).length)\/∃c,x[(x.takeWhile λc=>jC c.toNat).length]?=some c/\fK c.toNat=true))(hd:zX (x.take (x.takeWhile λc=>jC c.toNat).length)) :
  qW x=(⟨2,[],gN (x.take (x.takeWhile λc=>jC c.toNat).length),0,0⟩,(x.takeWhile λc=>jC c.toNat).length,true):=by
 unfold qW;simp only;rw[aB (λm=>h (m.elim (λh2=>.inl (aUl _ hd h2)) .inr)),aGL];rw[show decide (gN (x.take (x.takeWhile λc=>jC c.toNat).length)<=2147483647)=true from fN aC]
structure TokG (t:Tok):Prop where
 is:(t.kind=1/\t.n=0/\∃c r,t.text=c::r/\dT [c]=true/\(c::r).all (λc=>fK c.toNat)=true/\(c::r).length<=40) \/
  (t.kind=2/\t.text=[]/\0<=t.n/\t.n<=2147483647)\/(t.kind=3/\t.n=0/\oU t.text=true)\/(t.kind=4/\t.n=0/\(t.text∈dR\/t.text=[39]\/t.text=[95]))
def Tok.word(t:Tok):aD:=if t.kind=2 then Lib.itoa t.n else if t.kind=3 then 34::(t.text++[34]) else t.text
theorem aG8{p:UInt8->Bool}{x z:aD}{b:UInt8}(h:∀c,c∈x->p c=true)(m:p b=false):(x++b::z).takeWhile p=x:=by
 rw[List.takeWhile_append_of_pos h,aCQ (by simp[m]),eH]
theorem aSx{c:UInt8}{r z:aD}{b:UInt8}(u:dT [c]=true)(y:(c::r).all (λc=>fK c.toNat)=true)(hl:(c::r).length<=40)(B:fK b.toNat=false) :
  gO (c::r++b::z) dR true=(⟨1,c::r,0,0,0⟩,(c::r).length,true):=by
 have h:(c::(r++b::z)).takeWhile (λc=>fK c.toNat)=c::r:=aG8 (x:=c::r) (λx m=>jF.1 y x m) B;show gO (c::(r++b::z)) dR true=_;simp only[gO];rw[aF u,h,show(c::(r++b::z)).take (c::r).length=c::r from List.take_left' (l₁:=c::r) rfl,show decide ((c::r).length<=40)=true from fN hl]
theorem aR4{x z:aD}(u:oU x=true):gO (34::(x++[34])++z) dR true=(⟨3,x,0,0,0⟩,(34::(x++[34])).length,true):=by
 simp only[oU,cT,dE]at u;have m:(x++34::z).takeWhile lK=x:=aG8 (λc y=>jF.1 u.1 c y) aE
 have h:=aR0 (x++34::z) dR true (by
  rw[m];exact⟨by rw[pY (aV _),Nat.sub_self];rfl,u.2⟩)
 rw[m,List.take_left' rfl]at h;have e:34::(x++[34])++z=34::(x++34::z):=by simp
 rw[e,h];simp
theorem aAc:∀(m u:Nat),u<m->∃c r,Lib.decDigits u=c::r/\48<=c.toNat/\c.toNat<=57
 | 0,u,h=>by omega
 | m+1,u,h=>by
  rw[Lib.decDigits];by_cases y:u<10
  .rw[dif_pos y];have:(UInt8.ofNat (48+u)).toNat=48+u:=by rw[UInt8.toNat_ofNat'];omega
   exact⟨_,[],rfl,by omega,by omega⟩
  .rw[dif_neg y];obtain⟨c,r,e,z,h2⟩:=aAc m (u / 10) aC;rw[e];exact⟨c,r++[UInt8.ofNat (48+u % 10)],rfl,z,h2⟩
theorem aD3:∀(m u:Nat),u<m->gN (Lib.decDigits u)=u/\zX (Lib.decDigits u)
 | 0,u,h=>by omega
 | m+1,u,h=>by
  rw[Lib.decDigits];by_cases y:u<10
  .rw[dif_pos y];have e:(UInt8.ofNat (48+u)).toNat=48+u:=by rw[UInt8.toNat_ofNat'];omega
   refine⟨by simp only[gN,List.foldl_cons,List.foldl_nil];omega,λd hd=>?_⟩;simp only[cC]at hd;subst hd;omega
  .rw[dif_neg y];obtain⟨z,h2⟩:=aD3 m (u / 10) aC;have e:(UInt8.ofNat (48+u % 10)).toNat=48+u % 10:=by rw[UInt8.toNat_ofNat'];omega
   refine⟨by rw[aGo,z];omega,λd hd=>?_⟩;rcases cZ.1 hd with hd|hd
   .exact h2 d hd
   .simp only[cC]at hd;subst hd;omega
theorem aEa{c:UInt8}(h:48<=c.toNat)(h2:c.toNat<=57):dT [c]=false/\jC c.toNat=true/\oM c=false/\c≠47/\c≠62:=by
 have k:∀n:Nat,48<=n->n<=57->dT [UInt8.ofNat n]=false/\jC (UInt8.ofNat n).toNat=true/\oM (UInt8.ofNat n)=false/\UInt8.ofNat n≠47/\UInt8.ofNat n≠62:=by
  intro n m u;have:n=48\/n=49\/n=50\/n=51\/n=52\/n=53\/n=54\/n=55\/n=56\/n=57:=by omega
  rcases this with rfl|rfl|rfl|rfl|rfl|rfl|rfl|rfl|rfl|rfl<;>decide
 have:=k c.toNat h h2
 rwa[UInt8.ofNat_toNat]at this
theorem aTY{n:Int}{z:aD}{b:UInt8}(h0:0<=n)(h1:n<=2147483647)(O:fK b.toNat=false):gO (Lib.itoa n++b::z) dR true=(⟨2,[],n,0,0⟩,(Lib.itoa n).length,true):=by
 have e:Lib.itoa n=Lib.decDigits n.toNat:=by unfold Lib.itoa;rw[aB aC]
 rw[e];obtain⟨c,r,M,F,S⟩:=aAc _ n.toNat (iD _);obtain⟨u,y⟩:=aD3 _ n.toNat (iD _);obtain⟨g1,Z,_⟩:=aEa F S
 have H:jC b.toNat=false:=by
  simp only[fK,Bool.or_eq_false_iff]at O;exact O.2.1
 have B:(Lib.decDigits n.toNat++b::z).takeWhile (λc=>jC c.toNat)=Lib.decDigits n.toNat:=aG8 (λd hd=>by
  have:=y d hd;simp only[jC,cT,dE];omega) H
 have m:=aMa (Lib.decDigits n.toNat++b::z) (by
  rw[B,List.take_left' rfl,u];rintro(h|⟨d,hd,U⟩)
  .omega
  .rw[pY (aV _),Nat.sub_self]at hd;cases hd;rw[O]at U;cases U) (by rw[B,List.take_left' rfl];exact y)
 rw[B,List.take_left' rfl,u]at m;rw[show((n.toNat:Nat):Int)=n by omega]at m;rw[M]at m⊢;show gO (c::(r++b::z)) dR true=_;simp only[gO];rw[aB (by simp[g1]),aF Z];exact m
theorem aSW{x z:aD}{b:UInt8}(m:x∈dR\/x=[39]\/x=[95])(y:b≠62):gO (x++b::z) dR true=(⟨4,x,0,0,0⟩,x.length,true):=by
 have h:¬ b=62:=y;have h2:∀n:Nat,decide (2<=n+1+1)=true:=λn=>fN aC
 have u:∀n:Nat,decide (1<=n+1)=true:=λn=>fN aC
 simp only[dR,eA,List.mem_nil_iff,eS]at m;rcases m with(rfl|rfl|rfl|rfl|rfl|rfl|rfl|rfl|rfl|rfl|rfl|rfl|rfl|rfl|rfl|rfl|rfl|rfl)|rfl|rfl
 all_goals simp[gO,dT,uH,jC,mI,dR,mV,h,u,h2]
theorem aT5:∀x,x∈dR\/x=[39]\/x=[95]->∃c r,x=c::r/\oM c=false/\c≠47:=by
 intro x h;simp only[dR,eA,List.mem_nil_iff,eS]at h;rcases h with(rfl|rfl|rfl|rfl|rfl|rfl|rfl|rfl|rfl|rfl|rfl|rfl|rfl|rfl|rfl|rfl|rfl|rfl)|rfl|rfl
 all_goals exact⟨_,_,rfl,by decide,by decide⟩
theorem aRR{c:UInt8}(h:dT [c]=true):oM c=false/\c≠47:=by
 simp only[dT,uH,cT,oK,dE]at h;have m:=h.2.1;refine⟨?_,λe=>?_⟩
 .simp only[oM,Bool.or_eq_false_iff,fR];refine⟨λe=>?_,λe=>?_,λe=>?_,λe=>?_⟩<;>(subst e;revert m;decide)
 .subst e;revert m;decide
theorem aCk{t:Tok}(h:TokG t):∃c r,t.word=c::r/\oM c=false/\c≠47:=by
 rcases h.is with⟨m,_,c,r,F,H,_⟩|⟨m,_,S,_⟩|⟨m,_,_⟩|⟨m,_,O⟩
 .refine⟨c,r,?_,aRR H⟩;unfold Tok.word;rw[m,aB aE,aB aE,F]
 .obtain⟨c,r,y,u,z⟩:=aAc _ t.n.toNat (iD _);obtain⟨_,_,B,M,_⟩:=aEa u z;refine⟨c,r,?_,B,M⟩;unfold Tok.word Lib.itoa;rw[m,aF rfl,aB aC,y]
 .refine⟨34,t.text++[34],?_,by decide,by decide⟩;unfold Tok.word;rw[m,aB aE,aF rfl]
 .obtain⟨c,r,e,g⟩:=aT5 _ O;refine⟨c,r,?_,g⟩;unfold Tok.word;rw[m,aB aE,aB aE,e]
def glue(t:Tok):List Tok->Bool
 | []=>false
 | u::_=>decide (t.kind=4)&&(decide (t.text=[45])&&decide (u.kind=2))
def aHE(x:aD):Prop:=x=[]\/∃c r,x=c::r/\oM c=false/\c≠47
theorem aEq{x:aD}(h:aHE x)(f:Nat):oX f x=0:=by
 rcases h with rfl|⟨c,r,rfl,m,h2⟩
 .cases f<;>rfl
 .cases f with
  | zero=>rfl
  | succ f =>
   have e:mV (c::r) [47,47]=false:=by
    simp only[mV,Bool.and_eq_false_iff,fR];refine .inr λe=>?_
    cases r with
    | nil=>cases e
    | cons d r=>simp only[aG,aH,fH,Nat.reduceAdd,List.take_succ_cons,List.take_zero,List.cons.injEq]at e;exact h2 e.1
   simp only[oX,m,e,cE,bR]
theorem aTp{c:UInt8}{r:aD}{t:Tok}{n:Nat}(h:gO (c::r) dR true=(t,n,true))(l k:Int):TokG ⟨t.kind,t.text,t.n,l,k⟩:=by
 have F:=aDs h;simp only[gO]at h;split at h
 .rename_i M;simp only[mQ,dE]at h;obtain⟨rfl,h2,u⟩:=h;refine⟨.inl ⟨rfl,rfl,?_⟩⟩;obtain⟨m,B⟩:∃m,n=m+1:=⟨n-1,by omega⟩
  refine⟨c,r.take m,?_,M,?_,?_⟩
  .show(c::r).take _=_;rw[h2,B];rfl
  .have:=aFV (λc=>fK c.toNat) (c::r);rw[h2,B]at this;exact this
  .rw[aG,cQ];omega
 .split at h
  .simp only[qW]at h;split at h
   .simp only[mQ,cE,and_false]at h
   .simp only[mQ,dE]at h;obtain⟨rfl,_,u⟩:=h;exact⟨.inr (.inl ⟨rfl,rfl,Int.natCast_nonneg _,aP⟩)⟩
  .split at h
   .simp only[mQ,cT]at h;obtain⟨y,h2,_,u⟩:=h;subst y;exact⟨.inr (.inr (.inl ⟨rfl,rfl,u⟩))⟩
   .simp only[mQ,dE]at h;obtain⟨y,h2,u⟩:=h;rw[h2]at y u;subst y;refine⟨.inr (.inr (.inr ⟨rfl,rfl,?_⟩))⟩;show(c::r).take n∈dR\/(c::r).take n=[39]\/(c::r).take n=[95];by_cases z:mI (c::r) dR 0=0/\True/\(c=39\/c=95)
    .rw[aF (gQ z)]at h2;subst h2;rcases z.2.2 with rfl|rfl
     .exact .inr (.inl rfl)
     .exact .inr (.inr rfl)
    .rw[aB (gQ z)]at h2;subst h2;rcases aDc (c::r) dR 0 with H|H
     .omega
     .exact .inl H
theorem aMD:∀(f:Nat) (w:aD) (p:Nat × Nat) (m:List Tok) (l:List Tok),(∀t,t∈m->TokG t)->lX dR true f w p m=.ok l->∀t,t∈l->TokG t
 | _,[],p,m,l,y,h=>by
  simp only[lX]at h;cases h;exact y
 | 0,_::_,p,m,l,y,h=>by
  simp only[lX]at h;cases h;exact y
 | f+1,c::r,p,m,l,y,h=>by
  simp only[lX]at h;rcases u:gO (c::r) dR true with⟨t,n,ok⟩
  rw[u]at h;cases ok with
  | false=>cases h
  | true =>
   simp only at h;refine aMD f _ _ _ l (λF B=>?_) h;rcases cZ.1 B with z|z
   .exact y F z
   .simp only[cC]at z;subst z;exact aTp u _ _
theorem aUP{x:aD}{l:List Tok}(h:kC dR true x=.ok l):∀t,t∈l->TokG t:=aMD _ _ _ _ l (λt m=>by cases m) h
abbrev Pc:=List (Option Tok)
def pcT:Pc->aD
 | []=>[]
 | some t::P=>t.word++pcT P
 | none::P=>32::pcT P
def bP:Pc->List Tok
 | []=>[]
 | some t::P=>t::bP P
 | none::P=>bP P
theorem mF:∀P Q:Pc,bP (P++Q)=bP P++bP Q
 | [],Q=>rfl
 | some t::P,Q=>by rw[aZ,bP,bP,mF P Q,aZ]
 | none::P,Q=>by rw[aZ,bP,bP,mF P Q]
def clo:List aD:=[[40],[41],[44],[58],[93],[125]]
def kA:Pc->Prop
 | []=>True
 | some t::P=>TokG t/\(∀u Q,P=some u::Q->t.kind=1\/t.kind=2->u.kind=4/\u.text∈clo)/\(t.kind=4->t.text=[45]->∀Q,P≠none::Q)/\kA P
 | none::P=>(∃t Q,P=some t::Q)/\kA P
theorem aRJ{c:UInt8}{r:aD}(u:dT [c]=true)(y:(c::r).all (λc=>fK c.toNat)=true)(hl:(c::r).length<=40) :
  gO (c::r) dR true=(⟨1,c::r,0,0,0⟩,(c::r).length,true):=by
 have h:(c::r).takeWhile (λc=>fK c.toNat)=c::r:=by
  have:=List.takeWhile_append_of_pos (l₁:=c::r) (l₂:=[]) (p:=λc:UInt8=>fK c.toNat) (λx m=>jF.1 y x m);simpa using this
 simp only[gO];rw[aF u,h,List.take_length,show decide ((c::r).length<=40)=true from fN hl]
theorem aSH{n:Int}(U:0<=n)(Z:n<=2147483647):gO (Lib.itoa n) dR true=(⟨2,[],n,0,0⟩,(Lib.itoa n).length,true):=by
 have e:Lib.itoa n=Lib.decDigits n.toNat:=by unfold Lib.itoa;rw[aB aC]
 rw[e];obtain⟨c,r,F,B,H⟩:=aAc _ n.toNat (iD _);obtain⟨u,y⟩:=aD3 _ n.toNat (iD _);obtain⟨O,M,_⟩:=aEa B H
 have z:(Lib.decDigits n.toNat).takeWhile (λc=>jC c.toNat)=Lib.decDigits n.toNat:=by
  have:=List.takeWhile_append_of_pos (l₁:=Lib.decDigits n.toNat) (l₂:=[]) (p:=λc:UInt8=>jC c.toNat) (λd hd=>by
   have:=y d hd;simp only[jC,cT,dE];omega)
  simpa using this
 have m:=aMa (Lib.decDigits n.toNat) (by
  rw[z,List.take_length,u];rintro(h|⟨d,hd,S⟩)
  .omega
  .rw[sG (aV _)]at hd;cases hd) (by rw[z,List.take_length];exact y)
 rw[z,List.take_length,u]at m;rw[show((n.toNat:Nat):Int)=n by omega]at m;rw[F]at m⊢;simp only[gO];rw[aB (by simp[O]),aF M];exact m
theorem aRn{x:aD}(h:x∈dR\/x=[39]\/x=[95]):gO x dR true=(⟨4,x,0,0,0⟩,x.length,true):=by
 simp only[dR,eA,List.mem_nil_iff,eS]at h;rcases h with(rfl|rfl|rfl|rfl|rfl|rfl|rfl|rfl|rfl|rfl|rfl|rfl|rfl|rfl|rfl|rfl|rfl|rfl)|rfl|rfl
 all_goals decide
theorem aTJ{t:Tok}(h:TokG t){z:aD}(hz:z=[]\/∃b F,z=b::F/\b≠62/\(t.kind=1\/t.kind=2->fK b.toNat=false)):gO (t.word++z) dR true=(⟨t.kind,t.text,t.n,0,0⟩,t.word.length,true):=by
 rcases h.is with⟨m,u,c,r,y,M,U,hl⟩|⟨m,y,O,S⟩|⟨m,u,H⟩|⟨m,u,H⟩
 .have e:t.word=c::r:=by unfold Tok.word;rw[m,aB aE,aB aE,y]
  rcases hz with rfl|⟨b,F,rfl,_,B⟩
  .rw[eH,e,aRJ M U hl,m,u,y]
  .rw[e,aSx M U hl (B (.inl m)),m,u,y]
 .have e:t.word=Lib.itoa t.n:=by unfold Tok.word;rw[m,aF rfl]
  rcases hz with rfl|⟨b,F,rfl,_,B⟩
  .rw[eH,e,aSH O S,m,y]
  .rw[e,aTY O S (B (.inr m)),m,y]
 .have e:t.word=34::(t.text++[34]):=by unfold Tok.word;rw[m,aB aE,aF rfl]
  rw[e,aR4 H,m,u]
 .have e:t.word=t.text:=by unfold Tok.word;rw[m,aB aE,aB aE]
  rcases hz with rfl|⟨b,F,rfl,B,_⟩
  .rw[eH,e,aRn H,m,u]
  .rw[e,aSW H B,m,u]
theorem aTG{t:Tok}(h:TokG t){c:UInt8}{r:aD}(e:t.word=c::r):c≠62:=by
 rcases h.is with⟨m,M,d,s,H,O,ha,hl⟩|⟨m,H,U,Z⟩|⟨m,M,y⟩|⟨m,M,y⟩
 .have u:t.word=d::s:=by unfold Tok.word;rw[m,aB aE,aB aE,H]
  rw[u]at e;cases e;rintro rfl;revert O;decide
 .obtain⟨d,s,B,z,F⟩:=aAc _ t.n.toNat (iD _);obtain⟨_,_,_,_,S⟩:=aEa z F;have u:t.word=d::s:=by unfold Tok.word Lib.itoa;rw[m,aF rfl,aB aC,B]
  rw[u]at e;cases e;exact S
 .have u:t.word=34::(t.text++[34]):=by unfold Tok.word;rw[m,aB aE,aF rfl]
  rw[u]at e;cases e;decide
 .have u:t.word=t.text:=by unfold Tok.word;rw[m,aB aE,aB aE]
  rw[u]at e;simp only[dR,eA,List.mem_nil_iff,eS]at y;rw[e]at y;rcases y with(h|h|h|h|h|h|h|h|h|h|h|h|h|h|h|h|h|h)|h|h<;>(cases h;decide)
def bL(x:aD):Tok:=⟨1,x,0,0,0⟩
def aW(x:aD):Tok:=⟨4,x,0,0,0⟩
abbrev aNr:aD:=[65,110,121]
abbrev aEs:aD:=[76,105,115,116]
abbrev aED:aD:=[77,97,112]
abbrev aBl:aD:=[116,114,117,101]
abbrev aA8:aD:=[102,97,108,115,101]
def iI(e:Bool):List Tm->Pc
 | []=>[]
 | r::l=>(if e=true then [] else [none])++(some (aW [124])::none::some (bL r.text)::iI e l)
def oY(b:Bool):Pc:=if b=true then [some (aW [44]),none] else []
mutual
def Tm.pc:Tm->Pc
 | .mk k n t s ks rs =>
  if k=1 then(if n<0 then [some (aW [45]),some ⟨2,[],-n,0,1⟩] else [some ⟨2,[],n,0,0⟩])
  else if k=2 then [some (bL (if n=1 then aBl else aA8))]
  else if k=3 then [some ⟨3,t,0,0,0⟩]
  else if k=4 then [some (aW [39]),some (bL t)]
  else if k=5 then some (bL t)::some (aW [40])::(eY false ks++[some (aW [41])])
  else if k=6 then(if t=[95]\/t=[36] then [some (aW t)] else [some (bL t),some (aW [58]),some (bL s)])
  else if k=7 then some (aW [91])::(eY false ks++(iI ks.isEmpty rs++[some (aW [93])]))
  else if k=8 then some (aW [123])::(fO false ks++(iI ks.isEmpty rs++[some (aW [125])]))
  else []
def eY:Bool->List Tm->Pc
 | _,[]=>[]
 | b,t::r=>oY b++(t.pc++eY true r)
def fO:Bool->List Tm->Pc
 | _,[]=>[]
 | _,[_]=>[]
 | b,k::v::r=>oY b++(k.pc++(none::some (aW [45,62])::none::(v.pc++fO true r)))
end
theorem pc1(n:Int)(t s:aD)(m h:List Tm):(Tm.mk 1 n t s m h).pc=if n<0 then [some (aW [45]),some ⟨2,[],-n,0,1⟩] else [some ⟨2,[],n,0,0⟩]:=by rw[Tm.pc,aF rfl]
theorem pc2(n:Int)(t s:aD)(m h:List Tm):(Tm.mk 2 n t s m h).pc=[some (bL (if n=1 then aBl else aA8))]:=by rw[Tm.pc,aB aE,aF rfl]
theorem pc3(n:Int)(t s:aD)(m h:List Tm):(Tm.mk 3 n t s m h).pc=[some ⟨3,t,0,0,0⟩]:=by rw[Tm.pc,aB aE,aB aE,aF rfl]
theorem pc4(n:Int)(t s:aD)(m h:List Tm):(Tm.mk 4 n t s m h).pc=[some (aW [39]),some (bL t)]:=by rw[Tm.pc,aB aE,aB aE,aB aE,aF rfl]
theorem pc5(n:Int)(t s:aD)(h m:List Tm):(Tm.mk 5 n t s h m).pc=some (bL t)::some (aW [40])::(eY false h++[some (aW [41])]):=by rw[Tm.pc,aB aE,aB aE,aB aE,aB aE,aF rfl]
theorem xZ(n:Int)(t s:aD)(m h:List Tm):(Tm.mk 6 n t s m h).pc=if t=[95]\/t=[36] then [some (aW t)] else [some (bL t),some (aW [58]),some (bL s)]:=by rw[Tm.pc,aB aE,aB aE,aB aE,aB aE,aB aE,aF rfl]
theorem pc7(n:Int)(t s:aD)(h m:List Tm):(Tm.mk 7 n t s h m).pc=some (aW [91])::(eY false h++(iI h.isEmpty m++[some (aW [93])])):=by rw[Tm.pc,aB aE,aB aE,aB aE,aB aE,aB aE,aB aE,aF rfl]
theorem pc8(n:Int)(t s:aD)(h m:List Tm):(Tm.mk 8 n t s h m).pc=some (aW [123])::(fO false h++(iI h.isEmpty m++[some (aW [125])])):=by rw[Tm.pc,aB aE,aB aE,aB aE,aB aE,aB aE,aB aE,aB aE,aF rfl]
def Tm.wr(t:Tm):aD:=pcT t.pc
def wC(S:aD)(h:List Tm):Prop:=h=[]\/∃x,h=[.mk 6 0 x S [] []]/\dT x=true/\x ∉ iM
inductive Gd:Tm->Prop
 | int (n:Int) (h1:-2147483647<=n) (h2:n<=2147483647):Gd (.mk 1 n [] [] [] [])
 | bool (n:Int) (h:n=0\/n=1):Gd (.mk 2 n [] [] [] [])
 | text (x:aD) (h:oU x=true):Gd (.mk 3 0 x [] [] [])
 | id (x:aD) (h:tE x=true) (hr:x ∉ iM):Gd (.mk 4 0 x [] [] [])
 | app (x:aD) (ks:List Tm) (h:dT x=true) (hr:x ∉ iM) (hl:ks.length<=8) (hk:∀y,y∈ks->Gd y):Gd (.mk 5 0 x [] ks [])
 | opn (x:aD) (h:x=[95]\/x=[36]):Gd (.mk 6 0 x aNr [] [])
 | var (x s:aD) (h:dT x=true) (hr:x ∉ iM) (h2:dT s=true) (hr2:s ∉ iM):Gd (.mk 6 0 x s [] [])
 | list (ks rs:List Tm) (hk:∀y,y∈ks->Gd y) (hr:wC aEs rs):Gd (.mk 7 0 [] [] ks rs)
 | map (ks rs:List Tm) (he:ks.length % 2=0) (hk:∀y,y∈ks->Gd y) (hr:wC aED rs):Gd (.mk 8 0 [] [] ks rs)
theorem aKl{x:aD}(h:dT x=true):∃c r,x=c::r/\dT [c]=true/\(c::r).all (λc=>fK c.toNat)=true/\(c::r).length<=40:=by
 cases x with
 | nil=>simp[dT]at h
 | cons c r =>
  refine⟨c,r,rfl,?_⟩;simp only[dT,cT,dE]at h⊢;simp only[List.all_cons,cT]at h⊢
  grind
theorem aBq{x:aD}(h:dT x=true):TokG (bL x):=by
 obtain⟨c,r,e,m,h2,u⟩:=aKl h;exact⟨.inl ⟨rfl,rfl,c,r,e,m,h2,u⟩⟩
theorem aEx{x:aD}(h:x∈dR\/x=[39]\/x=[95]):TokG (aW x):=⟨.inr (.inr (.inr ⟨rfl,rfl,h⟩))⟩
theorem zW{x:aD}(h:dT x=true):x≠[124]/\x≠[93]/\x≠[125]/\x≠[41]/\x≠[45]/\x≠[95]/\x≠[36]:=by
 refine⟨?_,?_,?_,?_,?_,?_,?_⟩<;>(rintro rfl;revert h;decide)
structure Hd (u:Tok):Prop where
 g:TokG u
 b:u.begins=true
 n1:eO u [124]=false
 n2:eO u [93]=false
 n3:eO u [125]=false
 n4:eO u [41]=false
theorem aCi{x:aD}(h:dT x=true)(m:x ∉ iM\/x=aBl\/x=aA8):Hd (bL x):=by
 obtain⟨u,h2,z,y,_⟩:=zW h;refine⟨aBq h,?_,?_,?_,?_,?_⟩
 .unfold Tok.begins bL;simp only[Int.reduceEq,or_self,bR,bT,oK,qD,fR,dE];rcases m with h|h|h
  .exact .inl h
  .exact .inr (.inl h)
  .exact .inr (.inr h)
 all_goals simp[eO,bL,u,h2,z,y]
theorem aCe{x:aD}(h:x∈[[45],[39],[95],[91],[123],[36]]):Hd (aW x):=by
 simp only[eA,List.mem_nil_iff,eS]at h;rcases h with rfl|rfl|rfl|rfl|rfl|rfl<;>exact⟨aEx aE,by decide,by decide,by decide,by decide,by decide⟩
theorem Gd.hd{t:Tm}(h:Gd t):∃u P,t.pc=some u::P/\Hd u:=by
 cases h with
 | int n U h2 =>
  rw[pc1];by_cases B:n<0
  .rw[aF B];exact⟨_,_,rfl,aCe aE⟩
  .rw[aB B];exact⟨_,_,rfl,⟨⟨.inr (.inl ⟨rfl,rfl,aP,aP⟩)⟩,rfl,rfl,rfl,rfl,rfl⟩⟩
 | bool n h =>
  refine⟨bL (if n=1 then aBl else aA8),[],pc2 .., aCi ?_ ?_⟩
  .split<;>decide
  .split
   .exact .inr (.inl rfl)
   .exact .inr (.inr rfl)
 | text x h=>exact⟨⟨3,x,0,0,0⟩,[],pc3 .., ⟨⟨.inr (.inr (.inl ⟨rfl,rfl,h⟩))⟩,rfl,rfl,rfl,rfl,rfl⟩⟩
 | id x h m=>exact⟨_,_,pc4 ..,aCe aE⟩
 | app x y h m hl z=>exact⟨_,_,pc5 ..,aCi h (.inl m)⟩
 | opn x h =>
  refine⟨aW x,[],?_,?_⟩
  .rw[xZ,aF h]
  .rcases h with rfl|rfl<;>exact aCe aE
 | var x s h m h2 F =>
  obtain⟨_,_,_,_,_,H,O⟩:=zW h;refine⟨bL x,[some (aW [58]),some (bL s)],?_,aCi h (.inl m)⟩
  .rw[xZ,aB (by simp[H,O])]
 | list y M z m=>exact⟨_,_,pc7 ..,aCe aE⟩
 | map y M S z m=>exact⟨_,_,pc8 ..,aCe aE⟩
def oE(Q:Pc):Prop:=∀u h,Q=some u::h->u.kind=4/\u.text∈clo
theorem aL2(Q:Pc):oE (none::Q):=λu m h=>by cases h
theorem zT{x:aD}(h:x∈clo)(Q:Pc):oE (some (aW x)::Q):=λu m e=>by cases e;exact⟨rfl,h⟩
theorem aA2{x:aD}(h:dT x=true){Q:Pc}(m:kA Q)(z:oE Q):kA (some (bL x)::Q) :=
 ⟨aBq h,λu y e _=>z u y e,λ_ e=>cM e (zW h).2.2.2.2.1,m⟩
theorem qQ{x:aD}(h:x∈dR\/x=[39]\/x=[95])(y:x≠[45]){Q:Pc}(m:kA Q):kA (some (aW x)::Q) :=
 ⟨aEx h,(λu z _ k=>by rcases k with k|k<;>cases k),λ_ e=>cM e y,m⟩
theorem aA4{u:Tok}{Q:Pc}(h:kA (some u::Q)):kA (none::some u::Q):=⟨⟨u,Q,rfl⟩,h⟩
theorem aNw{e:Bool}{S:aD}{m:List Tm}(h:wC S m){Q:Pc}(u:kA Q)(z:oE Q):kA (iI e m++Q)/\(e=false->oE (iI e m++Q)):=by
 rcases h with rfl|⟨x,rfl,B,_⟩
 .exact⟨u,λ_=>z⟩
 .have y:kA (some (aW [124])::none::some (bL x)::Q):=qQ aE aE (aA4 (aA2 B u z));cases e with
  | true=>exact⟨y,λh=>by cases h⟩
  | false=>exact⟨aA4 y,λ_=>aL2 _⟩
theorem aNs(l:List Tm)(hl:∀t,t∈l->Gd t)(H:∀t,t∈l->∀Q,kA Q->oE Q->kA (t.pc++Q)):∀(b:Bool) (Q:Pc),kA Q->oE Q\/l=[]->kA (eY b l++Q)/\(b=true->oE Q->oE (eY b l++Q)):=by
 induction l with
 | nil=>intro b Q y M;exact⟨by simpa only[eY,bA]using y,λ_ h=>by simpa only[eY,bA]using h⟩
 | cons t r F =>
  intro b Q y M;have m:oE Q:=by rcases M with h|h;exact h;cases h
  obtain⟨O,h2⟩:=F (λt B=>hl t (cP _ B)) (λt B=>H t (cP _ B)) true Q y (.inl m);have z:=H t (bU ..) _ O (h2 rfl m);obtain⟨u,P,e,_⟩:=(hl t (bU ..)).hd;cases b with
  | false =>
   refine⟨?_,λh=>by cases h⟩;simp only[eY,oY,cE,bR,bA,bG];exact z
  | true =>
   simp only[eY,oY,bT,bG,aZ,bA];refine⟨qQ aE aE ?_,λ_ _=>zT aE _⟩;rw[e,aZ]at z⊢;exact aA4 z
theorem aVP:∀(m:Nat) (l:List Tm),l.length<=m->l.length % 2=0->(∀t,t∈l->Gd t)->(∀t,t∈l->∀Q,kA Q->oE Q->kA (t.pc++Q))->∀(b:Bool) (Q:Pc),kA Q->oE Q\/l=[]->kA (fO b l++Q)/\(b=true->oE Q->oE (fO b l++Q)):=by
 intro m
 induction m with
 | zero =>
  intro l Z F hl B b Q z S;obtain rfl:=fW (by omega:l.length=0);exact⟨by simpa only[fO,bA]using z,λ_ h=>by simpa only[fO,bA]using h⟩
 | succ m M =>
  intro l Z F hl B b Q z S;cases l with
  | nil=>exact⟨by simpa only[fO,bA]using z,λ_ h=>by simpa only[fO,bA]using h⟩
  | cons k l =>
  cases l with
  | nil=>simp at F
  | cons v r =>
  have y:oE Q:=by rcases S with h|h;exact h;cases h
  obtain⟨h1,h2⟩:=M r (by simp only[aG]at Z;omega) (by simp only[aG]at F;omega) (λt O=>hl t (cP _ (cP _ O))) (λt O=>B t (cP _ (cP _ O))) true Q z (.inl y);have U:=B v (cP _ (bU ..)) _ h1 (h2 rfl y);obtain⟨u,P,e,_⟩:=(hl v (cP _ (bU ..))).hd;obtain⟨u2,P2,e2,_⟩:=(hl k (bU ..)).hd
  have h4:kA (none::some (aW [45,62])::none::(v.pc++(fO true r++Q))):=by
   refine aA4 (qQ aE aE ?_);rw[e,aZ]at U⊢;exact aA4 U
  have H:=B k (bU ..) _ h4 (aL2 _);cases b with
  | false =>
   refine⟨?_,λh=>by cases h⟩;simp only[fO,oY,cE,bR,bA,bG,aZ];exact H
  | true =>
   simp only[fO,oY,bT,bG,aZ,bA];refine⟨qQ aE aE ?_,λ_ _=>zT aE _⟩;rw[e2,aZ]at H⊢;exact aA4 H
theorem Gd.ok{t:Tm}(h:Gd t):∀Q,kA Q->oE Q->kA (t.pc++Q):=by
 induction h with
 | int n F h2 =>
  intro Q m z;rw[pc1];by_cases U:n<0
  .rw[aF U];refine⟨aEx aE,(λu H _ k=>by rcases k with k|k<;>cases k),(λ_ _ H e=>by cases e),⟨.inr (.inl ⟨rfl,rfl,aP,aP⟩)⟩,λu H e _=>z u H e,(λe=>by cases e),m⟩
  .rw[aB U];exact⟨⟨.inr (.inl ⟨rfl,rfl,aP,aP⟩)⟩,λu H e _=>z u H e,(λe=>by cases e),m⟩
 | bool n h =>
  intro Q m z;rw[pc2];exact aA2 (x:=if n=1 then aBl else aA8) (by split<;>decide) m z
 | text x h =>
  intro Q m z;rw[pc3];exact⟨⟨.inr (.inr (.inl ⟨rfl,rfl,h⟩))⟩,(λu H _ k=>by rcases k with k|k<;>cases k),(λe=>by cases e),m⟩
 | id x h B =>
  intro Q m z;have U:dT x=true:=by simp only[tE,cT]at h;exact h.1.1.1
  rw[pc4];exact qQ (x:=[39]) aE aE (aA2 U m z)
 | app x y h B hl M O =>
  intro Q m z;have F:kA (eY false y++(some (aW [41])::Q)):=(aNs y M O false _ (qQ aE aE m) (.inl (zT aE _))).1;have h2:=aA2 h (qQ (x:=[40]) aE aE F) (zT aE _)
  have e:(Tm.mk 5 0 x [] y []).pc++Q=some (bL x)::some (aW [40])::(eY false y++(some (aW [41])::Q)):=by
   rw[pc5];simp only[aZ,bG,bA]
  rw[e];exact h2
 | opn x h =>
  intro Q m z
  have e:(Tm.mk 6 0 x aNr [] []).pc=[some (aW x)]:=by
   rw[xZ,aF h]
  rw[e];rcases h with rfl|rfl<;>exact qQ aE aE m
 | var x s h B h2 b0 =>
  intro Q m z;obtain⟨_,_,_,_,_,h6,h7⟩:=zW h
  have e:(Tm.mk 6 0 x s [] []).pc=[some (bL x),some (aW [58]),some (bL s)]:=by
   rw[xZ,aB (by simp[h6,h7])]
  rw[e];exact aA2 h (qQ aE aE (aA2 h2 m z)) (zT aE _)
 | list y S M B O =>
  intro Q m z;obtain⟨F,h2⟩:=aNw (e:=y.isEmpty) B (qQ (x:=[93]) aE aE m) (zT aE _);have Z:=(aNs y M O false _ F (by cases y with|nil=>exact .inr rfl|cons a b=>exact .inl (h2 rfl))).1
  have e:(Tm.mk 7 0 [] [] y S).pc++Q=some (aW [91])::(eY false y++(iI y.isEmpty S++(some (aW [93])::Q))):=by
   rw[pc7];simp only[aZ,bG,bA]
  rw[e];exact qQ aE aE Z
 | map y S he M B O =>
  intro Q m z;obtain⟨F,h2⟩:=aNw (e:=y.isEmpty) B (qQ (x:=[125]) aE aE m) (zT aE _);have Z:=(aVP _ y (aV _) he M O false _ F (by cases y with|nil=>exact .inr rfl|cons a b=>exact .inl (h2 rfl))).1
  have e:(Tm.mk 8 0 [] [] y S).pc++Q=some (aW [123])::(fO false y++(iI y.isEmpty S++(some (aW [125])::Q))):=by
   rw[pc8];simp only[aZ,bG,bA]
  rw[e];exact qQ aE aE Z
theorem Bw.set{s:St}{e:TypeId}{r:Nat}{tk:Option Nat}{m:aD}(h:Bw s e r tk m){p:Nat}(u:s.getO p=none)(o:Ob):Bw (s.setO p o) e r tk m :=
 ⟨by rw[aL,aB (λc:p=r=>by rw[c,h.ob]at u;cases u)];exact h.ob,λt y=>by rw[getT_setO];exact h.own t y,h.nil⟩
theorem Bw.ge{s:St}{e:TypeId}{r u:Nat}{m:aD}(h:Bw s e r (some u) m):s.ge (wR s e r u m) :=
 qV (xK h.ob (aKE (h.own u rfl) (zE _ _ _)))
theorem aSD(s:St)(e:TypeId)(r u:Nat)(a:aD)(q:Nat):(wR s e r u a).getO q=if r=q then some (bwO e r (some u) a) else s.getO q:=by
 rw[wR,aL,pW]
end Go.AV
section
open Go.Proofs.Tryz
namespace Go.AV
open Go Go.Proofs
end Go.AV
end
namespace Go.AV
open Go Go.Proofs Tryz
theorem aSV(s:St)(x:aD)(KV Kp)(z:x.length<=4294967290)(y:(kC dR true x).out KV s):Den cx 141 [.str x] KV Kp s:=by
 (refine aR func141 [0,2,3] ?_;simp only[go_sem,ntmps141,f141]);(refine aQ λq h=>?_);simp only[go_sem,h];refine aO2 _ _ _ ?_;simp only[go_sem,aBe];(refine aQ λr u=>?_);have m:q≠r:=u.1.1;simp only[go_sem,u,h,m];refine aTg _ r x dR _ _ (by rw[aL,aF rfl];rfl) z aE λo=>?_
 cases hl:kC dR true x with
 | ok l =>
  rw[hl]at y;simp only[Lx.out]at y⊢;simp only[go_sem,u,h,m,Fault.none];exact aS y (hH h (hH u.2 (eB h)))
 | bad f =>
  rw[hl]at y;simp only[Lx.out]at y⊢;simp only[go_sem,u,h,m];exact aS y (hH h (hH u.2 (eB h)))
section
structure Dc where
 name:aD
 sorts:A
 below:A
 ops:A
 funs:A
 values:A
 eqs:A
 once:A
 kind:aD
 many:A
 rules:A
 start:aD
 watch:aD
def Dc.cs(d:Dc):List A:=[.str d.name,d.sorts,d.below,d.ops,d.funs,d.values,d.eqs,d.once,.str d.kind,d.many,d.rules,.str d.start,.str d.watch]
def psC(T:List Tok)(fin:Fault)(d:Dc)(first:Tok)(i n:Nat):List A :=
 .list none (T.map Tok.enc)::.int .i64 i::(fin.cs++(d.cs++(first.cs++[.int .i64 n,.bool false])))
def bK(T:List Tok)(fin:Fault)(d:Dc)(first:Tok)(i n:Nat):Ob:=.cells 91 (psC T fin d first i n)
attribute [go_sem] Dc.cs psC bK
structure TOk (T:List Tok):Prop where
 len:T.length<=4294967290
 num:∀t,t∈T->0<=t.n/\t.n<=2147483647
 col:∀t,t∈T->0<=t.col/\t.col<=4294967296
 txt:∀t,t∈T->t.text.length<=4294967296
def PK{α:Type}(T:List Tok)(i:Nat)(S:Nat->Nat->St)(enc:α->A)(KV:St->A->Prop)(a:α)(w:List Tok)(n:Nat):Prop:=∀j,i<=j->j<=T.length->T.drop j=w->n<=2000->KV (S j n) (enc a)
def PB(s:St)(r:Nat)(Kp:St->A->Prop)(f:Fault):Prop:=∀o,Kp (s.setO r o) (.iface 36 f.enc)
theorem mS{T:List Tok}{i:Nat}{t:Tok}{w:List Tok}(h:T.drop i=t::w):T[i]?=some t/\i<T.length/\T.drop (i+1)=w/\t∈T:=by
 have hl:=dV List.length h;rw[eC,aG]at hl;have m:(T.drop i)[0]?=some t:=by rw[h];rfl
 rw[qC,Nat.add_zero]at m;refine⟨m,by omega,?_,bZ m⟩;rw[<-vI,h];rfl
section
variable {T:List Tok} {fin:Fault} {d:Dc} {first:Tok} {i n:Nat} {s:St} {r:Nat} {KV Kp:St->A->Prop}
theorem lD(y:s.getO r=some (bK T fin d first i n))(M:i<=T.length)
  (z:match T.drop i with|t::_=>KV s t.enc|[]=>Kp s (.iface 36 fin.enc)):Den cx 91 [.ptr r 0] KV Kp s:=by
 simp only[go_sem]at y;(refine aR func91 [0,2,12] ?_;simp only[go_sem,ntmps91,f91]);intro b B;have m:=cJ y B;simp only[go_sem,B,m,y];(refine bO (OT.r 0 10) [] ?_;simp only[go_sem,y,m])
 (apply aT<;>intro h)<;>simp only[go_sem,h,y,m]
 .have H:i=T.length:=gQ h;rw[yF aC]at z;exact aS z (eB B)
 .have u:i<T.length:=by
   have:¬ i=T.length:=gQ h;omega
  rw[aAz u]at z;have F:T[i]?=some T[i]:=aX u;(refine bO (OT.r 0 11) [] ?_;simp only[go_sem,y,m,F,u]);exact aS z (eB B)
theorem oR(x:aD)(u:s.getO r=some (bK T fin d first i n))(M:i<=T.length)
  (y:KV s (.bool (isT x (T.drop i)))):Den cx 149 [.ptr r 0,.str x] KV Kp s:=by
 simp only[go_sem]at u;(refine aR func149 [0,1,4,5,15] ?_;simp only[go_sem,ntmps149,f149]);(refine bO (OT.r 0 10) [] ?_;simp only[go_sem,u])
 (apply aT<;>intro h)<;>simp only[go_sem,h,u]
 .have H:i=T.length:=gQ h;rw[yF aC]at y;exact aO y
 .have m:i<T.length:=by
   have:¬ i=T.length:=gQ h;omega
  rw[aAz m]at y;have F:T[i]?=some T[i]:=aX m;simp only[isT,eO]at y;(refine bO (OT.r 0 12) [(10,[3,7,9])] ?_;simp only[go_sem,u,F,m]);intro b B;have z:=cJ u B;simp only[go_sem,B,z,u,F,m]
  (repeat' (first|exact aS y cD|((apply aT<;>intro h)<;>simp only[go_sem,h,B]<;>(try simp only[h,fG,fE,fS,fX,kI,kR,kH,jH,fF,gB]at y))))
theorem kJ(x:aD)(u:s.getO r=some (bK T fin d first i n))(y:i<=T.length)(z:TOk T)
  (m:match isT x (T.drop i)with|true=>KV (s.setO r (bK T fin d first (i+1) n)) (.bool true)|false=>KV s (.bool false)):Den cx 144 [.ptr r 0,.str x] KV Kp s:=by
 (refine aR func144 [0,1,4,8] ?_;simp only[go_sem,ntmps144,f144]);refine oR x u y ?_;simp only[go_sem]at u;have:=z.len;simp only[go_sem]
 (apply aT<;>intro h)<;>simp only[go_sem,h]
 .rw[show isT x (T.drop i)=false from gQ h]at m;exact aO m
 .rw[show isT x (T.drop i)=true from gQ h]at m;simp only[go_sem,u,cF i aC];exact aO m
theorem mJ{x:aD}(h:isT x (T.drop i)=true):i+1<=T.length:=by
 cases m:T.drop i with
 | nil=>rw[m]at h;cases h
 | cons t w=>exact(mS m).2.1
theorem aPF(t:Tok)(z:0<=t.n)(B:t.n<=2147483647)(u:KV s (.str t.name)):Den cx 93 [t.enc] KV Kp s:=by
 unfold Tok.name at u;simp only[go_sem];(refine aR func93 [0,1,2,5] ?_;simp only[go_sem,ntmps93,f93]);(refine aQ λb y=>?_);simp only[go_sem,y]
 (apply aT<;>intro h)<;>simp only[go_sem,h,y]
 .have m:t.kind=2:=gQ h;rw[aF m]at u;refine aB4 t.n aC aC _ _ _ ?_;simp only[go_sem];exact aS u (eB y)
 .have m:¬ t.kind=2:=gQ h;rw[aB m]at u;exact aS u (eB y)
theorem aGt(t:Tok)(h:Kp s (.iface 36 (Fault.enc ⟨3,[],t.line,t.col⟩))):Den cx 220 [t.enc] KV Kp s:=by
 simp only[go_sem]at h;simp only[go_sem];(refine aR func220 [0,1] ?_;simp only[go_sem,ntmps220,f220]);(refine aQ λb m=>?_);simp only[go_sem,m];exact aS h (eB m)
theorem pH(h:Int)(B:s.getO r=some (bK T fin d first i n))(F:i<=T.length)(M:TOk T)
  (m:Kp s (.iface 36 (gK fin h (T.drop i)).enc)):Den cx 42 [.ptr r 0,.int .i64 h] KV Kp s:=by
 (refine aR func42 [0,1,4] ?_;simp only[go_sem,ntmps42,f42]);refine lD B F ?_;cases y:T.drop i with
 | nil=>rw[y]at m;exact aO m
 | cons t w =>
  rw[y]at m;obtain⟨S,h2,U,H⟩:=mS y;obtain⟨z,O⟩:=M.num t H;simp only[gK]at m;simp only[go_sem]at m;simp only[go_sem];(refine aQ λb u=>?_);simp only[go_sem,u];(refine bO (OT.l [0,1,3,4,5,6,2,7,8,9] .nil) [(2,[4,6])] ?_;simp only[go_sem,u]);refine aPF t z O ?_;simp only[go_sem,u];exact aS m (eB u)
end
end
section
section
variable {T:List Tok} {fin:Fault} {d:Dc} {first:Tok} {i n:Nat} {s:St} {r:Nat} {KV Kp:St->A->Prop}
theorem PB.here{f:Fault}{o:Ob}(h:PB s r Kp f)(m:s.getO r=some o):DK Kp s (.iface 36 f.enc):=aS (h o) (tS m)
theorem PB.at{f:Fault}{o:Ob}{s1:St}(h:PB s r Kp f)(m:s1.gx s r)(u:s1.getO r=some o):DK Kp s1 (.iface 36 f.enc):=aS (h o) (m.ge u)
theorem gC(x:aD)(u:s.getO r=some (bK T fin d first i n))(y:i<=T.length)(z:TOk T)
  (m:(gP fin x (T.drop i) n).to (λ_ w B=>i+1<=T.length->T.drop (i+1)=w->B=n->KV (s.setO r (bK T fin d first (i+1) n)) (.tuple [])) (PB s r Kp)):Den cx 84 [.ptr r 0,.list none [.str x]] KV Kp s:=by
 (refine aR func84 [0,1,5,6,7,8,9,15] ?_;simp only[go_sem,ntmps84,f84])
 refine Ex.loop (λk:Nat=>[(0,.ptr r 0),(6,.list none [.str x]),(7,.int .i64 1),(8,.int .i64 k)]) (λk=>match k with|0=>s|_+1=>s.setO r (bK T fin d first (i+1) n))
  (λk=>k=0\/k=1/\isT x (T.drop i)=true) (λk=>1-k) 0 (.inl rfl) ?_ (aM _) ?_
 .simp only[go_sem];exact⟨rfl,rfl⟩
 .rintro k (rfl|⟨rfl,h⟩)
  .refine bE (V:=[0,1,5,6,7,8,9,15]) _ _ _ _ ?_;simp only[go_sem];refine⟨by simp,?_⟩;simp only[go_sem];refine kJ x u y z ?_;cases h:isT x (T.drop i)with
   | true =>
    simp only[go_sem];exact⟨1,.inr rfl,by omega,rfl,aM _⟩
   | false =>
    simp only[go_sem];refine pH 11 u y z ?_;simp only[gP,h,cE,bR,eR]at m;exact m.here u
  .refine bE (V:=[0,1,5,6,7,8,9,15]) _ _ _ _ ?_;simp only[gP,h,bT,cG]at m;simp only[go_sem];exact aO (m (mJ h) bJ trivial)
theorem jJ(z:s.getO r=some (bK T fin d first i n))(hi:i<=T.length)(Z:TOk T)
  (y:(eU fin (T.drop i) n).to (λx w n'=>i+1<=T.length->T.drop (i+1)=w->n'=n->KV (s.setO r (bK T fin d first (i+1) n)) (.str x)) (PB s r Kp)):Den cx 85 [.ptr r 0] KV Kp s:=by
 (refine aR func85 [0,2,3,13] ?_;simp only[go_sem,ntmps85,f85]);refine lD z hi ?_;cases S:T.drop i with
 | nil=>rw[S]at y;exact PB.here y z
 | cons t w =>
  rw[S]at y;obtain⟨h1,h2,h3,h4⟩:=mS S;have:=Z.len;simp only[eU]at y;simp only[go_sem];(refine aQ λb M=>?_);have m:=cJ z M;have B:(s.setO b (.cells 60 t.cs)).getO r=some (bK T fin d first i n):=by rw[aL,aB m.2];exact z
  have u:=z;simp only[go_sem]at u
  have bad:∀O,t.free=false->Den cx 42 [.ptr r 0,.int .i64 11] O (DK Kp) (s.setO b (.cells 60 t.cs)):=by
   intro O U;refine pH 11 B hi Z ?_;rw[U]at y;simp only[cE,bR,eR]at y;rw[S];exact y.at aY B
  have F:t.free=true->KV (s.setO r (bK T fin d first (i+1) n)) (.str t.text):=by
   intro U;rw[U]at y;simp only[bT,cG]at y;exact y h2 h3 trivial
  simp only[go_sem,M,m,u]
  (apply aT<;>intro h)<;>simp only[go_sem,h,M,m,u]
  .refine bad _ ?_;rw[Tok.free,show decide (t.kind=1)=false from gQ h];rfl
  .refine vF _ _ _ _ ?_;simp only[go_sem,M,m,u];have H:decide (t.kind=1)=true:=gQ h
   (apply aT<;>intro h)<;>simp only[go_sem,h,M,m,u]
   .refine bad _ ?_;rw[Tok.free,H,h];rfl
   .have hg:=F (by rw[Tok.free,H,h];rfl);simp only[go_sem,cF i aC];exact aS hg (St.gx.ge aY (by rw[aL,aF rfl];rfl))
theorem aK0(z:s.getO r=some (bK T fin d first i n))(B:n<=2000)
  (u:(pO first (T.drop i) n).to (λ_ w n=>w=T.drop i->n<=2000->KV (s.setO r (bK T fin d first i n)) (.tuple [])) (PB s r Kp)):Den cx 166 [.ptr r 0] KV Kp s:=by
 have m:=z;simp only[go_sem]at m;(refine aR func166 [0,13] ?_;simp only[go_sem,ntmps166,f166]);simp only[go_sem,m,cF n aC]
 (apply aT<;>intro h)<;>simp only[go_sem,h,m]
 .refine aGt first ?_
  have y:2000<n+1:=by have:=h;simp at this;omega
  simp only[pO,y,bT,eR]at u;exact u.at aY (by rw[aL,aF rfl])
 .have y:¬ 2000<n+1:=by have:=h;simp at this;omega
  simp only[pO,y,bR,cG]at u;exact aO (u trivial aC)
end
end
section
section
variable {T:List Tok} {fin:Fault} {d:Dc} {first:Tok} {i n:Nat} {s:St} {r:Nat} {KV Kp:St->A->Prop}
theorem aQt(t:Tok)(u:KV s (.bool t.begins)):Den cx 236 [t.enc] KV Kp s:=by
 simp only[go_sem];(refine aR func236 [0,1,2,4,5,8] ?_;simp only[go_sem,ntmps236,f236]);(refine aQ λb m=>?_);simp only[go_sem,m]
 (apply aT<;>intro h)<;>simp only[go_sem,h,m]
 .have h2:t.kind=2:=gQ h;rw[show t.begins=true by simp[Tok.begins,h2]]at u
  (try simp only[go_sem,m])
  exact aS u (eB m)
 .have h2:¬ t.kind=2:=gQ h
  (try simp only[go_sem,m])
  (apply aT<;>intro h)<;>simp only[go_sem,h,m]
  .have z:t.kind=3:=gQ h;rw[show t.begins=true by simp[Tok.begins,z]]at u
   (try simp only[go_sem,m])
   exact aS u (eB m)
  .have z:¬ t.kind=3:=gQ h
   (try simp only[go_sem,m])
   (apply aT<;>intro h)<;>simp only[go_sem,h,m]
   .have y:t.kind=1:=gQ h;rw[show t.begins=(!decide (t.text∈iM)||(decide (t.text=[116,114,117,101])||decide (t.text=[102,97,108,115,101])))by simp[Tok.begins,y]]at u
    (try simp only[go_sem,m])
    refine vF _ _ _ _ ?_;simp only[go_sem,m];cases F:decide (t.text∈iM)<;>simp only[go_sem,m]
    .rw[F]at u;exact aS u (eB m)
    .rw[F]at u;cases B:decide (t.text=[116,114,117,101])<;>simp only[go_sem,m]
     .rw[B]at u;exact aS u (eB m)
     .rw[B]at u;exact aS u (eB m)
   .have y:¬ t.kind=1:=gQ h;rw[show t.begins=decide (t.text∈[[45],[39],[95],[91],[123],[36]])by simp[Tok.begins,y,h2,z]]at u
    (try simp only[go_sem,m])
    refine aAD _ [[45],[39],[95],[91],[123],[36]] _ _ _ ?_;simp only[go_sem,m];exact aS u (eB m)
theorem nS(a b:Int)(y:s.getO r=some (bK T fin d first i n))(B:i<=T.length)
  (m:if b<=a then PB s r Kp (rB fin (T.drop i)) else KV s (.tuple [])):Den cx 148 [.ptr r 0,.int .i64 a,.int .i64 b] KV Kp s:=by
 (refine aR func148 [0,1,2,8] ?_;simp only[go_sem,ntmps148,f148])
 (apply aT<;>intro h)<;>simp only[go_sem,h]
 .have u:b<=a:=gQ h;rw[aF u]at m;refine lD y B ?_;cases z:T.drop i with
  | nil=>rw[z]at m;exact m.here y
  | cons t w =>
   rw[z]at m;simp only[go_sem];refine aGt t ?_;exact m.here y
 .have u:¬ b<=a:=gQ h;rw[aB u]at m;exact aO m
theorem aDf(u:s.getO r=some (bK T fin d first i n))(B:i<=T.length)
  (h:match T.drop i with|t::_=>KV s (.bool t.begins)|[]=>PB s r Kp fin):Den cx 165 [.ptr r 0] KV Kp s:=by
 have m:=u;simp only[go_sem]at m;(refine aR func165 [0,2] ?_;simp only[go_sem,ntmps165,f165]);refine lD u B ?_;cases y:T.drop i with
 | nil=>rw[y]at h;exact h.here u
 | cons t w =>
  rw[y]at h;simp only at h;simp only[go_sem];refine aQt t ?_;simp only[go_sem];cases z:t.begins<;>simp only[go_sem,m]
  .rw[z]at h;exact aO h
  .rw[z]at h;exact aO h
theorem aI2(m:Int)(M:s.getO r=some (bK T fin d first i n))(hi:i<=T.length)(hT:TOk T)
  (B:(sR fin m (T.drop i) n).to (λx w n'=>i+1<=T.length->T.drop (i+1)=w->n'=n->KV (s.setO r (bK T fin d first (i+1) n)) (.int .i64 x)) (PB s r Kp)):Den cx 281 [.ptr r 0,.int .i64 m] KV Kp s:=by
 (refine aR func281 [0,1,4,5,10,21] ?_;simp only[go_sem,ntmps281,f281]);refine lD M hi ?_;cases Z:T.drop i with
 | nil=>rw[Z]at B;exact PB.here B M
 | cons t w =>
  rw[Z]at B;obtain⟨h1,h2,h3,h4⟩:=mS Z;have:=hT.len;simp only[sR]at B;simp only[go_sem];(refine aQ λb H=>?_);have y:=cJ M H;have O:(s.setO b (.cells 60 t.cs)).getO r=some (bK T fin d first i n):=by rw[aL,aB y.2];exact M
  have z:=M;simp only[go_sem]at z
  have bad:∀U u,PB s r Kp (gK fin u (t::w))->Den cx 42 [.ptr r 0,.int .i64 u] U (DK Kp) (s.setO b (.cells 60 t.cs)):=by
   intro U u hf;refine pH u O hi hT ?_;rw[Z];exact hf.at aY O
  simp only[go_sem,H,y,z]
  (apply aT<;>intro h)<;>simp only[go_sem,h,H,y,z]
  .have h2:¬ t.kind=2:=gQ h;rw[aB h2,eR]at B;exact bad _ _ B
  .have h2:t.kind=2:=gQ h;rw[aF h2]at B;have range:(t.n<1\/m<t.n)->PB s r Kp (gK fin 20 (t::w)):=λhc=>by rw[aF hc]at B;exact B
   have S:¬ (t.n<1\/m<t.n)->KV (s.setO r (bK T fin d first (i+1) n)) (.int .i64 t.n):=λhc=>by
    rw[aB hc]at B;exact B aC h3 rfl
   cases F:decide (t.n<1)
   .cases c2:decide (m<t.n)
    ·(try simp only[go_sem,H,y,z,F,c2,cF i aC])
     exact aS (S (by simp at F c2;omega)) (St.gx.ge aY (by rw[aL,aF rfl];rfl))
    ·(try simp only[go_sem,H,y,z,F,c2])
     exact bad _ _ (range (by simp at F c2;omega))
   ·(try simp only[go_sem,H,y,z,F])
    exact bad _ _ (range (by simp at F;omega))
end
end
theorem aC7{α:Type}(fin:Fault)(sep:aD)(one:List Tok->Nat->Rd α):∀(f:Nat) (m l:List α) (w:List Tok) (n:Nat) (p:List α->List Tok->Nat->Prop) (b:Fault->Prop),
  (dK fin sep (λu w n=>(one w n).bind λa w n=>.ok (u++[a]) w n) f (m++l) w n).to p b ->
  (dK fin sep (λ(c:Unit × List α) w n=>((one w n).bind λa w n=>Rd.ok ((),a) w n).bind λq w n=>.ok (q.1,c.2++[q.2]) w n) f ((),l) w n).to (λc w n=>p (m++c.2) w n) b
 | 0,m,l,w,n,p,b,h=>h
 | f+1,m,l,w,n,p,b,h=>by
  simp only[dK,bX]at h⊢;refine bB h (λa w n h=>?_) (λ_ h=>h);simp only[cG]at h⊢;split
  .rename_i e;rw[aF e]at h;refine aC7 fin sep one f m (l++[a]) w.tail n p b ?_;rw[<-bG];exact h
  .rename_i e;rw[aB e]at h;rw[cG]at h⊢;rw[<-bG];exact h
theorem aDu{σ:Type}(fin:Fault)(sep:aD)(one:σ->List Tok->Nat->Rd σ):∀(f:Nat) (a:σ) (l:List Unit) (w:List Tok) (n:Nat) (p:σ->List Tok->Nat->Prop) (b:Fault->Prop),
  (dK fin sep one f a w n).to p b ->
  (dK fin sep (λ(c:σ × List Unit) w n=>((one c.1 w n).bind λa w n=>Rd.ok (a,()) w n).bind λq w n=>.ok (q.1,c.2++[q.2]) w n) f (a,l) w n).to (λc w n=>p c.1 w n) b
 | 0,a,l,w,n,p,b,h=>h
 | f+1,a,l,w,n,p,b,h=>by
  simp only[dK,bX]at h⊢;refine bB h (λa w n h=>?_) (λ_ h=>h);simp only[cG]at h⊢;split
  .rename_i e;rw[aF e]at h;exact aDu fin sep one f a (l++[()]) w.tail n p b h
  .rename_i e;rw[aB e]at h;exact h
theorem aFJ{σ α X:Type}(enc:α->A)(hz:∀a,(enc a).cells.length=6)(ho:∀a,gD (enc a).cells=true)
  {T:List Tok}{fin:Fault}{m:St}{r:Nat}{KV Kp:St->A->Prop}(hT:TOk T)
  (S:St->σ->X->Nat->Nat->St)(Q:St->σ->X->Nat->Prop)(one:σ->List Tok->Nat->Rd (σ × α))(f:FuncId)(first z:List A)
  (hr:∀(s:St) (a:σ) (x:X) (i n:Nat),∃d fi,(S s a x i n).getO r=some (bK T fin d fi i n)/\((S s a x i n).setO r (bK T fin d fi (i+1) n)).ge (S s a x (i+1) n))
  (h1:∀(s:St) (a:σ) (x:X) (i n:Nat) (t:Nat) (v:Nat × TypeId),Q s a x i->(S s a x i n).getT t=none->s.getT t=none/\Q (s.setT t v) a x i/\((S s a x i n).setT t v).ge (S (s.setT t v) a x i n))
  (h2:∀(s:St) (a:σ) (x:X) (i n:Nat) (t:Nat) (v u:Nat × TypeId),s.getT t=none->Q (s.setT t v) a x i->(S (s.setT t v) a x i n).getT t=some v/\Q (s.setT t u) a x i/\((S (s.setT t v) a x i n).setT t u).ge (S (s.setT t u) a x i n))
  (h3:∀(s:St) (a:σ) (x:X) (i n:Nat) (t:Nat) (v:Nat × TypeId),s.getT t=none->Q (s.setT t v) a x i->Q s a x i/\(S (s.setT t v) a x i n).ge (S s a x i n))
  (hi:∀(s:St) (a:σ) (x:X) (i:Nat),Q s a x i->Q s a x (i+1))
  (hg:∀(s:St) (a:σ) (x:X) (i n:Nat),Q s a x i->(S s a x i n).gx s r)
  (hf : ∀ (s : St) (a : σ) (x : X) (i n : Nat) (KV Kp : St → A → Prop),Q s a x i → i ≤ T.length → n ≤ 2000 → (one a (T.drop i) n).to (fun p w B => ∀ j y,i ≤ j → j ≤ T.length → T.drop j = w → B ≤ 2000 → Q s p.1 y j → KV (S s p.1 y j B) (enc p.2))
   (λf=>∀s1 o,s1.gx s r->s1.getO r=some o->Kp s1 (.iface 36 f.enc))->Den cx f (first++[]++z) KV Kp (S s a x i n))
  (a0:σ)(x0:X)(i0 n0:Nat)(hQ:Q m a0 x0 i0)(b0:i0<=T.length)(b2:n0<=2000)
  (hk : (dK fin [44] (fun (c : σ × List α) w n => (one c.1 w n).bind fun p w n => .ok (p.1,c.2 ++ [p.2]) w n) ((T.drop i0).length + 1) (a0,[]) (T.drop i0) n0).to
   (λc w n=>∀j y,i0<=j->j<=T.length->T.drop j=w->n<=2000->Q m c.1 y j->KV (S m c.1 y j n) (.list none (c.2.map enc)))
   (λf=>∀s1 o,s1.gx m r->s1.getO r=some o->Kp s1 (.iface 36 f.enc))):Den cx 222 [.ptr r 0,.fn f first z] KV Kp (S m a0 x0 i0 n0):=by
 (refine gBo func222 [0,1,4,5,10] ?_;simp only[go_sem,ntmps222,f222]);have b6:=hT.len;rw[show(T.drop i0).length=T.length-i0 by rw[eC]]at hk;simp only[dK,bX]at hk;refine jW (hf m a0 x0 i0 n0 _ _ hQ b0 b2 (bB hk (λp w B h=>?_) (λg h=>?_)))
 .intro j y hj U hw Z F;simp only[cG,bA]at h;simp only[go_sem];refine .inr ⟨⟨hz _,ho _⟩,λt ht=>?_⟩;obtain⟨g1,g2,g3⟩:=h1 m p.1 y j B t (1,43) F ht
  refine Ex.loop (ι:=(σ × X × Nat × Nat) × List α) (λc=>[(0,.ptr r 0),(1,.fn f first z),(5,.list (some t) (c.2.map enc))])
   (λc=>S (m.setT t (c.2.length,43)) c.1.1 c.1.2.1 c.1.2.2.1 c.1.2.2.2)
   (fun c => Q (m.setT t (c.2.length,43)) c.1.1 c.1.2.1 c.1.2.2.1 ∧ i0 ≤ c.1.2.2.1 ∧ c.1.2.2.1 ≤ T.length ∧ c.1.2.2.2 ≤ 2000 ∧ c.2.length ≤ c.1.2.2.1 + 1 ∧ ∃ k,T.length - c.1.2.2.1 ≤ k ∧
    (if isT [44] (T.drop c.1.2.2.1) = true then dK fin [44] (fun (c : σ × List α) w n => (one c.1 w n).bind fun p w n => .ok (p.1,c.2 ++ [p.2]) w n) k (c.1.1,c.2) (T.drop c.1.2.2.1).tail c.1.2.2.2
     else Rd.ok (c.1.1,c.2) (T.drop c.1.2.2.1) c.1.2.2.2).to
      (λc w n=>∀j y,i0<=j->j<=T.length->T.drop j=w->n<=2000->Q m c.1 y j->KV (S m c.1 y j n) (.list none (c.2.map enc)))
      (λf=>∀s1 o,s1.gx m r->s1.getO r=some o->Kp s1 (.iface 36 f.enc)))
   (λc=>T.length-c.1.2.2.1) ((p.1,y,j,B),[p.2]) ?_ ?_ ?_ ?_
  .refine⟨g2,hj,U,Z,by simp only[aG,aH];omega,T.length-i0,aP,?_⟩;simp only[hw];exact h
  .simp only[go_sem]
  .exact g3
  .rintro⟨⟨a,x,i,n⟩,l⟩ ⟨q1,q2,q3,qn,q4,k,q5,O⟩;simp only at q1 q2 q3 qn q4 q5 O;obtain⟨d,fi,b4,b3⟩:=hr (m.setT t (l.length,43)) a x i n;refine bE (V:=[0,1,4,5,10]) _ _ _ _ ?_;simp only[go_sem];refine jW (kJ _ b4 q3 hT ?_);cases hx:isT [44] (T.drop i)with
   | false =>
    rw[hx]at O;simp only[cE,bR,cG]at O;obtain⟨e1,e2⟩:=h3 m a x i n t (l.length,43) g1 q1;simp only[go_sem];exact DK.mk (O i x q2 q3 rfl qn e1) e2 (A.le.forget _ _)
   | true =>
    rw[hx]at O;have b5:=mJ hx;obtain⟨k,rfl⟩:∃k',k=k'+1:=⟨k-1,by omega⟩
    simp only[bT,dK,bX,cG,nP]at O;simp only[go_sem];refine jW (iJ b3 (hf (m.setT t (l.length,43)) a x (i+1) n _ _ (hi _ _ _ _ q1) b5 qn (bB O (λp w B h=>?_) (λg h=>?_))))
    .intro j y hj U hw Z F;obtain⟨e1,e2,e3⟩:=h2 m p.1 y j B t (l.length,43) (l.length+1,43) g1 F;simp only[go_sem];refine .inl ⟨⟨hz _,ho _⟩,by decide,λq hq=>?_,e1,λq hq=>?_,by omega,((p.1,y,j,B),l++[p.2]),⟨?_,aP,U,Z,?_,k,aP,?_⟩,aP,?_,?_⟩
     .simp only[cC]at hq;subst hq;exact hz _
     .simp only[cH]at hq;obtain⟨q',_,rfl⟩:=hq;exact hz _
     .simp only[aI,aG,aH];exact e2
     .simp only[aI,aG,aH];omega
     .simp only[hw];exact h
     .simp only[cN,bN,dI]
     .simp only[aI,aG,aH];exact e3
    .intro s1 o M H;simp only[go_sem];exact aO (h s1 o (M.dropT g1) H)
 .intro s1 o M H;exact aO (h s1 o M H)
theorem aIm{α:Type}(enc:α->A)(hz:∀a,(enc a).cells.length=6)(ho:∀a,gD (enc a).cells=true)
  {T:List Tok}{fin:Fault}{d:Dc}{fi:Tok}{S:St}{r:Nat}{KV Kp:St->A->Prop}(hT:TOk T)
  (Q:St->Prop)(H:∀(s:St) (t:Nat) (v:Nat × TypeId),Q (s.setT t v)↔Q s)(one:List Tok->Nat->Rd α)(f:FuncId)(first m:List A)
  (hf : ∀ (s : St) (i n : Nat) (KV Kp : St → A → Prop),Q s → i ≤ T.length → n ≤ 2000 → (one (T.drop i) n).to (fun a w n' => ∀ j,i ≤ j → j ≤ T.length → T.drop j = w → n' ≤ 2000 → KV (s.setO r (bK T fin d fi j n')) (enc a))
   (λf=>∀s1 o,s1.gx s r->s1.getO r=some o->Kp s1 (.iface 36 f.enc))->Den cx f (first++[]++m) KV Kp (s.setO r (bK T fin d fi i n)))
  (i0 F:Nat)(hQ:Q S)(U:i0<=T.length)(Z:F<=2000)
  (M : (kP fin (fun _ => one) [] (T.drop i0) F).to
   (λl w n=>∀j,i0<=j->j<=T.length->T.drop j=w->n<=2000->KV (S.setO r (bK T fin d fi j n)) (.list none (l.map enc)))
   (λf=>∀s1 o,s1.gx S r->s1.getO r=some o->Kp s1 (.iface 36 f.enc))):Den cx 222 [.ptr r 0,.fn f first m] KV Kp (S.setO r (bK T fin d fi i0 F)):=by
 refine aFJ (σ:=Unit) (X:=Unit) enc hz ho hT (λs _ _ i n=>s.setO r (bK T fin d fi i n)) (λs _ _ _=>Q s) (λ_ w n=>(one w n).bind λa w n=>.ok ((),a) w n) f first m
  (λs _ _ i n=>⟨d,fi,by rw[aL,aF rfl],by rw[nR];exact aM _⟩) (λs _ _ i n t v h O=>⟨O,(H s t v).2 h,aM _⟩)
  (λs _ _ i n t v u O h=>⟨?_,(H s t u).2 ((H s t v).1 h),?_⟩) (λs _ _ i n t v O h=>⟨(H s t v).1 h,?_⟩) (λs _ _ i h=>h) (λs _ _ i n h=>eX (gA s r)) (λs _ _ i n KV Kp h hi hn M=>?_) () () i0 F hQ U Z ?_
 .show(s.setT t v).getT t=some v;rw[dM,aF rfl]
 .show(((s.setT t v).setT t u).setO r _).ge ((s.setT t u).setO r _);exact rM (aCZ s t v u)
 .exact rM (yL O)
 .refine hf s i n KV Kp h hi hn ?_;rw[bX]at M;refine bB M (λa w n' h2 j hj z hw B=>?_) (λ_ h2=>h2);exact h2 j () hj z hw B h
 .have:=aC7 fin [44] one ((T.drop i0).length+1) [] [] (T.drop i0) F _ _ M;refine bB this (λc w n h j y hj z hw B b0=>?_) (λ_ h2=>h2);have h':=h j hj z hw B;simpa only[bA]using h'
theorem aOQ{σ α X:Type}(enc:α->A)(hz:∀a,(enc a).cells.length=1)(ho:∀a,gD (enc a).cells=true)
  {T:List Tok}{fin:Fault}{m:St}{r:Nat}{KV Kp:St->A->Prop}(hT:TOk T)
  (S:St->σ->X->Nat->Nat->St)(Q:St->σ->X->Nat->Prop)(one:σ->List Tok->Nat->Rd (σ × α))(f:FuncId)(first z:List A)
  (hr:∀(s:St) (a:σ) (x:X) (i n:Nat),∃d fi,(S s a x i n).getO r=some (bK T fin d fi i n)/\((S s a x i n).setO r (bK T fin d fi (i+1) n)).ge (S s a x (i+1) n))
  (h1:∀(s:St) (a:σ) (x:X) (i n:Nat) (t:Nat) (v:Nat × TypeId),Q s a x i->(S s a x i n).getT t=none->s.getT t=none/\Q (s.setT t v) a x i/\((S s a x i n).setT t v).ge (S (s.setT t v) a x i n))
  (h2:∀(s:St) (a:σ) (x:X) (i n:Nat) (t:Nat) (v u:Nat × TypeId),s.getT t=none->Q (s.setT t v) a x i->(S (s.setT t v) a x i n).getT t=some v/\Q (s.setT t u) a x i/\((S (s.setT t v) a x i n).setT t u).ge (S (s.setT t u) a x i n))
  (h3:∀(s:St) (a:σ) (x:X) (i n:Nat) (t:Nat) (v:Nat × TypeId),s.getT t=none->Q (s.setT t v) a x i->Q s a x i/\(S (s.setT t v) a x i n).ge (S s a x i n))
  (hi:∀(s:St) (a:σ) (x:X) (i:Nat),Q s a x i->Q s a x (i+1))
  (hg:∀(s:St) (a:σ) (x:X) (i n:Nat),Q s a x i->(S s a x i n).gx s r)
  (hf : ∀ (s : St) (a : σ) (x : X) (i n : Nat) (KV Kp : St → A → Prop),Q s a x i → i ≤ T.length → n ≤ 2000 → (one a (T.drop i) n).to (fun p w B => ∀ j y,i ≤ j → j ≤ T.length → T.drop j = w → B ≤ 2000 → Q s p.1 y j → KV (S s p.1 y j B) (enc p.2))
   (λf=>∀s1 o,s1.gx s r->s1.getO r=some o->Kp s1 (.iface 36 f.enc))->Den cx f (first++[]++z) KV Kp (S s a x i n))
  (a0:σ)(x0:X)(i0 n0:Nat)(hQ:Q m a0 x0 i0)(b0:i0<=T.length)(b2:n0<=2000)
  (hk : (dK fin [44] (fun (c : σ × List α) w n => (one c.1 w n).bind fun p w n => .ok (p.1,c.2 ++ [p.2]) w n) ((T.drop i0).length + 1) (a0,[]) (T.drop i0) n0).to
   (λc w n=>∀j y,i0<=j->j<=T.length->T.drop j=w->n<=2000->Q m c.1 y j->KV (S m c.1 y j n) (.list none (c.2.map enc)))
   (λf=>∀s1 o,s1.gx m r->s1.getO r=some o->Kp s1 (.iface 36 f.enc))):Den cx 150 [.ptr r 0,.fn f first z] KV Kp (S m a0 x0 i0 n0):=by
 (refine gBo func150 [0,1,4,5,10] ?_;simp only[go_sem,ntmps150,f150]);have b6:=hT.len;rw[show(T.drop i0).length=T.length-i0 by rw[eC]]at hk;simp only[dK,bX]at hk;refine jW (hf m a0 x0 i0 n0 _ _ hQ b0 b2 (bB hk (λp w B h=>?_) (λg h=>?_)))
 .intro j y hj U hw Z F;simp only[cG,bA]at h;simp only[go_sem];refine .inr ⟨⟨hz _,ho _⟩,λt ht=>?_⟩;obtain⟨g1,g2,g3⟩:=h1 m p.1 y j B t (1,9) F ht
  refine Ex.loop (ι:=(σ × X × Nat × Nat) × List α) (λc=>[(0,.ptr r 0),(1,.fn f first z),(5,.list (some t) (c.2.map enc))])
   (λc=>S (m.setT t (c.2.length,9)) c.1.1 c.1.2.1 c.1.2.2.1 c.1.2.2.2)
   (fun c => Q (m.setT t (c.2.length,9)) c.1.1 c.1.2.1 c.1.2.2.1 ∧ i0 ≤ c.1.2.2.1 ∧ c.1.2.2.1 ≤ T.length ∧ c.1.2.2.2 ≤ 2000 ∧ c.2.length ≤ c.1.2.2.1 + 1 ∧ ∃ k,T.length - c.1.2.2.1 ≤ k ∧
    (if isT [44] (T.drop c.1.2.2.1) = true then dK fin [44] (fun (c : σ × List α) w n => (one c.1 w n).bind fun p w n => .ok (p.1,c.2 ++ [p.2]) w n) k (c.1.1,c.2) (T.drop c.1.2.2.1).tail c.1.2.2.2
     else Rd.ok (c.1.1,c.2) (T.drop c.1.2.2.1) c.1.2.2.2).to
      (λc w n=>∀j y,i0<=j->j<=T.length->T.drop j=w->n<=2000->Q m c.1 y j->KV (S m c.1 y j n) (.list none (c.2.map enc)))
      (λf=>∀s1 o,s1.gx m r->s1.getO r=some o->Kp s1 (.iface 36 f.enc)))
   (λc=>T.length-c.1.2.2.1) ((p.1,y,j,B),[p.2]) ?_ ?_ ?_ ?_
  .refine⟨g2,hj,U,Z,by simp only[aG,aH];omega,T.length-i0,aP,?_⟩;simp only[hw];exact h
  .simp only[go_sem]
  .exact g3
  .rintro⟨⟨a,x,i,n⟩,l⟩ ⟨q1,q2,q3,qn,q4,k,q5,O⟩;simp only at q1 q2 q3 qn q4 q5 O;obtain⟨d,fi,b4,b3⟩:=hr (m.setT t (l.length,9)) a x i n;refine bE (V:=[0,1,4,5,10]) _ _ _ _ ?_;simp only[go_sem];refine jW (kJ _ b4 q3 hT ?_);cases hx:isT [44] (T.drop i)with
   | false =>
    rw[hx]at O;simp only[cE,bR,cG]at O;obtain⟨e1,e2⟩:=h3 m a x i n t (l.length,9) g1 q1;simp only[go_sem];exact DK.mk (O i x q2 q3 rfl qn e1) e2 (A.le.forget _ _)
   | true =>
    rw[hx]at O;have b5:=mJ hx;obtain⟨k,rfl⟩:∃k',k=k'+1:=⟨k-1,by omega⟩
    simp only[bT,dK,bX,cG,nP]at O;simp only[go_sem];refine jW (iJ b3 (hf (m.setT t (l.length,9)) a x (i+1) n _ _ (hi _ _ _ _ q1) b5 qn (bB O (λp w B h=>?_) (λg h=>?_))))
    .intro j y hj U hw Z F;obtain⟨e1,e2,e3⟩:=h2 m p.1 y j B t (l.length,9) (l.length+1,9) g1 F;simp only[go_sem];refine .inl ⟨⟨hz _,ho _⟩,by decide,λq hq=>?_,e1,λq hq=>?_,by omega,((p.1,y,j,B),l++[p.2]),⟨?_,aP,U,Z,?_,k,aP,?_⟩,aP,?_,?_⟩
     .simp only[cC]at hq;subst hq;exact hz _
     .simp only[cH]at hq;obtain⟨q',_,rfl⟩:=hq;exact hz _
     .simp only[aI,aG,aH];exact e2
     .simp only[aI,aG,aH];omega
     .simp only[hw];exact h
     .simp only[cN,bN,dI]
     .simp only[aI,aG,aH];exact e3
    .intro s1 o M H;simp only[go_sem];exact aO (h s1 o (M.dropT g1) H)
 .intro s1 o M H;exact aO (h s1 o M H)
theorem aOt{α:Type}(enc:α->A)(hz:∀a,(enc a).cells.length=1)(ho:∀a,gD (enc a).cells=true)
  {T:List Tok}{fin:Fault}{d:Dc}{fi:Tok}{S:St}{r:Nat}{KV Kp:St->A->Prop}(hT:TOk T)
  (Q:St->Prop)(H:∀(s:St) (t:Nat) (v:Nat × TypeId),Q (s.setT t v)↔Q s)(one:List Tok->Nat->Rd α)(f:FuncId)(first m:List A)
  (hf : ∀ (s : St) (i n : Nat) (KV Kp : St → A → Prop),Q s → i ≤ T.length → n ≤ 2000 → (one (T.drop i) n).to (fun a w n' => ∀ j,i ≤ j → j ≤ T.length → T.drop j = w → n' ≤ 2000 → KV (s.setO r (bK T fin d fi j n')) (enc a))
   (λf=>∀s1 o,s1.gx s r->s1.getO r=some o->Kp s1 (.iface 36 f.enc))->Den cx f (first++[]++m) KV Kp (s.setO r (bK T fin d fi i n)))
  (i0 F:Nat)(hQ:Q S)(U:i0<=T.length)(Z:F<=2000)
  (M : (kP fin (fun _ => one) [] (T.drop i0) F).to
   (λl w n=>∀j,i0<=j->j<=T.length->T.drop j=w->n<=2000->KV (S.setO r (bK T fin d fi j n)) (.list none (l.map enc)))
   (λf=>∀s1 o,s1.gx S r->s1.getO r=some o->Kp s1 (.iface 36 f.enc))):Den cx 150 [.ptr r 0,.fn f first m] KV Kp (S.setO r (bK T fin d fi i0 F)):=by
 refine aOQ (σ:=Unit) (X:=Unit) enc hz ho hT (λs _ _ i n=>s.setO r (bK T fin d fi i n)) (λs _ _ _=>Q s) (λ_ w n=>(one w n).bind λa w n=>.ok ((),a) w n) f first m
  (λs _ _ i n=>⟨d,fi,by rw[aL,aF rfl],by rw[nR];exact aM _⟩) (λs _ _ i n t v h O=>⟨O,(H s t v).2 h,aM _⟩)
  (λs _ _ i n t v u O h=>⟨?_,(H s t u).2 ((H s t v).1 h),?_⟩) (λs _ _ i n t v O h=>⟨(H s t v).1 h,?_⟩) (λs _ _ i h=>h) (λs _ _ i n h=>eX (gA s r)) (λs _ _ i n KV Kp h hi hn M=>?_) () () i0 F hQ U Z ?_
 .show(s.setT t v).getT t=some v;rw[dM,aF rfl]
 .show(((s.setT t v).setT t u).setO r _).ge ((s.setT t u).setO r _);exact rM (aCZ s t v u)
 .exact rM (yL O)
 .refine hf s i n KV Kp h hi hn ?_;rw[bX]at M;refine bB M (λa w n' h2 j hj z hw B=>?_) (λ_ h2=>h2);exact h2 j () hj z hw B h
 .have:=aC7 fin [44] one ((T.drop i0).length+1) [] [] (T.drop i0) F _ _ M;refine bB this (λc w n h j y hj z hw B b0=>?_) (λ_ h2=>h2);have h':=h j hj z hw B;simpa only[bA]using h'
theorem aFF{σ α X:Type}(enc:α->A)(hz:∀a,(enc a).cells.length=1)(ho:∀a,gD (enc a).cells=true)
  {T:List Tok}{fin:Fault}{m:St}{r:Nat}{KV Kp:St->A->Prop}(hT:TOk T)
  (S:St->σ->X->Nat->Nat->St)(Q:St->σ->X->Nat->Prop)(one:σ->List Tok->Nat->Rd (σ × α))(f:FuncId)(first z:List A)
  (hr:∀(s:St) (a:σ) (x:X) (i n:Nat),∃d fi,(S s a x i n).getO r=some (bK T fin d fi i n)/\((S s a x i n).setO r (bK T fin d fi (i+1) n)).ge (S s a x (i+1) n))
  (h1:∀(s:St) (a:σ) (x:X) (i n:Nat) (t:Nat) (v:Nat × TypeId),Q s a x i->(S s a x i n).getT t=none->s.getT t=none/\Q (s.setT t v) a x i/\((S s a x i n).setT t v).ge (S (s.setT t v) a x i n))
  (h2:∀(s:St) (a:σ) (x:X) (i n:Nat) (t:Nat) (v u:Nat × TypeId),s.getT t=none->Q (s.setT t v) a x i->(S (s.setT t v) a x i n).getT t=some v/\Q (s.setT t u) a x i/\((S (s.setT t v) a x i n).setT t u).ge (S (s.setT t u) a x i n))
  (h3:∀(s:St) (a:σ) (x:X) (i n:Nat) (t:Nat) (v:Nat × TypeId),s.getT t=none->Q (s.setT t v) a x i->Q s a x i/\(S (s.setT t v) a x i n).ge (S s a x i n))
  (hi:∀(s:St) (a:σ) (x:X) (i:Nat),Q s a x i->Q s a x (i+1))
  (hg:∀(s:St) (a:σ) (x:X) (i n:Nat),Q s a x i->(S s a x i n).gx s r)
  (hf : ∀ (s : St) (a : σ) (x : X) (i n : Nat) (KV Kp : St → A → Prop),Q s a x i → i ≤ T.length → n ≤ 2000 → (one a (T.drop i) n).to (fun p w B => ∀ j y,i ≤ j → j ≤ T.length → T.drop j = w → B ≤ 2000 → Q s p.1 y j → KV (S s p.1 y j B) (enc p.2))
   (λf=>∀s1 o,s1.gx s r->s1.getO r=some o->Kp s1 (.iface 36 f.enc))->Den cx f (first++[]++z) KV Kp (S s a x i n))
  (a0:σ)(x0:X)(i0 n0:Nat)(hQ:Q m a0 x0 i0)(b0:i0<=T.length)(b2:n0<=2000)
  (hk : (dK fin [44] (fun (c : σ × List α) w n => (one c.1 w n).bind fun p w n => .ok (p.1,c.2 ++ [p.2]) w n) ((T.drop i0).length + 1) (a0,[]) (T.drop i0) n0).to
   (λc w n=>∀j y,i0<=j->j<=T.length->T.drop j=w->n<=2000->Q m c.1 y j->KV (S m c.1 y j n) (.list none (c.2.map enc)))
   (λf=>∀s1 o,s1.gx m r->s1.getO r=some o->Kp s1 (.iface 36 f.enc))):Den cx 146 [.ptr r 0,.fn f first z] KV Kp (S m a0 x0 i0 n0):=by
 (refine gBo func146 [0,1,4,5,10] ?_;simp only[go_sem,ntmps146,f146]);have b6:=hT.len;rw[show(T.drop i0).length=T.length-i0 by rw[eC]]at hk;simp only[dK,bX]at hk;refine jW (hf m a0 x0 i0 n0 _ _ hQ b0 b2 (bB hk (λp w B h=>?_) (λg h=>?_)))
 .intro j y hj U hw Z F;simp only[cG,bA]at h;simp only[go_sem];refine .inr ⟨⟨hz _,ho _⟩,λt ht=>?_⟩;obtain⟨g1,g2,g3⟩:=h1 m p.1 y j B t (1,4) F ht
  refine Ex.loop (ι:=(σ × X × Nat × Nat) × List α) (λc=>[(0,.ptr r 0),(1,.fn f first z),(5,.list (some t) (c.2.map enc))])
   (λc=>S (m.setT t (c.2.length,4)) c.1.1 c.1.2.1 c.1.2.2.1 c.1.2.2.2)
   (fun c => Q (m.setT t (c.2.length,4)) c.1.1 c.1.2.1 c.1.2.2.1 ∧ i0 ≤ c.1.2.2.1 ∧ c.1.2.2.1 ≤ T.length ∧ c.1.2.2.2 ≤ 2000 ∧ c.2.length ≤ c.1.2.2.1 + 1 ∧ ∃ k,T.length - c.1.2.2.1 ≤ k ∧
    (if isT [44] (T.drop c.1.2.2.1) = true then dK fin [44] (fun (c : σ × List α) w n => (one c.1 w n).bind fun p w n => .ok (p.1,c.2 ++ [p.2]) w n) k (c.1.1,c.2) (T.drop c.1.2.2.1).tail c.1.2.2.2
     else Rd.ok (c.1.1,c.2) (T.drop c.1.2.2.1) c.1.2.2.2).to
      (λc w n=>∀j y,i0<=j->j<=T.length->T.drop j=w->n<=2000->Q m c.1 y j->KV (S m c.1 y j n) (.list none (c.2.map enc)))
      (λf=>∀s1 o,s1.gx m r->s1.getO r=some o->Kp s1 (.iface 36 f.enc)))
   (λc=>T.length-c.1.2.2.1) ((p.1,y,j,B),[p.2]) ?_ ?_ ?_ ?_
  .refine⟨g2,hj,U,Z,by simp only[aG,aH];omega,T.length-i0,aP,?_⟩;simp only[hw];exact h
  .simp only[go_sem]
  .exact g3
  .rintro⟨⟨a,x,i,n⟩,l⟩ ⟨q1,q2,q3,qn,q4,k,q5,O⟩;simp only at q1 q2 q3 qn q4 q5 O;obtain⟨d,fi,b4,b3⟩:=hr (m.setT t (l.length,4)) a x i n;refine bE (V:=[0,1,4,5,10]) _ _ _ _ ?_;simp only[go_sem];refine jW (kJ _ b4 q3 hT ?_);cases hx:isT [44] (T.drop i)with
   | false =>
    rw[hx]at O;simp only[cE,bR,cG]at O;obtain⟨e1,e2⟩:=h3 m a x i n t (l.length,4) g1 q1;simp only[go_sem];exact DK.mk (O i x q2 q3 rfl qn e1) e2 (A.le.forget _ _)
   | true =>
    rw[hx]at O;have b5:=mJ hx;obtain⟨k,rfl⟩:∃k',k=k'+1:=⟨k-1,by omega⟩
    simp only[bT,dK,bX,cG,nP]at O;simp only[go_sem];refine jW (iJ b3 (hf (m.setT t (l.length,4)) a x (i+1) n _ _ (hi _ _ _ _ q1) b5 qn (bB O (λp w B h=>?_) (λg h=>?_))))
    .intro j y hj U hw Z F;obtain⟨e1,e2,e3⟩:=h2 m p.1 y j B t (l.length,4) (l.length+1,4) g1 F;simp only[go_sem];refine .inl ⟨⟨hz _,ho _⟩,by decide,λq hq=>?_,e1,λq hq=>?_,by omega,((p.1,y,j,B),l++[p.2]),⟨?_,aP,U,Z,?_,k,aP,?_⟩,aP,?_,?_⟩
     .simp only[cC]at hq;subst hq;exact hz _
     .simp only[cH]at hq;obtain⟨q',_,rfl⟩:=hq;exact hz _
     .simp only[aI,aG,aH];exact e2
     .simp only[aI,aG,aH];omega
     .simp only[hw];exact h
     .simp only[cN,bN,dI]
     .simp only[aI,aG,aH];exact e3
    .intro s1 o M H;simp only[go_sem];exact aO (h s1 o (M.dropT g1) H)
 .intro s1 o M H;exact aO (h s1 o M H)
theorem aOU{σ α X:Type}(enc:α->A)(hz:∀a,(enc a).cells.length=1)(ho:∀a,gD (enc a).cells=true)
  {T:List Tok}{fin:Fault}{m:St}{r:Nat}{KV Kp:St->A->Prop}(hT:TOk T)
  (S:St->σ->X->Nat->Nat->St)(Q:St->σ->X->Nat->Prop)(one:σ->List Tok->Nat->Rd (σ × α))(f:FuncId)(first z:List A)
  (hr:∀(s:St) (a:σ) (x:X) (i n:Nat),∃d fi,(S s a x i n).getO r=some (bK T fin d fi i n)/\((S s a x i n).setO r (bK T fin d fi (i+1) n)).ge (S s a x (i+1) n))
  (h1:∀(s:St) (a:σ) (x:X) (i n:Nat) (t:Nat) (v:Nat × TypeId),Q s a x i->(S s a x i n).getT t=none->s.getT t=none/\Q (s.setT t v) a x i/\((S s a x i n).setT t v).ge (S (s.setT t v) a x i n))
  (h2:∀(s:St) (a:σ) (x:X) (i n:Nat) (t:Nat) (v u:Nat × TypeId),s.getT t=none->Q (s.setT t v) a x i->(S (s.setT t v) a x i n).getT t=some v/\Q (s.setT t u) a x i/\((S (s.setT t v) a x i n).setT t u).ge (S (s.setT t u) a x i n))
  (h3:∀(s:St) (a:σ) (x:X) (i n:Nat) (t:Nat) (v:Nat × TypeId),s.getT t=none->Q (s.setT t v) a x i->Q s a x i/\(S (s.setT t v) a x i n).ge (S s a x i n))
  (hi:∀(s:St) (a:σ) (x:X) (i:Nat),Q s a x i->Q s a x (i+1))
  (hg:∀(s:St) (a:σ) (x:X) (i n:Nat),Q s a x i->(S s a x i n).gx s r)
  (hf : ∀ (s : St) (a : σ) (x : X) (i n : Nat) (KV Kp : St → A → Prop),Q s a x i → i ≤ T.length → n ≤ 2000 → (one a (T.drop i) n).to (fun p w B => ∀ j y,i ≤ j → j ≤ T.length → T.drop j = w → B ≤ 2000 → Q s p.1 y j → KV (S s p.1 y j B) (enc p.2))
   (λf=>∀s1 o,s1.gx s r->s1.getO r=some o->Kp s1 (.iface 36 f.enc))->Den cx f (first++[]++z) KV Kp (S s a x i n))
  (a0:σ)(x0:X)(i0 n0:Nat)(hQ:Q m a0 x0 i0)(b0:i0<=T.length)(b2:n0<=2000)
  (hk : (dK fin [44] (fun (c : σ × List α) w n => (one c.1 w n).bind fun p w n => .ok (p.1,c.2 ++ [p.2]) w n) ((T.drop i0).length + 1) (a0,[]) (T.drop i0) n0).to
   (λc w n=>∀j y,i0<=j->j<=T.length->T.drop j=w->n<=2000->Q m c.1 y j->KV (S m c.1 y j n) (.list none (c.2.map enc)))
   (λf=>∀s1 o,s1.gx m r->s1.getO r=some o->Kp s1 (.iface 36 f.enc))):Den cx 282 [.ptr r 0,.fn f first z] KV Kp (S m a0 x0 i0 n0):=by
 (refine gBo func282 [0,1,4,5,10] ?_;simp only[go_sem,ntmps282,f282]);have b6:=hT.len;rw[show(T.drop i0).length=T.length-i0 by rw[eC]]at hk;simp only[dK,bX]at hk;refine jW (hf m a0 x0 i0 n0 _ _ hQ b0 b2 (bB hk (λp w B h=>?_) (λg h=>?_)))
 .intro j y hj U hw Z F;simp only[cG,bA]at h;simp only[go_sem];refine .inr ⟨⟨hz _,ho _⟩,λt ht=>?_⟩;obtain⟨g1,g2,g3⟩:=h1 m p.1 y j B t (1,3) F ht
  refine Ex.loop (ι:=(σ × X × Nat × Nat) × List α) (λc=>[(0,.ptr r 0),(1,.fn f first z),(5,.list (some t) (c.2.map enc))])
   (λc=>S (m.setT t (c.2.length,3)) c.1.1 c.1.2.1 c.1.2.2.1 c.1.2.2.2)
   (fun c => Q (m.setT t (c.2.length,3)) c.1.1 c.1.2.1 c.1.2.2.1 ∧ i0 ≤ c.1.2.2.1 ∧ c.1.2.2.1 ≤ T.length ∧ c.1.2.2.2 ≤ 2000 ∧ c.2.length ≤ c.1.2.2.1 + 1 ∧ ∃ k,T.length - c.1.2.2.1 ≤ k ∧
    (if isT [44] (T.drop c.1.2.2.1) = true then dK fin [44] (fun (c : σ × List α) w n => (one c.1 w n).bind fun p w n => .ok (p.1,c.2 ++ [p.2]) w n) k (c.1.1,c.2) (T.drop c.1.2.2.1).tail c.1.2.2.2
     else Rd.ok (c.1.1,c.2) (T.drop c.1.2.2.1) c.1.2.2.2).to
      (λc w n=>∀j y,i0<=j->j<=T.length->T.drop j=w->n<=2000->Q m c.1 y j->KV (S m c.1 y j n) (.list none (c.2.map enc)))
      (λf=>∀s1 o,s1.gx m r->s1.getO r=some o->Kp s1 (.iface 36 f.enc)))
   (λc=>T.length-c.1.2.2.1) ((p.1,y,j,B),[p.2]) ?_ ?_ ?_ ?_
  .refine⟨g2,hj,U,Z,by simp only[aG,aH];omega,T.length-i0,aP,?_⟩;simp only[hw];exact h
  .simp only[go_sem]
  .exact g3
  .rintro⟨⟨a,x,i,n⟩,l⟩ ⟨q1,q2,q3,qn,q4,k,q5,O⟩;simp only at q1 q2 q3 qn q4 q5 O;obtain⟨d,fi,b4,b3⟩:=hr (m.setT t (l.length,3)) a x i n;refine bE (V:=[0,1,4,5,10]) _ _ _ _ ?_;simp only[go_sem];refine jW (kJ _ b4 q3 hT ?_);cases hx:isT [44] (T.drop i)with
   | false =>
    rw[hx]at O;simp only[cE,bR,cG]at O;obtain⟨e1,e2⟩:=h3 m a x i n t (l.length,3) g1 q1;simp only[go_sem];exact DK.mk (O i x q2 q3 rfl qn e1) e2 (A.le.forget _ _)
   | true =>
    rw[hx]at O;have b5:=mJ hx;obtain⟨k,rfl⟩:∃k',k=k'+1:=⟨k-1,by omega⟩
    simp only[bT,dK,bX,cG,nP]at O;simp only[go_sem];refine jW (iJ b3 (hf (m.setT t (l.length,3)) a x (i+1) n _ _ (hi _ _ _ _ q1) b5 qn (bB O (λp w B h=>?_) (λg h=>?_))))
    .intro j y hj U hw Z F;obtain⟨e1,e2,e3⟩:=h2 m p.1 y j B t (l.length,3) (l.length+1,3) g1 F;simp only[go_sem];refine .inl ⟨⟨hz _,ho _⟩,by decide,λq hq=>?_,e1,λq hq=>?_,by omega,((p.1,y,j,B),l++[p.2]),⟨?_,aP,U,Z,?_,k,aP,?_⟩,aP,?_,?_⟩
     .simp only[cC]at hq;subst hq;exact hz _
     .simp only[cH]at hq;obtain⟨q',_,rfl⟩:=hq;exact hz _
     .simp only[aI,aG,aH];exact e2
     .simp only[aI,aG,aH];omega
     .simp only[hw];exact h
     .simp only[cN,bN,dI]
     .simp only[aI,aG,aH];exact e3
    .intro s1 o M H;simp only[go_sem];exact aO (h s1 o (M.dropT g1) H)
 .intro s1 o M H;exact aO (h s1 o M H)
theorem aOD{α:Type}(enc:α->A)(hz:∀a,(enc a).cells.length=1)(ho:∀a,gD (enc a).cells=true)
  {T:List Tok}{fin:Fault}{d:Dc}{fi:Tok}{S:St}{r:Nat}{KV Kp:St->A->Prop}(hT:TOk T)
  (Q:St->Prop)(H:∀(s:St) (t:Nat) (v:Nat × TypeId),Q (s.setT t v)↔Q s)(one:List Tok->Nat->Rd α)(f:FuncId)(first m:List A)
  (hf : ∀ (s : St) (i n : Nat) (KV Kp : St → A → Prop),Q s → i ≤ T.length → n ≤ 2000 → (one (T.drop i) n).to (fun a w n' => ∀ j,i ≤ j → j ≤ T.length → T.drop j = w → n' ≤ 2000 → KV (s.setO r (bK T fin d fi j n')) (enc a))
   (λf=>∀s1 o,s1.gx s r->s1.getO r=some o->Kp s1 (.iface 36 f.enc))->Den cx f (first++[]++m) KV Kp (s.setO r (bK T fin d fi i n)))
  (i0 F:Nat)(hQ:Q S)(U:i0<=T.length)(Z:F<=2000)
  (M : (kP fin (fun _ => one) [] (T.drop i0) F).to
   (λl w n=>∀j,i0<=j->j<=T.length->T.drop j=w->n<=2000->KV (S.setO r (bK T fin d fi j n)) (.list none (l.map enc)))
   (λf=>∀s1 o,s1.gx S r->s1.getO r=some o->Kp s1 (.iface 36 f.enc))):Den cx 282 [.ptr r 0,.fn f first m] KV Kp (S.setO r (bK T fin d fi i0 F)):=by
 refine aOU (σ:=Unit) (X:=Unit) enc hz ho hT (λs _ _ i n=>s.setO r (bK T fin d fi i n)) (λs _ _ _=>Q s) (λ_ w n=>(one w n).bind λa w n=>.ok ((),a) w n) f first m
  (λs _ _ i n=>⟨d,fi,by rw[aL,aF rfl],by rw[nR];exact aM _⟩) (λs _ _ i n t v h O=>⟨O,(H s t v).2 h,aM _⟩)
  (λs _ _ i n t v u O h=>⟨?_,(H s t u).2 ((H s t v).1 h),?_⟩) (λs _ _ i n t v O h=>⟨(H s t v).1 h,?_⟩) (λs _ _ i h=>h) (λs _ _ i n h=>eX (gA s r)) (λs _ _ i n KV Kp h hi hn M=>?_) () () i0 F hQ U Z ?_
 .show(s.setT t v).getT t=some v;rw[dM,aF rfl]
 .show(((s.setT t v).setT t u).setO r _).ge ((s.setT t u).setO r _);exact rM (aCZ s t v u)
 .exact rM (yL O)
 .refine hf s i n KV Kp h hi hn ?_;rw[bX]at M;refine bB M (λa w n' h2 j hj z hw B=>?_) (λ_ h2=>h2);exact h2 j () hj z hw B h
 .have:=aC7 fin [44] one ((T.drop i0).length+1) [] [] (T.drop i0) F _ _ M;refine bB this (λc w n h j y hj z hw B b0=>?_) (λ_ h2=>h2);have h':=h j hj z hw B;simpa only[bA]using h'
theorem aEB{α:Type}{enc:α->A}{T:List Tok}{fin:Fault}{d:Dc}{fi:Tok}{r:Nat}{Q:St->Prop}{one:List Tok->Nat->Rd α}{f:FuncId}{args:List A}(u:∀(s:St) (o:Ob),Q s->Q (s.setO r o))
  (h:∀(s:St) (i n:Nat) (KV Kp:St->A->Prop),s.getO r=some (bK T fin d fi i n)->Q s->i<=T.length->n<=2000->(one (T.drop i) n).to (PK T i (λj m=>s.setO r (bK T fin d fi j m)) enc KV) (PB s r Kp)->Den cx f args KV Kp s) :
  ∀(s:St) (i n:Nat) (KV Kp:St->A->Prop),Q s->i<=T.length->n<=2000->(one (T.drop i) n).to (λa w z=>∀j,i<=j->j<=T.length->T.drop j=w->z<=2000->KV (s.setO r (bK T fin d fi j z)) (enc a))
   (λf=>∀s1 o,s1.gx s r->s1.getO r=some o->Kp s1 (.iface 36 f.enc))->Den cx f args KV Kp (s.setO r (bK T fin d fi i n)):=by
 intro s i n KV Kp B O M F;refine h (s.setO r _) i n KV Kp (by rw[aL,aF rfl]) (u s _ B) O M (bB F (λa w m h j S y U H=>?_) (λf h o=>?_))
 .simp only[nR];exact h j S y U H
 .exact h _ o (eX (eX (gA s r))) (by rw[aL,aF rfl])
end Go.AV
