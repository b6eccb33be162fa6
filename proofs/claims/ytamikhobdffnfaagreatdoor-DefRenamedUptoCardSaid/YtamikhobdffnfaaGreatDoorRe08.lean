/-
  Of DefRenamed.
-/
import Derived.Test.YtamikhobdffnfaaGreatDoorRe07
import Derived.Shelf.LaysM
import Derived.Shelf.Strconv.Itoa3
import Derived.Shelf.Strings.Fields
set_option linter.all false
set_option maxRecDepth 99999
set_option maxHeartbeats 0
namespace Go.AV
open Go Go.Proofs Tryz
theorem aOn(s:St)(x:aC)(KV Kp)(hx:x.length<=4294967296)(hk:KV s (.tuple [(pL x).1.enc,.int .i64 (pL x).2.1,.bool (pL x).2.2])):Den cx 302 [.str x] KV Kp s:=by
 (refine aO func302 [0,2,3,4,5,6,28] ?_;simp only[go_sem,ntmps302,f302]);intro b hb;simp only[go_sem,hb];refine aKr _ _ _ (λc=>iG c.toNat) _ _ hx (λc KV Kp h=>aHp _ _ _ _ h) ?_;generalize hn:(x.takeWhile λc=>iG c.toNat).length=n at hk;have hnl:n<=x.length:=by rw[<-hn];exact(List.takeWhile_sublist _).length_le
 simp only[go_sem,hnl];refine aM9 _ _ 48 _ _ aD ?_;simp only[go_sem];generalize hg:(x.take n).dropWhile (mO 48)=g at hk
 have bad:(10<g.length\/(∃c,x[n]?=some c/\eY c.toNat=true))->pL x=(⟨0,[],0,0,0⟩,0,false):=by
  intro hh;simp only[pL,hn,hg,if_pos hh]
 have good:¬ (10<g.length\/(∃c,x[n]?=some c/\eY c.toNat=true))->pL x=(⟨2,[],gA g,0,0⟩,n,decide (gA g<=2147483647)):=by
  intro hh;simp only[pL,hn,hg,if_neg hh]
 have hdg:xW g:=by
  intro d hd;rw[<-hg]at hd;have h1:=(List.dropWhile_sublist _).mem hd;rw[<-hn]at h1
  have h2:d∈x.takeWhile λc=>iG c.toNat:=by
   have:=qX (l:=x) h1
   have e:x.take (x.takeWhile λc=>iG c.toNat).length=x.takeWhile λc=>iG c.toNat:=by
    conv=>lhs;arg 2;rw[<-List.takeWhile_append_dropWhile (p:=λc=>iG c.toNat) (l:=x)]
    rw[List.take_left'];rfl
   rw[e]at h1;exact h1
  have h3:=iH.1 (List.all_takeWhile (p:=λc:UInt8=>iG c.toNat) (l:=x)) d h2;simp only[iG,cL,cU]at h3;omega
 (refine aQ (λh=>?_) (λh=>?_))<;>simp only[go_sem,h,hb]
 .rw[bad (.inl (by simp at h;omega))]at hk;exact aP hk (dS hb)
 .have hg10:¬ 10<g.length:=by simp at h;omega
  (refine aQ (λh=>?_) (λh=>?_))<;>simp only[go_sem,h,hb]
  .have hlt:n<x.length:=by simpa using h
   obtain⟨c,hc⟩:∃c,x[n]?=some c:=⟨_,aY hlt⟩
   simp only[go_sem,hc,hlt,hb];refine aAP _ _ _ _ ?_;simp only[go_sem,hb];(refine aQ (λh=>?_) (λh=>?_))<;>simp only[go_sem,h,hb]
   .rw[bad (.inr ⟨c,hc,h⟩)]at hk;exact aP hk (dS hb)
   .have hno:¬ (10<g.length\/(∃c,x[n]?=some c/\eY c.toNat=true)):=by
     rintro(h1|⟨c',h1,h2⟩)
     .exact hg10 h1
     .rw[hc]at h1;cases h1;rw[h]at h2;cases h2
    have hgd:=good hno;rw[hgd]at hk;have m1:(48::g).length<=11:=by simp;omega
    refine⟨by unfold maxLen;omega,?_⟩
    refine aHF _ _ _ _ bD m1 (λd hd=>by
     simp only[eB]at hd;rcases hd with rfl|hd
     .decide
     .exact hdg d hd) ?_
    have m2:gA (48::g)=gA g:=rfl;simp only[go_sem,hb,m2];have m3:decide (((gA g:Nat):Int)<=2147483647)=decide (gA g<=2147483647):=by congr 1;simp only[eq_iff_iff];omega
    rw[m3];exact aP hk (dS hb)
  .have hno:¬ (10<g.length\/(∃c,x[n]?=some c/\eY c.toNat=true)):=by
    rintro(h1|⟨c',h1,h2⟩)
    .exact hg10 h1
    .have:=(dV.1 h1).1;simp at h;omega
   have hgd:=good hno;rw[hgd]at hk;have m1:(48::g).length<=11:=by simp;omega
   refine⟨by unfold maxLen;omega,?_⟩
   refine aHF _ _ _ _ bD m1 (λd hd=>by
    simp only[eB]at hd;rcases hd with rfl|hd
    .decide
    .exact hdg d hd) ?_
   have m2:gA (48::g)=gA g:=rfl;simp only[go_sem,hb,m2];have m3:decide (((gA g:Nat):Int)<=2147483647)=decide (gA g<=2147483647):=by congr 1;simp only[eq_iff_iff];omega
   rw[m3];exact aP hk (dS hb)
theorem aNj(s:St)(x:aC)(c:UInt8)(KV Kp)(hk:KV s (.int .i64 (x.count c:Nat))):Den cx 142 [.str x,.str [c]] KV Kp s:=by
 (refine aO func142 [0,1,4,5,6,9,15,24] ?_;simp only[go_sem,ntmps142,f142]);simp only[go_sem,show decide (((1:Nat):Int)=0)=false from rfl,show decide (((1:Nat):Int)=1)=true from rfl];refine aM4 _ _ _ _ _ ?_;simp only[go_sem];exact aN hk
theorem aNz(s:St)(l:List aC)(x:aC)(KV Kp)(hk:∀r:Int,(0<=r↔x∈l)->KV s (.int .i64 r)):Den cx 198 [.list none (l.map .str),.str x] KV Kp s:=by
 refine jD λhz1=>?_
 have hlw:=hz1 _ (bY ..);(refine aO func198 [0,1,4,5,7,8,9,16] ?_;simp only[go_sem,ntmps198,f198])
 refine Ex.loop (λi=>[(0,.list none (l.map .str)),(1,.str x),(7,.int .i64 l.length),(8,.int .i64 (i:Nat))]) (λ_=>s)
  (λi=>i<=l.length/\∀j,j<i->l[j]?≠some x) (λi=>l.length-i) 0 ⟨aU _,λj hj=>by omega⟩ ?_ (aM s) ?_
 .simp only[go_sem];rfl
 .rintro i ⟨hi,hall⟩;refine bG (V:=[0,1,4,5,7,8,9,16]) _ _ _ _ ?_;simp only[go_sem];(refine aQ (λh=>?_) (λh=>?_))<;>simp only[go_sem,h]
  .have hix:i<l.length:=by simpa using h
   obtain⟨a,ha⟩:∃a,l[i]?=some a:=⟨_,aY hix⟩
   simp only[go_sem,ha,hix];(refine aQ (λh=>?_) (λh=>?_))<;>simp only[go_sem,h]
   .have hxa:x=a:=by simpa using h
    subst hxa;have hm:x∈l:=cM ha;exact aN (hk _ ⟨λ_=>hm,λ_=>by omega⟩)
   .have hxa:¬ x=a:=by simpa using h
    refine⟨i+1,⟨by omega,λj hj=>?_⟩,by omega,?_,aM s⟩
    .by_cases hji:j=i
     .subst hji;rw[ha];simpa [eq_comm]using hxa
     .exact hall j aB
    .simp only[go_sem,hlw.wrap (i:=i) (by simpa using hix)]
  .have hix:i=l.length:=by simp at h;omega
   have hm:¬ x∈l:=by
    intro hm;obtain⟨j,hj,e⟩:=kN hm;exact hall j aB (by rw[aY hj,e])
   exact aN (hk _ ⟨λh=>absurd h aD,λh=>absurd h hm⟩)
theorem yV(s:St)(l:List aC)(x:aC)(KV Kp)(hk:KV s (.bool (decide (x∈l)))):Den cx 108 [.list none (l.map .str),.str x] KV Kp s:=by
 (refine aO func108 [0,1,4] ?_;simp only[go_sem,ntmps108,f108]);refine aNz _ _ _ _ _ λr hr=>?_
 simp only[go_sem];have:decide (0<=r)=decide (x∈l):=by simp only[hr]
 rw[this];exact aN hk
end Go.AV
section
open Go.Proofs.Tryz
namespace Go.Proofs
open Go.Shelf
def laysM171_ren:Go.Shelf.Ren:=⟨λ|171=>169|243=>244|246=>287|283=>307|284=>308|285=>309|286=>310|129=>319|317=>318|318=>320|319=>321|320=>322|337=>329|338=>330|n=>n,λ|3=>3|9=>9|2=>2|4=>4|171=>283|0=>0|53=>284|37=>152|5=>5|173=>287|212=>303|51=>277|20=>20|213=>304|46=>282|232=>326|233=>327|n=>n,λ|17=>3|18=>4|19=>5|n=>n⟩
theorem laysM171:Go.Proofs.LaysM.n171 prog laysM171_ren:={
 mixed:=by kernel_rfl
 f129:=Tryz.func319.trans (congrArg some (by kernel_rfl))
 f171:=func169.trans (congrArg some (by kernel_rfl))
 f243:=Tryz.func244.trans (congrArg some (by kernel_rfl))
 f246:=Tryz.func287.trans (congrArg some (by kernel_rfl))
 f283:=Tryz.func307.trans (congrArg some (by kernel_rfl))
 f284:=Tryz.func308.trans (congrArg some (by kernel_rfl))
 f285:=Tryz.func309.trans (congrArg some (by kernel_rfl))
 f286:=Tryz.func310.trans (congrArg some (by kernel_rfl))
 f317:=Tryz.func318.trans (congrArg some (by kernel_rfl))
 f318:=Tryz.func320.trans (congrArg some (by kernel_rfl))
 f319:=Tryz.func321.trans (congrArg some (by kernel_rfl))
 f320:=Tryz.func322.trans (congrArg some (by kernel_rfl))
 f337:=Tryz.func329.trans (congrArg some (by kernel_rfl))
 f338:=Tryz.func330.trans (congrArg some (by kernel_rfl))
 t0:=underlying0
 a0:=isAgg0
 z0:=sizeOf0
 v0:=zeroValue0
 t2:=underlying2
 a2:=isAgg2
 z2:=sizeOf2
 v2:=zeroValue2
 t3:=underlying3
 a3:=isAgg3
 z3:=sizeOf3
 v3:=zeroValue3
 t4:=underlying4
 a4:=isAgg4
 z4:=sizeOf4
 v4:=zeroValue4
 t5:=underlying5
 a5:=isAgg5
 z5:=sizeOf5
 v5:=zeroValue5
 t9:=underlying9
 a9:=isAgg9
 z9:=sizeOf9
 v9:=zeroValue9
 t20:=underlying20
 a20:=isAgg20
 z20:=sizeOf20
 v20:=zeroValue20
 t37:=underlying152
 a37:=isAgg152
 z37:=sizeOf152
 v37:=zeroValue152
 t46:=underlying282
 a46:=isAgg282
 z46:=sizeOf282
 v46:=zeroValue282
 t51:=underlying277
 a51:=isAgg277
 z51:=sizeOf277
 v51:=zeroValue277
 t53:=underlying284
 a53:=isAgg284
 z53:=sizeOf284
 v53:=zeroValue284
 t171:=underlying283
 a171:=isAgg283
 z171:=sizeOf283
 v171:=zeroValue283
 t173:=underlying287
 a173:=isAgg287
 z173:=sizeOf287
 v173:=zeroValue287
 t212:=underlying303
 a212:=isAgg303
 z212:=sizeOf303
 v212:=zeroValue303
 t213:=underlying304
 a213:=isAgg304
 z213:=sizeOf304
 t232:=underlying326
 a232:=isAgg326
 z232:=sizeOf326
 v232:=zeroValue326
 t233:=underlying327
 a233:=isAgg327
 z233:=sizeOf327
 v233:=zeroValue327
 g17:=by kernel_rfl
 g18:=by kernel_rfl
 g19:=by kernel_rfl
 i0:=by kernel_rfl
 i2:=by kernel_rfl
 i3:=by kernel_rfl
 i4:=by kernel_rfl
 i5:=by kernel_rfl
 i9:=by kernel_rfl
 i20:=by kernel_rfl
 i37:=by kernel_rfl
 i46:=by kernel_rfl
 i51:=by kernel_rfl
 i53:=by kernel_rfl
 i171:=by kernel_rfl
 i173:=by kernel_rfl
 i212:=by kernel_rfl
 i232:=by kernel_rfl
 i233:=by kernel_rfl
 m17:=by kernel_rfl
 m18:=by kernel_rfl
 m19:=by kernel_rfl }
open Go.RowKit Go.Sort Go.Lib in
theorem strconv_Itoa (n : Int) (h0 : -9223372036854775808 ≤ n) (h1 : n ≤ 9223372036854775807) (w : World) (htab : Lib.TabIs prog w "internal/strconv.uint64pow10" .u64 Lib.pow10Tab) :
  Calls prog 169 #[.int .i64 n] w λe w'=>e=.returned (.string ⟨(Lib.itoa n).toArray⟩)/\∃k os,w'=grow (w.drewN k) os:=Any.strconv_Itoa laysM171 n h0 h1 w htab
end Go.Proofs
namespace Go.AV
open Go Go.Proofs
theorem aPb : prog.globalNamed "internal/strconv.uint64pow10" = some 3 := by kernel_rfl
theorem aCS:aAz=Lib.pow10Tab.map (λz=>A.int .u64 z):=by kernel_rfl
theorem aCg {P : Program} {f : FuncId} {fn : Func} {c : Code} (hf : P.funcs[f]? = some fn) (hb : fn.body = some c) (hname : (fn.name == "runtime.NumGoroutine") = false) (vals : Array Value) (w : World) :
  (callFunc f vals).run P w=.ok (.enter f vals) w:=by
 simp only[callFunc,bP,run_program,bN,hf,hname,cJ,↓reduceIte,hb,Option.isNone_some,cD]
theorem aA0(n:Int)(h0:-9223372036854775808<=n)(h1:n<=9223372036854775807)(s:St)(KV Kp:St->A->Prop)(hk:KV s (.str (Lib.itoa n))):Den cx 169 [.int .i64 n] KV Kp s:=by
 refine aM0 (λvals w=>?_) λF g w vals hR hv=>?_
 .exact aCg (P:=prog) func169 rfl rfl vals w
 .obtain⟨v,hv0,hr⟩:=hv.get (j:=0) rfl;have hl:=hv.1
  have hvs:vals=[.int .i64 n]:=by
   match vals,hl,hv0 with
   | [x],_,h=>simp only[kM,bJ]at h;subst h;rw[hr.int_inv]
  subst hvs
  have htab : Lib.TabIs prog w "internal/strconv.uint64pow10" .u64 Lib.pow10Tab := by
   obtain⟨pre,ty,fr,h1,h2,h3,h4,h5⟩:=hR.gpi (b:=3) (cs:=aAz) rfl;unfold Lib.TabIs World.var?;rw[aPb];simp only[Option.bind_some,h1,bJ];congr 1;apply List.ext_getElem?;intro i;by_cases hi:i<aAz.length
   .have hp:i<pre.length:=by rw[h3];exact hi
    have hc:aAz[i]?=some (.int .u64 (Lib.pow10Tab[i]'(by rw[aCS]at hi;simpa using hi))):=by
     rw[aY hi];simp[aCS]
    have:=h5 i _ _ hc (aY hp);rw[aY hp,this.int_inv];rw[aCS]at hi;simp only[aH]at hi;simp[hi]
   .rw[qW aB,qW (by rw[aCS]at hi;simpa using hi)]
  refine Calls.mono (strconv_Itoa n h0 h1 w htab) λe w' hp=>?_
  obtain⟨rfl,k,os,rfl⟩:=hp;refine⟨_,_,rfl,λb hb=>?_,rfl,.str _,hk⟩;show(w.heap++os)[b]?=w.heap[b]?;rw[Array.getElem?_append_left hb]
end Go.AV
end
section
open Go.Proofs.Tryz
namespace Go.Proofs
open Go.Shelf
def lays157_ren:Go.Shelf.Ren:=⟨λ|157=>197|229=>264|199=>265|261=>296|311=>312|312=>313|n=>n,λ|9=>9|31=>24|3=>3|5=>5|4=>4|119=>255|0=>0|40=>257|152=>274|21=>21|154=>276|51=>277|141=>279|196=>292|193=>289|198=>295|49=>293|194=>290|201=>298|226=>306|46=>282|227=>307|n=>n,λ|0=>0|6=>2|n=>n⟩
theorem lays157:Go.Proofs.Lays.n157 prog lays157_ren:={
 mixed:=by kernel_rfl
 f157:=func197.trans (congrArg some (by kernel_rfl))
 f199:=Tryz.func265.trans (congrArg some (by kernel_rfl))
 f229:=Tryz.func264.trans (congrArg some (by kernel_rfl))
 f261:=Tryz.func296.trans (congrArg some (by kernel_rfl))
 f311:=Tryz.func312.trans (congrArg some (by kernel_rfl))
 f312:=Tryz.func313.trans (congrArg some (by kernel_rfl))
 t0:=underlying0
 a0:=isAgg0
 z0:=sizeOf0
 v0:=zeroValue0
 t3:=underlying3
 a3:=isAgg3
 z3:=sizeOf3
 v3:=zeroValue3
 t4:=underlying4
 a4:=isAgg4
 z4:=sizeOf4
 v4:=zeroValue4
 t5:=underlying5
 a5:=isAgg5
 z5:=sizeOf5
 v5:=zeroValue5
 t9:=underlying9
 a9:=isAgg9
 z9:=sizeOf9
 v9:=zeroValue9
 t21:=underlying21
 a21:=isAgg21
 z21:=sizeOf21
 v21:=zeroValue21
 t31:=underlying24
 a31:=isAgg24
 z31:=sizeOf24
 v31:=zeroValue24
 t40:=underlying257
 a40:=isAgg257
 z40:=sizeOf257
 v40:=zeroValue257
 t46:=underlying282
 a46:=isAgg282
 z46:=sizeOf282
 v46:=zeroValue282
 t49:=underlying293
 a49:=isAgg293
 z49:=sizeOf293
 v49:=zeroValue293
 t51:=underlying277
 a51:=isAgg277
 z51:=sizeOf277
 v51:=zeroValue277
 t119:=underlying255
 a119:=isAgg255
 z119:=sizeOf255
 t141:=underlying279
 a141:=isAgg279
 z141:=sizeOf279
 v141:=zeroValue279
 t152:=underlying274
 a152:=isAgg274
 z152:=sizeOf274
 v152:=zeroValue274
 t154:=underlying276
 a154:=isAgg276
 z154:=sizeOf276
 v154:=zeroValue276
 t193:=underlying289
 a193:=isAgg289
 z193:=sizeOf289
 v193:=zeroValue289
 t194:=underlying290
 a194:=isAgg290
 z194:=sizeOf290
 v194:=zeroValue290
 t196:=underlying292
 a196:=isAgg292
 z196:=sizeOf292
 v196:=zeroValue292
 t198:=underlying295
 a198:=isAgg295
 z198:=sizeOf295
 v198:=zeroValue295
 t201:=underlying298
 a201:=isAgg298
 z201:=sizeOf298
 v201:=zeroValue298
 t226:=underlying306
 a226:=isAgg306
 z226:=sizeOf306
 v226:=zeroValue306
 t227:=underlying307
 a227:=isAgg307
 z227:=sizeOf307
 v227:=zeroValue307
 g0:=by kernel_rfl
 g6:=by kernel_rfl }
open Go.RowKit Go.Lib in
theorem strings_Fields (s : ByteArray) (w : World) (hs : s.size < 4294967281) (hascii : ∀ (j : Nat) b,s.data.toList[j]? = some b → b.toNat < 128) (htab : Lib.TabIs prog w "strings.asciiSpace" .u8 Lib.asciiSpaceTab) :
  Calls prog 197 #[.string s] w λe w' =>
   e=.returned (.slice (some ⟨w.heap.size,0,none⟩) (Lib.fields s.data.toList).length (Lib.fields s.data.toList).length)/\w'=w.alloc (.cells ((Lib.fields s.data.toList).map λl=>Value.string ⟨l.toArray⟩).toArray 9):=Any.strings_Fields lays157 (by kernel_rfl) (by kernel_rfl) s w hs hascii htab
end Go.Proofs
namespace Go.AV
open Go Go.Proofs
theorem R.known{C:Ctx}{F:Fr}{g:Gh}{s:St}{w w':World}(h:R C F g s w)(hk:∀b,b<w.heap.size->w'.heap[b]?=w.heap[b]?)(he:(w'.os,w'.output)=(w.os,w.output))
  {b:Nat}(hb:w.heap.size<=b){vs rest:List Value}{e:TypeId}{fr:Nat × Nat}(hx:w'.heap[b]?=some (.cells (vs++rest).toArray e fr)) :
  R C F (g.know b vs) s w'/\g.le (g.know b vs):=by
 have hn:g.pi b=none:=by
  cases hp:g.pi b with
  | none=>rfl
  | some pre=>have:=h.lt_pi hp;omega
 have hle:=aB7 hn vs
 refine⟨(h.keep hk he).ghost hle ?_ ?_ ?_ rfl rfl (λc o ho=>by
  have:c≠b:=by have:=h.lt_frm ho;omega
  simp only[Gh.know,this,↓reduceIte]),hle⟩
 .intro c k hc hp;have:k≠b:=by have:=h.bet c k hc;omega
  simp only[Gh.know,this,↓reduceIte];exact hp
 .intro c pre hp;by_cases hc:c=b
  .subst hc;simp only[Gh.know,↓reduceIte,bJ]at hp;subst hp;exact⟨rest,e,fr,hx⟩
  .simp only[Gh.know,hc,↓reduceIte]at hp;rw[hk _ (h.lt_pi hp)];exact h.pis c pre hp
 .intro t n e v c xs _ _ hc hy;have:c≠b:=by have:=h.lt_pi hy;omega
  simp only[Gh.know,this,↓reduceIte];exact hy
theorem aSY : prog.globalNamed "strings.asciiSpace" = some 0 := by kernel_rfl
theorem aCq:aAr=Lib.asciiSpaceTab.map (λz=>A.int .u8 z):=by kernel_rfl
def aGL(x:aC):Value:=.string ⟨x.toArray⟩
theorem aEy(x:aC)(l:List aC)(hl:Lib.fields x=l)(hn:l.length<=1000)(hx:x.length<4294967281)(ha:∀c,c∈x->c.toNat<128)(s:St)(KV Kp:St->A->Prop)(hk:KV s (.list none (l.map .str))):Den cx 197 [.str x] KV Kp s:=by
 intro F g w vals hR hv;change OutV cx F g KV Kp ((callFunc 197 vals.toArray).run prog w);rw[aCg (P:=prog) func197 rfl rfl vals.toArray w];obtain⟨v,hv0,hr⟩:=hv.get (j:=0) rfl;have hlv:=hv.1
 have hvs:vals=[.string ⟨x.toArray⟩]:=by
  match vals,hlv,hv0 with
  | [y],_,h=>simp only[kM,bJ]at h;subst h;rw[hr.str_inv]
 subst hvs
 have htab : Lib.TabIs prog w "strings.asciiSpace" .u8 Lib.asciiSpaceTab := by
  obtain⟨pre,ty,fr,h1,h2,h3,h4,h5⟩:=hR.gpi (b:=0) (cs:=aAr) rfl;unfold Lib.TabIs World.var?;rw[aSY];simp only[Option.bind_some,h1,bJ];congr 1;apply List.ext_getElem?;intro i;by_cases hi:i<aAr.length
  .have hp:i<pre.length:=by rw[h3];exact hi
   have hc:aAr[i]?=some (.int .u8 (Lib.asciiSpaceTab[i]'(by rw[aCq]at hi;simpa using hi))):=by
    rw[aY hi];simp[aCq]
   have:=h5 i _ _ hc (aY hp);rw[aY hp,this.int_inv];rw[aCq]at hi;simp only[aH]at hi;simp[hi]
  .rw[qW aB,qW (by rw[aCq]at hi;simpa using hi)]
 refine Calls.mono (strings_Fields ⟨x.toArray⟩ w (show x.toArray.size<4294967281 by simpa using hx) (λj b hj=>ha b (cM (by simpa using hj))) htab) λe w' hp=>?_
 obtain⟨rfl,rfl⟩:=hp;have e1:Lib.fields (⟨x.toArray⟩:ByteArray).data.toList=l:=by rw[<-hl]
 rw[e1]
 have hold:∀b,b<w.heap.size->(w.alloc (.cells (l.map λl=>Value.string ⟨l.toArray⟩).toArray 9)).heap[b]?=w.heap[b]?:=λb hb=>by
  simp only[World.alloc];rw[Array.getElem?_push_lt hb];exact(aAI hb).symm
 obtain⟨hR',hle⟩:=hR.known (vs:=l.map aGL) (rest:=[]) (e:=9) (fr:=(0,0)) hold rfl (bT _) (by
  simp only[World.alloc,eM];rw[Array.getElem?_push_size];rfl)
 refine⟨_,_,s,hle,hR',?_,hk⟩
 have key:Rz (g.know w.heap.size (l.map aGL)) (.list none (l.map .str)) (.slice (some ⟨w.heap.size,0,none⟩) (l.map A.str).length l.length):=by
  refine .list none _ w.heap.size 0 1 l.length (l.map aGL) (by simp[Gh.know]) bD bD (by simp only[maxLen];omega) ?_ ?_ ?_ (λt h=>by cases h)
  .intro y hy;obtain⟨p,_,rfl⟩:=cC.1 hy;rfl
  .intro y hy c hc;obtain⟨p,_,rfl⟩:=cC.1 hy;simp only[A.cells,bW]at hc;subst hc;rfl
  .intro i y j c v hi hj hv;rw[lB]at hi;obtain⟨p,hp,rfl⟩:=qV.1 hi;simp only[A.cells]at hj
   obtain rfl:j=0:=by
    have:=(dV.1 hj).1;simp at this;omega
   simp only[kM,bJ]at hj;subst hj;simp only[gI,Nat.mul_one,Nat.add_zero,lB,hp,mQ,bJ]at hv;subst hv;exact .str p
 rw[aH]at key;exact key
end Go.AV
end
