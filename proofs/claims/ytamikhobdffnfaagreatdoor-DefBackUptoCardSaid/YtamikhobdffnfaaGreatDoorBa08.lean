/-
  Of DefBack.
-/
import Derived.Test.YtamikhobdffnfaaGreatDoorBa07
import Derived.Shelf.LaysM
import Derived.Shelf.Strconv.Itoa3
import Derived.Shelf.Strings.Fields
set_option linter.all false
set_option maxRecDepth 99999
set_option maxHeartbeats 0
namespace Go.AV
open Go Go.Proofs Tryz
theorem aOH(s:St)(x:aD)(c:UInt8)(KV Kp)(h:KV s (.int .i64 (x.count c:Nat))):Den cx 142 [.str x,.str [c]] KV Kp s:=by
 (refine aR func142 [0,1,4,5,6,9,15,24] ?_;simp only[go_sem,ntmps142,f142]);simp only[go_sem,show decide (((1:Nat):Int)=0)=false from rfl,show decide (((1:Nat):Int)=1)=true from rfl];refine aOR _ _ _ _ _ ?_;simp only[go_sem];exact aO h
theorem aPq(s:St)(l:List aD)(x:aD)(KV Kp)(S:∀r:Int,(0<=r↔x∈l)->KV s (.int .i64 r)):Den cx 198 [.list none (l.map .str),.str x] KV Kp s:=by
 refine iO λB=>?_
 have O:=B _ (bU ..);(refine aR func198 [0,1,4,5,7,8,9,16] ?_;simp only[go_sem,ntmps198,f198])
 refine Ex.loop (λi=>[(0,.list none (l.map .str)),(1,.str x),(7,.int .i64 l.length),(8,.int .i64 (i:Nat))]) (λ_=>s)
  (λi=>i<=l.length/\∀j,j<i->l[j]?≠some x) (λi=>l.length-i) 0 ⟨aU _,λj F=>by omega⟩ ?_ (aM s) ?_
 .simp only[go_sem];rfl
 .rintro i ⟨U,u⟩;refine bE (V:=[0,1,4,5,7,8,9,16]) _ _ _ _ ?_;simp only[go_sem]
  (apply aT<;>intro h)<;>simp only[go_sem,h]
  .have m:i<l.length:=gQ h;obtain⟨a,H⟩:∃a,l[i]?=some a:=⟨_,aX m⟩
   simp only[go_sem,H,m]
   (apply aT<;>intro h)<;>simp only[go_sem,h]
   .have y:x=a:=gQ h;subst y;have z:x∈l:=bZ H;exact aO (S _ ⟨λ_=>z,λ_=>by omega⟩)
   .have y:¬ x=a:=gQ h;refine⟨i+1,⟨by omega,λj F=>?_⟩,by omega,?_,aM s⟩
    .by_cases M:j=i
     .subst M;rw[H];simpa [eq_comm]using y
     .exact u j aC
    .simp only[go_sem,O.wrap (i:=i) (gQ m)]
  .have m:i=l.length:=by simp at h;omega
   have z:¬ x∈l:=by
    intro z;obtain⟨j,F,e⟩:=lN z;exact u j aC (by rw[aX F,e])
   exact aO (S _ ⟨λh=>cM h aE,λh=>cM h z⟩)
theorem aAD(s:St)(l:List aD)(x:aD)(KV Kp)(m:KV s (.bool (decide (x∈l)))):Den cx 108 [.list none (l.map .str),.str x] KV Kp s:=by
 (refine aR func108 [0,1,4] ?_;simp only[go_sem,ntmps108,f108]);refine aPq _ _ _ _ _ λr h=>?_
 simp only[go_sem];have:decide (0<=r)=decide (x∈l):=by simp only[h]
 rw[this];exact aO m
end Go.AV
section
open Go.Proofs.Tryz
namespace Go.Proofs
open Go.Shelf
def Tryz.laysM171_ren:Go.Shelf.Ren:=⟨λ|171=>169|243=>244|246=>287|283=>307|284=>308|285=>309|286=>310|129=>319|317=>318|318=>320|319=>321|320=>322|337=>329|338=>330|n=>n,λ|3=>3|9=>9|2=>2|4=>4|171=>283|0=>0|53=>284|37=>152|5=>5|173=>287|212=>303|51=>277|20=>20|213=>304|46=>282|232=>326|233=>327|n=>n,λ|17=>3|18=>4|19=>5|n=>n⟩
theorem Tryz.laysM171:Go.Proofs.LaysM.n171 Tryz.prog Tryz.laysM171_ren:={
 mixed:=by kernel_rfl
 f129:=Tryz.func319.trans (congrArg some (by kernel_rfl))
 f171:=Tryz.func169.trans (congrArg some (by kernel_rfl))
 f243:=Tryz.func244.trans (congrArg some (by kernel_rfl))
 f246:=Tryz.func287.trans (congrArg some (by kernel_rfl))
 f283:=Tryz.func307.trans (congrArg some (by kernel_rfl))
 f284:=Tryz.func308.trans (congrArg some (by kernel_rfl))
 f285:=Tryz.func309.trans (congrArg some (by kernel_rfl))
 f286:=Tryz.func310.trans (congrArg some (by kernel_rfl))
 f317:=Tryz.func318.trans (congrArg some (by kernel_rfl))
 f318:=Tryz.func320.trans (congrArg some (by kernel_rfl))
 f319:=Tryz.func321.trans (congrArg some (by kernel_rfl))
 f320:=Tryz.func322.trans (congrArg some (by kernel_rfl))
 f337:=Tryz.func329.trans (congrArg some (by kernel_rfl))
 f338:=Tryz.func330.trans (congrArg some (by kernel_rfl))
 t0:=Tryz.underlying0
 a0:=Tryz.isAgg0
 z0:=Tryz.sizeOf0
 v0:=Tryz.zeroValue0
 t2:=Tryz.underlying2
 a2:=Tryz.isAgg2
 z2:=Tryz.sizeOf2
 v2:=Tryz.zeroValue2
 t3:=Tryz.underlying3
 a3:=Tryz.isAgg3
 z3:=Tryz.sizeOf3
 v3:=Tryz.zeroValue3
 t4:=Tryz.underlying4
 a4:=Tryz.isAgg4
 z4:=Tryz.sizeOf4
 v4:=Tryz.zeroValue4
 t5:=Tryz.underlying5
 a5:=Tryz.isAgg5
 z5:=Tryz.sizeOf5
 v5:=Tryz.zeroValue5
 t9:=Tryz.underlying9
 a9:=Tryz.isAgg9
 z9:=Tryz.sizeOf9
 v9:=Tryz.zeroValue9
 t20:=Tryz.underlying20
 a20:=Tryz.isAgg20
 z20:=Tryz.sizeOf20
 v20:=Tryz.zeroValue20
 t37:=Tryz.underlying152
 a37:=Tryz.isAgg152
 z37:=Tryz.sizeOf152
 v37:=Tryz.zeroValue152
 t46:=Tryz.underlying282
 a46:=Tryz.isAgg282
 z46:=Tryz.sizeOf282
 v46:=Tryz.zeroValue282
 t51:=Tryz.underlying277
 a51:=Tryz.isAgg277
 z51:=Tryz.sizeOf277
 v51:=Tryz.zeroValue277
 t53:=Tryz.underlying284
 a53:=Tryz.isAgg284
 z53:=Tryz.sizeOf284
 v53:=Tryz.zeroValue284
 t171:=Tryz.underlying283
 a171:=Tryz.isAgg283
 z171:=Tryz.sizeOf283
 v171:=Tryz.zeroValue283
 t173:=Tryz.underlying287
 a173:=Tryz.isAgg287
 z173:=Tryz.sizeOf287
 v173:=Tryz.zeroValue287
 t212:=Tryz.underlying303
 a212:=Tryz.isAgg303
 z212:=Tryz.sizeOf303
 v212:=Tryz.zeroValue303
 t213:=Tryz.underlying304
 a213:=Tryz.isAgg304
 z213:=Tryz.sizeOf304
 t232:=Tryz.underlying326
 a232:=Tryz.isAgg326
 z232:=Tryz.sizeOf326
 v232:=Tryz.zeroValue326
 t233:=Tryz.underlying327
 a233:=Tryz.isAgg327
 z233:=Tryz.sizeOf327
 v233:=Tryz.zeroValue327
 g17:=by kernel_rfl
 g18:=by kernel_rfl
 g19:=by kernel_rfl
 i0:=by kernel_rfl
 i2:=by kernel_rfl
 i3:=by kernel_rfl
 i4:=by kernel_rfl
 i5:=by kernel_rfl
 i9:=by kernel_rfl
 i20:=by kernel_rfl
 i37:=by kernel_rfl
 i46:=by kernel_rfl
 i51:=by kernel_rfl
 i53:=by kernel_rfl
 i171:=by kernel_rfl
 i173:=by kernel_rfl
 i212:=by kernel_rfl
 i232:=by kernel_rfl
 i233:=by kernel_rfl
 m17:=by kernel_rfl
 m18:=by kernel_rfl
 m19:=by kernel_rfl }
open Go.RowKit Go.Sort Go.Lib in
theorem Tryz.strconv_Itoa (n : Int) (u : -9223372036854775808 ≤ n) (y : n ≤ 9223372036854775807) (w : World) (h : Lib.TabIs Tryz.prog w "internal/strconv.uint64pow10" .u64 Lib.pow10Tab) :
  Calls Tryz.prog 169 #[.int .i64 n] w λe w'=>e=.returned (.string ⟨(Lib.itoa n).toArray⟩)/\∃k m,w'=grow (w.drewN k) m:=Any.strconv_Itoa Tryz.laysM171 n u y w h
end Go.Proofs
namespace Go.AV
open Go Go.Proofs
theorem aRy : prog.globalNamed "internal/strconv.uint64pow10" = some 3 := by kernel_rfl
theorem aD5:aBy=Lib.pow10Tab.map (λz=>A.int .u64 z):=by kernel_rfl
theorem aDm {P : Program} {f : FuncId} {fn : Func} {c : Code} (m : P.funcs[f]? = some fn) (u : fn.body = some c) (h : (fn.name == "runtime.NumGoroutine") = false) (vals : Array Value) (w : World) :
  (callFunc f vals).run P w=.ok (.enter f vals) w:=by
 simp only[callFunc,bW,run_program,bV,m,h,cE,↓reduceIte,u,Option.isNone_some,cI]
theorem aB4(n:Int)(h0:-9223372036854775808<=n)(H:n<=9223372036854775807)(s:St)(KV Kp:St->A->Prop)(Z:KV s (.str (Lib.itoa n))):Den cx 169 [.int .i64 n] KV Kp s:=by
 refine aO0 (λvals w=>?_) λF g w vals hR M=>?_
 .exact aDm (P:=prog) func169 rfl rfl vals w
 .obtain⟨v,z,U⟩:=M.get (j:=0) rfl;have hl:=M.1
  have B:vals=[.int .i64 n]:=by
   match vals,hl,z with
   | [x],_,h=>simp only[lM,bQ]at h;subst h;rw[U.int_inv]
  subst B
  have u : Lib.TabIs prog w "internal/strconv.uint64pow10" .u64 Lib.pow10Tab := by
   obtain⟨pre,ty,fr,H,h2,h3,h4,O⟩:=hR.gpi (b:=3) (cs:=aBy) rfl;unfold Lib.TabIs World.var?;rw[aRy];simp only[Option.bind_some,H,bQ];congr 1;apply List.ext_getElem?;intro i;by_cases m:i<aBy.length
   .have y:i<pre.length:=by rw[h3];exact m
    have S:aBy[i]?=some (.int .u64 (Lib.pow10Tab[i]'(by rw[aD5]at m;simpa using m))):=by
     rw[aX m];simp[aD5]
    have:=O i _ _ S (aX y);rw[aX y,this.int_inv];rw[aD5]at m;simp only[aK]at m;simp[m]
   .rw[sG aC,sG (by rw[aD5]at m;simpa using m)]
  refine Calls.mono (strconv_Itoa n h0 H w u) λe w' y=>?_
  obtain⟨rfl,k,os,rfl⟩:=y;refine⟨_,_,rfl,λb hb=>?_,rfl,.str _,Z⟩;show(w.heap++os)[b]?=w.heap[b]?;rw[Array.getElem?_append_left hb]
end Go.AV
end
section
open Go.Proofs.Tryz
namespace Go.Proofs
open Go.Shelf
def Tryz.lays157_ren:Go.Shelf.Ren:=⟨λ|157=>197|229=>264|199=>265|261=>296|311=>312|312=>313|n=>n,λ|9=>9|31=>24|3=>3|5=>5|4=>4|119=>255|0=>0|40=>257|152=>274|21=>21|154=>276|51=>277|141=>279|196=>292|193=>289|198=>295|49=>293|194=>290|201=>298|226=>306|46=>282|227=>307|n=>n,λ|0=>0|6=>2|n=>n⟩
theorem Tryz.lays157:Go.Proofs.Lays.n157 Tryz.prog Tryz.lays157_ren:={
 mixed:=by kernel_rfl
 f157:=Tryz.func197.trans (congrArg some (by kernel_rfl))
 f199:=Tryz.func265.trans (congrArg some (by kernel_rfl))
 f229:=Tryz.func264.trans (congrArg some (by kernel_rfl))
 f261:=Tryz.func296.trans (congrArg some (by kernel_rfl))
 f311:=Tryz.func312.trans (congrArg some (by kernel_rfl))
 f312:=Tryz.func313.trans (congrArg some (by kernel_rfl))
 t0:=Tryz.underlying0
 a0:=Tryz.isAgg0
 z0:=Tryz.sizeOf0
 v0:=Tryz.zeroValue0
 t3:=Tryz.underlying3
 a3:=Tryz.isAgg3
 z3:=Tryz.sizeOf3
 v3:=Tryz.zeroValue3
 t4:=Tryz.underlying4
 a4:=Tryz.isAgg4
 z4:=Tryz.sizeOf4
 v4:=Tryz.zeroValue4
 t5:=Tryz.underlying5
 a5:=Tryz.isAgg5
 z5:=Tryz.sizeOf5
 v5:=Tryz.zeroValue5
 t9:=Tryz.underlying9
 a9:=Tryz.isAgg9
 z9:=Tryz.sizeOf9
 v9:=Tryz.zeroValue9
 t21:=Tryz.underlying21
 a21:=Tryz.isAgg21
 z21:=Tryz.sizeOf21
 v21:=Tryz.zeroValue21
 t31:=Tryz.underlying24
 a31:=Tryz.isAgg24
 z31:=Tryz.sizeOf24
 v31:=Tryz.zeroValue24
 t40:=Tryz.underlying257
 a40:=Tryz.isAgg257
 z40:=Tryz.sizeOf257
 v40:=Tryz.zeroValue257
 t46:=Tryz.underlying282
 a46:=Tryz.isAgg282
 z46:=Tryz.sizeOf282
 v46:=Tryz.zeroValue282
 t49:=Tryz.underlying293
 a49:=Tryz.isAgg293
 z49:=Tryz.sizeOf293
 v49:=Tryz.zeroValue293
 t51:=Tryz.underlying277
 a51:=Tryz.isAgg277
 z51:=Tryz.sizeOf277
 v51:=Tryz.zeroValue277
 t119:=Tryz.underlying255
 a119:=Tryz.isAgg255
 z119:=Tryz.sizeOf255
 t141:=Tryz.underlying279
 a141:=Tryz.isAgg279
 z141:=Tryz.sizeOf279
 v141:=Tryz.zeroValue279
 t152:=Tryz.underlying274
 a152:=Tryz.isAgg274
 z152:=Tryz.sizeOf274
 v152:=Tryz.zeroValue274
 t154:=Tryz.underlying276
 a154:=Tryz.isAgg276
 z154:=Tryz.sizeOf276
 v154:=Tryz.zeroValue276
 t193:=Tryz.underlying289
 a193:=Tryz.isAgg289
 z193:=Tryz.sizeOf289
 v193:=Tryz.zeroValue289
 t194:=Tryz.underlying290
 a194:=Tryz.isAgg290
 z194:=Tryz.sizeOf290
 v194:=Tryz.zeroValue290
 t196:=Tryz.underlying292
 a196:=Tryz.isAgg292
 z196:=Tryz.sizeOf292
 v196:=Tryz.zeroValue292
 t198:=Tryz.underlying295
 a198:=Tryz.isAgg295
 z198:=Tryz.sizeOf295
 v198:=Tryz.zeroValue295
 t201:=Tryz.underlying298
 a201:=Tryz.isAgg298
 z201:=Tryz.sizeOf298
 v201:=Tryz.zeroValue298
 t226:=Tryz.underlying306
 a226:=Tryz.isAgg306
 z226:=Tryz.sizeOf306
 v226:=Tryz.zeroValue306
 t227:=Tryz.underlying307
 a227:=Tryz.isAgg307
 z227:=Tryz.sizeOf307
 v227:=Tryz.zeroValue307
 g0:=by kernel_rfl
 g6:=by kernel_rfl }
open Go.RowKit Go.Lib in
theorem Tryz.strings_Fields (s : ByteArray) (w : World) (u : s.size < 4294967281) (h : ∀ (j : Nat) b,s.data.toList[j]? = some b → b.toNat < 128) (m : Lib.TabIs Tryz.prog w "strings.asciiSpace" .u8 Lib.asciiSpaceTab) :
  Calls Tryz.prog 197 #[.string s] w λe w' =>
   e=.returned (.slice (some ⟨w.heap.size,0,none⟩) (Lib.fields s.data.toList).length (Lib.fields s.data.toList).length)/\w'=w.alloc (.cells ((Lib.fields s.data.toList).map λl=>Value.string ⟨l.toArray⟩).toArray 9):=Any.strings_Fields Tryz.lays157 (by kernel_rfl) (by kernel_rfl) s w u h m
end Go.Proofs
namespace Go.AV
open Go Go.Proofs
theorem R.known{C:Ctx}{F:Fr}{g:Gh}{s:St}{w w':World}(h:R C F g s w)(z:∀b,b<w.heap.size->w'.heap[b]?=w.heap[b]?)(H:(w'.os,w'.output)=(w.os,w.output))
  {b:Nat}(S:w.heap.size<=b){vs rest:List Value}{e:TypeId}{fr:Nat × Nat}(M:w'.heap[b]?=some (.cells (vs++rest).toArray e fr)) :
  R C F (g.know b vs) s w'/\g.le (g.know b vs):=by
 have O:g.pi b=none:=by
  cases m:g.pi b with
  | none=>rfl
  | some pre=>have:=h.lt_pi m;omega
 have y:=aC8 O vs
 refine⟨(h.keep z H).ghost y ?_ ?_ ?_ rfl rfl (λc o ho=>by
  have:c≠b:=by have:=h.lt_frm ho;omega
  simp only[Gh.know,this,↓reduceIte]),y⟩
 .intro c k u m;have:k≠b:=by have:=h.bet c k u;omega
  simp only[Gh.know,this,↓reduceIte];exact m
 .intro c pre m;by_cases u:c=b
  .subst u;simp only[Gh.know,↓reduceIte,bQ]at m;subst m;exact⟨rest,e,fr,M⟩
  .simp only[Gh.know,u,↓reduceIte]at m;rw[z _ (h.lt_pi m)];exact h.pis c pre m
 .intro t n e v c xs _ _ u B;have:c≠b:=by have:=h.lt_pi B;omega
  simp only[Gh.know,this,↓reduceIte];exact B
theorem aUK : prog.globalNamed "strings.asciiSpace" = some 0 := by kernel_rfl
theorem aDP:aBw=Lib.asciiSpaceTab.map (λz=>A.int .u8 z):=by kernel_rfl
def aHY(x:aD):Value:=.string ⟨x.toArray⟩
theorem aFA(x:aD)(l:List aD)(hl:Lib.fields x=l)(hn:l.length<=1000)(hx:x.length<4294967281)(ha:∀c,c∈x->c.toNat<128)(s:St)(KV Kp:St->A->Prop)(hk:KV s (.list none (l.map .str))):Den cx 197 [.str x] KV Kp s:=by
 intro F g w vals hR M;change OutV cx F g KV Kp ((callFunc 197 vals.toArray).run prog w);rw[aDm (P:=prog) func197 rfl rfl vals.toArray w];obtain⟨v,b0,hr⟩:=M.get (j:=0) rfl;have Z:=M.1
 have b2:vals=[.string ⟨x.toArray⟩]:=by
  match vals,Z,b0 with
  | [y],_,h=>simp only[lM,bQ]at h;subst h;rw[hr.str_inv]
 subst b2
 have B : Lib.TabIs prog w "strings.asciiSpace" .u8 Lib.asciiSpaceTab := by
  obtain⟨pre,ty,fr,h1,h2,h3,h4,h5⟩:=hR.gpi (b:=0) (cs:=aBw) rfl;unfold Lib.TabIs World.var?;rw[aUK];simp only[Option.bind_some,h1,bQ];congr 1;apply List.ext_getElem?;intro i;by_cases m:i<aBw.length
  .have u:i<pre.length:=by rw[h3];exact m
   have S:aBw[i]?=some (.int .u8 (Lib.asciiSpaceTab[i]'(by rw[aDP]at m;simpa using m))):=by
    rw[aX m];simp[aDP]
   have:=h5 i _ _ S (aX u);rw[aX u,this.int_inv];rw[aDP]at m;simp only[aK]at m;simp[m]
  .rw[sG aC,sG (by rw[aDP]at m;simpa using m)]
 refine Calls.mono (strings_Fields ⟨x.toArray⟩ w (show x.toArray.size<4294967281 by simpa using hx) (λj b z=>ha b (bZ (gQ z))) B) λe w' u=>?_
 obtain⟨rfl,rfl⟩:=u;have e1:Lib.fields (⟨x.toArray⟩:ByteArray).data.toList=l:=by rw[<-hl]
 rw[e1]
 have O:∀b,b<w.heap.size->(w.alloc (.cells (l.map λl=>Value.string ⟨l.toArray⟩).toArray 9)).heap[b]?=w.heap[b]?:=λb hb=>by
  simp only[World.alloc];rw[Array.getElem?_push_lt hb];exact(aBM hb).symm
 obtain⟨U,b3⟩:=hR.known (vs:=l.map aHY) (rest:=[]) (e:=9) (fr:=(0,0)) O rfl (aV _) (by
  simp only[World.alloc,eH];rw[Array.getElem?_push_size];rfl)
 refine⟨_,_,s,b3,U,?_,hk⟩
 have H:Rz (g.know w.heap.size (l.map aHY)) (.list none (l.map .str)) (.slice (some ⟨w.heap.size,0,none⟩) (l.map A.str).length l.length):=by
  refine .list none _ w.heap.size 0 1 l.length (l.map aHY) (by simp[Gh.know]) bJ bJ (by simp only[maxLen];omega) ?_ ?_ ?_ (λt h=>by cases h)
  .intro y hy;obtain⟨p,_,rfl⟩:=cH.1 hy;rfl
  .intro y hy c S;obtain⟨p,_,rfl⟩:=cH.1 hy;simp only[A.cells,cC]at S;subst S;rfl
  .intro i y j c v m z M;rw[lO]at m;obtain⟨p,u,rfl⟩:=sF.1 m;simp only[A.cells]at z
   obtain rfl:j=0:=by
    have:=(eF.1 z).1;simp at this;omega
   simp only[lM,bQ]at z;subst z;simp only[fH,Nat.mul_one,Nat.add_zero,lO,u,nO,bQ]at M;subst M;exact .str p
 rw[aK]at H;exact H
end Go.AV
end
