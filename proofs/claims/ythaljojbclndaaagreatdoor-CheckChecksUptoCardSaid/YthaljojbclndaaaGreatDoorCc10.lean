/-
  Of CheckChecks.
-/
import Derived.Test.YthaljojbclndaaaGreatDoorCc09
set_option linter.all false
set_option maxRecDepth 99999
set_option maxHeartbeats 0
namespace Go.AV
open Go Go.Proofs Tryz
theorem aOQ(l:List aC)(q:aC->Bool)(f:FuncId)(first y:List A)(s:St)(KV Kp:St->A->Prop)
  (hf:∀x,x∈l->∀KV Kp:St->A->Prop,KV s (.bool (q x))->Den cx f (first++[A.str x]++y) KV Kp s)
  (U:∀r:Int,decide (0<=r)=l.any q->KV s (.int .i64 r)):Den cx 114 [.list none (l.map A.str),.fn f first y] KV Kp s:=by
 refine hH λG=>?_
 have M:=G _ (cQ ..);clear G;(refine aN func114 pX ?_;simp only[go_sem,ntmps114,f114])
 refine Ex.loop (ι:=Nat) (λi=>[(0,.list none (l.map A.str)),(1,.fn f first y),(7,.int .i64 (l.length:Nat)),(8,.int .i64 (i:Nat))])
  (λ_=>s) (λi=>i<=l.length/\(l.take i).any q=false) (λi=>l.length-i) 0 ⟨aW _,rfl⟩ ?_ (aE _) ?_
 .simp only[go_sem]
  try exact rfl
 .rintro i ⟨hi,O⟩;refine aX (V:=pX) _ _ _ _ ?_;simp only[go_sem]
  (apply aJ<;>intro h)<;>simp only[go_sem,h]
  .have u:i<l.length:=gQ h;clear h;obtain⟨x,z⟩:=bB u;have B:x∈l:=bK z;have ht:(l.take (i+1)).any q=q x:=by rw[gJ,z,pC,O];simp
   simp only[go_sem,z,u];refine hf x B _ _ ?_;cases Z:q x
   .simp only[go_sem,z,u];exact⟨i+1,⟨u,by rw[ht,Z]⟩,by omega,M.wrap (i:=i) (gQ u),aE _⟩
   .simp only[go_sem,z,u];exact aP (U _ (by rw[jS.2 ⟨x,B,Z⟩,bW];omega))
  .have H:i=l.length:=by have:¬ i<l.length:=gQ h;omega
   subst H;rw[bT]at O;exact aP (U _ (by rw[O];rfl))
theorem aFM(l:List aC)(q:aC->Bool)(f:FuncId)(first u:List A)(s:St)(KV Kp:St->A->Prop)
  (y:∀x,x∈l->∀KV Kp:St->A->Prop,KV s (.bool (q x))->Den cx f (first++[A.str x]++u) KV Kp s)
  (z:KV s (.bool (l.any q))):Den cx 53 [.list none (l.map A.str),.fn f first u] KV Kp s:=by
 (refine aN func53 [0,1,4] ?_;simp only[go_sem,ntmps53,f53]);refine aOQ l q f first u _ _ _ y (λr B=>?_)
 simp only[go_sem,B];exact aP z
theorem aOm(l:List Below)(q:Below->Bool)(f:FuncId)(first y:List A)(s:St)(KV Kp:St->A->Prop)
  (hf:∀x,x∈l->∀KV Kp:St->A->Prop,KV s (.bool (q x))->Den cx f (first++[Below.enc x]++y) KV Kp s)
  (U:∀r:Int,decide (0<=r)=l.any q->KV s (.int .i64 r)):Den cx 182 [.list none (l.map Below.enc),.fn f first y] KV Kp s:=by
 refine hH λG=>?_
 have M:=G _ (cQ ..);clear G;(refine aN func182 pX ?_;simp only[go_sem,ntmps182,f182])
 refine Ex.loop (ι:=Nat) (λi=>[(0,.list none (l.map Below.enc)),(1,.fn f first y),(7,.int .i64 (l.length:Nat)),(8,.int .i64 (i:Nat))])
  (λ_=>s) (λi=>i<=l.length/\(l.take i).any q=false) (λi=>l.length-i) 0 ⟨aW _,rfl⟩ ?_ (aE _) ?_
 .simp only[go_sem]
  try exact rfl
 .rintro i ⟨hi,O⟩;refine aX (V:=pX) _ _ _ _ ?_;simp only[go_sem]
  (apply aJ<;>intro h)<;>simp only[go_sem,h]
  .have u:i<l.length:=gQ h;clear h;obtain⟨x,z⟩:=bB u;have B:x∈l:=bK z;have ht:(l.take (i+1)).any q=q x:=by rw[gJ,z,pC,O];simp
   simp only[go_sem,z,u];refine hf x B _ _ ?_;cases Z:q x
   .simp only[go_sem,z,u];exact⟨i+1,⟨u,by rw[ht,Z]⟩,by omega,M.wrap (i:=i) (gQ u),aE _⟩
   .simp only[go_sem,z,u];exact aP (U _ (by rw[jS.2 ⟨x,B,Z⟩,bW];omega))
  .have H:i=l.length:=by have:¬ i<l.length:=gQ h;omega
   subst H;rw[bT]at O;exact aP (U _ (by rw[O];rfl))
theorem aOS(l:List Below)(q:Below->Bool)(f:FuncId)(first u:List A)(s:St)(KV Kp:St->A->Prop)
  (y:∀x,x∈l->∀KV Kp:St->A->Prop,KV s (.bool (q x))->Den cx f (first++[Below.enc x]++u) KV Kp s)
  (z:KV s (.bool (l.any q))):Den cx 119 [.list none (l.map Below.enc),.fn f first u] KV Kp s:=by
 (refine aN func119 [0,1,4] ?_;simp only[go_sem,ntmps119,f119]);refine aOm l q f first u _ _ _ y (λr B=>?_)
 simp only[go_sem,B];exact aP z
theorem aOb(l:List Opr)(q:Opr->Bool)(f:FuncId)(first y:List A)(s:St)(KV Kp:St->A->Prop)
  (hf:∀x,x∈l->∀KV Kp:St->A->Prop,KV s (.bool (q x))->Den cx f (first++[Opr.enc x]++y) KV Kp s)
  (U:∀r:Int,decide (0<=r)=l.any q->KV s (.int .i64 r)):Den cx 183 [.list none (l.map Opr.enc),.fn f first y] KV Kp s:=by
 refine hH λG=>?_
 have M:=G _ (cQ ..);clear G;(refine aN func183 pX ?_;simp only[go_sem,ntmps183,f183])
 refine Ex.loop (ι:=Nat) (λi=>[(0,.list none (l.map Opr.enc)),(1,.fn f first y),(7,.int .i64 (l.length:Nat)),(8,.int .i64 (i:Nat))])
  (λ_=>s) (λi=>i<=l.length/\(l.take i).any q=false) (λi=>l.length-i) 0 ⟨aW _,rfl⟩ ?_ (aE _) ?_
 .simp only[go_sem]
  try exact rfl
 .rintro i ⟨hi,O⟩;refine aX (V:=pX) _ _ _ _ ?_;simp only[go_sem]
  (apply aJ<;>intro h)<;>simp only[go_sem,h]
  .have u:i<l.length:=gQ h;clear h;obtain⟨x,z⟩:=bB u;have B:x∈l:=bK z;have ht:(l.take (i+1)).any q=q x:=by rw[gJ,z,pC,O];simp
   simp only[go_sem,z,u];refine hf x B _ _ ?_;cases Z:q x
   .simp only[go_sem,z,u];exact⟨i+1,⟨u,by rw[ht,Z]⟩,by omega,M.wrap (i:=i) (gQ u),aE _⟩
   .simp only[go_sem,z,u];exact aP (U _ (by rw[jS.2 ⟨x,B,Z⟩,bW];omega))
  .have H:i=l.length:=by have:¬ i<l.length:=gQ h;omega
   subst H;rw[bT]at O;exact aP (U _ (by rw[O];rfl))
theorem aOq(l:List Opr)(q:Opr->Bool)(f:FuncId)(first u:List A)(s:St)(KV Kp:St->A->Prop)
  (y:∀x,x∈l->∀KV Kp:St->A->Prop,KV s (.bool (q x))->Den cx f (first++[Opr.enc x]++u) KV Kp s)
  (z:KV s (.bool (l.any q))):Den cx 121 [.list none (l.map Opr.enc),.fn f first u] KV Kp s:=by
 (refine aN func121 [0,1,4] ?_;simp only[go_sem,ntmps121,f121]);refine aOb l q f first u _ _ _ y (λr B=>?_)
 simp only[go_sem,B];exact aP z
theorem aOf(l:List Int)(q:Int->Bool)(f:FuncId)(first y:List A)(s:St)(KV Kp:St->A->Prop)
  (hf:∀x,x∈l->∀KV Kp:St->A->Prop,KV s (.bool (q x))->Den cx f (first++[A.int .i64 x]++y) KV Kp s)
  (U:∀r:Int,decide (0<=r)=l.any q->KV s (.int .i64 r)):Den cx 237 [.list none (l.map (A.int .i64)),.fn f first y] KV Kp s:=by
 refine hH λG=>?_
 have M:=G _ (cQ ..);clear G;(refine aN func237 pX ?_;simp only[go_sem,ntmps237,f237])
 refine Ex.loop (ι:=Nat) (λi=>[(0,.list none (l.map (A.int .i64))),(1,.fn f first y),(7,.int .i64 (l.length:Nat)),(8,.int .i64 (i:Nat))])
  (λ_=>s) (λi=>i<=l.length/\(l.take i).any q=false) (λi=>l.length-i) 0 ⟨aW _,rfl⟩ ?_ (aE _) ?_
 .simp only[go_sem]
  try exact rfl
 .rintro i ⟨hi,O⟩;refine aX (V:=pX) _ _ _ _ ?_;simp only[go_sem]
  (apply aJ<;>intro h)<;>simp only[go_sem,h]
  .have u:i<l.length:=gQ h;clear h;obtain⟨x,z⟩:=bB u;have B:x∈l:=bK z;have ht:(l.take (i+1)).any q=q x:=by rw[gJ,z,pC,O];simp
   simp only[go_sem,z,u];refine hf x B _ _ ?_;cases Z:q x
   .simp only[go_sem,z,u];exact⟨i+1,⟨u,by rw[ht,Z]⟩,by omega,M.wrap (i:=i) (gQ u),aE _⟩
   .simp only[go_sem,z,u];exact aP (U _ (by rw[jS.2 ⟨x,B,Z⟩,bW];omega))
  .have H:i=l.length:=by have:¬ i<l.length:=gQ h;omega
   subst H;rw[bT]at O;exact aP (U _ (by rw[O];rfl))
theorem aOw(l:List Int)(q:Int->Bool)(f:FuncId)(first u:List A)(s:St)(KV Kp:St->A->Prop)
  (y:∀x,x∈l->∀KV Kp:St->A->Prop,KV s (.bool (q x))->Den cx f (first++[A.int .i64 x]++u) KV Kp s)
  (z:KV s (.bool (l.any q))):Den cx 185 [.list none (l.map (A.int .i64)),.fn f first u] KV Kp s:=by
 (refine aN func185 [0,1,4] ?_;simp only[go_sem,ntmps185,f185]);refine aOf l q f first u _ _ _ y (λr B=>?_)
 simp only[go_sem,B];exact aP z
theorem aOx(l:List Tm)(q:Tm->Bool)(f:FuncId)(first y:List A)(s:St)(KV Kp:St->A->Prop)
  (hf:∀x,x∈l->∀KV Kp:St->A->Prop,KV s (.bool (q x))->Den cx f (first++[.agg x.cs]++y) KV Kp s)
  (U:∀r:Int,decide (0<=r)=l.any q->KV s (.int .i64 r)):Den cx 115 [.list none (l.map Tm.enc),.fn f first y] KV Kp s:=by
 refine hH λG=>?_
 have M:=G _ (cQ ..);clear G;(refine aN func115 pX ?_;simp only[go_sem,ntmps115,f115])
 refine Ex.loop (ι:=Nat) (λi=>[(0,.list none (l.map Tm.enc)),(1,.fn f first y),(7,.int .i64 (l.length:Nat)),(8,.int .i64 (i:Nat))])
  (λ_=>s) (λi=>i<=l.length/\(l.take i).any q=false) (λi=>l.length-i) 0 ⟨aW _,rfl⟩ ?_ (aE _) ?_
 .simp only[go_sem]
  try exact rfl
 .rintro i ⟨hi,O⟩;refine aX (V:=pX) _ _ _ _ ?_;simp only[go_sem]
  (apply aJ<;>intro h)<;>simp only[go_sem,h]
  .have u:i<l.length:=gQ h;clear h;obtain⟨x,z⟩:=bB u;have B:x∈l:=bK z;have ht:(l.take (i+1)).any q=q x:=by rw[gJ,z,pC,O];simp
   simp only[go_sem,z,u];refine hf x B _ _ ?_;cases Z:q x
   .simp only[go_sem,z,u];exact⟨i+1,⟨u,by rw[ht,Z]⟩,by omega,M.wrap (i:=i) (gQ u),aE _⟩
   .simp only[go_sem,z,u];exact aP (U _ (by rw[jS.2 ⟨x,B,Z⟩,bW];omega))
  .have H:i=l.length:=by have:¬ i<l.length:=gQ h;omega
   subst H;rw[bT]at O;exact aP (U _ (by rw[O];rfl))
theorem aPN(l:List Tm)(q:Tm->Bool)(f:FuncId)(first u:List A)(s:St)(KV Kp:St->A->Prop)
  (y:∀x,x∈l->∀KV Kp:St->A->Prop,KV s (.bool (q x))->Den cx f (first++[.agg x.cs]++u) KV Kp s)
  (z:KV s (.bool (l.any q))):Den cx 55 [.list none (l.map Tm.enc),.fn f first u] KV Kp s:=by
 (refine aN func55 [0,1,4] ?_;simp only[go_sem,ntmps55,f55]);refine aOx l q f first u _ _ _ y (λr B=>?_)
 simp only[go_sem,B];exact aP z
theorem aOi(l:List Part)(q:Part->Bool)(f:FuncId)(first y:List A)(s:St)(KV Kp:St->A->Prop)
  (hf:∀x,x∈l->∀KV Kp:St->A->Prop,KV s (.bool (q x))->Den cx f (first++[Part.enc x]++y) KV Kp s)
  (U:∀r:Int,decide (0<=r)=l.any q->KV s (.int .i64 r)):Den cx 195 [.list none (l.map Part.enc),.fn f first y] KV Kp s:=by
 refine hH λG=>?_
 have M:=G _ (cQ ..);clear G;(refine aN func195 pX ?_;simp only[go_sem,ntmps195,f195])
 refine Ex.loop (ι:=Nat) (λi=>[(0,.list none (l.map Part.enc)),(1,.fn f first y),(7,.int .i64 (l.length:Nat)),(8,.int .i64 (i:Nat))])
  (λ_=>s) (λi=>i<=l.length/\(l.take i).any q=false) (λi=>l.length-i) 0 ⟨aW _,rfl⟩ ?_ (aE _) ?_
 .simp only[go_sem]
  try exact rfl
 .rintro i ⟨hi,O⟩;refine aX (V:=pX) _ _ _ _ ?_;simp only[go_sem]
  (apply aJ<;>intro h)<;>simp only[go_sem,h]
  .have u:i<l.length:=gQ h;clear h;obtain⟨x,z⟩:=bB u;have B:x∈l:=bK z;have ht:(l.take (i+1)).any q=q x:=by rw[gJ,z,pC,O];simp
   simp only[go_sem,z,u];refine hf x B _ _ ?_;cases Z:q x
   .simp only[go_sem,z,u];exact⟨i+1,⟨u,by rw[ht,Z]⟩,by omega,M.wrap (i:=i) (gQ u),aE _⟩
   .simp only[go_sem,z,u];exact aP (U _ (by rw[jS.2 ⟨x,B,Z⟩,bW];omega))
  .have H:i=l.length:=by have:¬ i<l.length:=gQ h;omega
   subst H;rw[bT]at O;exact aP (U _ (by rw[O];rfl))
theorem aIK(l:List Part)(q:Part->Bool)(f:FuncId)(first u:List A)(s:St)(KV Kp:St->A->Prop)
  (y:∀x,x∈l->∀KV Kp:St->A->Prop,KV s (.bool (q x))->Den cx f (first++[Part.enc x]++u) KV Kp s)
  (z:KV s (.bool (l.any q))):Den cx 143 [.list none (l.map Part.enc),.fn f first u] KV Kp s:=by
 (refine aN func143 [0,1,4] ?_;simp only[go_sem,ntmps143,f143]);refine aOi l q f first u _ _ _ y (λr B=>?_)
 simp only[go_sem,B];exact aP z
theorem aDA(l:List aC)(q:aC->Bool)(f:FuncId)(first u:List A)(s:St)(KV Kp:St->A->Prop)
  (B:∀x,x∈l->∀(s':St) (KV Kp:St->A->Prop),s'.ge s->KV s' (.bool (q x))->Den cx f (first++[A.str x]++u) KV Kp s')
  (y:KV s (.bool (l.all q))):Den cx 64 [.list none (l.map A.str),.fn f first u] KV Kp s:=by
 (refine aN func64 [0,1,3,4] ?_;simp only[go_sem,ntmps64,f64]);(refine aM λp z=>?_);simp only[go_sem,z];refine aFM l (λx=>!q x) 118 [] [.ptr p 0] _ _ _ (λx G KV Kp y=>?_) ?_
 ·(refine aN func118 [0,1,3] ?_;simp only[go_sem,ntmps118,f118])
  (try simp only[go_sem])
  first|(refine B x G _ _ _ (bG z (aE s)) ?_;simp only[go_sem];exact aP y)|((refine aM λq H=>?_);simp only[go_sem,z,H];refine B x G _ _ _ aR ?_;simp only[go_sem];exact aG y cD)
 .have e:(!l.any λx=>!q x)=l.all q:=by simp[List.any_eq_not_all_not]
  simp only[go_sem,e];exact aG y aR
theorem aQP(l:List Below)(q:Below->Bool)(f:FuncId)(first u:List A)(s:St)(KV Kp:St->A->Prop)
  (B:∀x,x∈l->∀(s':St) (KV Kp:St->A->Prop),s'.ge s->KV s' (.bool (q x))->Den cx f (first++[Below.enc x]++u) KV Kp s')
  (y:KV s (.bool (l.all q))):Den cx 66 [.list none (l.map Below.enc),.fn f first u] KV Kp s:=by
 (refine aN func66 [0,1,3,4] ?_;simp only[go_sem,ntmps66,f66]);(refine aM λp z=>?_);simp only[go_sem,z];refine aOS l (λx=>!q x) 120 [] [.ptr p 0] _ _ _ (λx G KV Kp y=>?_) ?_
 ·(refine aN func120 [0,1,2,3] ?_;simp only[go_sem,ntmps120,f120])
  (try simp only[go_sem])
  first|(refine B x G _ _ _ (bG z (aE s)) ?_;simp only[go_sem];exact aP y)|((refine aM λq H=>?_);simp only[go_sem,z,H];refine B x G _ _ _ aR ?_;simp only[go_sem];exact aG y cD)
 .have e:(!l.any λx=>!q x)=l.all q:=by simp[List.any_eq_not_all_not]
  simp only[go_sem,e];exact aG y aR
theorem aJE(l:List Opr)(q:Opr->Bool)(f:FuncId)(first u:List A)(s:St)(KV Kp:St->A->Prop)
  (B:∀x,x∈l->∀(s':St) (KV Kp:St->A->Prop),s'.ge s->KV s' (.bool (q x))->Den cx f (first++[Opr.enc x]++u) KV Kp s')
  (y:KV s (.bool (l.all q))):Den cx 69 [.list none (l.map Opr.enc),.fn f first u] KV Kp s:=by
 (refine aN func69 [0,1,3,4] ?_;simp only[go_sem,ntmps69,f69]);(refine aM λp z=>?_);simp only[go_sem,z];refine aOq l (λx=>!q x) 122 [] [.ptr p 0] _ _ _ (λx G KV Kp y=>?_) ?_
 ·(refine aN func122 [0,1,2,3] ?_;simp only[go_sem,ntmps122,f122])
  (try simp only[go_sem])
  first|(refine B x G _ _ _ (bG z (aE s)) ?_;simp only[go_sem];exact aP y)|((refine aM λq H=>?_);simp only[go_sem,z,H];refine B x G _ _ _ aR ?_;simp only[go_sem];exact aG y cD)
 .have e:(!l.any λx=>!q x)=l.all q:=by simp[List.any_eq_not_all_not]
  simp only[go_sem,e];exact aG y aR
theorem aQp(l:List Int)(q:Int->Bool)(f:FuncId)(first u:List A)(s:St)(KV Kp:St->A->Prop)
  (B:∀x,x∈l->∀(s':St) (KV Kp:St->A->Prop),s'.ge s->KV s' (.bool (q x))->Den cx f (first++[(A.int .i64) x]++u) KV Kp s')
  (y:KV s (.bool (l.all q))):Den cx 126 [.list none (l.map (A.int .i64)),.fn f first u] KV Kp s:=by
 (refine aN func126 [0,1,3,4] ?_;simp only[go_sem,ntmps126,f126]);(refine aM λp z=>?_);simp only[go_sem,z];refine aOw l (λx=>!q x) 186 [] [.ptr p 0] _ _ _ (λx G KV Kp y=>?_) ?_
 ·(refine aN func186 [0,1,3] ?_;simp only[go_sem,ntmps186,f186])
  (try simp only[go_sem])
  first|(refine B x G _ _ _ (bG z (aE s)) ?_;simp only[go_sem];exact aP y)|((refine aM λq H=>?_);simp only[go_sem,z,H];refine B x G _ _ _ aR ?_;simp only[go_sem];exact aG y cD)
 .have e:(!l.any λx=>!q x)=l.all q:=by simp[List.any_eq_not_all_not]
  simp only[go_sem,e];exact aG y aR
section
section
variable {r:Nat} {sg:Sig} {s:St} {KV Kp:St->A->Prop}
theorem tI(h:BookAt s r sg)(x:aC)(u:KV s (.bool (cR sg x))):Den cx 68 [.ptr r 0,.str x] KV Kp s:=by
 obtain⟨a,o,f,U,mo,Z,G,B,ho,M,H,O,lf⟩:=h;have z:=H x;unfold cR at u;(refine aN func68 [0,1,4,6] ?_;simp only[go_sem,ntmps68,f68]);by_cases y:x∈nN sg
 .rw[aF y]at z;rw[cT y]at u;simp only[go_sem,G,B,z,strs];exact aP u
 .rw[aD y]at z;rw[bR y]at u;simp only[go_sem,G,B,z,lB];exact aP u
theorem aIk(x:aC)(u:KV s (.bool false)):Den cx 62 [.nils,.str x] KV Kp s :=
 jI (show kC [.nils,.str x] [.list none (([]:List aC).map .str),.str x] from⟨A.le.nil,bL _,trivial⟩) (pG s [] x KV Kp u)
theorem aFA(h:BookAt s r sg)(x y:aC)(u:KV s (.bool (vM sg x y))):Den cx 142 [.ptr r 0,.str x,.str y] KV Kp s:=by
 obtain⟨a,o,f,ma,mo,mf,O,H,ho,Z,U,lo,lf⟩:=h;have B:=U x;unfold vM zF at u;(refine aN func142 [0,1,2,6] ?_;simp only[go_sem,ntmps142,f142]);by_cases G:y=[65,110,121]
 .rw[cT G]at u;have z:decide (y=[65,110,121])=true:=cT G;simp only[go_sem,z];exact aP u
 .rw[bR G]at u;have z:decide (y=[65,110,121])=false:=bR G;by_cases M:x∈nN sg
  .rw[aF M]at B u;simp only[go_sem,O,H,B,strs,z];refine pG _ _ _ _ _ ?_;simp only[go_sem];exact aP u
  .rw[aD M]at B u;simp only[go_sem,O,H,B,lB,z];refine aIk _ ?_;simp only[go_sem];exact aP u
theorem aJu(h:BookAt s r sg)(x y:aC)(u:KV s (.bool (mZ sg x y))):Den cx 137 [.ptr r 0,.str x,.str y] KV Kp s:=by
 unfold mZ at u;(refine aN func137 [0,1,2,6] ?_;simp only[go_sem,ntmps137,f137]);refine aFA h x y ?_;cases z:vM sg x y<;>rw[z]at u<;>simp only[go_sem]
 .refine aFA h y x ?_;simp only[go_sem];exact aP u
 .exact aP u
theorem aDC:A.le (.agg [.str [],.nils,.str [],.nils,.int .i64 0,.int .i64 0,.nils]) mI.enc :=
 A.le.agg ⟨⟨bL _,rfl⟩,⟨A.le.nil,rfl⟩,⟨bL _,rfl⟩,⟨A.le.nil,rfl⟩,⟨bL _,rfl⟩,⟨bL _,rfl⟩,⟨A.le.nil,rfl⟩,trivial⟩
theorem aQY(h:BookAt s r sg)(x:aC)(M:KV s (.tuple [((eN sg.ops x).getD mI).enc,.bool (eN sg.ops x).isSome])):Den cx 190 [.ptr r 0,.str x] KV Kp s:=by
 obtain⟨a,o,f,ma,mo,mf,B,Z,ho,hf,la,U,lf⟩:=h;have u:=U x;(refine aN func190 [0,1,4,5,6,7] ?_;simp only[go_sem,ntmps190,f190]);(refine aM λp z=>?_);have G:=aI B z;have H:=aI ho z;cases hl:eN sg.ops x with
 | none =>
  rw[hl]at u M;simp only[Option.map_none]at u;simp only[go_sem,z,B,ho,u,lB,G,H];(refine aM λq O=>?_);simp only[go_sem,z,B,ho,u,lB,O,G,H];exact DK.mk M aR (A.le.tuple ⟨aDC,bL _,trivial⟩)
 | some y =>
  rw[hl]at u M;simp only[lL]at u;simp only[go_sem,z,B,ho,u,lB,G,H];(refine aM λq O=>?_);simp only[go_sem,z,B,ho,u,lB,O,G,H];exact aG M aR
theorem tQ(h:BookAt s r sg)(x:aC)(O:KV s (.tuple [((eN sg.funs x).getD mI).enc,.bool (eN sg.funs x).isSome])):Den cx 37 [.ptr r 0,.str x] KV Kp s:=by
 obtain⟨a,o,f,ma,mo,mf,G,Z,ho,B,la,lo,lf⟩:=h;have u:=lf x;(refine aN func37 [0,1,4,5,6,7] ?_;simp only[go_sem,ntmps37,f37]);(refine aM λp z=>?_);have H:=aI G z;have M:=aI B z;cases hl:eN sg.funs x with
 | none =>
  rw[hl]at u O;simp only[Option.map_none]at u;simp only[go_sem,z,G,B,u,lB,H,M];(refine aM λq U=>?_);simp only[go_sem,z,G,B,u,lB,U,H,M];exact DK.mk O aR (A.le.tuple ⟨aDC,bL _,trivial⟩)
 | some y =>
  rw[hl]at u O;simp only[lL]at u;simp only[go_sem,z,G,B,u,lB,H,M];(refine aM λq U=>?_);simp only[go_sem,z,G,B,u,lB,U,H,M];exact aG O aR
theorem aNY(h:BookAt s r sg)(x:aC)(B:KV s (.bool (vJ sg x))):Den cx 83 [.ptr r 0,.str x] KV Kp s:=by
 have M:=h;obtain⟨a,o,f,ma,mo,mf,z,O,ho,U,la,lo,lf⟩:=h;(refine aN func83 [0,1,2,3,4] ?_;simp only[go_sem,ntmps83,f83]);(refine aM λp u=>?_);have G:=aI z u;simp only[go_sem,u,z,G];(refine aM λq y=>?_);have H:=aI z y.2;simp only[go_sem,u,z,y,G,H];refine aFM sg.values (λv=>vM sg x v) 141 [] [.ptr p 0,.ptr q 0] _ _ _ (λv Z KV Kp B=>?_) ?_
 ·(refine aN func141 [0,1,2,4] ?_;simp only[go_sem,ntmps141,f141]);simp only[go_sem,u,y];refine aFA (M.ge (bG (by first|exact y.2|exact y|assumption) (bG u (aE s)))) x v ?_;simp only[go_sem];exact aP B
 .simp only[go_sem];exact aG B aR
theorem aOK{n:aC}(u:n∈gY)(y:KV s (strs (zQ n))):Den cx 239 [.str n] KV Kp s:=by
 simp only[gY,dG,iI,eJ]at u;rcases u with rfl|rfl|rfl|rfl|rfl|rfl|rfl|rfl|rfl|rfl|rfl|rfl|rfl|rfl|rfl|rfl|rfl|rfl|rfl|rfl|rfl|rfl|rfl|rfl|rfl|rfl|rfl|rfl
 all_goals ((refine aN func239 [0,2,3,4,15,19,23,27,30,33,36,39,42,47,50,54] ?_;simp only[go_sem,ntmps239,f239]);(try simp (decide:=true) only[go_sem]);exact aP y)
theorem aOB{n:aC}(u:n∈gY)(y:KV s (.str (aA0 n))):Den cx 240 [.str n] KV Kp s:=by
 simp only[gY,dG,iI,eJ]at u;rcases u with rfl|rfl|rfl|rfl|rfl|rfl|rfl|rfl|rfl|rfl|rfl|rfl|rfl|rfl|rfl|rfl|rfl|rfl|rfl|rfl|rfl|rfl|rfl|rfl|rfl|rfl|rfl|rfl
 all_goals ((refine aN func240 [0,2,3,4,13,16,19,22] ?_;simp only[go_sem,ntmps240,f240]);(try simp (decide:=true) only[go_sem]);exact aP y)
end
end
section
section
variable {r:Nat} {sg:Sig} {s:St} {KV Kp:St->A->Prop}
theorem aNX(n:aC)(z:KV s (.tuple [(if n∈gY then bOp n else mI).enc,.bool (decide (n∈gY))])):Den cx 191 [.str n] KV Kp s:=by
 (refine aN func191 [0,2,3,6] ?_;simp only[go_sem,ntmps191,f191]);(refine aM λp y=>?_);simp only[go_sem,y];refine aFx _ _ _ _ ?_;by_cases u:n∈gY
 .rw[aF u,cT u]at z;have B:decide (n∈gY)=true:=cT u;simp only[go_sem,B,y];refine aOK u ?_;simp only[go_sem,y,strs];refine aOB u ?_;simp only[go_sem,y];exact DK.mk z aR (A.le.tuple ⟨A.le.agg ⟨⟨bL _,rfl⟩,⟨bL _,rfl⟩,⟨bL _,rfl⟩,⟨A.le.nil,rfl⟩,⟨bL _,rfl⟩,⟨bL _,rfl⟩,⟨A.le.nil,rfl⟩,trivial⟩,bL _,trivial⟩)
 .rw[aD u,bR u]at z;have B:decide (n∈gY)=false:=bR u;simp only[go_sem,B,y];exact DK.mk z aR (A.le.tuple ⟨aDC,bL _,trivial⟩)
theorem aFB(h:BookAt s r sg)(n:aC)(u:KV s (.tuple [(hU sg n).1.enc,.bool (hU sg n).2.1,.bool (hU sg n).2.2])):Den cx 132 [.ptr r 0,.str n] KV Kp s:=by
 unfold hU at u;(refine aN func132 [0,1,4,5,6,13,21] ?_;simp only[go_sem,ntmps132,f132]);(refine aM λp y=>?_);simp only[go_sem,y];refine aQY (h.ge (bG y (aE s))) n ?_;cases B:eN sg.ops n with
 | some o =>
  rw[B]at u;simp only[go_sem,y,qL,Option.isSome_some];exact aG u aR
 | none =>
  rw[B]at u;simp only[go_sem,y,uY,kZ,mI];refine tQ (h.ge (by exact aR)) n ?_;cases G:eN sg.funs n with
  | some o =>
   rw[G]at u;simp only[go_sem,y,qL,Option.isSome_some];exact aG u aR
  | none =>
   rw[G]at u;simp only[go_sem,y,uY,kZ,mI];refine aNX n ?_;by_cases z:n∈gY
   .rw[aF z]at u⊢;simp only[go_sem,y,cT z,bOp];exact aG u aR
   .rw[aD z]at u⊢;simp only[go_sem,y,bR z,mI];exact aG u aR
theorem aIp(h:BookAt s r sg)(t:Tm)(y:KV s (.str (lU sg t))):Den cx 189 [.ptr r 0,.agg t.cs] KV Kp s:=by
 unfold lU at y;(refine aN func189 [0,1,3,4,5,9,10,12,14,16,18,20,22,38] ?_;simp only[go_sem,ntmps189,f189]);(refine aM λp z=>?_);simp only[go_sem,z];rcases kinds t.kind with u|u|u|u|u|u|u|u|u
 case' inr.inr.inr.inr.inl =>
  simp only[go_sem,z,u,Int.reduceEq];refine aFB (h.ge (bG z (aE s))) t.text ?_;simp only[go_sem,z];(refine aM λq hq=>?_);simp only[go_sem,z,hq];simp only[u,Int.reduceEq,cZ,dF]at y;exact aG y aR
 case' inr.inr.inr.inr.inr.inl =>
  simp only[go_sem,z,u,Int.reduceEq];refine tI (h.ge (bG z (aE s))) t.sort ?_;simp only[u,Int.reduceEq,cZ,dF]at y;cases B:cR sg t.sort<;>rw[B]at y<;>simp only[go_sem,z]
  .exact aG y aR
  .exact aG y aR
 case' inr.inr.inr.inr.inr.inr.inr.inr =>
  obtain⟨G,H,M,O,U,k6,Z,k8⟩:=u;simp only[go_sem,z,bR G,bR H,bR M,bR O,bR U,bR Z,bR k8];refine tI (h.ge (bG z (aE s))) t.sort ?_;rw[aD G,aD H,aD M,aD O,aD Z,aD k8,aD U]at y;cases B:cR sg t.sort<;>rw[B]at y<;>simp only[go_sem,z]
  .exact aG y aR
  .exact aG y aR
 all_goals
  simp only[go_sem,z,u,Int.reduceEq];simp only[u,Int.reduceEq,cZ,dF]at y;exact aG y aR
theorem aI0:∀{ks:List Tm} {l:List aC} {i:Nat} {x:Tm} {y:aC},ks[i]?=some x->l[i]?=some y->nP sg (ks.take (i+1)) (l.take (i+1))=(nP sg (ks.take i) (l.take i)&&mZ sg (lU sg x) y)
 | k::ks,a::l,0,x,y,u,z=>by cases u;cases z;simp[nP]
 | k::ks,a::l,i+1,x,y,u,z=>by
  have:=aI0 (ks:=ks) (l:=l) (i:=i) u z;simp only[List.take_succ_cons,nP,this,Bool.and_assoc]
 | [],_,_,_,_,u,_=>by cases u
 | _::_,[],_,_,_,_,z=>by cases z
theorem aIB:∀{ks:List Tm} {l:List aC} {i:Nat},nP sg (ks.take i) (l.take i)=false->nP sg ks l=false
 | [],_,_,h=>by simp[nP]at h
 | _::_,[],_,h=>by cases u:(List.take _ (_::_):List Tm)<;>rw[u]at h<;>simp[nP]at h
 | k::ks,a::l,0,h=>by simp[nP]at h
 | k::ks,a::l,i+1,h=>by
  simp only[List.take_succ_cons,nP,Bool.and_eq_false_iff]at h⊢;exact h.imp id aIB
theorem aPO(m:Nat):∀(t:Tm) (s:St) (KV Kp:St->A->Prop),SizeOf.sizeOf t<m->BookAt s r sg->KV s (.bool (fC sg t))->Den cx 130 [.ptr r 0,.agg t.cs] KV Kp s:=by
 induction m with
 | zero=>intro t s KV Kp hm;omega
 | succ m ih =>
 intro t s KV Kp hm hB G;refine hH λb5=>?_
 have b6:=b5 _ (eA _ (cQ ..));have b3:Rlz (.list none (t.kids.map Tm.enc)):=b6.cell (by simp[Tm.cs]);clear b5 b6;rw[aLF]at G;(refine aN func130 aHA ?_;simp only[go_sem,ntmps130,f130]);(refine aM λp z=>?_);simp only[go_sem,z];have U:BookAt (s.setO p (.cells 67 t.cs)) r sg:=hB.ge (bG z (aE s))
 refine Ex.loop (ι:=Nat) (λi=>[(0,.ptr r 0),(3,.ptr p 0),(13,.list none (t.kids.map Tm.enc)),(14,.int .i64 (t.kids.length:Nat)),(15,.int .i64 (i:Nat))])
  (λ_=>s.setO p (.cells 67 t.cs)) (λi=>i<=t.kids.length/\(t.kids.take i).all (fC sg)=true) (λi=>t.kids.length-i) 0 ⟨aW _,rfl⟩ ?_ (aE _) ?_
 .simp only[go_sem]
  try exact rfl
 .rintro i ⟨hi,B⟩;refine aX (V:=aHA) _ _ _ _ ?_;simp only[go_sem,z]
  (apply aJ<;>intro h)<;>simp only[go_sem,h,z]
  .have u:i<t.kids.length:=gQ h;clear h;obtain⟨x,O⟩:=bB u;have b4:x∈t.kids:=bK O;have b8:=mT b4;simp only[go_sem,z,O,u];(refine aM λq H=>?_);simp only[go_sem,z,O,u,H];refine ih x _ _ _ aB (U.ge (by simp only[Tm.cs];exact cD)) ?_;have ht:(t.kids.take (i+1)).all (fC sg)=fC sg x:=by rw[gJ,O,kN,B];simp
   cases hf:fC sg x
   .simp only[go_sem,z,H]
    have e:t.kids.all (fC sg)=false:=by
     rw[jQ];intro e;rw[dE]at e;rw[e x b4]at hf;cases hf
    rw[e,gB]at G;exact aG G aR
   .simp only[go_sem,z,H];exact⟨i+1,⟨u,by rw[ht,hf]⟩,by omega,b3.wrap (i:=i) (gQ u),cD⟩
  .have b0:i=t.kids.length:=by have:¬ i<t.kids.length:=gQ h;omega
   subst b0;rw[bT]at B;rw[B,dW]at G;clear h hi;unfold aEq at G;by_cases k6:t.kind=6
   .rw[aF k6]at G;simp only[go_sem,z,cT k6];refine tI U t.sort ?_;simp only[go_sem,z];exact aG G aR
   rw[aD k6]at G;by_cases k5:t.kind=5
   ·rw[aF k5] at G;simp only[go_sem,z,bR k6,cT k5];refine aFB U t.text ?_;generalize hC:hU sg t.text=C at G;obtain ⟨o,fu,ok⟩:=C;simp only[go_sem,z];(refine aM fun q H=>?_);simp only[go_sem,z,H];cases ok with
    | false =>
     simp only[go_sem,z,H];exact aG G aR
    | true =>
     have d1:decide ((o.args.length:Int)=(t.kids.length:Int))=decide (o.args.length=t.kids.length):=by rw[cC];omega
     by_cases hl:o.args.length=t.kids.length
     .have d2:decide (o.args.length=t.kids.length)=true:=cT hl;rw[d2]at G d1;simp only[go_sem,z,H,d1,d2];have b7:BookAt ((s.setO p (.cells 67 t.cs)).setO q (.cells 80 o.cs)) r sg:=U.ge (by simp only[Tm.cs,Opr.cs];exact cD)
      refine Ex.loop (ι:=Nat) (λi=>[(0,.ptr r 0),(3,.ptr p 0),(7,.ptr q 0),(54,.list none (t.kids.map Tm.enc)),(55,.int .i64 (t.kids.length:Nat)),(56,.int .i64 (i:Nat))])
       (λ_=>(s.setO p (.cells 67 t.cs)).setO q (.cells 80 o.cs)) (λi=>i<=t.kids.length/\nP sg (t.kids.take i) (o.args.take i)=true) (λi=>t.kids.length-i) 0 ⟨aW _,by simp[nP]⟩ ?_ (aE _) ?_
      .simp only[go_sem]
       try exact rfl
      .rintro i ⟨hi,B⟩;refine aX (V:=aHA) _ _ _ _ ?_;simp only[go_sem,z,H]
       (apply aJ<;>intro h)<;>simp only[go_sem,h,z,H]
       .have u:i<t.kids.length:=gQ h;clear h;obtain⟨x,O⟩:=bB u;have b2:i<o.args.length:=by omega
        obtain⟨y,hy⟩:=bB b2;have b1:=aI0 (sg:=sg) O hy;rw[B,dW]at b1;simp only[go_sem,z,H,O,u];(refine aM λq2 M=>?_);simp only[go_sem,z,H,O,u,M];(refine bD (OT.l [0,1,2,4,5,6,7,8,3,9,10] .nil) [(3,[5,8])] ?_;simp only[go_sem,z,H,O,u,M,hy]);refine⟨b2,?_⟩;have Z:BookAt (((s.setO p (.cells 67 t.cs)).setO q (.cells 80 o.cs)).setO q2 (.cells 67 x.cs)) r sg:=b7.ge (by simp only[Tm.cs,Opr.cs];exact cD);simp only[Tm.cs,Opr.cs]at Z;refine aIp Z x ?_;simp only[go_sem,z,H,O,u,M,hy];refine aJu Z (lU sg x) y ?_;cases hf:mZ sg (lU sg x) y
        .simp only[go_sem,z,H,M];rw[aIB (by rw[b1,hf]),iZ]at G;exact aG G aR
        .simp only[go_sem,z,H,M];exact⟨i+1,⟨u,by rw[b1,hf]⟩,by omega,b3.wrap (i:=i) (gQ u),cD⟩
       .have b0:=bQ hi h;subst b0;rw[bT,<-hl,bT]at B;rw[B]at G;exact aG G aR
     .have d2:decide (o.args.length=t.kids.length)=false:=bR hl;rw[d2]at G d1;simp only[go_sem,z,H,d1,d2];exact aG G aR
   .rw[aD k5]at G;simp only[go_sem,z,bR k6,bR k5];exact aG G aR
theorem aIY(t:Tm)(h:BookAt s r sg)(u:KV s (.bool (fC sg t))):Den cx 130 [.ptr r 0,.agg t.cs] KV Kp s:=aPO _ t s KV Kp (fZ _) h u
theorem aOG(t:Tm)(u:KV s (.bool (xM t))):Den cx 135 [.agg t.cs] KV Kp s:=by
 unfold xM at u;(refine aN func135 [0,1,2] ?_;simp only[go_sem,ntmps135,f135]);(refine aM λp z=>?_);simp only[go_sem,z];cases y:decide (t.kind=1)<;>rw[y]at u<;>simp only[go_sem,z,y]
 .cases B:decide (t.kind=3)<;>rw[B]at u<;>simp only[go_sem,z,y,B]
  .cases G:decide (t.kind=4)<;>rw[G]at u<;>(try simp only[go_sem,z,y,B,G])
   .exact aG u aR
   .exact aG u aR
  .exact aG u aR
 .exact aG u aR
end
end
theorem gBm{f:FuncId}{c:Code}{args:List A}{KV Kp:St->A->Prop}{s:St}{fn:Func}(z:nX.P.funcs[f]?=some fn)(V:List Nat)
  (h:fS nX fn.ntmps V c (lW nX fn.results.toList (DK KV) (DK Kp)) (oN 0 args) s)
  (y:fn.body=some c:=by exact rfl)
  (u : (fn.name == "runtime.NumGoroutine") = false := by exact rfl) (B : args.length ≤ fn.ntmps := by exact jO rfl) : Den cx f args KV Kp s :=
 Den.drop (aTS (aBG (C:=nX) z y u B (aX _ _ _ _ h)))
inductive SL (s:St):A->List aC->Prop
 | nil:SL s .nils []
 | mg (b cap:Nat) (ws:List aC) (J:List A) (hb:s.getO b=some (.cells 9 (ws.map .str++J))) (hc:ws.length<=cap) (hJ:J.length=cap-ws.length) (h1:∀c,c∈J->c.one=true) (hn:ws≠[]):SL s (.mg b ws.length cap) ws
def aHC:A->Option Nat
 | .mg b _ _=>some b
 | _=>none
theorem SL.ge{s s':St}{v:A}{u:List aC}(h:SL s v u)(hs:s'.ge s):SL s' v u:=by
 cases h with
 | nil=>exact .nil
 | mg b cap u J B G z y H=>exact .mg b cap u J (hs.ob _ _ B) G z y H
theorem SL.one{s:St}{v:A}{u:List aC}(h:SL s v u):v.one=true:=by cases h<;>rfl
structure UsI (s0:St) (p:Nat) (n:Nat) (ws:List aC) (v:A) (s:St):Prop where
 ge:s.ge s0
 ob:s.getO p=some (.cells 22 [v])
 sl:SL s v ws
 nb:∀b,aHC v=some b->s0.getO b=none
 ln:ws.length+n<=4294967296
def UsO(p:Nat)(v:A)(q:Nat):Prop:=q=p\/aHC v=some q
theorem UsI.st{s0:St}{p n:Nat}{u:List aC}{v:A}{s s':St}(h:UsI s0 p n u v s)(hs:s'.ge s):UsI s0 p n u v s' :=
 ⟨hs.trans h.ge,hs.ob _ _ h.ob,h.sl.ge hs,h.nb,h.ln⟩
theorem UsI.fr{s0:St}{p n:Nat}{z:List aC}{v:A}{s:St}{q:Nat}(h:UsI s0 p n z v s)(u:s.getO q=none):¬ UsO p v q:=by
 rintro(rfl|y)
 .rw[h.ob]at u;cases u
 .have:=h.sl;cases this with
  | nil=>cases y
  | mg b cap z J B=>cases y;rw[B]at u;cases u
theorem UsI.less{s0:St}{p n m:Nat}{u:List aC}{v:A}{s:St}(h:UsI s0 p n u v s)(y:m<=n):UsI s0 p m u v s:=⟨h.ge,h.ob,h.sl,h.nb,by have:=h.ln;omega⟩
theorem UsI.app{s0:St}{p n:Nat}{M:List aC}{v:A}{s:St}{KV:St->A->Prop}{te:TI}(h:UsI s0 p (n+1) M v s)(b5:s0.getO p=none)(x:aC)(hs:te.sz=1)
  (hk:∀s' b m c,s'.getO p=some (.cells 22 [v])->UsI s0 p n (M++[x]) (.mg b m c) (s'.setO p (.cells 22 [.mg b m c]))->Keep (UsO p) s v (s'.setO p (.cells 22 [.mg b m c])) (.mg b m c)->KV s' (.mg b m c)):rD nX s 9 te [.str x] KV v:=by
 obtain⟨H,hr,b6,b4,b7⟩:=h
 have key:∀(b n' u:Nat) (G:List A),(s.getO b=none\/aHC v=some b)->s0.getO b=none->b≠p->n'=(M++[x]).length->n'<=u->G.length=u-n'->(∀c,c∈G->c.one=true) ->
   KV (s.setO b (.cells 9 ((M++[x]).map .str++G))) (.mg b n' u):=by
  intro b n' u G z b1 Z b3 b0 U O;subst b3;have g:∀v q,((s.setO b (.cells 9 ((M++[x]).map .str++G))).setO p (.cells 22 [v])).getO q=if p=q then some (.cells 22 [v]) else if b=q then some (.cells 9 ((M++[x]).map .str++G)) else s.getO q:=λv q=>by rw[aL,aL]
  refine hk _ _ _ _ (by rw[aL,aD Z];exact hr) ⟨⟨λq o hq=>?_,λt m hm=>H.tk t m hm,λy hy=>H.ls y hy⟩,by rw[g,aF rfl],.mg b u _ G (by rw[g,aD (Ne.symm Z),aF rfl]) b0 U O bA,λc hc=>by cases hc;exact b1,by rw[aH,uV];omega⟩ (λq o hq hO=>?_)
  .rw[g,aD (λe=>by rw[<-e,b5]at hq;cases hq),aD (λe=>by rw[<-e,b1]at hq;cases hq)];exact H.ob q o hq
  .have n1:¬ p=q:=λe=>hO (.inl e.symm)
   have n2:¬ b=q:=λe=>by
    rcases z with z|z
    .rw[<-e,z]at hq;cases hq
    .exact hO (.inr (e▸z))
   refine⟨by rw[g,aD n1,aD n2];exact hq,?_⟩;rintro(h|h)
   .exact n1 h.symm
   .cases h;exact n2 rfl
 cases b6 with
 | nil =>
  refine⟨by simp,?_⟩;rw[aSy,hs];refine⟨by simp,λb cap J z hc hJ h1=>?_⟩;have e1:eC [A.str x]++J=(([]:List aC)++[x]).map .str++J:=by simp[eC,A.cells]
  rw[e1];refine key b 1 cap J (.inl z) ?_ (λe=>by rw[e,hr]at z;cases z) rfl (gQ hc) (gQ hJ) h1;cases h0:s0.getO b with
  | none=>rfl
  | some o=>rw[H.ob b o h0]at z;cases z
 | mg b cap _ J z hc hJ h1 hn =>
  show vU _ _ _ _ _ _ _ _ _ _ _;rw[z];have b2:(M.map A.str++J).length=cap * 1:=by rw[aH,aO,hJ];omega
  rw[hs];refine⟨⟨rfl,rfl,b2,hc,by simp only[uV];omega,by simp⟩,λb' u G B b0 U O=>?_⟩
  have e1:(M.map A.str++J).take (M.length * 1)++(eC [A.str x]++G)=(M++[x]).map .str++G:=by
   rw[Nat.mul_one,List.take_left' bA];simp[eC,A.cells]
  rw[e1];have Z:b≠p:=λe=>by rw[e,hr]at z;cases z
  rcases B with⟨rfl,_⟩|B
  .exact key _ _ u G (.inr rfl) (b4 _ rfl) Z bA (gQ b0) (gQ U) O
  .refine key b' _ u G (.inl B) ?_ (λe=>by rw[e,hr]at B;cases B) bA (gQ b0) (gQ U) O;cases h0:s0.getO b' with
   | none=>rfl
   | some o=>rw[H.ob b' o h0]at B;cases B
def aCm(u:List aC)(x:Tm):List aC:=if x.kind=6 then u++[x.text] else u
def zI(u:List aC)(x:Tm):List aC:=if x.kind=6/\x.text≠[95] then u++[x.text] else u
theorem UsI.keep{s0:St}{p n:Nat}{u:List aC}{v:A}{s s':St}(h:UsI s0 p (n+1) u v s)(hs:s'.ge s):UsI s0 p n u v s'/\Keep (UsO p) s v s' v:=⟨(h.st hs).less (Nat.le_succ n),Keep.ge hs v⟩
theorem aT8(s0:St)(p:Nat)(b0:s0.getO p=none):WalkOk aCm (UsI s0 p) (UsO p) 140 [.ptr p 0] where
 st:=UsI.st
 fr:=UsI.fr
 go:=by
  intro n ws v x b3 s KV Kp b4 O B;simp only[dD,dY];have g0:=O.ob;unfold aCm at B;(refine gBm func140 [0,2,3,7] ?_;simp only[go_sem,ntmps140,f140]);(refine aM λq G=>?_);have u:(s.setO q (.cells 67 x.cs)).ge s:=bG G (aE s);have M:=aI g0 G;simp only[go_sem,G,g0,M];by_cases H:x.kind=6
  .rw[aF H]at B;simp only[go_sem,G,cT H,g0,M];refine⟨by decide,λy hy=>by rw[bO.1 hy];rfl,?_⟩;have z:=O.st u;simp only[Tm.cs]at z;refine z.app b0 x.text rfl (λs2 b2 n2 c2 b1 U Z=>?_);simp only[go_sem,b1];exact aP (B _ _ U ((Keep.ge u v).trans (by simp only[Tm.cs];exact Z)))
  .rw[aD H]at B;simp only[go_sem,G,bR H,g0,M];obtain⟨k1,k2⟩:=O.keep u;simp only[Tm.cs]at k1 k2;exact aP (B _ _ k1 k2)
theorem aTY(s0:St)(p:Nat)(b1:s0.getO p=none):WalkOk zI (UsI s0 p) (UsO p) 193 [.ptr p 0] where
 st:=UsI.st
 fr:=UsI.fr
 go:=by
  intro n ws v x b4 s KV Kp b5 U z;simp only[dD,dY];have g0:=U.ob;unfold zI at z;(refine gBm func193 [0,2,3,12] ?_;simp only[go_sem,ntmps193,f193]);(refine aM λq H=>?_);have u:(s.setO q (.cells 67 x.cs)).ge s:=bG H (aE s);have O:=aI g0 H;obtain⟨k1,k2⟩:=U.keep u;simp only[Tm.cs]at k1 k2;by_cases B:x.kind=6
  .by_cases M:x.text=[95]
   .rw[aD (λh=>h.2 M)]at z;simp only[go_sem,H,cT B,cT M,g0,O];exact aP (z _ _ k1 k2)
   .rw[aF ⟨B,M⟩]at z;simp only[go_sem,H,cT B,bR M,g0,O];refine⟨by decide,λy hy=>by rw[bO.1 hy];rfl,?_⟩;have G:=U.st u;simp only[Tm.cs]at G;refine G.app b1 x.text rfl (λs2 b2 n2 c2 b3 Z b0=>?_);simp only[go_sem,b3];exact aP (z _ _ Z ((Keep.ge u v).trans (by simp only[Tm.cs];exact b0)))
  .rw[aD (λh=>B h.1)]at z;simp only[go_sem,H,bR B,g0,O];exact aP (z _ _ k1 k2)
theorem aO1(l:List Tm):∀u,l.foldl aCm u=u++(l.filter λt=>decide (t.kind=6)).map Tm.text:=by
 induction l with
 | nil=>intro u;simp
 | cons x r y =>
  intro u;rw[pD,y];unfold aCm;by_cases h:x.kind=6<;>simp[h]
theorem aQy(l:List Tm)(y:aC):∀z,y∈l.foldl zI z↔y∈z\/(y∈(l.filter λt=>decide (t.kind=6)).map Tm.text/\y≠[95]):=by
 induction l with
 | nil=>intro z;simp
 | cons x r G =>
  intro z;rw[pD,G];unfold zI;by_cases h:x.kind=6
  .by_cases u:x.text=[95]
   .rw[aD (λh=>h.2 u)];simp only[h,u,List.filter_cons,aBJ,dF,bX,dG];constructor
    .rintro(a|⟨a,b⟩)
     .exact .inl a
     .exact .inr ⟨.inr a,b⟩
    .rintro(a|⟨a|a,b⟩)
     .exact .inl a
     .exact cV a b
     .exact .inr ⟨a,b⟩
   .rw[aF ⟨h,u⟩];simp only[h,List.filter_cons,aBJ,dF,bX,dG,cK,iI,eJ];constructor
    .rintro((a|a)|⟨a,b⟩)
     .exact .inl a
     .exact .inr ⟨.inl a,a▸u⟩
     .exact .inr ⟨.inr a,b⟩
    .rintro(a|⟨a|a,b⟩)
     .exact .inl (.inl a)
     .exact .inl (.inr a)
     .exact .inr ⟨a,b⟩
  .rw[aD (λB=>h B.1)];simp[h]
theorem aJm(l:List Tm)(hb:(aY l).length<=4294967200)(s:St)(KV Kp:St->A->Prop)(hk:KV s (strs (lI l))):Den cx 81 [.list none (l.map Tm.enc)] KV Kp s:=by
 refine Den.drop (aMk ?_);(refine gBm func81 aBd ?_;simp only[go_sem,ntmps81,f81]);(refine aM λp hp=>?_);simp only[go_sem,hp];have b7:=lO l;have h0:UsI s p ((aY l).length) [] .nils (s.setO p (.cells 22 [.nils])):=⟨bG hp (aE s),by rw[aL,aF rfl],.nil,λb h=>(by cases h),(by simp only[aZ];omega)⟩
 refine Ex.loop (ι:=Nat × A × St) (λc=>[(3,.ptr p 0),(6,.list none (l.map Tm.enc)),(7,.int .i64 (l.length:Nat)),(8,.int .i64 (c.1:Nat))])
  (λc=>c.2.2) (λc=>c.1<=l.length/\UsI s p ((aY (l.drop c.1)).length) ((aY (l.take c.1)).foldl aCm []) c.2.1 c.2.2) (λc=>l.length-c.1) (0,.nils,_) ⟨aW _,h0⟩ ?_ (aE _) ?_
 .simp only[go_sem]
  try exact rfl
 .rintro⟨i,v,s1⟩ ⟨hi,M⟩;simp only at hi M;refine aX (V:=aBd) _ _ _ _ ?_;simp only[go_sem]
  (apply aJ<;>intro h)<;>simp only[go_sem,h]
  .have B:i<l.length:=gQ h;clear h;obtain⟨x,hx⟩:=bB B;have O:=aBR hx;have U:=aBW hx
   have b8:x.pre.length<=(aY l).length:=by
    have e:aY l=aY (l.take i)++aY (l.drop i):=by rw[<-gX,mQ]
    have:=lE List.length e;rw[aH,O]at this;omega
   simp only[go_sem,hx,B];(refine aM λq H=>?_);simp only[go_sem,hx,B,H];refine xE (aAl (aT8 s p hp) x 1 _ _ v _ _ _ aB (by rw[<-O];exact M.st (bG H (aE _))) (λs4 v4 b0 b6=>?_));simp only[go_sem];exact⟨(i+1,v4,s4),⟨B,by rw[U,rI];exact b0⟩,aQ,aU i aB,aE _⟩
  .have b3:=bQ hi h;subst b3;rw[bT,dP (bJ _),aO1,dD]at M;clear h hi;have hu:(List.filter (λt=>decide (t.kind=6)) (aY l)).map Tm.text=iT l:=rfl;rw[hu]at M;obtain⟨u,g0,G,b5,b4⟩:=M;unfold lI at hk;generalize iT l=ws at G hk b4;simp only[go_sem,g0];cases G with
   | nil =>
    refine xE (aF0 ?_);simp only[go_sem,g0];exact aP (.inl (DK.mk hk u A.le.nil))
   | mg b cap ws J hb hc hJ h1 hn =>
    have b2:¬ b=p:=λe=>by rw[e,g0]at hb;cases hb
    have b1:=b5 b rfl;refine xE (aJy hb aB ?_);simp only[go_sem,g0,b2];have G:=(tP ws).length_eq;refine aP (.inr ⟨b,_,cap,9,(sV ws).map .str,J,rfl,by rw[aO,G],by rw[aL,aF rfl],λy hy=>?_,aG hk ⟨λq o H=>?_,λt m hm=>u.tk t m hm,λy hy=>u.ls y hy⟩⟩)
    .obtain⟨z,_,rfl⟩:=cN.1 hy;rfl
    .have Z:q≠b:=λe=>by rw[e,b1]at H;cases H
     rw[aC4,aD Z,aL,aD (Ne.symm Z)];exact u.ob q o H
theorem aPH(l:List Tm)(hb:(aY l).length<=4294967200)(s:St)(KV Kp:St->A->Prop)(hk:∀vs:List aC,(∀x,x∈vs↔x∈iT l/\x≠[95])->KV s (strs vs)):Den cx 136 [.list none (l.map Tm.enc)] KV Kp s:=by
 refine Den.drop (aMk ?_);(refine gBm func136 aBd ?_;simp only[go_sem,ntmps136,f136]);(refine aM λp hp=>?_);simp only[go_sem,hp];have b6:=lO l;have h0:UsI s p ((aY l).length) [] .nils (s.setO p (.cells 22 [.nils])):=⟨bG hp (aE s),by rw[aL,aF rfl],.nil,λb h=>(by cases h),(by simp only[aZ];omega)⟩
 refine Ex.loop (ι:=Nat × A × St) (λc=>[(3,.ptr p 0),(6,.list none (l.map Tm.enc)),(7,.int .i64 (l.length:Nat)),(8,.int .i64 (c.1:Nat))])
  (λc=>c.2.2) (λc=>c.1<=l.length/\UsI s p ((aY (l.drop c.1)).length) ((aY (l.take c.1)).foldl zI []) c.2.1 c.2.2) (λc=>l.length-c.1) (0,.nils,_) ⟨aW _,h0⟩ ?_ (aE _) ?_
 .simp only[go_sem]
  try exact rfl
 .rintro⟨i,v,s1⟩ ⟨hi,hI⟩;simp only at hi hI;refine aX (V:=aBd) _ _ _ _ ?_;simp only[go_sem]
  (apply aJ<;>intro h)<;>simp only[go_sem,h]
  .have G:i<l.length:=gQ h;clear h;obtain⟨x,hx⟩:=bB G;have O:=aBR hx;have U:=aBW hx
   have b7:x.pre.length<=(aY l).length:=by
    have e:aY l=aY (l.take i)++aY (l.drop i):=by rw[<-gX,mQ]
    have:=lE List.length e;rw[aH,O]at this;omega
   simp only[go_sem,hx,G];(refine aM λq H=>?_);simp only[go_sem,hx,G,H];refine xE (aAl (aTY s p hp) x 1 _ _ v _ _ _ aB (by rw[<-O];exact hI.st (bG H (aE _))) (λs4 v4 b0 b5=>?_));simp only[go_sem];exact⟨(i+1,v4,s4),⟨G,by rw[U,rI];exact b0⟩,aQ,aU i aB,aE _⟩
  .have b2:=bQ hi h;subst b2;rw[bT,dP (bJ _)]at hI;clear h hi
   have hu:∀x,x∈(aY l).foldl zI []↔x∈iT l/\x≠[95]:=λx=>by
    rw[aQy];simp only[iI,false_or];rfl
   obtain⟨B,g0,u,b4,b3⟩:=hI;generalize (aY l).foldl zI []=ws at u hu b3;simp only[go_sem,g0];cases u with
   | nil =>
    refine xE (aF0 ?_);simp only[go_sem,g0];refine xE (aNR ?_);simp only[go_sem,g0];exact aP (.inl (DK.mk (hk [] hu) B A.le.nil))
   | mg b cap ws J hb hc hJ h1 hn =>
    have M:¬ b=p:=λe=>by rw[e,g0]at hb;cases hb
    have b1:=b4 b rfl;refine xE (aJy hb aB ?_);simp only[go_sem,g0,M];have u:=(tP ws).length_eq;rw[<-u];refine xE (aN1 (by rw[aL,aF rfl]) (by rw[u];omega) ?_);simp only[go_sem,g0,M];refine aP (.inr ⟨b,_,cap,9,(Lib.compact (sV ws)).map .str,_,rfl,by rw[aO],by rw[aL,aF rfl,bU,eG],λy hy=>?_,aG (hk _ (λx=>by rw[aPU,(tP ws).mem_iff];exact hu x)) ⟨λq o H=>?_,λt m hm=>B.tk t m hm,λy hy=>B.ls y hy⟩⟩)
    .obtain⟨z,_,rfl⟩:=cN.1 hy;rfl
    .have Z:q≠b:=λe=>by rw[e,b1]at H;cases H
     simp only[aC4,aD Z,aL,aD (Ne.symm Z)];exact B.ob q o H
section
def asM(l:List (aC × aC)):List (MK × A):=l.map λe=>(MK.str e.1,A.str e.2)
theorem aMG(x:aC):∀l:List (aC × aC),jP (.str x) (asM l)=(nR l x).map .str
 | []=>rfl
 | (a,b)::r=>by
  have u:=aMG x r;simp only[asM,bX,jP,nR]at u⊢;by_cases h:a=x
  .subst h;simp
  .rw[aD h,aD (λe=>h (by injection e with e;exact e.symm)),u]
theorem aMw(x y:aC):∀l:List (aC × aC),nR l x=none->lK (.str x) (.str y) (asM l)=asM (l++[(x,y)])
 | [],_=>rfl
 | (a,b)::r,h=>by
  simp only[nR]at h;by_cases e:a=x
  .rw[aF e]at h;cases h
  .rw[aD e]at h;have u:=aMw x y r h;simp only[asM,bX,dY,lK]at u⊢;rw[aD (λe'=>e (by injection e' with e';exact e'.symm)),u]
structure SoI (s0:St) (p m q:Nat) (n:Nat) (a:List (aC × aC) × aC) (v:Unit) (s:St):Prop where
 ge:s.ge s0
 op:s.getO p=some (.cells 174 [.mp m])
 om:s.getO m=some (.map 0 (asM a.1))
 oq:s.getO q=some (.cells 9 [.str a.2])
def SoO(p m q:Nat)(v:Unit)(x:Nat):Prop:=x=p\/x=m\/x=q
theorem SoI.st{s0:St}{p m q n:Nat}{a:List (aC × aC) × aC}{v:Unit}{s s':St}(h:SoI s0 p m q n a v s)(hs:s'.ge s):SoI s0 p m q n a v s' :=
 ⟨hs.trans h.ge,hs.ob _ _ h.op,hs.ob _ _ h.om,hs.ob _ _ h.oq⟩
theorem SoI.fr{s0:St}{p m q n:Nat}{a:List (aC × aC) × aC}{v:Unit}{s:St}{x:Nat}(h:SoI s0 p m q n a v s)(u:s.getO x=none):¬ SoO p m q v x:=by
 rintro(rfl|rfl|rfl)
 .rw[h.op]at u;cases u
 .rw[h.om]at u;cases u
 .rw[h.oq]at u;cases u
theorem Keep.set{u:Type}{Ow:u->Nat->Prop}{s:St}{v:u}{b:Nat}(h:Ow v b)(o:Ob):Keep Ow s v (s.setO b o) v:=λq x y n=>⟨by rw[aL,aD (λe:b=q=>n (e▸h))];exact y,n⟩
theorem tV{s s0:St}{b:Nat}(h:s.ge s0)(z:s0.getO b=none)(o:Ob):(s.setO b o).ge s0:=⟨λq x u=>by rw[aL,aD (λe=>by rw[<-e,z]at u;cases u)];exact h.ob q x u,λt m B=>h.tk t m B,λy G=>h.ls y G⟩
theorem SoI.setM{s0:St}{p m q n:Nat}{a:List (aC × aC) × aC}{v:Unit}{s:St}(h:SoI s0 p m q n a v s)(u:s0.getO m=none)(z:p≠m)(y:m≠q)(B:List (aC × aC)):SoI s0 p m q n (B,a.2) v (s.setO m (.map 0 (asM B))) :=
 ⟨tV h.ge u _,by rw[aL,aD (Ne.symm z)];exact h.op,by rw[aL,aF rfl],by rw[aL,aD y];exact h.oq⟩
theorem SoI.setQ{s0:St}{p m q n:Nat}{a:List (aC × aC) × aC}{v:Unit}{s:St}(h:SoI s0 p m q n a v s)(z:s0.getO q=none)(y:p≠q)(u:m≠q)(B:aC):SoI s0 p m q n (a.1,B) v (s.setO q (.cells 9 [.str B])) :=
 ⟨tV h.ge z _,by rw[aL,aD (Ne.symm y)];exact h.op,by rw[aL,aD (Ne.symm u)];exact h.om,by rw[aL,aF rfl]⟩
theorem aRI(s0:St)(p m q:Nat)(bc:s0.getO p=none)(b4:s0.getO m=none)(b3:s0.getO q=none)(b2:p≠q)(b5:p≠m)(b0:m≠q):WalkOk uF (SoI s0 p m q) (SoO p m q) 192 [.ptr p 0,.ptr q 0] where
 st:=SoI.st
 fr:=SoI.fr
 go := by
  intro n a v x b8 s KV Kp bd hI u;obtain⟨ws,tw⟩:=a;simp only[dD,dY];have gp:=hI.op;have U:=hI.om;have Z:=hI.oq;simp only at U Z;have B:=aMG x.text ws;unfold uF at u;simp only at u;(refine aN func192 [0,2,3,4,6,7,15,39,43] ?_;simp only[go_sem,ntmps192,f192]);(refine aM λc G=>?_);have b1:(s.setO c (.cells 67 x.cs)).ge s:=bG G (aE s);have e1:=aI gp G;have e2:=aI U G;have e3:=aI Z G;have y:SoI s0 p m q n (ws,tw) v (s.setO c (.cells 67 x.cs)):=(⟨hI.ge,hI.op,hI.om,hI.oq⟩:SoI s0 p m q n (ws,tw) v s).st b1;have z:Keep (SoO p m q) s v (s.setO c (.cells 67 x.cs)) v:=Keep.ge b1 v;have b9:=y;have bb:=z;simp only[Tm.cs]at y z;by_cases M:x.kind=6
  .by_cases O:x.text=[95]
   .rw[aD (λh=>h.2 O)]at u;simp only[go_sem,G,cT M,cT O];exact aP (u _ _ y z)
   ·rw[aF ⟨M,O⟩] at u;cases has:nR ws x.text with
    | none =>
     rw[has]at u B;simp only at u;simp only[Option.map_none]at B;have b6:=aMw x.text x.sort ws has;simp only[go_sem,G,cT M,bR O,e1,e2,e3,gp,U,Z,B,lB,b6];exact aP (u _ _ (y.setM b4 b5 b0 _) (z.trans (Keep.set (.inr (.inl rfl)) _)))
    | some b7 =>
     rw[has]at u B;simp only at u;simp only[lL]at B;by_cases h8:b7=x.sort
     .rw[aD (λh=>h.1 h8)]at u;simp only[go_sem,G,cT M,bR O,e1,e2,e3,gp,U,Z,B,lB,cT h8];exact aP (u _ _ y z)
     .by_cases h9:tw=[]
      .rw[aF ⟨h8,.inl h9⟩]at u;simp only[go_sem,G,cT M,bR O,e1,e2,e3,gp,U,Z,B,lB,bR h8,cT h9];exact aP (u _ _ (y.setQ b3 b2 b0 _) (z.trans (Keep.set (.inr (.inr rfl)) _)))
      .cases H:Go.Op.bytesLess x.text tw with
       | true =>
        rw[aF ⟨h8,.inr H⟩]at u;simp only[go_sem,G,cT M,bR O,e1,e2,e3,gp,U,Z,B,lB,bR h8,bR h9,H];exact aP (u _ _ (y.setQ b3 b2 b0 _) (z.trans (Keep.set (.inr (.inr rfl)) _)))
       | false =>
        rw[aD (λh=>h.2.elim h9 (λh=>by rw[H]at h;cases h))]at u;simp only[go_sem,G,cT M,bR O,e1,e2,e3,gp,U,Z,B,lB,bR h8,bR h9,H];exact aP (u _ _ y z)
  .rw[aD (λh=>M h.1)]at u;simp only[go_sem,G,bR M];exact aP (u _ _ y z)
theorem aIl(l:List Tm)(hb:(aY l).length<=4294967200)(s:St)(KV Kp:St->A->Prop)(hk:∀s' m,s'.ge s->KV s' (.tuple [.mp m,.str (pS l)])):Den cx 133 [.list none (l.map Tm.enc)] KV Kp s:=by
 (refine aN func133 aEH ?_;simp only[go_sem,ntmps133,f133]);(refine aM λp hp=>?_);simp only[go_sem,hp];(refine aM λq hq=>?_);simp only[go_sem,hp,hq];(refine aM λm hm=>?_);simp only[go_sem,hp,hq,hm];have b5:=lO l;have z:p≠q:=λe=>by subst e;simp at hq
 have M:p≠m:=λe=>by subst e;simp at hm
 have U:q≠m:=λe=>by subst e;simp at hm
 have y:s.getO p=none:=hp;have B:s.getO q=none:=by simp only[hq]
 have G:s.getO m=none:=by simp only[hm]
 have h0:SoI s p m q ((aY l).length) ([],[]) () ((((s.setO p (.cells 174 [.nilm])).setO q (.cells 9 [.str []])).setO m (.map 0 [])).setO p (.cells 174 [.mp m])) :=
  ⟨tV (tV (tV (tV (aE s) y _) B _) G _) y _,by simp only[aL,dF],by simp only[aL,dF,aD M];rfl,by simp only[aL,dF,aD z,aD (Ne.symm U)]⟩
 refine Ex.loop (ι:=Nat × (List (aC × aC) × aC) × St) (λc=>[(2,.ptr p 0),(3,.ptr q 0),(7,.list none (l.map Tm.enc)),(8,.int .i64 (l.length:Nat)),(9,.int .i64 (c.1:Nat))])
  (λc=>c.2.2) (λc=>c.1<=l.length/\c.2.1=(aY (l.take c.1)).foldl uF ([],[])/\SoI s p m q ((aY (l.drop c.1)).length) c.2.1 () c.2.2) (λc=>l.length-c.1) (0,([],[]),_) ⟨aW _,rfl,h0⟩ ?_ (aE _) ?_
 .simp only[go_sem]
  try exact rfl
 .rintro⟨i,a,s1⟩ ⟨hi,ha,Z⟩;simp only at hi Z ha;refine aX (V:=aEH) _ _ _ _ ?_;simp only[go_sem]
  (apply aJ<;>intro h)<;>simp only[go_sem,h]
  .have u:i<l.length:=gQ h;clear h;obtain⟨x,hx⟩:=bB u;have H:=aBR hx;have O:=aBW hx
   have b6:x.pre.length<=(aY l).length:=by
    have e:aY l=aY (l.take i)++aY (l.drop i):=by rw[<-gX,mQ]
    have:=lE List.length e;rw[aH,H]at this;omega
   simp only[go_sem,hx,u];(refine aM λc hc=>?_);simp only[go_sem,hx,u,hc];refine aAl (aRI s p m q y G B z M (Ne.symm U)) x 1 _ _ () _ _ _ aB (by rw[<-H];exact Z.st (bG hc (aE _))) (λs4 v4 b1 b4=>?_);simp only[go_sem];exact⟨(i+1,_,s4),⟨u,by rw[O,rI,<-ha],b1⟩,aQ,aU i aB,aE _⟩
  .have b3:=bQ hi h;subst b3;rw[bT]at ha;rw[dP (bJ _)]at Z;clear h hi;subst ha;obtain⟨b2,gp,gm,gq⟩:=Z;have b0:s1.getO q=some (.cells 9 [.str (pS l)]):=gq;(refine bD (OT.r 0 4) [(2,[1])] ?_;simp only[go_sem,gp,b0,z,Ne.symm z]);exact aP (hk _ m (tV (tV b2 y _) B _))
structure BxI (s0:St) (p:Nat) (ty:TypeId) {α:Type} (f:α->A) (n:Nat) (a:α) (v:Unit) (s:St):Prop where
 ge:s.ge s0
 ob:s.getO p=some (.cells ty [f a])
def nF(p:Nat)(v:Unit)(x:Nat):Prop:=x=p
section
variable {s0:St} {p n:Nat} {ty:TypeId} {α:Type} {f:α->A} {a:α} {v:Unit} {s s':St}
theorem BxI.st(h:BxI s0 p ty f n a v s)(hs:s'.ge s):BxI s0 p ty f n a v s':=⟨hs.trans h.ge,hs.ob _ _ h.ob⟩
theorem BxI.fr{x:Nat}(h:BxI s0 p ty f n a v s)(u:s.getO x=none):¬ nF p v x:=by
 rintro rfl;rw[h.ob]at u;cases u
theorem BxI.set{m:Nat}(h:BxI s0 p ty f m a v s)(u:s0.getO p=none)(b:α):BxI s0 p ty f n b v (s.setO p (.cells ty [f b]))/\Keep (nF p) s v (s.setO p (.cells ty [f b])) v :=
 ⟨⟨tV h.ge u _,by rw[aL,aF rfl]⟩,Keep.set (show nF p v p from rfl) _⟩
theorem BxI.keep{m:Nat}(h:BxI s0 p ty f m a v s)(hs:s'.ge s):BxI s0 p ty f n a v s'/\Keep (nF p) s v s' v:=⟨⟨(h.st hs).ge,(h.st hs).ob⟩,Keep.ge hs v⟩
end
theorem aR5(s0:St)(p q r:Nat)(sg:Sig)(O:s0.getO p=none)(b0:s0.getO q=some (.cells 61 [.ptr r 0]))(hB:BookAt s0 r sg) :
  WalkOk (λa x=>a||yZ sg x) (BxI s0 p 4 A.bool) (nF p) 131 [.ptr q 0,.ptr p 0] where
 st:=BxI.st
 fr:=BxI.fr
 go:=by
  intro n a v x b3 s KV Kp b5 hI u;simp only[dD,dY];have H:=hI.ob;have U:=hI.ge.ob _ _ b0;have b4:¬ p=q:=λe=>by rw[e,b0]at O;cases O
  have b1:=hB.ge hI.ge;unfold yZ at u;(refine aN func131 [0,2,3,4,7,11] ?_;simp only[go_sem,ntmps131,f131]);(refine aM λc z=>?_);have M:(s.setO c (.cells 67 x.cs)).ge s:=bG z (aE s);have e1:=aI H z;have e2:=aI U z;obtain⟨k1,k2⟩:=hI.keep M;by_cases h5:x.kind=5
  .have Z:decide (x.kind=5)=true:=cT h5;rw[Z,dW]at u;simp only[go_sem,z,Z,e1,e2,H,U];refine aFB (b1.ge (by simp only[Tm.cs]at M;exact M)) x.text ?_;simp only[go_sem,z,e1,e2,H,U];(refine aM λd hd=>?_);have G:((s.setO c (.cells 67 x.cs)).setO d (.cells 80 (hU sg x.text).1.cs)).ge s:=by simp only[Tm.cs,Opr.cs];exact aR
   have b2:BxI s0 p 4 A.bool (n+1) a v ((s.setO c (.cells 67 x.cs)).setO d (.cells 80 (hU sg x.text).1.cs)):=hI.st G;obtain⟨B,y⟩:=b2.set O (a||(hU sg x.text).2.1);have y:=(Keep.ge (Ow:=nF p) G v).trans y;simp only[Tm.cs,Opr.cs]at B y;have e3:=aI H hd.2;simp only[go_sem,z,hd,e1,e2,e3,H,U];cases ha:a
   .rw[ha]at u B y;simp only[gW]at u B y;cases hf:(hU sg x.text).2.1<;>rw[hf]at u B y<;>simp only[go_sem,z,hd,e1,e2,e3,H,U,ha]
    .exact aP (u _ _ B y)
    .exact aP (u _ _ B y)
   .rw[ha]at u B y;simp only[jT]at u B y;simp only[go_sem,z,hd,e1,e2,e3,H,U,ha];exact aP (u _ _ B y)
  .have Z:decide (x.kind=5)=false:=bR h5;rw[Z,gB,jA]at u;simp only[go_sem,z,Z];simp only[Tm.cs]at k1 k2;exact aP (u _ _ k1 k2)
theorem aTx{α:Type}(f:α->Bool)(l:List α):∀a:Bool,l.foldl (λa x=>a||f x) a=(a||l.any f):=by
 induction l with
 | nil=>intro a;simp
 | cons x r u=>intro a;rw[pD,u,pF,Bool.or_assoc]
theorem aSE{α:Type}(f:α->Bool)(l:List α):∀a:Bool,l.foldl (λa x=>a&&f x) a=(a&&l.all f):=by
 induction l with
 | nil=>intro a;simp
 | cons x r u=>intro a;rw[pD,u,fG,Bool.and_assoc]
theorem aIr{r:Nat}{sg:Sig}{s:St}{KV Kp:St->A->Prop}(h:BookAt s r sg)(t:Tm)(Z:t.pre.length<=4294967296)(hk:KV s (.bool (pM sg t))):Den cx 75 [.ptr r 0,.agg t.cs] KV Kp s:=by
 (refine aN func75 [0,1,2,3,4,5] ?_;simp only[go_sem,ntmps75,f75]);(refine aM λq H=>?_);simp only[go_sem,H];(refine aM λc B=>?_);simp only[go_sem,H,B];(refine aM λp O=>?_);simp only[go_sem,H,B,O];have z:((s.setO q (.cells 61 [.ptr r 0])).setO c (.cells 67 t.cs)).ge s:=by simp only[Tm.cs];exact aR
 have u:((s.setO q (.cells 61 [.ptr r 0])).setO c (.cells 67 t.cs)).getO p=none:=by simp only[aL,O,cZ]
 have G:¬ c=q:=λe=>by subst e;simp at B
 refine aAl (aR5 ((s.setO q (.cells 61 [.ptr r 0])).setO c (.cells 67 t.cs)) p q r sg u (by simp only[aL,dF,aD G]) (h.ge z)) t 1 0 false () _ _ _ Z
  ⟨by simp only[Tm.cs];exact bG (by simp only[Tm.cs]at u;exact u) (aE _),by rw[aL,aF rfl]⟩ (λs4 v4 y U=>?_)
 have M:=y.ob;rw[aTx,gW]at M;simp only[go_sem,M];exact aG hk (y.ge.trans z)
end
theorem aQd{l:List Tm}{i:Nat}{x:Tm}(h:l[i]?=some x):mH (l.drop i)=x::mH (l.drop (i+2)):=by
 obtain⟨y,rfl⟩:=dZ.1 h;rw[oZ y];by_cases u:i+1<l.length
 .rw[oZ u];rfl
 .rw[dP aB,dP aB];rfl
theorem aUs(s0:St)(p:Nat)(b3:s0.getO p=none):WalkOk (λa x=>a&&zR x) (BxI s0 p 4 A.bool) (nF p) 134 [.ptr p 0] where
 st:=BxI.st
 fr:=BxI.fr
 go := by
  intro n a v x b9 s KV Kp bc hI M;simp only[dD,dY];have gp:=hI.ob;(refine aN func134 [0,2,3,5,6,21,26] ?_;simp only[go_sem,ntmps134,f134]);(refine aM λc hc=>?_);have U:(s.setO c (.cells 67 x.cs)).ge s:=bG hc (aE s);have e1:=aI gp hc;have b5:BxI s0 p 4 A.bool n a v (s.setO c (.cells 67 x.cs)):=(hI.keep U).1;by_cases h8:x.kind=8
  .have d6:decide (x.kind=6)=false:=by rw[h8];rfl
   have d8:decide (x.kind=8)=true:=cT h8;have b4:zR x=(mH x.kids).all vW:=by unfold zR;rw[d6,d8];rfl
   rw[b4]at M;obtain⟨O,z⟩:=b5.set (n:=n) b3 a;have z:=(Keep.ge (Ow:=nF p) U v).trans z
   have bb:s0.getO c=none:=by
    cases h0:s0.getO c with
    | none=>rfl
    | some o=>rw[hI.ge.ob c o h0]at hc;cases hc
   have b6:((s.setO c (.cells 67 x.cs)).setO p (.cells 4 [.bool a])).getO c=some (.cells 67 x.cs):=by rw[aL,aD (λe=>e1.1 e),aL,aF rfl]
   generalize hT:(a&&(mH x.kids).all vW)=tgt at M;simp only[Tm.cs]at O z b6;cases a<;>simp only[go_sem,hc,gp,e1,d6,d8]
   all_goals
    refine Ex.loop (ι:=Nat × Bool × St) (λd=>[(2,.ptr p 0),(3,.ptr c 0),(5,.int .i64 (d.1:Nat))]) (λd=>d.2.2)
     (λd=>d.1<=x.kids.length+1/\(d.2.1&&(mH (x.kids.drop d.1)).all vW)=tgt/\BxI s0 p 4 A.bool n d.2.1 v d.2.2/\Keep (nF p) s v d.2.2 v/\d.2.2.getO c=some (.cells 67 x.cs)) (λd=>x.kids.length+1-d.1) (0,_,_)
     ⟨aW _,hT,O,z,b6⟩ ?_ (aE _) ?_
    .simp only[go_sem]
     try rfl
    .rintro⟨i,b,s1⟩ ⟨hi,B,b0,b2,H⟩;simp only at hi B b0 b2 H;have g1:=b0.ob;simp only[Tm.cs]at H;refine aX (V:=[0,2,3,5,6,21,26]) _ _ _ _ ?_;simp only[go_sem,H]
     (apply aJ<;>intro h)<;>simp only[go_sem,h,H]
     .have b7:i<x.kids.length:=gQ h;clear h;obtain⟨y,hy⟩:=bB b7;have b8:=aQd hy;rw[b8,fG,<-Bool.and_assoc]at B;simp only[go_sem,H,hy,b7];(refine aM λd hd=>?_);have f1:=aI g1 hd;have f2:=aI H hd
      have w2:IntKind.i64.wrap ((i:Int)+2)=((i+2:Nat):Int):=by
       rw[fV _ aB aB];omega
      have b1:(s1.setO d (.cells 67 y.cs)).ge s1:=bG hd (aE _);obtain⟨Z,G⟩:=((b0.keep b1).1:BxI s0 p 4 A.bool n b v _).set (n:=n) b3 (b&&vW y);have G:=(b2.trans (Keep.ge (Ow:=nF p) b1 v)).trans G
      have u:((s1.setO d (.cells 67 y.cs)).setO p (.cells 4 [.bool (b&&vW y)])).getO c=some (.cells 67 x.cs):=by
       rw[aL,aD (λe=>e1.1 e),aL,aD (λe=>f2.1 e.symm)];simp only[Tm.cs];exact H
      simp only[Tm.cs]at Z G u;cases b
      .simp only[go_sem,hd,f1,f2,g1,H];simp only[gB]at B Z G u;exact⟨(i+2,false,_),⟨aQ,by rw[<-B];rfl,Z,G,u⟩,aQ,w2,aE _⟩
      .simp only[go_sem,hd,f1,f2,g1,H];refine aOG y ?_;simp only[dW,vW]at B Z G u;cases c1:xM y<;>rw[c1]at B Z G u<;>simp only[go_sem,hd,f1,f2,g1,H]
       .cases c2:decide (y.kind=6)<;>rw[c2]at B Z G u<;>simp only[go_sem,hd,f1,f2,g1,H,c2]
        .exact⟨(i+2,_,_),⟨aQ,B,Z,G,u⟩,aQ,w2,aE _⟩
        .cases c3:decide (y.text=[95])<;>rw[c3]at B Z G u<;>(try simp only[go_sem,hd,f1,f2,g1,H,c2,c3])
         .exact⟨(i+2,_,_),⟨aQ,B,Z,G,u⟩,aQ,w2,aE _⟩
         .exact⟨(i+2,_,_),⟨aQ,B,Z,G,u⟩,aQ,w2,aE _⟩
       .exact⟨(i+2,_,_),⟨aQ,B,Z,G,u⟩,aQ,w2,aE _⟩
     .have U:x.kids.length<=i:=Nat.le_of_not_lt (gQ h);rw[dP U]at B;simp only[mH,nK,eU]at B;subst B;exact aP (M _ _ b0 b2)
  .have d8:decide (x.kind=8)=false:=bR h8;have b4:zR x=!(decide (x.kind=6)&&decide (x.text=[36])):=by unfold zR;rw[d8];simp
   rw[b4]at M;obtain⟨O,z⟩:=b5.set (n:=n) b3 (a&&!(decide (x.kind=6)&&decide (x.text=[36])));have z:=(Keep.ge (Ow:=nF p) U v).trans z;simp only[Tm.cs]at O z;cases a
   .simp only[gB]at M O z;simp only[go_sem,hc,gp,e1,d8];exact aP (M _ _ O z)
   .simp only[dW]at M O z;cases c1:decide (x.kind=6)<;>rw[c1]at M O z<;>simp only[go_sem,hc,gp,e1,d8,c1]
    .exact aP (M _ _ O z)
    .cases c2:decide (x.text=[36])<;>rw[c2]at M O z<;>simp only[go_sem,hc,gp,e1,d8,c1,c2]
     .exact aP (M _ _ O z)
     .exact aP (M _ _ O z)
section
theorem sI{C:Cx}{f:FuncId}{l u:List A}{KV Kp:St->A->Prop}{s:St}(h:Den C f l KV Kp s)(e:u=l):Den C f u KV Kp s:=by rw[e];exact h
theorem aBf(t:Tm):[t].map Tm.enc=[.agg t.cs]:=by simp only[List.map,cY]
theorem aIv{r:Nat}{sg:Sig}{s:St}{KV Kp:St->A->Prop}(h:BookAt s r sg)(t:Tm)(hw:TmW t)(hb:t.pre.length<=4294967200)(u:KV s (.bool (mF sg t))):Den cx 76 [.ptr r 0,.agg t.cs] KV Kp s:=by
 unfold mF at u;(refine aN func76 [0,1,3,4,6,7,21] ?_;simp only[go_sem,ntmps76,f76]);(refine aM λc z=>?_);have M:BookAt (s.setO c (.cells 67 t.cs)) r sg:=h.ge (bG z (aE s));simp only[Tm.cs]at M;simp only[go_sem,z];refine aIW t hw _ _ _ ?_;cases Z:(Tm.val 60 t 0).isSome<;>rw[Z]at u<;>simp only[go_sem,z]
 .exact aG u aR
 refine aIY t M ?_;cases c2:fC sg t<;>rw[c2]at u<;>simp only[go_sem,z]
 .exact aG u aR
 refine aIr M t aB ?_;cases c3:pM sg t<;>rw[c3]at u<;>simp only[go_sem,z]
 rotate_left
 .exact aG u aR
 refine sI (aIl [t] (by simp only[aY,dK];omega) _ _ _ (λs1 m B=>?_)) (by rw[aBf];rfl);have G:s1.getO c=some (.cells 67 t.cs):=B.ob _ _ (by simp only[aL,dF];rfl);simp only[Tm.cs]at G;simp only[go_sem,G];(refine aM λp H=>?_);have e1:=aI G H;simp only[go_sem,G,H,e1];have O:s1.ge s:=B.trans aR;have h0:BxI s1 p 4 A.bool (t.pre.length+0) (decide (pS [t]=[])) () (s1.setO p (.cells 4 [.bool (decide (pS [t]=[]))])):=⟨bG H (aE _),by rw[aL,aF rfl]⟩;refine aAl (aUs s1 p H) t 1 0 _ () _ _ _ aB h0 (λs4 v4 y b0=>?_);have U:=y.ob;rw[aSE]at U;simp only[go_sem,U];exact aG u (y.ge.trans O)
def CK(KV Kp:St->A->Prop)(s:St):Option Fault->Prop
 | none=>KV s (.tuple [])
 | some f=>Kp s (.iface 36 f.enc)
section
variable {s:St} {KV Kp:St->A->Prop}
theorem lS{a b:Option Fault}(h:CK KV Kp s (aK a b)){u y:St->A->Prop}{s':St}(z:CK KV Kp s b->u s' (.tuple []))(B:∀f:Fault,Kp s (.iface 36 f.enc)->y s' (.iface 36 f.enc)):CK u y s' a:=by
 cases a with
 | none=>exact z h
 | some f=>exact B f h
theorem aQw(u:Int)(n:aC)(l c:Int)(y:Kp s (.iface 36 (⟨u,n,l,c⟩:Fault).enc)):Den cx 58 [.int .i64 u,.str n,.int .i64 l,.int .i64 c] KV Kp s:=by
 (refine aN func58 [0,1,2,3] ?_;simp only[go_sem,ntmps58,f58]);exact aP y
theorem fU(u:Int)(n:aC)(l c:Int)(y:Kp s (.iface 36 (⟨u,n,l,c⟩:Fault).enc)):Den cx 24 [.agg [.int .i64 l,.int .i64 c],.int .i64 u,.str n] KV Kp s:=by
 (refine aN func24 [0,1,2,3] ?_;simp only[go_sem,ntmps24,f24]);(refine aM λp z=>?_);simp only[go_sem,z];refine aQw u n l c ?_;simp only[go_sem];exact aG y aR
def CkAt(s:St)(c:Nat)(d:Dfn):Prop:=∃r,s.getO c=some (.cells 64 (d.cs++[.ptr r 0]))/\BookAt s r d.sig
theorem CkAt.ge{s s':St}{c:Nat}{d:Dfn}(h:CkAt s c d)(hs:s'.ge s):CkAt s' c d:=by
 obtain⟨r,u,y⟩:=h;exact⟨r,hs.ob _ _ u,y.ge hs⟩
variable {c:Nat} {d:Dfn}
theorem aPj(h:CkAt s c d)(t:Tm)(G:KV s (.str (lU d.sig t))):Den cx 138 [.ptr c 0,.agg t.cs] KV Kp s:=by
 obtain⟨r,u,B⟩:=h;(refine aN func138 [0,1,3,4] ?_;simp only[go_sem,ntmps138,f138]);(refine aM λp y=>?_);have z:=aI u y;simp only[go_sem,y,z,u];(refine bD (OT.r 0 7) [] ?_;simp only[go_sem,y,z,u]);refine aIp (B.ge (by exact aR)) t ?_;simp only[go_sem];exact aG G aR
theorem aAj(h:CkAt s c d)(n:aC)(l k:Int)(t:Tm)(S:aC)(B:CK KV Kp s (jY d.sig n l k t S)):Den cx 79 [.ptr c 0,.agg [.int .i64 l,.int .i64 k],.str n,.agg t.cs,.str S] KV Kp s:=by
 have M:=h;obtain⟨r,y,O⟩:=h;unfold jY bH at B;(refine aN func79 [0,1,2,3,4,6,8,19] ?_;simp only[go_sem,ntmps79,f79]);(refine aM λp u=>?_);simp only[go_sem,u];(refine aM λq z=>?_);have G:=aI y u;have H:=aI y z.2;simp only[go_sem,u,z,y,G,H];(refine bD (OT.l [0,1,2,3,4,5,7,6,8,9] .nil) [(6,[3])] ?_;simp only[go_sem,u,z,G,H,y]);refine aPj (M.ge (by exact aR)) t ?_;simp only[go_sem,u,z,G,H,y];refine aJu (O.ge (by exact aR)) _ S ?_;cases U:mZ d.sig (lU d.sig t) S<;>rw[U]at B<;>simp only[go_sem,u,z]
 .refine fU 16 n l k ?_;simp only[go_sem];exact aG B aR
 .exact aG B aR
theorem aBD(h:CkAt s c d)(n:aC)(l k:Int)(ts:List Tm)(G:CK KV Kp s (lH d.sig n l k ts)):Den cx 74 [.ptr c 0,.agg [.int .i64 l,.int .i64 k],.str n,.list none (ts.map Tm.enc)] KV Kp s:=by
 refine hH λM=>?_
 have b1:Rlz (.list none (ts.map Tm.enc)):=M _ bA;clear M;obtain⟨r,B,hB⟩:=h;unfold lH bH at G;(refine aN func74 [0,1,2,3,5,9,10,11,12,13,22] ?_;simp only[go_sem,ntmps74,f74]);(refine aM λp z=>?_);have U:=aI B z;simp only[go_sem,z,B,U]
 refine Ex.loop (ι:=Nat) (λi=>[(0,.ptr c 0),(2,.str n),(5,.ptr p 0),(10,.list none (ts.map Tm.enc)),(11,.int .i64 (ts.length:Nat)),(12,.int .i64 (i:Nat))])
  (λ_=>s.setO p (.cells 58 [.int .i64 l,.int .i64 k])) (λi=>i<=ts.length/\(ts.take i).all (fC d.sig)=true) (λi=>ts.length-i) 0 ⟨aW _,rfl⟩ ?_ (aE _) ?_
 .simp only[go_sem]
  try exact rfl
 .rintro i ⟨hi,u⟩;refine aX (V:=[0,1,2,3,5,9,10,11,12,13,22]) _ _ _ _ ?_;simp only[go_sem,z]
  (apply aJ<;>intro h)<;>simp only[go_sem,h,z]
  .have y:i<ts.length:=gQ h;clear h;obtain⟨x,O⟩:=bB y;have b2:x∈ts:=bK O;have ht:(ts.take (i+1)).all (fC d.sig)=fC d.sig x:=by rw[gJ,O,kN,u];simp
   simp only[go_sem,z,O,y];(refine aM λq H=>?_);have e2:=aI B H.2;simp only[go_sem,z,O,y,H,U,e2,B];(refine bD (OT.r 0 7) [] ?_;simp only[go_sem,z,H,U,e2,B]);refine aIY x (hB.ge (by exact aR)) ?_;cases Z:fC d.sig x
   .simp only[go_sem,z,H]
    have e:ts.all (fC d.sig)=false:=by
     rw[jQ];intro e;rw[dE]at e;rw[e x b2]at Z;cases Z
    rw[e]at G;refine fU 16 n l k ?_;simp only[go_sem];exact aG G aR
   .simp only[go_sem,z,H];exact⟨i+1,⟨y,by rw[ht,Z]⟩,by omega,b1.wrap (i:=i) (gQ y),cD⟩
  .have b0:=bQ hi h;subst b0;rw[bT]at u;rw[u]at G;exact aG G aR
theorem aPQ(l k:Int)(ts:List Tm)(H:(aY ts).length<=4294967200)(z:CK KV Kp s (vS l k ts)):Den cx 77 [.agg [.int .i64 l,.int .i64 k],.list none (ts.map Tm.enc)] KV Kp s:=by
 unfold vS bH at z;(refine aN func77 [0,1,2,5,12] ?_;simp only[go_sem,ntmps77,f77]);(refine aM λp M=>?_);simp only[go_sem,M];refine aIl ts H _ _ _ (λs1 m y=>?_);have G:s1.getO p=some (.cells 58 [.int .i64 l,.int .i64 k]):=y.ob _ _ gH;have u:s1.ge s:=y.trans aR;cases B:decide (pS ts=[])<;>rw[B]at z<;>simp only[go_sem,G,B]
 .refine fU 16 _ l k ?_;simp only[go_sem];exact aG z u
 .exact aG z u
end
theorem cF{C:Cx}{f:FuncId}{l u:List A}{KV Kp:St->A->Prop}{s:St}(h:Den C f l KV Kp s)(e:u=l:=by simp only[go_sem]):Den C f u KV Kp s:=sI h e
end
section
theorem sH{α:Type}(f:α->Option Fault){l:List α}{i:Nat}{x:α}(h:l[i]?=some x):bS f (l.drop i)=aK (f x) (bS f (l.drop (i+1))):=by
 obtain⟨u,rfl⟩:=dZ.1 h;rw[oZ u];rfl
section
variable {s:St} {KV Kp:St->A->Prop} {c:Nat} {d:Dfn}
theorem aOo(l k:Int)(lefts ts:List Tm)(H:(aY lefts).length<=4294967200)(M:(aY ts).length<=4294967200)(u:CK KV Kp s (uB l k lefts ts)) :
  Den cx 78 [.agg [.int .i64 l,.int .i64 k],.list none (lefts.map Tm.enc),.list none (ts.map Tm.enc)] KV Kp s:=by
 unfold uB at u
 have Z:(lI ts).length<=(aY ts).length:=by
  unfold lI iT;rw[(tP _).length_eq,aO];exact List.length_filter_le _ _
 (refine aN func78 [0,1,2,3,6,8,12,13,14,15,29] ?_;simp only[go_sem,ntmps78,f78]);(refine aM λp y=>?_);simp only[go_sem,y];refine aPH lefts H _ _ _ (λvs b0=>?_);simp only[go_sem,y,strs];refine aJm ts M _ _ _ ?_;simp only[go_sem,y,strs];generalize lI ts=L at u Z⊢
 refine Ex.loop (ι:=Nat) (λi=>[(3,.ptr p 0),(6,.list none (vs.map .str)),(12,.list none (L.map .str)),(13,.int .i64 (L.length:Nat)),(14,.int .i64 (i:Nat))])
  (λ_=>s.setO p (.cells 58 [.int .i64 l,.int .i64 k])) (λi=>i<=L.length/\CK KV Kp s (bS (λs=>bH (decide (s=[95])||(decide (s=[36])||!decide (s∈iT lefts))) ⟨17,s,l,k⟩) (L.drop i))) (λi=>L.length-i) 0 ⟨aW _,u⟩ ?_ (aE _) ?_
 .simp only[go_sem]
  try exact rfl
 .clear u;rintro i ⟨hi,u⟩;refine aX (V:=[0,1,2,3,6,8,12,13,14,15,29]) _ _ _ _ ?_;simp only[go_sem,y]
  (apply aJ<;>intro h)<;>simp only[go_sem,h,y]
  .have z:i<L.length:=gQ h;clear h;obtain⟨x,hx⟩:=bB z;rw[sH _ hx]at u;simp only[go_sem,y,hx,z];cases G:decide (x=[95])<;>rw[G]at u<;>simp only[go_sem,y,G]
   rotate_left
   ·replace u:CK KV Kp s (some (⟨17,x,l,k⟩:Fault)):=u
    refine fU 17 x l k ?_;simp only[go_sem];exact aG u aR
   cases c2:decide (x=[36])<;>rw[c2]at u<;>simp only[go_sem,y,G,c2]
   rotate_left
   ·replace u:CK KV Kp s (some (⟨17,x,l,k⟩:Fault)):=u
    refine fU 17 x l k ?_;simp only[go_sem];exact aG u aR
   have U:x≠[95]:=of_decide_eq_false G;have B:decide (x∈vs)=decide (x∈iT lefts):=by rw[cC,b0];exact⟨λh=>h.1,λh=>⟨h,U⟩⟩
   refine pG _ _ _ _ _ ?_;rw[B];cases c3:decide (x∈iT lefts)<;>rw[c3]at u<;>simp only[go_sem,y]
   ·replace u:CK KV Kp s (some (⟨17,x,l,k⟩:Fault)):=u
    refine fU 17 x l k ?_;simp only[go_sem];exact aG u aR
   .exact⟨i+1,⟨z,u⟩,by omega,aU i aB,cD⟩
  .have O:=bQ hi h;subst O;rw[dP (bJ _)]at u;exact aG u aR
theorem aJ7{α:Type}{q:α->Bool}{l:List α}{i:Nat}{x:α}(h:l[i]?=some x)(u:(l.take i).find? q=none):(l.take (i+1)).find? q=if q x=true then some x else none:=by
 rw[gJ,h,List.find?_append,u];cases y:q x<;>simp[y]
theorem aIM{α:Type}{q:α->Bool}{l:List α}{i:Nat}{x:α}(h:(l.take i).find? q=some x):l.find? q=some x:=by
 rw[<-mQ i l,List.find?_append,h];rfl
theorem aFQ(h:CkAt s c d)(ho:d.once.length<=4294967000)(hm:d.many.length<=4294967000)(n:aC)(G:KV s (.tuple [.str (dJ d n).1,.bool (dJ d n).2.1,.bool (dJ d n).2.2])):Den cx 82 [.ptr c 0,.str n] KV Kp s:=by
 obtain⟨r,Z,hB⟩:=h;unfold dJ at G;(refine aN func82 aHO ?_;simp only[go_sem,ntmps82,f82]);simp only[go_sem,Z]
 refine Ex.loop (ι:=Nat) (λi=>[(0,.ptr c 0),(1,.str n),(15,.list none (d.once.map Cel.enc)),(16,.int .i64 (d.once.length:Nat)),(17,.int .i64 (i:Nat))])
  (λ_=>s) (λi=>i<=d.once.length/\(d.once.take i).find? (λx=>decide (x.name=n))=none) (λi=>d.once.length-i) 0 ⟨aW _,rfl⟩ ?_ (aE _) ?_
 .simp only[go_sem]
  try exact rfl
 .rintro i ⟨U,u⟩;refine aX (V:=aHO) _ _ _ _ ?_;simp only[go_sem]
  (apply aJ<;>intro h)<;>simp only[go_sem,h]
  .have z:i<d.once.length:=gQ h;clear h;obtain⟨x,O⟩:=bB z;have y:=aJ7 O u;simp only[go_sem,O,z];(refine aM λq H=>?_);have e1:=aI Z H;simp only[go_sem,O,z,H];cases B:decide (x.name=n)
   .rw[B,aD dM]at y;simp only[go_sem,H,B];exact⟨i+1,⟨z,y⟩,by omega,aU i aB,cD⟩
   .rw[B,aF rfl]at y;rw[aIM y]at G;simp only[go_sem,H,B];exact aG G aR
  .have M:=bQ U h;subst M;clear h U;rw[bT]at u;rw[u]at G;simp only at G;simp only[go_sem,Z]
   refine Ex.loop (ι:=Nat) (λi=>[(0,.ptr c 0),(1,.str n),(32,.list none (d.many.map Cel.enc)),(33,.int .i64 (d.many.length:Nat)),(34,.int .i64 (i:Nat))])
    (λ_=>s) (λi=>i<=d.many.length/\(d.many.take i).find? (λx=>decide (x.name=n))=none) (λi=>d.many.length-i) 0 ⟨aW _,rfl⟩ ?_ (aE _) ?_
   .simp only[go_sem]
    try exact rfl
   .rintro i ⟨U,u⟩;refine aX (V:=aHO) _ _ _ _ ?_;simp only[go_sem]
    (apply aJ<;>intro h)<;>simp only[go_sem,h]
    .have z:i<d.many.length:=gQ h;clear h;obtain⟨x,O⟩:=bB z;have y:=aJ7 O u;simp only[go_sem,O,z];(refine aM λq H=>?_);have e1:=aI Z H;simp only[go_sem,O,z,H];cases B:decide (x.name=n)
     .rw[B,aD dM]at y;simp only[go_sem,H,B];exact⟨i+1,⟨z,y⟩,by omega,aU i aB,cD⟩
     .rw[B,aF rfl]at y;rw[aIM y]at G;simp only[go_sem,H,B];exact aG G aR
    .have M:=bQ U h;subst M;clear h U;rw[bT]at u;rw[u]at G;exact aP G
end
end
section
section
variable {r:Nat} {sg:Sig} {s:St} {KV Kp:St->A->Prop}
theorem aPW(a:aC)(u:KV s (.bool (zE a))):Den cx 61 [.str a] KV Kp s:=by
 unfold zE at u;(refine aN func61 [0,2] ?_;simp only[go_sem,ntmps61,f61]);refine tO _ _ _ _ ?_;cases y:cP a<;>rw[y]at u<;>simp only[go_sem]
 .exact aP u
 refine aII _ _ _ ?_;simp only[go_sem];refine pG _ _ _ _ _ ?_;simp only[go_sem];exact aP u
theorem aNP(h:BookAt s r sg)(b:Below)(y:KV s (.bool (yV sg b))):Den cx 67 [.ptr r 0,.agg b.cs] KV Kp s:=by
 have h0:=h;obtain⟨a,o,f,ma,mo,mf,B,z,ho,hf,la,lo,lf⟩:=h;have O:=la b.high;unfold yV zF at y;(refine aN func67 [0,1,3,4] ?_;simp only[go_sem,ntmps67,f67]);(refine aM λp u=>?_);have G:=aI B u;have H:=aI z u;have M:(s.setO p (.cells 112 b.cs)).ge s:=bG u (aE s);simp only[Below.cs]at M;simp only[go_sem,u];(refine bD (OT.r 0 33) [(7,[14,16,23,25,26,28]),(17,[23,25,26,28])] ?_;simp only[go_sem,u,G,H,B,z]);cases U:decide (b.low=[65,110,121])<;>rw[U]at y<;>simp only[go_sem,u,G,H,B,z,U]
 rotate_left
 .exact aG y aR
 refine tI (h0.ge M) b.low ?_;cases c2:cR sg b.low<;>rw[c2]at y<;>simp only[go_sem,u,G,H,B,z]
 .exact aG y aR
 refine pG _ _ _ _ _ ?_;cases c3:decide (b.high∈sg.sorts)<;>rw[c3]at y<;>simp only[go_sem,u,G,H,B,z]
 .exact aG y aR
 by_cases Z:b.high∈nN sg
 .rw[aF Z]at O y;simp only[go_sem,u,G,H,B,z,O,strs];refine pG _ _ _ _ _ ?_;simp only[go_sem,u,G,H,B,z];exact aG y aR
 .rw[aD Z]at O y;simp only[go_sem,u,G,H,B,z,O,lB];refine aIk _ ?_;simp only[go_sem,u,G,H,B,z];exact aG y aR
theorem aOO(h:BookAt s r sg)(o:Opr)(G:KV s (.bool (xG sg o))):Den cx 71 [.ptr r 0,.agg o.cs] KV Kp s:=by
 unfold xG at G;have B:decide ((8:Int)<((o.args.length:Nat):Int))=decide (8<o.args.length):=by rw[cC];omega
 have z:decide (((o.args.length:Nat):Int)<=8)=!decide (8<o.args.length):=by rw[<-decide_not,cC];omega
 have y:decide (((o.pieces.length:Nat):Int)=0)=decide (o.pieces.length=0):=by rw[cC];omega
 have z2:decide (((o.strict.length:Nat):Int)=0)=decide (o.strict.length=0):=by rw[cC];omega
 (refine aN func71 [0,1,3,4,5] ?_;simp only[go_sem,ntmps71,f71]);(refine aM λp u=>?_);have M:(s.setO p (.cells 80 o.cs)).ge s:=bG u (aE s);have H:=h.ge M;simp only[Opr.cs]at H;simp only[go_sem,u,y,z2]
 (repeat' (first|exact aG G aR|(refine tO _ _ _ _ ?_;simp only[go_sem,u,B,z,y,z2])|(refine aFx _ _ _ _ ?_;simp only[go_sem,u,B,z,y,z2])|(refine aDA o.args (cR sg) 68 [.ptr r 0] [] _ _ _ (λx U s' KV Kp O G=>tI (H.ge O) x G) ?_;simp only[go_sem,u,B,z,y,z2])|(refine tI H o.sort ?_;simp only[go_sem,u,B,z,y,z2])|((apply aJ<;>intro h)<;>simp only[go_sem,h,u,B,z,y,z2]<;>(try simp only[h,dW,gB,eU,iZ,lM,jT,jA,gW,fP,iB]at G))))
theorem aTP(c:UInt8):decide (0<=Lib.indexByte [34,39,92] c)=decide (c∈([34,39,92]:aC)):=by
 have h:∀c:UInt8,(0<=Lib.indexByte [34,39,92] c)↔c∈([34,39,92]:aC):=by
  intro c;simp only[Lib.indexByte,dG,iI,eJ,beq_iff_eq];by_cases u:(34:UInt8)=c
  .simp[u]
  .by_cases y:(39:UInt8)=c
   .simp[u,y]
   .by_cases z:(92:UInt8)=c
    .simp[u,y,z]
    .simp[u,y,z,Ne.symm u,Ne.symm y,Ne.symm z]
 rw[cC];exact h c
theorem aGu{α:Type}{f:α->Bool}{l:List α}{i:Nat}{x:α}(h:l[i]?=some x)(u:(l.take i).all f=true):(l.take (i+1)).all f=f x:=by
 rw[gJ,h,kN,u];simp
theorem aGg{α:Type}{f:α->Bool}{l:List α}{x:α}(h:x∈l)(u:f x=false):l.all f=false:=by
 rw[jQ];intro e;rw[dE]at e;rw[e x h]at u;cases u
theorem aOh(x:aC)(y:KV s (.bool (vL x))):Den cx 187 [.str x] KV Kp s:=by
 unfold vL at y;have G:decide ((20:Int)<((x.length:Nat):Int))=decide (20<x.length):=by rw[cC];omega
 (refine aN func187 [0,2,3,4,11,13,14,15,34] ?_;simp only[go_sem,ntmps187,f187]);cases H:decide (x=[])<;>rw[H]at y<;>simp only[go_sem,H,G]
 rotate_left
 .exact aP y
 cases M:decide (20<x.length)<;>rw[M]at y<;>simp only[go_sem,H,M,G]
 rotate_left
 .exact aP y
 have b0:x.length<=20:=by have:=of_decide_eq_false M;omega
 refine Ex.loop (ι:=Nat) (λi=>[(0,.str x),(13,.int .i64 (x.length:Nat)),(14,.int .i64 (i:Nat))]) (λ_=>s) (λi=>i<=x.length/\(x.take i).all oQ=true) (λi=>x.length-i) 0 ⟨aW _,rfl⟩ ?_ (aE _) ?_
 .simp only[go_sem]
  try exact rfl
 .rintro i ⟨hi,u⟩;refine aX (V:=[0,2,3,4,11,13,14,15,34]) _ _ _ _ ?_;simp only[go_sem]
  (apply aJ<;>intro h)<;>simp only[go_sem,h]
  .have z:i<x.length:=gQ h;clear h;obtain⟨c,O⟩:=bB z;have U:c∈x:=bK O;have B:=aGu (f:=oQ) O u;unfold oQ at B;simp only[go_sem,O,z]
   have bad:(!decide ((c.toNat:Int)<33)&&(!decide (126<(c.toNat:Int))&&(!jW c.toNat&&!decide (c∈[34,39,92]))))=false->KV s (.bool false):=λe=>by
    have h0:x.all oQ=false:=aGg U (show oQ c=false from e);rw[h0]at y;exact y
   cases s1:decide ((c.toNat:Int)<33)<;>rw[s1]at B bad<;>simp only[go_sem,s1]
   rotate_left
   .exact aP (bad rfl)
   cases s2:decide (126<(c.toNat:Int))<;>rw[s2]at B bad<;>simp only[go_sem,s1,s2]
   rotate_left
   .exact aP (bad rfl)
   refine aDe _ _ _ _ ?_;cases s3:jW c.toNat<;>rw[s3]at B bad<;>simp only[go_sem,s1,s2]
   rotate_left
   .exact aP (bad rfl)
   refine aCZ _ _ c _ _ ?_;cases s4:decide (c∈([34,39,92]:aC))<;>rw[s4]at B bad<;>simp only[go_sem,s1,s2,aTP,s4]
   .exact⟨i+1,⟨z,B⟩,by omega,aU i aB,aE _⟩
   .exact aP (bad rfl)
  .have Z:=bQ hi h;subst Z;rw[bT]at u;rw[u]at y;exact aP y
end
end
section
theorem wN{l:List Tm}{x:Tm}(h:x∈l):x.pre.length<=(aY l).length:=by
 induction l with
 | nil=>cases h
 | cons y r u =>
  simp only[aY,aH];rcases List.mem_cons.1 h with rfl|h
  .omega
  .have:=u h;omega
theorem aGP{t x:Tm}(h:x∈t.kids):x.pre.length<=t.pre.length:=by
 rw[iJ t,aV];have:=wN (l:=t.kids++t.rest) (iX _ h);omega
theorem kV{l:List Tm}{y:A}(u:y∈l.map Tm.enc):y.cells.length=6:=by
 obtain⟨z,_,rfl⟩:=cN.1 u;rw[cY];rfl
theorem aR0(f:Fault)(r:Option Fault):aK (bH false f) r=r:=rfl
theorem aF8(f:Fault)(r:Option Fault):aK (bH (!true) f) r=r:=rfl
theorem eO(a b c:Option Fault):aK (aK a b) c=aK a (aK b c):=by cases a<;>rfl
theorem aRM(x:Eqn):(aY (x.right::x.cond)).length<=(aY (fL x)).length:=by
 simp only[fL,aY,aH];omega
theorem aQ7(x:Eqn):(aY (x.right::x.cond++[x.left])).length=(aY (fL x)).length:=by
 rw[gX];simp only[fL,aY,aH,dK];omega
theorem aK5(t:Tm):t.kids.length+1<=t.pre.length:=by
 rw[iJ t,aV];have:=lO (t.kids++t.rest);rw[aH]at this;omega
theorem aR8{α:Type}{f:α->Bool}{l:List α}{i:Nat}{x:α}(h:l[i]?=some x)(u:(l.take i).any f=false):(l.take (i+1)).any f=f x:=by
 rw[gJ,h,pC,u];simp
theorem aS1{α:Type}{f:α->Bool}{l:List α}{x:α}(h:x∈l)(u:f x=true):l.any f=true:=jS.2 ⟨x,h,u⟩
section
variable {s:St} {KV Kp:St->A->Prop} {c:Nat} {d:Dfn}
theorem CK.map{a:Option Fault}(h:CK KV Kp s a){u y:St->A->Prop}{s':St}(z:KV s (.tuple [])->u s' (.tuple []))(B:∀f:Fault,Kp s (.iface 36 f.enc)->y s' (.iface 36 f.enc)):CK u y s' a:=by
 cases a with
 | none=>exact z h
 | some f=>exact B f h
theorem aQD(h:CkAt s c d)(n:aC)(l k:Int)(ts:List Tm){tk:Option Nat}{es:List A}(u:es=ts.map Tm.enc)(y:CK KV Kp s (lH d.sig n l k ts)):Den cx 74 [.ptr c 0,.agg [.int .i64 l,.int .i64 k],.str n,.list tk es] KV Kp s:=by
 subst u;exact jI (show kC [.ptr c 0,.agg [.int .i64 l,.int .i64 k],.str n,.list tk (ts.map Tm.enc)] [.ptr c 0,.agg [.int .i64 l,.int .i64 k],.str n,.list none (ts.map Tm.enc)] from⟨bL _,bL _,bL _,A.le.forget _ _,trivial⟩) (aBD h n l k ts y)
theorem aJW(l k:Int)(ts:List Tm)(u:(aY ts).length<=4294967200){tk:Option Nat}{es:List A}(y:es=ts.map Tm.enc)(z:CK KV Kp s (vS l k ts)):Den cx 77 [.agg [.int .i64 l,.int .i64 k],.list tk es] KV Kp s:=by
 subst y;exact jI (show kC [.agg [.int .i64 l,.int .i64 k],.list tk (ts.map Tm.enc)] [.agg [.int .i64 l,.int .i64 k],.list none (ts.map Tm.enc)] from⟨bL _,A.le.forget _ _,trivial⟩) (aPQ l k ts u z)
theorem aJf(l k:Int)(lefts ts:List Tm)(u:(aY lefts).length<=4294967200)(y:(aY ts).length<=4294967200){tk tl:Option Nat}{es z:List A}(hl:z=lefts.map Tm.enc)(B:es=ts.map Tm.enc)(G:CK KV Kp s (uB l k lefts ts)) :
  Den cx 78 [.agg [.int .i64 l,.int .i64 k],.list tl z,.list tk es] KV Kp s:=by
 subst B;subst hl;exact jI (show kC [.agg [.int .i64 l,.int .i64 k],.list tl (lefts.map Tm.enc),.list tk (ts.map Tm.enc)] [.agg [.int .i64 l,.int .i64 k],.list none (lefts.map Tm.enc),.list none (ts.map Tm.enc)] from⟨bL _,A.le.forget _ _,A.le.forget _ _,trivial⟩) (aOo l k lefts ts u y G)
theorem aSo(h:CkAt s c d)(x:Eqn)(hW:∀t,t∈fL x->TmW t)(hL:(aY (fL x)).length<=4294967000)(G:CK KV Kp s (xX d.sig x)):Den cx 27 [.ptr c 0,.agg x.cs] KV Kp s:=by
 have hC:=h;obtain⟨r,H,hB⟩:=h;unfold xX at G;have bq:=wN (l:=fL x) (x:=x.left) (cQ ..);have bp:x.cond.length+2<=(aY (fL x)).length:=lO (fL x);have bn:=aK5 x.left;have bm:TmW x.left:=hW _ (cQ ..);(refine uQ func27 aEO ?_;simp only[go_sem,ntmps27,f27]);(refine aM λp U=>?_);have e1:=aI H U;simp only[go_sem,U];(refine aM λq Z=>?_);have e2:=aI H Z.2;have e3:¬ p=q:=Z.1.1;simp only[go_sem,U,Z,H,e1,e2];by_cases h5:x.left.kind=5
 .have d5:decide (x.left.kind=5)=true:=cT h5;rw[aF h5]at G;have en:lG x=x.left.text:=aF (.inl h5);simp only[en]at G;simp only[go_sem,U,Z,H,e1,e2,d5];cases hl:eN d.sig.funs x.left.text with
  | none =>
   rw[hl]at G;(refine bD (OT.l [0,1,2,3,4,5,6] (.alt (.node 7 (OT.l [8,9,10,11,12,13] .nil)) (.node 11 (OT.l [7,8,9,10,12,13] .nil)))) [(11,[3,6])] ?_;simp only[go_sem,U,Z,H,e1,e2,d5]);refine⟨?_,?_⟩
   .refine cW (tQ (hB.ge ?_) x.left.text ?_)
    .exact aR
    simp only[go_sem,U,Z,H,e1,e2,d5,hl,uY,kZ,mI];(refine cH λb6 z=>?_);have e6:=aI H (aS z);simp only[go_sem,U,Z,H,e1,e2,d5,z,e6];refine cW (fU 15 _ _ _ ?_);simp only[go_sem];exact aG G aR
   ·(refine cH λb6 z=>?_);have e6:=aI H (aS z);simp only[go_sem,U,Z,H,e1,e2,d5,z,e6];refine cW (tQ (hB.ge ?_) x.left.text ?_)
    .exact aR
    simp only[go_sem,U,Z,H,e1,e2,d5,hl,z,e6,uY,kZ,mI];refine cW (fU 15 _ _ _ ?_);simp only[go_sem];exact aG G aR
  | some f =>
   rw[hl]at G;simp only at G;(refine bD (OT.l [0,1,2,3,4,5,6] (.alt (.node 7 (OT.l [8,9,10,11,12,13] .nil)) (.node 11 (OT.l [7,8,9,10,12,13] .nil)))) [(11,[3,6])] ?_;simp only[go_sem,U,Z,H,e1,e2,d5]);refine⟨?oA,?oB⟩
   case' oA =>
    refine cW (tQ (hB.ge ?_) x.left.text ?_)
    .exact aR
    simp only[go_sem,U,Z,H,e1,e2,d5,hl,qL,Option.isSome_some];(refine cH λb6 z=>?_);have e6:=aI H (aS z);simp only[go_sem,U,Z,H,e1,e2,d5,z,e6]
   case' oB =>
    (refine cH λb6 z=>?_);have e6:=aI H (aS z);simp only[go_sem,U,Z,H,e1,e2,d5,z,e6];refine cW (tQ (hB.ge ?_) x.left.text ?_)
    .exact aR
    simp only[go_sem,U,Z,H,e1,e2,d5,hl,z,e6,qL,Option.isSome_some]
   all_goals
    (refine bD (OT.l [0,1,2,3,4,5,6,8,9,7,10,11] .nil) [(7,[1,9]),(10,[1])] ?_;simp only[go_sem,U,Z,H,e1,e2,d5,z,e6]);refine .inr λt bl=>⟨by decide,λy hy=>kV hy,λy hy=>?_,by omega,?_⟩
    .simp only[dG,iI,eJ]at hy;rcases hy with rfl|rfl<;>rfl
    generalize hS:St.setT (St.setT _ t _) t _=S;have b2:S.ge s:=by subst hS;rw[oP];exact fR (tk:=some t) (by exact aR) (λu hu=>by cases hu;exact bl)
    have gp:S.getO p=some (.cells 69 x.cs):=by subst hS;simp only[Eqn.cs,Tm.cs,dY,dD];exact gH
    have gq:S.getO q=some (.cells 58 [.int .i64 x.line,.int .i64 x.col]):=by subst hS;exact gH
    have g6:S.getO b6=some (.cells 80 f.cs):=by subst hS;simp only[Opr.cs];exact gH
    simp only[Eqn.cs,Tm.cs,Opr.cs,dY,dD]at gp g6;clear hS;have bj:=hC.ge b2;have bg:=hB.ge b2;have gc:=b2.ob _ _ H;refine cW (aQD bj _ _ _ (fL x) (by simp only[fL,bX,cY];rfl) (lS G (λG=>?_) (λf hf=>?_)));rotate_left
    .simp only[go_sem];exact aG hf b2
    simp only[go_sem,gp,gq,g6]
    refine Ex.loop (ι:=Nat) (λi=>[(0,.ptr c 0),(3,.ptr p 0),(4,.ptr q 0),(5,.str x.left.text),(6,.ptr b6 0),(69,.list none (x.left.kids.map Tm.enc)),(70,.int .i64 (x.left.kids.length:Nat)),(71,.int .i64 (i:Nat))])
     (λ_=>S) (λi=>i<=x.left.kids.length/\(x.left.kids.take i).any (pM d.sig)=false) (λi=>x.left.kids.length-i) 0 ⟨aW _,rfl⟩ ?_ (aE _) ?_
    .simp only[go_sem]
     try exact rfl
    .rintro i ⟨hi,b0⟩;refine aX (V:=aEO) _ _ _ _ ?_;simp only[go_sem]
     (apply aJ<;>intro h)<;>simp only[go_sem,h]
     .have M:i<x.left.kids.length:=gQ h;clear h;obtain⟨k,O⟩:=bB M;have b3:k∈x.left.kids:=bK O;have bk:=aGP b3;have bf:=aR8 (f:=pM d.sig) O b0;simp only[go_sem,O,M];(refine cH λb9 B=>?_);have f1:=aI gc (aS B);have f2:=aI gq B;simp only[go_sem,O,M,B,f1,gc];(refine bD (OT.r 0 6) [] ?_;simp only[go_sem,O,M,B,f1,gc]);refine cW (aIr (bg.ge (bG B (aE S))) k aB ?_);cases hf:pM d.sig k
      .simp only[go_sem,B,f2,gq];exact⟨i+1,⟨M,by rw[bf,hf]⟩,by omega,aU i aB,cD⟩
      .simp only[go_sem,B,f2,gq];rw[aS1 b3 hf]at G
       replace G:CK KV Kp s (some (⟨16,x.left.text,x.line,x.col⟩:Fault)):=G
       refine cW (fU 16 _ _ _ ?_);simp only[go_sem];exact aG G ((bG B (aE S)).trans b2)
     .have b5:=bQ hi h;subst b5;clear h hi;rw[bT]at b0;rw[b0,aR0]at G;simp only[go_sem,gp,gq,g6]
      refine Ex.loop (ι:=Nat) (λi=>[(0,.ptr c 0),(3,.ptr p 0),(4,.ptr q 0),(5,.str x.left.text),(6,.ptr b6 0),(87,.list none (x.left.kids.map Tm.enc)),(88,.int .i64 (x.left.kids.length:Nat)),(89,.int .i64 (i:Nat))])
       (λ_=>S) (λi=>i<=x.left.kids.length/\(x.left.kids.take i).all (mF d.sig)=true) (λi=>x.left.kids.length-i) 0 ⟨aW _,rfl⟩ ?_ (aE _) ?_
      .simp only[go_sem]
       try exact rfl
      .clear b0;rintro i ⟨hi,b0⟩;refine aX (V:=aEO) _ _ _ _ ?_;simp only[go_sem]
       (apply aJ<;>intro h)<;>simp only[go_sem,h]
       .have M:i<x.left.kids.length:=gQ h;clear h;obtain⟨k,O⟩:=bB M;have b3:k∈x.left.kids:=bK O;have bk:=aGP b3;have bf:=aGu (f:=mF d.sig) O b0;simp only[go_sem,O,M];(refine cH λb9 B=>?_);have f1:=aI gc (aS B);have f2:=aI gq B;simp only[go_sem,O,M,B,f1,gc];(refine bD (OT.r 0 7) [] ?_;simp only[go_sem,O,M,B,f1,gc]);refine cW (aIv (bg.ge (bG B (aE S))) k (bm.kids k b3) aB ?_);cases hf:mF d.sig k
        .simp only[go_sem,B,f2,gq];rw[aGg b3 hf]at G
         replace G:CK KV Kp s (some (⟨16,x.left.text,x.line,x.col⟩:Fault)):=G
         refine cW (fU 16 _ _ _ ?_);simp only[go_sem];exact aG G ((bG B (aE S)).trans b2)
        .simp only[go_sem,B,f2,gq];exact⟨i+1,⟨M,by rw[bf,hf]⟩,by omega,aU i aB,cD⟩
       .have b5:=bQ hi h;subst b5;clear h hi;rw[bT]at b0;rw[b0,aF8]at G;simp only[go_sem,gp,gq,g6];refine .inr λt2 b7=>⟨by decide,λy hy=>kV hy,λy hy=>(by rw[bO.1 hy];rfl),by omega,?_⟩
        have br:s.getT t2=none:=by
         cases h0:s.getT t2 with
         | none=>rfl
         | some m=>rw[b2.tk _ _ h0]at b7;cases b7
        (refine bD (OT.r 0 7) [(5,[0])] ?_;simp only[go_sem,gp,gq,g6]);refine⟨by decide,λy hy=>(by rw[bO.1 hy];rfl),by first|omega|rfl|(simp;omega),λy hy=>?_,by first|omega|(simp;omega),?_⟩
        .rcases List.mem_cons.1 hy with rfl|hy
         .rfl
         .exact kV hy
        generalize bc:St.setT (St.setT _ t2 _) t2 _=S2;have b1:S2.ge s:=by subst bc;simp only[oP];exact(fR (tk:=some t2) (aE S) (λu hu=>by cases hu;exact b7)).trans b2
        have bd:S2.ge S:=by subst bc;simp only[oP];exact fR (tk:=some t2) (aE S) (λu hu=>by cases hu;exact b7)
        have bb:=bd.ob _ _ gp;have b4:=bd.ob _ _ gq;have b8:=bd.ob _ _ g6;clear bc;have bh:=hC.ge b1;refine cW (aJW _ _ (x.right::x.cond++[x.left]) ?_ ?_ (lS G (λG=>?_) (λf hf=>?_)))
        .rw[aQ7 x];omega
        .simp only[dY,bX,bU,dL,cY];rfl
        rotate_left
        .simp only[go_sem];exact aG hf b1
        simp only[go_sem,bb,b4,b8];refine .inl ?_;refine cW (aJf _ _ [x.left] (x.right::x.cond) ?_ ?_ ?_ ?_ (lS G (λG=>?_) (λf hf=>?_)))
        .simp only[aY,dK];omega
        .have:=aRM x;omega
        .rw[aBf];rfl
        .simp only[bX,cY];rfl
        rotate_left
        .simp only[go_sem];exact aG hf b1
        simp only[go_sem,bb,b4,b8]
        refine Ex.loop (ι:=Nat) (λi=>[(0,.ptr c 0),(3,.ptr p 0),(4,.ptr q 0),(5,.str x.left.text),(6,.ptr b6 0),(124,.list none (x.cond.map Tm.enc)),(125,.int .i64 (x.cond.length:Nat)),(126,.int .i64 (i:Nat))])
         (λ_=>S2) (λi=>i<=x.cond.length/\CK KV Kp s (aK (bS (λt=>jY d.sig x.left.text x.line x.col t [66,111,111,108]) (x.cond.drop i)) (jY d.sig x.left.text x.line x.col x.right f.sort))) (λi=>x.cond.length-i) 0 ⟨aW _,G⟩ ?_ (aE _) ?_
        .simp only[go_sem]
         try exact rfl
        .clear G;rintro i ⟨hi,G⟩;refine aX (V:=aEO) _ _ _ _ ?_;simp only[go_sem]
         (apply aJ<;>intro h)<;>simp only[go_sem,h]
         .have M:i<x.cond.length:=gQ h;clear h;obtain⟨k,O⟩:=bB M;rw[sH _ O,eO]at G;simp only[go_sem,O,M];(refine cH λb9 B=>?_);have f2:=aI b4 (aS B);simp only[go_sem,O,M,B,f2,b4];refine cW (aAj (bh.ge (bG B (aE S2))) _ _ _ k _ (lS G (λG=>?_) (λf hf=>?_)));rotate_left
          .simp only[go_sem];exact aG hf ((bG B (aE S2)).trans b1)
          simp only[go_sem];exact⟨i+1,⟨M,G⟩,by omega,aU i aB,cD⟩
         .have b5:=bQ hi h;subst b5;clear h hi;rw[dP (bJ _)]at G;simp only[go_sem,bb,b4,b8];refine cW (aAj bh _ _ _ x.right f.sort (CK.map (a:=jY d.sig x.left.text x.line x.col x.right f.sort) G (λG=>?_) (λf hf=>?_)));rotate_left
          .simp only[go_sem];exact aG hf b1
          simp only[go_sem];exact aG G b1
 .rw[aD h5]at G;have d5:decide (x.left.kind=5)=false:=bR h5;have fin:∀n:aC,n=lG x->CK KV Kp s (some ⟨15,n,x.line,x.col⟩):=λn e=>by rw[e];exact G
  unfold lG at fin;by_cases h6:x.left.kind=6
  .have G:=fin x.left.text (by rw[aF (.inr h6)]);have d6:decide (x.left.kind=6)=true:=cT h6;simp only[go_sem,U,Z,H,e1,e2,d5,d6];(refine bD (OT.l [0,1,2,3,4,5,6] (.alt (.node 7 (OT.l [8,9,10,11,12,13] .nil)) (.node 11 (OT.l [7,8,9,10,12,13] .nil)))) [(11,[3,6])] ?_;simp only[go_sem,U,Z,H,e1,e2,d5]);refine⟨?oC,?oD⟩
   case' oC =>
    refine cW (tQ (hB.ge ?_) x.left.text ?_)
    .exact aR
    simp only[go_sem,U,Z,H,e1,e2,d5];(refine cH λb6 z=>?_);have e6:=aI H (aS z);simp only[go_sem,U,Z,H,e1,e2,d5,z,e6]
   case' oD =>
    (refine cH λb6 z=>?_);have e6:=aI H (aS z);simp only[go_sem,U,Z,H,e1,e2,d5,z,e6];refine cW (tQ (hB.ge ?_) x.left.text ?_)
    .exact aR
    simp only[go_sem,U,Z,H,e1,e2,d5,z,e6]
   all_goals
    refine cW (fU 15 _ _ _ ?_);simp only[go_sem];exact aG G aR
  .have G:=fin [] (by rw[aD (λh=>h.elim h5 h6)]);have d6:decide (x.left.kind=6)=false:=bR h6;simp only[go_sem,U,Z,H,e1,e2,d5,d6];(refine bD (OT.l [0,1,2,3,4,5,6] (.alt (.node 7 (OT.l [8,9,10,11,12,13] .nil)) (.node 11 (OT.l [7,8,9,10,12,13] .nil)))) [(11,[3,6])] ?_;simp only[go_sem,U,Z,H,e1,e2,d5]);refine⟨?oE,?oF⟩
   case' oE =>
    refine cW (tQ (hB.ge ?_) x.left.text ?_)
    .exact aR
    simp only[go_sem,U,Z,H,e1,e2,d5];(refine cH λb6 z=>?_);have e6:=aI H (aS z);simp only[go_sem,U,Z,H,e1,e2,d5,z,e6]
   case' oF =>
    (refine cH λb6 z=>?_);have e6:=aI H (aS z);simp only[go_sem,U,Z,H,e1,e2,d5,z,e6];refine cW (tQ (hB.ge ?_) x.left.text ?_)
    .exact aR
    simp only[go_sem,U,Z,H,e1,e2,d5,z,e6]
   all_goals
    refine cW (fU 15 _ _ _ ?_);simp only[go_sem];exact aG G aR
end
end
def NZ(o:Option Fault):Prop:=∀f,o=some f->f.code≠0
theorem lP:NZ none:=λf h=>by cases h
theorem lQ{f:Fault}(h:f.code≠0):NZ (some f):=λg e=>by cases e;exact h
theorem dQ{a b:Option Fault}(u:NZ a)(y:NZ b):NZ (aK a b):=by cases a with
 | none=>exact y
 | some f=>exact u
theorem fW{b:Bool}{f:Fault}(h:f.code≠0):NZ (bH b f):=by unfold bH;split;exact lQ h;exact lP
theorem oK{p:Prop} [Decidable p] {a b:Option Fault} (u:NZ a) (y:NZ b):NZ (if p then a else b):=by split<;>assumption
theorem lN{α:Type}{f:α->Option Fault}(h:∀x,NZ (f x)):∀l:List α,NZ (bS f l)
 | []=>lP
 | x::r=>dQ (h x) (lN h r)
theorem aB9{sg:Sig}{n:aC}{l c:Int}{ts:List Tm}:NZ (lH sg n l c ts):=fW bA
theorem aAC{sg:Sig}{n:aC}{l c:Int}{t:Tm}{S:aC}:NZ (jY sg n l c t S):=fW bA
theorem aMm{l c:Int}{ts:List Tm}:NZ (vS l c ts):=fW bA
theorem aKM{l c:Int}{a b:List Tm}:NZ (uB l c a b):=lN (λ_=>fW bA) _
theorem aVp{sg:Sig}{x:Eqn}:NZ (xX sg x):=by
 unfold xX;refine oK ?_ (lQ bA);split
 .exact lQ bA
 .exact dQ aB9 (dQ (fW bA) (dQ (fW bA) (dQ aMm (dQ aKM (dQ (lN (λ_=>aAC) _) aAC)))))
theorem aTX{sg:Sig}{b:List aC}{x:Cel}:NZ (yB sg b x) :=
 dQ (oK (lQ bA) (fW bA)) (dQ aB9 (dQ aAC (lN (λ_=>fW bA) _)))
theorem aKS{sg:Sig}:∀(l:List Cel) (b:List aC),NZ (mW sg b l)
 | [],_=>lP
 | x::r,b=>dQ aTX (aKS r _)
theorem aSA{d:Dfn}:NZ (xF d):=dQ (fW bA) (dQ (fW bA) (dQ (fW bA) (dQ (lN (λ_=>fW bA) _) (lN (λ_=>fW bA) _))))
theorem aT7{d:Dfn}{b:List Part}{x:Part}:NZ (zS d b x) :=
 oK (lQ bA) (oK (lQ bA) (oK (lQ bA) (oK (lQ bA) (dQ aB9 (lN (λ_=>aAC) _)))))
theorem aK2{d:Dfn}:∀(l b:List Part),NZ (xD d b l)
 | [],_=>lP
 | x::r,b=>dQ aT7 (aK2 r _)
theorem aLE{d:Dfn}{n:aC}{l c:Int}:∀(ts:List Tm) (m:List Cel),NZ (rQ d n l c ts m)
 | [],_=>lP
 | _::_,[]=>lP
 | t::r,x::m=>dQ aB9 (dQ aAC (aLE r m))
theorem aGO{l c:Int}:∀(s b:List aC),NZ (mG l c b s)
 | [],_=>lP
 | x::r,b=>dQ (fW bA) (aGO r _)
theorem aTQ{d:Dfn}{r:Rul}:NZ (uJ d r):=dQ (lN (λ_=>fW bA) _) (dQ (lN (λ_=>aLE _ _) _) (dQ (lN (λ_=>fW bA) _) (aGO _ _)))
theorem aT1{d:Dfn}{b:List aC}{r:Rul}:NZ (zU d b r) :=
 oK (lQ bA) (oK (lQ bA) (dQ (aK2 _ _) (dQ aMm (dQ aKM (dQ (lN (λ_=>dQ aB9 aAC) _) aTQ)))))
theorem aLg{d:Dfn}:∀(l:List Rul) (b:List aC),NZ (uG d b l)
 | [],_=>lP
 | x::r,b=>dQ aT1 (aLg r _)
theorem aSi(d:Dfn):NZ (uA d) :=
 oK (lQ bA) (oK (lQ bA) (dQ (lN (λ_=>aVp) _) (dQ (aKS _ _) (dQ aSA (aLg _ _)))))
theorem aQ9(d:Dfn):rO d=true↔uA d=none:=by
 unfold rO sM;rw[bW];cases h:uA d with
 | none=>exact⟨λ_=>rfl,λ_=>rfl⟩
 | some f=>exact⟨λe=>cV e (aSi d f h),λe=>(by cases e)⟩
theorem aCe{a b:Option Fault}:aK a b=none↔a=none/\b=none:=by
 cases a with
 | none=>exact⟨λh=>⟨rfl,h⟩,λh=>h.2⟩
 | some f=>exact⟨λh=>(by cases h),λh=>(by cases h.1)⟩
theorem aJK{α:Type}{f:α->Option Fault}:∀{l:List α},bS f l=none↔∀x,x∈l->f x=none
 | []=>⟨λ_ x h=>(by cases h),λ_=>rfl⟩
 | y::r=>by
  have z:=aJK (f:=f) (l:=r);rw[bS,aCe,z];exact⟨λh x u=>by rcases List.mem_cons.1 u with rfl|u;exact h.1;exact h.2 x u,λh=>⟨h y (cQ ..),λx u=>h x (eA _ u)⟩⟩
def uL(k:Tm):Bool:=xM k||(decide (k.kind=6)&&cP k.text)
mutual
def pW:Tm->Bool
 | .mk k n x y ks rs=>rP (decide (k=8)) true ks
def rP:Bool->Bool->List Tm->Bool
 | _,_,[]=>true
 | m,e,t::r=>pW t&&(!(m&&(e&&!uL t))&&rP m (!e) r)
end
theorem aKO(t:Tm):pW t=rP (decide (t.kind=8)) true t.kids:=by cases t;rfl
theorem aJJ(t:Tm)(r:List Tm):mH (t::r)=t::mH r.tail:=by cases r<;>rfl
theorem aJY(m:Bool):∀l:List Tm,rP m true l=(l.all pW&&(!m||(mH l).all uL))/\rP m false l=(l.all pW&&(!m||(mH l.tail).all uL))
 | []=>by simp[rP,mH]
 | t::r=>by
  obtain⟨u,y⟩:=aJY m r;constructor
  .rw[rP,fP,y,aJJ,fG,fG];cases m<;>cases pW t<;>cases uL t<;>simp
  .rw[rP,iB,u,List.tail_cons,fG];cases m<;>cases pW t<;>simp
theorem aTg(t:Tm):pW t=(t.kids.all pW&&(!decide (t.kind=8)||(mH t.kids).all uL)):=by rw[aKO,(aJY _ _).1]
theorem aKl:∀(N:Nat) (l:List Tm),l.length<N->∀x,x∈mH l->x∈l
 | 0,l,h,_,_=>by omega
 | N+1,[],_,x,u=>by cases u
 | N+1,t::r,h,x,u=>by
  rw[aJJ]at u;rcases List.mem_cons.1 u with rfl|u
  .exact cQ ..
  .exact eA _ (List.mem_of_mem_tail (aKl N r.tail (by rw[List.length_tail];rw[aV]at h;omega) x u))
theorem aUc(N:Nat):∀t:Tm,SizeOf.sizeOf t<N->Shaped t->pW t=t.pre.all λx=>!decide (x.kind=8)||(mH x.kids).all uL:=by
 induction N with
 | zero=>intro t h;omega
 | succ N O =>
  intro t ht hs;have u:∀k,k∈t.kids->pW k=k.pre.all λx=>!decide (x.kind=8)||(mH x.kids).all uL:=λk z=>O k (by have:=mT z;omega) (hs.kid z)
  rw[aTg,iJ,fG,Bool.and_comm,gA,bP,bP,dE (l:=t.kids),dE (l:=aY _)];refine and_congr_right λ_=>⟨λH x G=>?_,λH k M=>?_⟩
  .obtain⟨k,y,B⟩:=mV.1 G;rcases cK.1 y with y|y
   .have:=H k y;rw[u k y,dE]at this;exact this x B
   .obtain⟨U,Z,q3⟩:=aBK hs.self k y;rw[iJ,Z,q3]at B;simp only[dK,aY,bO]at B;rw[B,U];rfl
  .rw[u k M,dE];exactλx G=>H x (mV.2 ⟨k,iX _ M,G⟩)
theorem aIx{l:List Tm}(h:∀t,t∈l->Shaped t)(x:aC):(∃v,v∈oH l/\v.text=x)↔∃v,v∈jH l/\v.text=x:=by
 rw[aJt h];have:=aHU (jH l) [] [] ⟨λx B=>(by cases B),λx B=>(by cases B),λx=>⟨λh=>by simp at h,λ⟨a,b,h,_⟩=>by cases h⟩⟩ (λv M=>by cases M) (aEb h);rw[dD]at this;constructor
 .rintro⟨v,u,z⟩;exact⟨v,this.sub v u,z⟩
 .rintro⟨v,u,z⟩;obtain⟨y,G,H,_⟩:=this.cov v u;exact⟨y,G,by rw[H,z]⟩
def eI(sg:Sig)(t:Tm):Bool:=(Tm.val 60 t 0).isSome&&pY sg t
def nO(sg:Sig)(p:Tm):Bool:=eI sg p&&(!jK sg p&&(pW p&&(((oH [p]).all λv=>!decide (v.text=[36]))&&decide ((oH [p]).map Tm.text).Nodup)))
theorem aAW{sg:Sig}(h:SigOk sg)(t:Tm):eI sg t=((Tm.val 60 t 0).isSome&&fC sg t):=by
 unfold eI;cases u:(Tm.val 60 t 0).isSome with
 | false=>rfl
 | true=>rw[aMd h _ t (fZ _) (aGw u)]
theorem aKo{sg:Sig}(h:SigOk sg){t:Tm}(hs:Shaped t):jK sg t=pM sg t:=aQ8 h _ t (fZ _) hs
theorem aMu{sg:Sig}(h:SigOk sg)(p:Tm):nO sg p=mF sg p:=by
 unfold nO mF;rw[aAW h];cases hv:(Tm.val 60 p 0).isSome with
 | false=>rfl
 | true =>
  have hs:=aDc hv;have hl:∀t,t∈[p]->Shaped t:=λt ht=>by rw[bO.1 ht];exact hs
  rw[aKo h hs,aUW hl,aUc _ p (fZ _) hs];simp only[dW];congr 1;congr 1
  have e1:((oH [p]).all λv=>!decide (v.text=[36]))=p.pre.all λx=>!(decide (x.kind=6)&&decide (x.text=[36])):=by
   rw[gA,dE,dE];simp only[iY,fO,Bool.and_eq_false_iff];constructor
   .intro H x u;by_cases M:x.kind=6
    .refine .inr λe=>?_
     obtain⟨v,z,G⟩:=(aIx hl [36]).2 ⟨x,by
      unfold jH;refine List.mem_filter.2 ⟨mV.2 ⟨p,bO.2 rfl,u⟩,?_⟩;unfold nG;rw[M,e];decide,e⟩
     exact H v z G
    .exact .inl M
   .intro H v hv e;obtain⟨w,z,G⟩:=(aIx hl [36]).1 ⟨v,hv,e⟩;unfold jH nG at z;rw[List.mem_filter]at z;obtain⟨t,ht,hw⟩:=mV.1 z.1;rw[bO.1 ht]at hw;have M:=z.2;simp only[bP,bW]at M;rcases H w hw with Z|Z
    .exact Z M.1
    .exact Z G
  rw[e1,gA];simp only[bP,dE]
  have ek:∀k,k∈p.pre->(!(decide (k.kind=6)&&decide (k.text=[36])))=true->uL k=vW k:=λk B hd=>by
   unfold uL vW;by_cases M:k.kind=6
   .have O:=(aGk (hs k B) M).2.2.2;rw[cT M]at hd⊢;have b0:¬ k.text=[36]:=gQ hd;congr 1;simp only[dW];rcases O with O|O|O
    .rw[O];have:¬ k.text=[95]:=λe=>by rw[e]at O;exact cV O dM
     rw[bR this];rfl
    .rw[O];decide
    .exact cV O b0
   .rw[bR M];rfl
  have U:∀x,x∈p.pre->∀k,k∈mH x.kids->k∈p.pre:=by
   intro x u k B;have B:=aKl _ _ (fZ _) k B
   have key:∀N,∀t:Tm,SizeOf.sizeOf t<N->x∈t.pre->k∈t.pre:=by
    intro N
    induction N with
    | zero=>intro t h;omega
    | succ N ih =>
     intro t ht u;rw[iJ]at u⊢;rcases List.mem_cons.1 u with rfl|u
     .exact eA _ (mV.2 ⟨k,iX _ B,by rw[iJ];exact cQ ..⟩)
     .obtain⟨y,z,G⟩:=mV.1 u;refine eA _ (mV.2 ⟨y,z,ih y ?_ G⟩);rcases cK.1 z with z|z
      .have:=mT z;omega
      .have:=vB z;omega
   exact key _ p (fZ _) u
  unfold zR;constructor
  .rintro⟨z,G,Z⟩;refine⟨Z,λx u=>?_⟩;rw[bP];refine⟨G x u,?_⟩;have:=z x u;rw[gV,dE]at this⊢;exact this.imp id λq k B=>by rw[<-ek k (U x u k B) (G k (U x u k B))];exact q k B
  .rintro⟨z,G⟩
   have Z:∀x,x∈p.pre->(!(decide (x.kind=6)&&decide (x.text=[36])))=true:=λx u=>by
    have:=G x u;rw[bP]at this;exact this.1
   refine⟨λx u=>?_,Z,z⟩;have:=G x u;rw[bP,gV,dE]at this;rw[gV,dE];exact this.2.imp id λq k B=>by rw[ek k (U x u k B) (Z k (U x u k B))];exact q k B
def kL(l:List aC)(s:aC):List aC:=if s∈l then l else rZ s l
def jC(out:List aC)(t:Tm):List aC:=((t.pre.filter λx=>decide (x.kind=6)).map Tm.text).foldl kL out
def jJ(l:List Tm):List aC:=l.foldl jC []
def sW(u:List aC)(s:aC):Bool:=decide (s=[95])||(decide (s=[36])||!decide (s∈u))
def oO(l u:List Tm):aC × Bool:=match(jJ l).find? (sW (jJ u))with
 | some s=>(s,true)
 | none=>([],false)
theorem aJk{l:List aC}(s:aC)(h:l.Pairwise λa b=>a<=b):(kL l s).Pairwise λa b=>a<=b:=by
 unfold kL;split
 .exact h
 .exact aFS s l h
theorem aTh(l:List aC)(s x:aC):x∈kL l s↔x∈l\/x=s:=by
 unfold kL;by_cases h:s∈l
 .rw[aF h];exact⟨.inl,λq=>q.elim id λe=>e▸h⟩
 .rw[aD h,(aBT s l).mem_iff,dG];exact Or.comm
theorem aG1:∀(m l:List aC),(l.Pairwise λa b=>a<=b)->((m.foldl kL l).Pairwise λa b=>a<=b)/\∀x,x∈m.foldl kL l↔x∈l\/x∈m
 | [],l,h=>⟨h,λx=>by simp⟩
 | s::r,l,h=>by
  obtain⟨u,y⟩:=aG1 r (kL l s) (aJk s h);refine⟨u,λx=>?_⟩;rw[pD,y,aTh,dG,or_assoc]
theorem aBF(l:List Tm):((jJ l).Pairwise λa b=>a<=b)/\∀x,x∈jJ l↔x∈iT l:=by
 have key:∀(l:List Tm) (out:List aC),l.foldl jC out=(iT l).foldl kL out:=by
  intro l
  induction l with
  | nil=>intro out;rfl
  | cons t r z =>
   intro out;rw[pD,z];unfold iT jC;rw[aY,List.filter_append,bU,rI]
 unfold jJ;rw[key];obtain⟨u,y⟩:=aG1 (iT l) [] .nil;exact⟨u,λx=>by rw[y];simp⟩
theorem aGY{p:aC->Bool}:∀{l:List aC},(l.Pairwise λa b=>a<=b)->∀{a},l.find? p=some a->∀x,x∈l->p x=true->a<=x
 | [],_,a,h,_,_,_=>by cases h
 | y::r,hs,a,h,x,u,B=>by
  rw[List.pairwise_cons]at hs;rw[List.find?_cons]at h;by_cases z:p y=true
  .rw[z]at h;cases h;rcases List.mem_cons.1 u with rfl|u
   .exact List.le_refl _
   .exact hs.1 x u
  .rw[Bool.not_eq_true]at z;rw[z]at h;rcases List.mem_cons.1 u with rfl|u
   .rw[B]at z;cases z
   .exact aGY hs.2 h x u B
theorem aJn{p:aC->Bool}{a b:List aC}(G:a.Pairwise λx y=>x<=y)(H:b.Pairwise λx y=>x<=y)(e:∀x,x∈a↔x∈b):a.find? p=b.find? p:=by
 cases z:a.find? p with
 | none =>
  rw[sE]at z;exact(sE.2 λx M=>z x ((e x).2 M)).symm
 | some u =>
  cases B:b.find? p with
  | none =>
   rw[sE]at B;exact cV (List.find?_some z) (B u ((e u).1 (uT z)))
  | some v =>
   rw[List.le_antisymm (aGY G z v ((e v).2 (uT B)) (List.find?_some B)) (aGY H B u ((e u).1 (uT z)) (List.find?_some z))]
theorem aDd{p:aC->Bool}{F:aC->Fault}:∀l:List aC,bS (λs=>bH (p s) (F s)) l=(l.find? p).map F
 | []=>rfl
 | x::r=>by
  rw[bS,aDd r,List.find?_cons];unfold bH;cases p x<;>rfl
def jG(u:Int)(q:aC × Bool)(l c:Int):Option Fault:=if q.2=true then some ⟨u,q.1,l,c⟩ else none
theorem aMg{l:Int}{c:Int}{a b lefts ts:List Tm}(u:∀t,t∈a↔t∈ts)(y:∀t,t∈b↔t∈lefts):jG 17 (oO a b) l c=uB l c lefts ts:=by
 have B:∀x,x∈iT a↔x∈iT ts:=λx=>by
  unfold iT;simp only[cN,List.mem_filter,mV,u]
 have G:∀x,x∈iT b↔x∈iT lefts:=λx=>by
  unfold iT;simp only[cN,List.mem_filter,mV,y]
 unfold uB;rw[aDd (p:=λs=>decide (s=[95])||(decide (s=[36])||!decide (s∈iT lefts))) (F:=λs=>⟨17,s,l,c⟩)]
 have z:(λs=>decide (s=[95])||(decide (s=[36])||!decide (s∈iT lefts)))=sW (jJ b):=by
  funext s;unfold sW;simp only[(aBF b).2,G]
 rw[z,show lI ts=sV (iT ts) from rfl,<-aJn (aBF a).1 (aC6 (iT ts)) λx=>by rw[(aBF a).2,B,(tP _).mem_iff]];unfold oO;cases (jJ a).find? (sW (jJ b))<;>rfl
theorem aL4{l c:Int}{a ts:List Tm}(h:∀t,t∈a->Shaped t)(e:∀t,t∈a↔t∈ts):jG 16 (oW a) l c=vS l c ts:=by
 rw[aUG h e];rfl
theorem aAL{a b:Bool}{f:Fault}:aK (bH a f) (bH b f)=bH (a||b) f:=by cases a<;>rfl
theorem aGz{α:Type}{p:α->Bool}{f:Fault}:∀l:List α,bS (λx=>bH (p x) f) l=bH (l.any p) f
 | []=>rfl
 | x::r=>by rw[bS,aGz r,aAL,pF]
theorem uC{a:Bool}{f:Fault}{o:Option Fault}:aK (bH a f) o=if a=true then some f else o:=by cases a<;>rfl
theorem aAo{α:Type}{f g:α->Option Fault}:∀{l:List α},(∀x,x∈l->f x=g x)->bS f l=bS g l
 | [],_=>rfl
 | x::r,h=>by rw[bS,bS,h x (cQ ..),aAo λy u=>h y (eA _ u)]
def fH(sg:Sig)(t:Tm)(S:aC):Bool:=(iN sg t).2&&xJ sg (iN sg t).1 S
theorem aAz{sg:Sig}(h:SigOk sg){t:Tm}(y:(Tm.val 60 t 0).isSome=true)(u:fC sg t=true){S:aC}(G:cR sg S=true):fH sg t S=mZ sg (lU sg t) S:=by
 rw[<-aMd h _ t (fZ _) (aGw y)]at u;have ho:=aL9 u;obtain⟨z,B⟩:=aMZ h (aGw y).self ho;unfold fH;rw[ho,dW,B,aLn z G]
def vO(sg:Sig)(x:Eqn):Bool:=!x.left.kids.any (jK sg)&&(eI sg x.left&&(eI sg x.right&&(x.cond.all (eI sg)&&x.left.kids.all (nO sg))))
def rY(sg:Sig)(x:Eqn):Option Fault:=match(if x.left.kind=5 then jZ sg.funs x.left.text else none)with
 | none=>some ⟨15,lG x,x.line,x.col⟩
 | some f=>if vO sg x=false then some ⟨16,f.name,x.line,x.col⟩ else
  aK (jG 16 (oW (x.left::(x.cond++[x.right]))) x.line x.col) (aK (jG 17 (oO (x.cond++[x.right]) [x.left]) x.line x.col)
  (bH (!((x.cond.all λt=>fH sg t [66,111,111,108])&&fH sg x.right f.sort)) ⟨16,f.name,x.line,x.col⟩))
theorem aBM{α:Type}{p q:α->Bool}{l:List α}(h:∀x,x∈l->p x=q x):l.all p=l.all q:=by
 induction l with
 | nil=>rfl
 | cons x r z=>rw[fG,fG,h x (cQ ..),z λy u=>h y (eA _ u)]
theorem aQN{α:Type}{p q:α->Bool}{l:List α}(h:∀x,x∈l->p x=q x):l.any p=l.any q:=by
 induction l with
 | nil=>rfl
 | cons x r z=>rw[pF,pF,h x (cQ ..),z λy u=>h y (eA _ u)]
theorem aLO{α:Type}{p:α->Bool}(l:List α):(l.any λx=>!p x)=!l.all p:=by
 induction l with
 | nil=>rfl
 | cons x r u=>rw[pF,fG,u];cases p x<;>rfl
theorem aMl(sg:Sig):cR sg [66,111,111,108]=true:=vF sg dM
theorem aUF{sg:Sig}(h:SigOk sg)(x:Eqn)(G:∀t,t∈fL x->(Tm.val 60 t 0).isSome=true):rY sg x=xX sg x:=by
 unfold rY xX;by_cases B:x.left.kind=5
 ·rw[aF B,aF B,aDg h.nf];cases hf:eN sg.funs x.left.text with
  | none=>rfl
  | some f =>
   obtain⟨hm,hn⟩:=aBL hf;have en:f.name=lG x:=by unfold lG;rw[aF (.inl B),hn]
   have M:(Tm.val 60 x.left 0).isSome=true:=G _ (cQ ..);have O:(Tm.val 60 x.right 0).isSome=true:=G _ (eA _ (cQ ..));have H:∀t,t∈x.cond->(Tm.val 60 t 0).isSome=true:=λt u=>G t (eA _ (eA _ u))
   have y:∀t,t∈fL x->eI sg t=fC sg t:=λt u=>by rw[aAW h,G t u,dW]
   have ea:x.left.kids.any (jK sg)=x.left.kids.any (pM sg):=aQN λk hk=>aKo h ((aDc M).kid hk)
   have ep:x.left.kids.all (nO sg)=x.left.kids.all (mF sg):=aBM λk _=>aMu h k
   have ec:x.cond.all (eI sg)=x.cond.all (fC sg):=aBM λt u=>y t (eA _ (eA _ u))
   have U:vO sg x=(!x.left.kids.any (pM sg)&&(fC sg x.left&&(fC sg x.right&&(x.cond.all (fC sg)&&x.left.kids.all (mF sg))))):=by
    unfold vO;rw[ea,ep,ec,y _ (cQ ..),y _ (eA _ (cQ ..))]
   have Z:∀o:Option Fault,aK (lH sg (lG x) x.line x.col (x.left::x.right::x.cond)) (aK (bH (x.left.kids.any (pM sg)) ⟨16,lG x,x.line,x.col⟩) (aK (bH (!x.left.kids.all (mF sg)) ⟨16,lG x,x.line,x.col⟩) o))=if vO sg x=false then some ⟨16,lG x,x.line,x.col⟩ else o:=by
    intro o;unfold lH;rw[U,fG,fG];simp only[uC];cases x.left.kids.any (pM sg)<;>cases fC sg x.left<;>cases fC sg x.right<;>cases x.cond.all (fC sg)<;>cases x.left.kids.all (mF sg)<;>rfl
   simp only[Z];rw[en];cases z:vO sg x with
   | false=>rfl
   | true =>
    rw[U]at z;simp only[bP,dE]at z;obtain⟨_,f1,f2,f3,_⟩:=z;simp only[Bool.true_eq_false,cZ]
    rw[aL4 (ts:=x.right::x.cond++[x.left]) (λt u=>by
     refine aDc (G t ?_);simp only[dG,cK,fL,iI,eJ]at u⊢;rcases u with u|u|u
     .exact .inl u
     .exact .inr (.inr u)
     .exact .inr (.inl u)) (λt=>by
     simp only[dG,cK,iI,eJ];constructor
     .rintro(q|q|q)
      .exact .inr q
      .exact .inl (.inr q)
      .exact .inl (.inl q)
     .rintro((q|q)|q)
      .exact .inr (.inr q)
      .exact .inr (.inl q)
      .exact .inl q),aMg (ts:=x.right::x.cond) (lefts:=[x.left]) (λt=>by
     simp only[dG,cK,iI,eJ];exact Or.comm) (λt=>Iff.rfl)]
    congr 2;unfold jY;rw[aGz,aAL];congr 1;rw[aLO,aAz h O f2 (h.fn f hm).1,aBM (q:=λt=>mZ sg (lU sg t) [66,111,111,108]) λt u=>aAz h (H t u) (f3 t u) (aMl sg)];cases (x.cond.all λt=>mZ sg (lU sg t) [66,111,111,108])<;>rfl
 .rw[aD B,aD B]
section
def aCE(sg:Sig)(u:List aC)(x:Cel):Option Fault :=
 aK (bH (decide (x.name∈u)) ⟨14,x.name,x.line,x.col⟩) (if cR sg x.sort=false then some ⟨13,x.name,x.line,x.col⟩ else
  aK (bH (!(eI sg x.init&&fH sg x.init x.sort)) ⟨16,x.name,x.line,x.col⟩) (bS (λs=>bH (!decide (s=[36])) ⟨17,s,x.line,x.col⟩) (jJ [x.init])))
def pT(sg:Sig):List aC->List Cel->Option Fault
 | _,[]=>none
 | u,x::r=>aK (aCE sg u x) (pT sg (u++[x.name]) r)
theorem aUw{sg:Sig}(h:SigOk sg)(b:List aC)(x:Cel)(z:(Tm.val 60 x.init 0).isSome=true):aCE sg b x=yB sg b x:=by
 unfold aCE yB
 have B:bS (λs=>bH (!decide (s=[36])) ⟨17,s,x.line,x.col⟩) (jJ [x.init])=bS (λs=>bH (!decide (s=[36])) ⟨17,s,x.line,x.col⟩) (lI [x.init]):=by
  rw[aDd (p:=λs=>!decide (s=[36])) (F:=λs=>⟨17,s,x.line,x.col⟩),aDd (p:=λs=>!decide (s=[36])) (F:=λs=>⟨17,s,x.line,x.col⟩)];rw[aJn (aBF [x.init]).1 (aC6 (iT [x.init])) λy=>by rw[(aBF _).2,(tP _).mem_iff]];rfl
 rw[B];generalize bS (λs=>bH (!decide (s=[36])) ⟨17,s,x.line,x.col⟩) (lI [x.init])=o;by_cases u:x.name∈b
 .rw[aF u,cT u];rfl
 .rw[aD u,bR u];show(if cR sg x.sort=false then _ else _)=_;cases G:cR sg x.sort with
  | false=>rfl
  | true =>
   simp only[Bool.true_eq_false,cZ,fP];show _=aK (bH false _) _;unfold lH jY;rw[uC,uC,uC,uC,aAW h,z,fG,nK,eU];cases H:fC sg x.init with
   | false=>rfl
   | true =>
    rw[aAz h z H G];cases mZ sg (lU sg x.init) x.sort<;>rfl
theorem aK0{sg:Sig}(h:SigOk sg):∀(l:List Cel) (b:List aC),(∀x,x∈l->(Tm.val 60 x.init 0).isSome=true)->pT sg b l=mW sg b l
 | [],_,_=>rfl
 | x::r,b,u=>by rw[pT,mW,aUw h b x (u x (cQ ..)),aK0 h r _ λy z=>u y (eA _ z)]
theorem aSK{sg:Sig}{b:List aC}{x:Cel}(h:yB sg b x=none):cR sg x.sort=true:=by
 unfold yB at h;rw[aCe]at h;have u:=h.1;split at u
 .cases u
 .unfold bH at u;cases e:cR sg x.sort with
  | true=>rfl
  | false=>rw[e]at u;cases u
theorem aJN{sg:Sig}:∀{l:List Cel} {b:List aC},mW sg b l=none->∀x,x∈l->cR sg x.sort=true
 | [],_,_,_,u=>by cases u
 | y::r,b,h,x,u=>by
  rw[mW,aCe]at h;rcases List.mem_cons.1 u with rfl|u
  .exact aSK h.1
  .exact aJN h.2 x u
def xC(d:Dfn):Option Fault :=
 aK (bH (!cR d.sig d.start) ⟨13,d.start,0,0⟩)
 (aK (bH (!(dJ d d.watch).2.2||(dJ d d.watch).2.1) ⟨13,d.watch,0,0⟩)
 (aK (bH (!(decide (d.kind=[]) == decide (d.many.length=0))) ⟨15,d.kind,0,0⟩)
 (aK (bS (λo:Opr=>bH (decide (0<o.strict.length)&&(!(dJ d [107]).2.2||!decide ((dJ d [107]).1=[76,105,115,116]))) ⟨13,[107],0,0⟩) d.sig.ops)
 (bS (λo:Opr=>bH (decide (0<o.strict.length)&&tS d.sig o.sort) ⟨16,o.name,0,0⟩) d.sig.ops))))
theorem aSz{d:Dfn}(h:SigOk d.sig):xC d=xF d:=by
 unfold xC xF;rw[aAo (l:=d.sig.ops) (f:=λo:Opr=>bH (decide (0<o.strict.length)&&tS d.sig o.sort) ⟨16,o.name,0,0⟩) λo ho=>by rw[aQz (h.op o ho).1]]
def uI(d:Dfn)(u:List Part)(x:Part):Option Fault :=
 if(dJ d x.cell).2.2=false then some ⟨13,x.cell,x.line,x.col⟩
 else if(dJ d x.cell).2.1=decide (x.at_=[]) then some ⟨15,x.cell,x.line,x.col⟩
 else aK (bH (u.any λy=>decide (y.cell=x.cell)&&decide (y.at_=x.at_)) ⟨14,x.cell,x.line,x.col⟩)
  (bH (!((decide (x.right.length<=1)&&(nO d.sig x.left&&fH d.sig x.left (dJ d x.cell).1))&&(x.right.all λt=>eI d.sig t&&fH d.sig t (dJ d x.cell).1))) ⟨16,x.cell,x.line,x.col⟩)
def qY(d:Dfn):List Part->List Part->Option Fault
 | _,[]=>none
 | u,x::r=>aK (uI d u x) (qY d (u++[x]) r)
theorem aQQ{d:Dfn}{S:aC->Bool}(h:∀x,x∈d.once++d.many->S x.sort=true){n:aC}(u:(dJ d n).2.2=true):S (dJ d n).1=true:=by
 unfold dJ at u⊢;cases y:d.once.find? λx=>decide (x.name=n)with
 | some x=>exact h x (iX _ (uT y))
 | none =>
  rw[y]at u;simp only at u⊢;cases z:d.many.find? λx=>decide (x.name=n)with
  | some x=>exact h x (mA _ (uT z))
  | none=>rw[z]at u;cases u
section
variable {d:Dfn} (h:SigOk d.sig) (hs:∀x,x∈d.once++d.many->cR d.sig x.sort=true)
include h hs
theorem aT4(b:List Part)(x:Part)(hv:(Tm.val 60 x.left 0).isSome=true)(hr:∀t,t∈x.right->(Tm.val 60 t 0).isSome=true):uI d b x=zS d b x:=by
 unfold uI zS;cases hc:(dJ d x.cell).2.2 with
 | false=>rfl
 | true =>
  have hS:cR d.sig (dJ d x.cell).1=true:=aQQ hs hc;simp only[Bool.true_eq_false,cZ];by_cases M:(dJ d x.cell).2.1=decide (x.at_=[])
  .rw[aF M,aF];rw[M];cases decide (x.at_=[])<;>decide
  ·rw[aD M,aD]
   ·rw[uC];by_cases H:(b.any fun y=>decide (y.cell=x.cell)&&decide (y.at_=x.at_))=true
    .rw[aF H,aF H]
    ·rw[aD H,aD H,aMu h];have e1:x.right.all (eI d.sig)=x.right.all (fC d.sig):=aBM fun t B=>by rw[aAW h,hr t B,dW]
     by_cases z:mF d.sig x.left=false\/1<x.right.length
     .rw[aF z];rcases z with z|z
      .rw[z];simp[bH]
      .rw[bR (show¬ x.right.length<=1 by omega)];rfl
     .rw[aD z]
      have u:mF d.sig x.left=true:=by
       cases e:mF d.sig x.left with
       | true=>rfl
       | false=>exact cV (.inl e) z
      have Z:x.right.length<=1:=by
       have:¬ 1<x.right.length:=λq=>z (.inr q)
       omega
      have U:fC d.sig x.left=true:=by
       unfold mF at u;simp only[bP]at u;exact u.2.1
      rw[u,cT Z,aAz h hv U hS];unfold lH jY;rw[bS,aGz,aAL,aAL,aLO];congr 1;by_cases G:x.right.all (fC d.sig)=true
      .have O:(x.right.all λt=>eI d.sig t&&fH d.sig t (dJ d x.cell).1)=x.right.all λt=>mZ d.sig (lU d.sig t) (dJ d x.cell).1:=aBM λt B=>by
        rw[dE]at G;rw[aAW h,hr t B,G t B,aAz h (hr t B) (G t B) hS];rfl
       rw[O,G];cases mZ d.sig (lU d.sig x.left) (dJ d x.cell).1<;>cases (x.right.all λt=>mZ d.sig (lU d.sig t) (dJ d x.cell).1)<;>rfl
      .have O:(x.right.all λt=>eI d.sig t&&fH d.sig t (dJ d x.cell).1)=false:=by
        rw[jQ];intro q;rw[dE]at q;refine G ?_;rw[<-e1,dE];intro t B;have:=q t B;rw[bP]at this;exact this.1
       rw[Bool.not_eq_true]at G;rw[O,G];cases mZ d.sig (lU d.sig x.left) (dJ d x.cell).1<;>rfl
   .intro q;apply M;revert q;cases (dJ d x.cell).2.1<;>cases decide (x.at_=[])<;>decide
theorem aLx:∀(l b:List Part),(∀x,x∈l->(Tm.val 60 x.left 0).isSome=true/\∀t,t∈x.right->(Tm.val 60 t 0).isSome=true)->qY d b l=xD d b l
 | [],_,_=>rfl
 | x::r,b,u=>by rw[qY,xD,aT4 h hs b x (u x (cQ ..)).1 (u x (cQ ..)).2,aLx r _ λy z=>u y (eA _ z)]
end
def qV(d:Dfn)(n:aC)(l c:Int):List Tm->List Cel->Option Fault
 | t::r,x::m=>aK (bH (!(eI d.sig t&&fH d.sig t x.sort)) ⟨16,n,l,c⟩) (qV d n l c r m)
 | _,_=>none
theorem aK1{sg:Sig}(h:SigOk sg){t:Tm}(u:(Tm.val 60 t 0).isSome=true){S:aC}(y:cR sg S=true){n:aC}{l c:Int} :
  bH (!(eI sg t&&fH sg t S)) ⟨16,n,l,c⟩=aK (lH sg n l c [t]) (jY sg n l c t S):=by
 unfold lH jY;rw[aAL,aAW h,u,fG,nK,eU,dW];cases z:fC sg t with
 | false=>rfl
 | true=>rw[aAz h u z y];rfl
theorem aLv{d:Dfn}(h:SigOk d.sig)(n:aC)(l c:Int):∀(ts:List Tm) (m:List Cel),(∀t,t∈ts->(Tm.val 60 t 0).isSome=true)->(∀x,x∈m->cR d.sig x.sort=true)->qV d n l c ts m=rQ d n l c ts m
 | [],_,_,_=>rfl
 | _::_,[],_,_=>rfl
 | t::r,x::m,B,z=>by
  rw[qV,rQ,aK1 h (B t (cQ ..)) (z x (cQ ..)),eO,aLv h n l c r m (λy u=>B y (eA _ u)) λy u=>z y (eA _ u)]
def aDB(d:Dfn)(r:Rul):Option Fault :=
 aK (jG 16 (oW (gC r++eH r)) r.line r.col) (aK (jG 17 (oO (eH r) (gC r)) r.line r.col)
  (aK (bS (λt=>bH (!(eI d.sig t&&fH d.sig t [66,111,111,108])) ⟨16,r.name,r.line,r.col⟩) r.cond)
  (aK (bS (λx:Fresh=>bH (decide (d.kind=[])||!decide (x.cells.length=d.many.length)) ⟨15,r.name,r.line,r.col⟩) r.new)
  (aK (bS (λx:Fresh=>qV d r.name r.line r.col x.cells d.many) r.new)
  (aK (bS (λs=>bH (decide (s=[])||!decide (s∈r.parts.map Part.at_)) ⟨13,s,r.line,r.col⟩) r.drop)
  (mG r.line r.col [] r.drop))))))
def xS(d:Dfn)(u:List aC)(r:Rul):Option Fault :=
 aK (bH (decide (r.name∈u)) ⟨14,r.name,r.line,r.col⟩) (aK (bH (decide (r.parts.length=0)) ⟨15,r.name,r.line,r.col⟩) (aK (qY d [] r.parts) (aDB d r)))
def sN(d:Dfn):List aC->List Rul->Option Fault
 | _,[]=>none
 | u,r::l=>aK (xS d u r) (sN d (u++[r.name]) l)
theorem aLH{r:Rul}{P:Tm->Prop}(h:∀t,t∈fX r->P t):(∀x,x∈r.parts->P x.left/\∀t,t∈x.right->P t)/\(∀t,t∈r.cond->P t)/\∀x,x∈r.new->∀t,t∈x.cells->P t:=by
 unfold fX at h;simp only[cK,mC,dG]at h;exact⟨λx y=>⟨h _ (.inl ⟨x,y,.inl rfl⟩),λt u=>h _ (.inl ⟨x,y,.inr u⟩)⟩,λt u=>h _ (.inr (.inl u)),λx y t u=>h _ (.inr (.inr ⟨x,y,u⟩))⟩
theorem aLX{r:Rul}{P:Tm->Prop}(h:∀t,t∈fX r->P t):∀t,t∈gC r++eH r->P t:=by
 obtain⟨z,B,G⟩:=aLH h;intro t u;unfold gC eH at u;simp only[cK,mC,cN]at u;rcases u with⟨x,y,rfl⟩|(⟨x,y,u⟩|u)|⟨x,y,u⟩
 .exact(z x y).1
 .exact(z x y).2 t u
 .exact B t u
 .exact G x y t u
theorem aTJ{d:Dfn}(h:SigOk d.sig)(hs:∀x,x∈d.once++d.many->cR d.sig x.sort=true)(b:List aC)(r:Rul)(G:∀t,t∈fX r->(Tm.val 60 t 0).isSome=true)(U:∀s,s∈r.drop->s≠[]):xS d b r=zU d b r:=by
 obtain⟨H,M,O⟩:=aLH G;unfold xS zU;rw[uC];by_cases u:r.name∈b
 .rw[aF u,cT u];rfl
 .rw[aD u,bR u,uC];simp only[dA,cZ];by_cases z:r.parts=[]
  .rw[aF z,z];rfl
  .rw[aD z,bR (λe=>z (eS e)),aLx h hs r.parts [] H];simp only[dA,cZ];congr 1;unfold aDB uJ;rw[aL4 (ts:=gC r++eH r) (λt B=>aDc (aLX G t B)) (λt=>Iff.rfl),aMg (ts:=eH r) (lefts:=gC r) (λt=>Iff.rfl) (λt=>Iff.rfl)];rw[aAo (l:=r.cond) λt B=>aK1 h (M t B) (aMl d.sig)];rw[aAo (l:=r.new) (f:=λx:Fresh=>qV d r.name r.line r.col x.cells d.many) λx hx=>aLv h r.name r.line r.col x.cells d.many (O x hx) λy hy=>hs y (mA _ hy)]
   rw[aAo (l:=r.drop) (f:=λs=>bH (decide (s=[])||!decide (s∈r.parts.map Part.at_)) ⟨13,s,r.line,r.col⟩) (g:=λs=>bH (!r.parts.any λx=>decide (x.at_=s)) ⟨13,s,r.line,r.col⟩) λs Z=>by
    rw[bR (U s Z),gW];congr 2;rw[gA,jS];simp only[bW,cN]]
theorem aLq{d:Dfn}(h:SigOk d.sig)(hs:∀x,x∈d.once++d.many->cR d.sig x.sort=true):∀(l:List Rul) (b:List aC),(∀r,r∈l->(∀t,t∈fX r->(Tm.val 60 t 0).isSome=true)/\∀s,s∈r.drop->s≠[])->sN d b l=uG d b l
 | [],_,_=>rfl
 | x::r,b,u=>by rw[sN,uG,aTJ h hs b x (u x (cQ ..)).1 (u x (cQ ..)).2,aLq h hs r _ λy z=>u y (eA _ z)]
def kB(r:Rul):List aC:=r.name::((r.parts.map Part.at_).filter λx=>!decide (x=[]))++r.drop
def iS(d:Dfn):List aC:=[d.name,d.start,d.watch]++((if d.kind=[] then [] else [d.kind])++((d.once++d.many).map Cel.name++d.rules.flatMap kB))
def wV(d:Dfn):Bool :=
 (decide (d.once.length<=12)&&(decide (d.many.length<=12)&&(decide (d.eqs.length<=300)&&decide (d.rules.length<=300))))&&((iS d).all cP&&((d.eqs.all λx=>decide (x.cond.length<=20)) &&
 ((d.rules.all λr=>decide (r.parts.length<=20)&&(decide (r.cond.length<=20)&&(decide (r.new.length<=20)&&decide (r.drop.length<=20))))&&(eD d).all λt=>(Tm.val 60 t 0).isSome)))
def zD(d:Dfn):Option Fault:=aK (bH (!wV d) ⟨2,[],0,0⟩) (bH (!aAT d.sig) ⟨16,[],0,0⟩)
theorem aTZ(d:Dfn):wV d=qU d:=by
 have y:((iS d).all cP=true)↔((hZ d).all cP=true):=by
  have:∀x,x∈iS d↔x∈hZ d:=λx=>by
   have z:∀r:Rul,x∈kB r↔x∈mM r:=λr=>by
    unfold kB mM;simp only[dY,dG,cK];exact or_congr_right Or.comm
   unfold iS hZ;simp only[cK,mC,z]
  simp only[dE,this]
 unfold wV qU;rw[gA];simp only[bP,y,iY,fO,bW];simp only[iY,fO,dE,bP,bW];constructor
 .rintro⟨⟨a,b,c,e⟩,f,g,i,j⟩;exact⟨by omega,by omega,by omega,by omega,λx u=>by have:=g x u;omega,i,f,j⟩
 .rintro⟨a,b,c,e,g,i,f,j⟩;exact⟨⟨by omega,by omega,by omega,by omega⟩,f,λx u=>by have:=g x u;omega,i,j⟩
def zK(d:Dfn):Option Fault:=aK (zD d) (aK (bS (rY d.sig) d.eqs) (aK (pT d.sig [] (d.once++d.many)) (aK (xC d) (sN d [] d.rules))))
theorem aSu(d:Dfn):zK d=uA d:=by
 unfold zK uA zD;rw[aTZ,aTb,eO,uC];cases y:qU d with
 | false=>rfl
 | true =>
  simp only[fP,dA,cZ,Bool.true_eq_false];rw[uC];cases M:qR d.sig with
  | false=>rfl
  | true =>
   simp only[fP,dA,cZ,Bool.true_eq_false];have h:=aU8 M;unfold qU at y;simp only[bP,dE]at y;obtain⟨_,_,_,_,_,_,O,B⟩:=y
   have Z:∀x,x∈d.eqs->∀t,t∈fL x->(Tm.val 60 t 0).isSome=true:=λx u t z=>B t (by
    unfold eD;simp only[cK,mC];exact .inl ⟨x,u,z⟩)
   have U:∀x,x∈d.once++d.many->(Tm.val 60 x.init 0).isSome=true:=λx u=>B x.init (by
    unfold eD;rw[cK,cK,cN];exact .inr (.inl ⟨x,u,rfl⟩))
   have vr:∀r,r∈d.rules->(∀t,t∈fX r->(Tm.val 60 t 0).isSome=true)/\∀s,s∈r.drop->s≠[]:=λr G=>by
    refine⟨λt z=>B t ?_,λs hs e=>?_⟩
    .unfold eD;simp only[cK,mC];exact .inr (.inr ⟨r,G,z⟩)
    .have:=O s (by
      unfold hZ mM;simp only[cK,mC,dG];exact .inr (.inr (.inr ⟨r,G,.inl (.inr hs)⟩)))
     rw[e]at this;exact cV this dM
   rw[aAo λx u=>aUF h x (Z x u),aK0 h _ _ U,aSz h];congr 1;cases H:mW d.sig [] (d.once++d.many)with
   | some f=>rfl
   | none =>
    rw[aLq h (aJN H) d.rules [] vr]
end
end Go.AV
section
open Go.Proofs.Tryz
namespace Go.AV
open Go Go.Proofs
end Go.AV
end
namespace Go.AV
open Go Go.Proofs Tryz
theorem aPq(m:Nat):∀(xs:List Tm) (l d:Int) (s:St) (KV Kp:St->A->Prop),SizeOf.sizeOf xs<m->(∀n:Int,KV s (.int .i64 n))->Den cx 49 [.list none (xs.map Tm.enc),.int .i64 l,.int .i64 d] KV Kp s:=by
 induction m with
 | zero=>intro xs l d s KV Kp hm;omega
 | succ m Z =>
 intro xs l d s KV Kp hm z;refine hH λM=>?_
 have B:=M _ (cQ ..);(refine aN func49 [0,1,2,6,8,10,11,12,13,14,29,43] ?_;simp only[go_sem,ntmps49,f49])
 (apply aJ<;>intro h)<;>simp only[go_sem,h]
 .exact aP (z _)
 refine Ex.loop (ι:=Int × Nat) (λc=>[(1,.int .i64 c.1),(2,.int .i64 d),(11,.list none (xs.map Tm.enc)),(12,.int .i64 xs.length),(13,.int .i64 (c.2:Nat))]) (λ_=>s)
  (λc=>c.2<=xs.length) (λc=>xs.length-c.2) (l,0) (aW _) ?_ (aE s) ?_
 ·(simp only[go_sem];try exact rfl)
 .clear h;rintro⟨l,i⟩ hi;simp only at hi;refine aX (V:=[0,1,2,6,8,10,11,12,13,14,29,43]) _ _ _ _ ?_;simp only[go_sem]
  (apply aJ<;>intro h)<;>simp only[go_sem,h]
  .have y:i<xs.length:=gQ h;obtain⟨x,G⟩:=bB y;have H:x∈xs:=bK G;have b0:=List.sizeOf_lt_of_mem H;have O:SizeOf.sizeOf x.kids<SizeOf.sizeOf x:=by cases x;simp only[Tm.kids,Tm.mk.sizeOf_spec];omega
   have U:SizeOf.sizeOf x.rest<SizeOf.sizeOf x:=by cases x;simp only[Tm.rest,Tm.mk.sizeOf_spec];omega
   clear h;simp only[go_sem,G,y];(refine aM λb8 u=>?_);simp only[go_sem,G,y,u,Int.reduceEq]
   (apply aJ<;>intro h)<;>simp only[go_sem,h,u]
   .exact aG (z _) aR
   clear h;refine Z x.kids _ _ _ _ _ aB (λn1=>?_);simp only[go_sem,u];refine Z x.rest _ _ _ _ _ aB (λn2=>?_);simp only[go_sem,u]
   (apply aJ<;>intro h)<;>simp only[go_sem,h,u]
   .exact aG (z _) aR
   exact⟨(n2,i+1),y,aQ,by simp only[go_sem,B.wrap (i:=i) (gQ y)],(gE u)⟩
  .exact aP (z _)
theorem aO5(xs:List Tm)(l d:Int)(s:St)(KV Kp:St->A->Prop)(u:∀n:Int,KV s (.int .i64 n)):Den cx 49 [.list none (xs.map Tm.enc),.int .i64 l,.int .i64 d] KV Kp s :=
 aPq _ xs l d s KV Kp (fZ _) u
theorem aRW(xs:List Tm)(l:Int)(s:St)(KV Kp:St->A->Prop)(u:∀b:Bool,KV s (.bool b)):Den cx 19 [.int .i64 l,.list none (xs.map Tm.enc)] KV Kp s:=by
 (refine aN func19 [0,1,4] ?_;simp only[go_sem,ntmps19,f19]);refine aO5 xs _ _ _ _ _ (λn=>?_);simp only[go_sem];exact aP (u _)
def ev(tk:Option Nat)(es:List A):A:=match tk with
 | none=>.emp
 | some t=>.list (some t) es
@[go_sem] theorem aWp(tk:Option Nat)(es:List A):(ev tk es).cells=[ev tk es]:=by cases tk<;>rfl
@[go_sem] theorem aXs(tk:Option Nat)(es:List A):(ev tk es).one=true:=by cases tk<;>rfl
@[go_sem] theorem aXw(s:St)(tk:Option Nat)(es:List A):jM s (ev tk es)=ev tk es:=by cases tk<;>rfl
theorem aCa{tk:Option Nat}{es:List A}(h:tk=none->es=[]):nA (ev tk es)=some (.int .i64 es.length):=by
 cases tk with
 | none=>rw[h rfl];rfl
 | some t=>rfl
theorem pO{s:St}{e:TypeId}{H:TI}{ys:List A}{KV:St->A->Prop}{tk:Option Nat}{es:List A}(Z:tk=none->es=[])(U:∀t,tk=some t->s.getT t=some (es.length,e))
  (O:∀y,y∈es->y.cells.length=H.sz)(hl:es.length+ys.length<=4294967296)
  (B:∀z,(z=none->es++ys=[])->(∀t,z=some t->tk=some t\/s.getT t=none)->KV (gs s z (es.length+ys.length) e) (ev z (es++ys))):rD cx s e H ys KV (ev tk es):=by
 cases tk with
 | none =>
  have M:=Z rfl;subst M;cases ys with
  | nil=>exact B none (λ_=>rfl) (λt h=>by cases h)
  | cons y r =>
   refine⟨⟨gQ hl,Nat.succ_pos _⟩,λt ht=>?_⟩;have:=B (some t) (λh=>by cases h) (λu G=>by cases G;exact .inr ht);simpa [gs,ev]using this
 | some t=>exact⟨U t rfl,O,hl,B (some t) (λh=>by cases h) (λu G=>.inl G)⟩
theorem zG{S s:St}{u y:Option Nat}{U Z:Nat}{e:TypeId}(hs:S.ge s)(G:∀t,u=some t->(none:Option Nat)=some t\/S.getT t=none)(H:∀t,y=some t->u=some t\/∃n,(gs S u n e).getT t=none) :
  (gs (gs S u U e) y Z e).ge s:=by
 have B:∀t,u=some t->S.getT t=none:=λt h=>(G t h).elim (λh=>by cases h) id
 refine⟨λb o ho=>by rw[cS,cS];exact hs.ob b o ho,λt m M=>?_,λx O=>by cases u<;>cases y<;>exact hs.ls x O⟩;have z:=hs.tk t m M;have g1:u≠some t:=λh=>by rw[B t h]at z;cases z
 have g2:y≠some t:=λh=>by
  rcases H t h with h|⟨n,h⟩
  .exact g1 h
  .rw[gK,aD g1,z]at h;cases h
 rw[gK,aD g2,gK,aD g1];exact z
theorem aG5{l:List Opr}{y:A}(u:y∈l.map Opr.enc):y.cells.length=7:=by
 obtain⟨z,_,rfl⟩:=cN.1 u;rfl
theorem aRA(x:Sig)(hB:x.ops.length+x.funs.length<=4294967296)(s:St)(KV Kp:St->A->Prop)(M:∀b:Bool,KV s (.bool b)):Den cx 18 [.agg x.cs] KV Kp s:=by
 simp only[go_sem];(refine aN func18 [0,1,2,3,5,31,38,39,40,41,58] ?_;simp only[go_sem,ntmps18,f18]);(refine aM λp z=>?_);simp only[go_sem,z]
 (apply aJ<;>intro h)<;>simp only[go_sem,h,z]
 .exact aG (M _) aR
 clear h
 (apply aJ<;>intro h)<;>simp only[go_sem,h,z]
 .exact aG (M _) aR
 clear h
 (apply aJ<;>intro h)<;>simp only[go_sem,h,z]
 .exact aG (M _) aR
 clear h
 (apply aJ<;>intro h)<;>simp only[go_sem,h,z]
 .exact aG (M _) aR
 clear h;(refine bD (OT.l [0,1,2,4,5,8,3,6,7] .nil) [(3,[5])] ?_;simp only[go_sem,z]);refine⟨by decide,λy H=>aG5 H,pO (tk:=none) (es:=[]) (λ_=>rfl) (λt h=>by cases h) (λy H=>by cases H) (by simp only[aO,aZ];omega) (λb3 b2 b0=>?_)⟩;simp only[go_sem,z];refine⟨by decide,λy H=>aG5 H,pO (λh=>by simpa using b2 h) (λt Z=>by rw[wX t Z];simp) (λy H=>aG5 (gQ H)) (by simp only[aO,aZ,dD];omega) (λB O b1=>?_)⟩;simp only[go_sem,z,aCa O]
 have U:B=none->x.ops++x.funs=[]:=λh=>by
  have:=O h;simpa using this
 have hV:∀(i:Nat) (o:Opr),(x.ops++x.funs)[i]?=some o->∃t,ev B (List.map Opr.enc x.ops++List.map Opr.enc x.funs)=.list (some t) ((x.ops++x.funs).map Opr.enc):=λi o ho=>by
  cases B with
  | none =>
   rw[U rfl]at ho;cases ho
  | some t=>exact⟨t,by rw[bU];rfl⟩
 refine Ex.loop (ι:=Int × Nat) (λc=>[(3,.int .i64 c.1),(38,ev B (List.map Opr.enc x.ops++List.map Opr.enc x.funs)),(39,.int .i64 ((x.ops++x.funs).length:Nat)),(40,.int .i64 (c.2:Nat))]) (λ_=>s)
  (λc=>c.2<=(x.ops++x.funs).length) (λc=>(x.ops++x.funs).length-c.2) (0,0) (aW _) ?_ ?_ ?_
 ·(simp only[go_sem,z];try simp)
 .exact zG aR b0 (λt h=>(b1 t h).imp id (λh=>⟨_,h⟩))
 .rintro⟨n,i⟩ hi;simp only at hi;refine aX (V:=[0,1,2,3,5,31,38,39,40,41,58]) _ _ _ _ ?_;simp only[go_sem]
  (apply aJ<;>intro h)<;>simp only[go_sem,h]
  .have u:i<(x.ops++x.funs).length:=gQ h;clear h;obtain⟨o,ho⟩:=bB u;obtain⟨t,Z⟩:=hV i o ho;simp only[go_sem,Z,ho,u];(refine aM λb5 G=>?_);simp only[go_sem,Z,ho,u,G]
   (apply aJ<;>intro h)<;>simp only[go_sem,h,G]
   .exact aG (M _) aR
   clear h;exact⟨(_,i+1),u,aQ,⟨rfl,aU i (by rw[aH]at u;omega)⟩,(gE G)⟩
  .exact aP (M _)
theorem aTj(x:Tm):x.enc.cells.length=6:=by rw[cY];rfl
theorem jX{l:List Tm}{y:A}(u:y∈l.map Tm.enc):y.cells.length=6:=by
 obtain⟨z,_,rfl⟩:=cN.1 u;exact aTj z
def eqW(e:Eqn):Nat:=2+e.cond.length
def aCx(p:Part):Nat:=1+p.right.length
def aCN(r:Rul):Nat:=(r.parts.map aCx).sum+(r.cond.length+(r.new.map λf=>f.cells.length).sum)
def zX(d:Dfn):Nat:=(d.eqs.map eqW).sum+(d.once.length+(d.many.length+(d.rules.map aCN).sum))
theorem aBP{α:Type}{l:List α}{i:Nat}{x:α}(h:l[i]?=some x):l.drop i=x::l.drop (i+1):=by
 obtain⟨u,rfl⟩:=dZ.1 h;exact oZ u
theorem tR(s:St)(t:Nat)(v w:Nat × TypeId):(s.setT t v).setT t w=s.setT t w:=by simp only[St.setT,aCb]
theorem tX{l:List Cel}{y:A}(u:y∈l.map Cel.enc):y.cells.length=10:=by
 obtain⟨z,_,rfl⟩:=cN.1 u;rfl
def uP(s:St)(l:List Tm)(tk:Option Nat):Prop:=(tk=none->l=[])/\∀t,tk=some t->s.getT t=none
theorem aIZ(x:Dfn)(hB:(eD x).length<=4294967296)(s:St)(KV Kp:St->A->Prop)(hk:KV s (.list none ((eD x).map Tm.enc))):Den cx 20 [.agg x.cs] KV Kp s:=by
 generalize hD:eD x=D at hB hk;have bd:x.eqs.flatMap fL++((x.once++x.many).map Cel.init++x.rules.flatMap fX)=D:=hD
 have c1:x.once.length+x.many.length<=4294967296:=by
  have:=lE List.length bd;simp only[aH,aO]at this;omega
 clear hD;refine hH λbm=>?_
 have bn:=bm _ (cQ ..);have br:Rlz (.list none (x.eqs.map Eqn.enc)):=bn.cell (by simp[Dfn.cs]);have bl:Rlz (.list none (x.rules.map Rul.enc)):=bn.cell (by simp[Dfn.cs]);clear bm;simp only[go_sem];(refine aN func20 aA3 ?_;simp only[go_sem,ntmps20,Tryz.f20]);(refine aM λp Z=>?_);simp only[go_sem,Z]
 refine Ex.loop (ι:=(List Tm × Option Nat) × Nat) (λc=>[(1,.ptr p 0),(3,gv c.1.2 (c.1.1.map Tm.enc)),(15,.list none (x.eqs.map Eqn.enc)),(16,.int .i64 x.eqs.length),(17,.int .i64 (c.2:Nat))])
  (λc=>gs (s.setO p (.cells 31 x.cs)) c.1.2 c.1.1.length 67)
  (λc=>uP s c.1.1 c.1.2/\c.2<=x.eqs.length/\c.1.1++((x.eqs.drop c.2).flatMap fL++((x.once++x.many).map Cel.init++x.rules.flatMap fX))=D) (λc=>x.eqs.length-c.2) (([],none),0) ⟨⟨λ_=>rfl,λt e=>(by cases e)⟩,aW _,bd⟩ ?_ (by exact aE _) ?_
 ·(simp only[go_sem,Z];try exact⟨rfl,rfl⟩)
 ·rintro ⟨⟨l,tk⟩,i⟩ ⟨⟨B,z⟩,hi,hl⟩;simp only at B z hi hl;refine aX (V:=aA3) _ _ _ _ ?_;simp only[go_sem,Z]
  (apply aJ<;>intro h)<;>simp only[go_sem,h,Z]
  .have H:i<x.eqs.length:=gQ h;clear h;obtain⟨e,he⟩:=bB H;rw[aBP he,jR]at hl;have hL:=lE List.length hl;simp only[aH,fL,aV]at hL;simp only[go_sem,Z,he,H];(refine rF λb5 b4=>?_);simp only[go_sem,Z,he,H,b4];(refine bD (OT.l [0,1,2,3,4,7,8,5,6,9,10] .nil) [(5,[8]),(6,[8])] ?_;simp only[go_sem,Z,he,H,b4]);refine⟨by decide,λy G=>?_,dU rfl rfl (by rw[aO];exact fD λe=>by rw[B e];rfl) (λy G=>jX G) (by simp only[aO,aV,aZ];omega) (λu hu=>?_)⟩
   .simp only[dG,nI,eJ]at G;rcases G with rfl|rfl<;>rfl
   have U:=iD hu z;rw[gR hu];simp only[go_sem,Z,he,H,b4];refine⟨by decide,λy G=>jX G,by simp only[aH,aO,aV,aZ],λy G=>?_,by simp only[aH,aO,aV,aZ];omega,?_⟩
   .simp only[cK,dG,nI,eJ]at G;rcases G with G|rfl|rfl
    .exact jX G
    .rfl
    .rfl
   refine⟨((l++[e.left,e.right]++e.cond,some u),i+1),⟨⟨λh=>(by cases h),λt h=>by cases h;exact U⟩,H,by rw[<-hl];simp only[fL,eG,dY,dD]⟩,aQ,?_,?_⟩
   .simp only[go_sem,br.wrap (i:=i) (gQ H),eK,bU]
   .have e1:∀a b:A,(List.map Tm.enc l++[a,b]).length+e.cond.length=(l++[e.left,e.right]++e.cond).length:=λa b=>by simp only[aH,aO,aV,aZ]
    rw[tR,e1];exact fB (gE (And.intro Z b4))
  .have b2:=bQ hi h;clear h;rw[b2,dP (bJ _),sF,dD]at hl;(refine bD (OT.l [0,1,2,4,5,8,3,6,7] .nil) [(3,[5])] ?_;simp only[go_sem,Z]);refine⟨by decide,λy G=>tX G,pO (tk:=none) (es:=[]) (λ_=>rfl) (λt h=>by cases h) (λy G=>by cases G) (by simp only[aO,aZ];omega) (λc2 bj bf=>?_)⟩;simp only[go_sem,Z];refine⟨by decide,λy G=>tX G,pO (λh=>by simpa using bj h) (λt ht=>by rw[wX t ht];simp) (λy G=>tX (gQ G)) (by simp only[aO,aZ,dD];omega) (λb8 bc bg=>?_)⟩;simp only[go_sem,Z,aCa bc]
   have bk:b8=none->x.once++x.many=[]:=λh=>by
    have:=bc h;simpa using this
   have hV:∀(i:Nat) (o:Cel),(x.once++x.many)[i]?=some o->∃t,ev b8 (List.map Cel.enc x.once++List.map Cel.enc x.many)=.list (some t) ((x.once++x.many).map Cel.enc):=λi o ho=>by
    cases b8 with
    | none =>
     rw[bk rfl]at ho;cases ho
    | some t=>exact⟨t,by rw[bU];rfl⟩
   have b3:=hl;have c0:(x.once++x.many).length=x.once.length+x.many.length:=aH
   refine Ex.loop (ι:=(List Tm × Option Nat) × Nat) (λc=>[(1,.ptr p 0),(3,gv c.1.2 (c.1.1.map Tm.enc)),(38,ev b8 (List.map Cel.enc x.once++List.map Cel.enc x.many)),(39,.int .i64 ((x.once++x.many).length:Nat)),(40,.int .i64 (c.2:Nat))])
    (λc=>gs (s.setO p (.cells 31 x.cs)) c.1.2 c.1.1.length 67)
    (λc=>uP s c.1.1 c.1.2/\c.2<=(x.once++x.many).length/\c.1.1++(((x.once++x.many).drop c.2).map Cel.init++x.rules.flatMap fX)=D) (λc=>(x.once++x.many).length-c.2) ((l,tk),0) ⟨⟨B,z⟩,aW _,b3⟩ ?_ (by exact zG (aE _) bf (λt h=>(bg t h).imp id (λh=>⟨_,h⟩))) ?_
   ·(simp only[go_sem,Z];try simp)
   .clear bg bf bj B z hl hi bc b3;rintro⟨⟨l,tk⟩,i⟩ ⟨⟨B,z⟩,hi,hl⟩;simp only at B z hi hl;refine aX (V:=aA3) _ _ _ _ ?_;simp only[go_sem,Z]
    (apply aJ<;>intro h)<;>simp only[go_sem,h,Z]
    .have H:i<(x.once++x.many).length:=gQ h;clear h;obtain⟨o,ho⟩:=bB H;obtain⟨t,ht⟩:=hV i o ho;rw[aBP ho,bX]at hl;have hL:=lE List.length hl;simp only[aH,aV]at hL;simp only[go_sem,Z,ht,ho,H];(refine rF λb7 bb=>?_);simp only[go_sem,Z,ht,ho,H,bb];refine⟨by decide,λy G=>by simp only[bO]at G;subst G;rfl,dU rfl rfl (by rw[aO];exact fD λe=>by rw[B e];rfl) (λy G=>jX G) (by simp only[aO,aV,aZ];omega) (λu hu=>?_)⟩;have U:=iD hu z;rw[gR hu];simp only[go_sem,Z,ht,ho,H,bb];refine⟨((l++[o.init],some u),i+1),⟨⟨λh=>(by cases h),λt h=>by cases h;exact U⟩,H,by rw[<-hl];simp only[eG,dY,dD]⟩,aQ,?_,?_⟩
     .simp only[go_sem,aU i aB,eK,bU]
     .rw[show l.length+1=(l++[o.init]).length by simp only[aH,aV,aZ]];exact fB (gE (And.intro Z bb))
    .have b2:=bQ hi h;clear h;rw[b2,dP (bJ _),dL,dD]at hl;have b3:=hl;clear hi hl
     refine Ex.loop (ι:=(List Tm × Option Nat) × Nat) (λc=>[(3,gv c.1.2 (c.1.1.map Tm.enc)),(51,.list none (x.rules.map Rul.enc)),(52,.int .i64 x.rules.length),(53,.int .i64 (c.2:Nat))])
      (λc=>gs s c.1.2 c.1.1.length 67)
      (λc=>uP s c.1.1 c.1.2/\c.2<=x.rules.length/\c.1.1++(x.rules.drop c.2).flatMap fX=D) (λc=>x.rules.length-c.2) ((l,tk),0) ⟨⟨B,z⟩,aW _,b3⟩ ?_ ?_ ?_
     ·(simp only[go_sem,Z];first|done|exact rfl|exact⟨rfl,rfl⟩)
     .exact qW (aDs (wY Z (aAy _ _ _)))
     .clear B z b3;rintro⟨⟨l,tk⟩,i⟩ ⟨⟨B,z⟩,hi,hl⟩;simp only at B z hi hl;refine aX (V:=aA3) _ _ _ _ ?_;simp only[go_sem]
      (apply aJ<;>intro h)<;>simp only[go_sem,h]
      .have H:i<x.rules.length:=gQ h;clear h;obtain⟨r,hr⟩:=bB H;rw[aBP hr,jR,fX]at hl;simp only[go_sem,hr,H];(refine rF λb9 O=>?_);simp only[go_sem,hr,H,O];have bp:Rlz (.agg r.cs):=bl.agg_elem (cN.2 ⟨r,bK hr,rfl⟩);have bt:Rlz (.list none (r.parts.map Part.enc)):=bp.cell (by simp[Rul.cs]);have bv:Rlz (.list none (r.new.map Fresh.enc)):=bp.cell (by simp[Rul.cs]);have bq:IntKind.i64.wrap ((i:Int)+1)=((i+1:Nat):Int):=bl.wrap (i:=i) (gQ H);generalize hR:(x.rules.drop (i+1)).flatMap fX=R at hl
       refine Ex.loop (ι:=(List Tm × Option Nat) × Nat) (λc=>[(3,gv c.1.2 (c.1.1.map Tm.enc)),(9,.ptr b9 0),(51,.list none (x.rules.map Rul.enc)),(52,.int .i64 x.rules.length),(53,.int .i64 (i:Nat)),(58,.list none (r.parts.map Part.enc)),(59,.int .i64 r.parts.length),(60,.int .i64 (c.2:Nat))])
        (λc=>gs (s.setO b9 (.cells 50 r.cs)) c.1.2 c.1.1.length 67)
        (λc=>uP s c.1.1 c.1.2/\c.2<=r.parts.length/\c.1.1++((r.parts.drop c.2).flatMap (λp=>p.left::p.right)++(r.cond++r.new.flatMap Fresh.cells)++R)=D) (λc=>r.parts.length-c.2) ((l,tk),0) ⟨⟨B,z⟩,aW _,hl⟩ ?_ (by exact aE _) ?_
       ·(simp only[go_sem,O];first|done|exact rfl|exact⟨rfl,rfl⟩)
       .clear B z hl;rintro⟨⟨l,tk⟩,j⟩ ⟨⟨B,z⟩,hj,hl⟩;simp only at B z hj hl;refine aX (V:=aA3) _ _ _ _ ?_;simp only[go_sem,O]
        (apply aJ<;>intro h)<;>simp only[go_sem,h,O]
        .have M:j<r.parts.length:=gQ h;clear h;obtain⟨q,hq⟩:=bB M;rw[aBP hq,jR]at hl;have hL:=lE List.length hl;simp only[aH,aV]at hL;simp only[go_sem,O,hq,M];(refine rF λbw b0=>?_);simp only[go_sem,O,hq,M,b0];(refine bD (OT.l [0,1,2,3,5,6,4,7,8] .nil) [(4,[6])] ?_;simp only[go_sem,O,hq,M,b0]);refine⟨by decide,λy G=>by simp only[bO]at G;subst G;rfl,dU rfl rfl (by rw[aO];exact fD λe=>by rw[B e];rfl) (λy G=>jX G) (by simp only[aO,aV,aZ];omega) (λu hu=>?_)⟩;have U:=iD hu z;rw[gR hu];simp only[go_sem,O,hq,M,b0];refine⟨by decide,λy G=>jX G,by simp only[aH,aO,aV,aZ],λy G=>?_,by simp only[aH,aO,aV,aZ];omega,?_⟩
         .simp only[cK,bO]at G;rcases G with G|rfl
          .exact jX G
          .rfl
         refine⟨((l++[q.left]++q.right,some u),j+1),⟨⟨λh=>(by cases h),λt h=>by cases h;exact U⟩,M,by rw[<-hl];simp only[eG,dY,dD]⟩,aQ,?_,?_⟩
         .simp only[go_sem,bt.wrap (i:=j) (gQ M),eK,bU]
         .have e1:∀a:A,(List.map Tm.enc l++[a]).length+q.right.length=(l++[q.left]++q.right).length:=λa=>by simp only[aH,aO,aV,aZ]
          rw[tR,e1];exact fB (gE (And.intro O b0))
        .have b6:=bQ hj h;clear h;rw[b6,dP (bJ _),sF,dD]at hl;have bh:=hl;have hL:=lE List.length hl;simp only[aH]at hL;clear hl hj b6;refine⟨by decide,λy G=>jX G,dU rfl rfl (by rw[aO];exact fD λe=>by rw[B e];rfl) (λy G=>jX G) (by simp only[aO];omega) (λu hu=>?_)⟩;have U:=iD hu z;rw[gR hu];simp only[go_sem,O]
         refine Ex.loop (ι:=(List Tm × Option Nat) × Nat) (λc=>[(3,gv c.1.2 (c.1.1.map Tm.enc)),(51,.list none (x.rules.map Rul.enc)),(52,.int .i64 x.rules.length),(53,.int .i64 (i:Nat)),(78,.list none (r.new.map Fresh.enc)),(79,.int .i64 r.new.length),(80,.int .i64 (c.2:Nat))])
          (λc=>gs s c.1.2 c.1.1.length 67)
          (λc=>uP s c.1.1 c.1.2/\c.2<=r.new.length/\c.1.1++((r.new.drop c.2).flatMap Fresh.cells++R)=D) (λc=>r.new.length-c.2) ((l++r.cond,some u),0) ⟨⟨λh=>(by cases h),λt h=>by cases h;exact U⟩,aW _,by rw[<-bh];simp only[aAh,eG]⟩ ?_ ?_ ?_
         ·(simp only[go_sem,O,eK,bU];first|done|exact rfl|exact⟨rfl,rfl⟩)
         .show St.ge _ ((s.setT u ((l++r.cond).length,67)));rw[aH];exact fB (gE O)
         .clear B z bh hu U;rintro⟨⟨l,tk⟩,j⟩ ⟨⟨B,z⟩,hj,hl⟩;simp only at B z hj hl;refine aX (V:=aA3) _ _ _ _ ?_;simp only[go_sem]
          (apply aJ<;>intro h)<;>simp only[go_sem,h]
          .have M:j<r.new.length:=gQ h;clear h;obtain⟨q,hq⟩:=bB M;rw[aBP hq,jR]at hl;have hL:=lE List.length hl;simp only[aH]at hL;simp only[go_sem,hq,M];(refine rF λbz b1=>?_);simp only[go_sem,hq,M,b1];refine⟨by decide,λy G=>jX G,dU rfl rfl (by rw[aO];exact fD λe=>by rw[B e];rfl) (λy G=>jX G) (by simp only[aO];omega) (λu hu=>?_)⟩;have U:=iD hu z;rw[gR hu];simp only[go_sem,hq,M,b1];refine⟨((l++q.cells,some u),j+1),⟨⟨λh=>(by cases h),λt h=>by cases h;exact U⟩,M,by rw[<-hl];simp only[eG]⟩,aQ,?_,?_⟩
           .simp only[go_sem,bv.wrap (i:=j) (gQ M),eK,bU]
           .show St.ge _ ((s.setT u ((l++q.cells).length,67)));rw[aH];exact fB (gE b1)
          .have b6:=bQ hj h;clear h;rw[b6,dP (bJ _),sF,dD,<-hR]at hl;refine⟨((l,tk),i+1),⟨⟨B,z⟩,H,hl⟩,aQ,?_,aE _⟩;simp only[go_sem,bq]
      .have b2:=bQ hi h;clear h;rw[b2,dP (bJ _),sF,dK]at hl;subst hl;exact DK.mk hk (fR (aE _) z) (kJ _ _ (λe=>by rw[B e];rfl))
theorem aSG(x:Dfn):(eD x).length=zX x:=by
 have u:∀{α:Type} (f:α->List Tm) (l:List α),(l.flatMap f).length=(l.map λa=>(f a).length).sum:=λf l=>by
  induction l with
  | nil=>rfl
  | cons a r B=>rw[jR,aH,B];rfl
 unfold eD zX;simp only[aH,aO,u];have y:(x.eqs.map λa=>(fL a).length)=x.eqs.map eqW:=List.map_congr_left λa _=>by simp only[fL,eqW,aV];omega
 have z:(x.rules.map λa=>(fX a).length)=x.rules.map aCN:=List.map_congr_left λa _=>by
  simp only[fX,aCN,aH,u];rw[show(a.parts.map λp=>(p.left::p.right).length)=a.parts.map aCx from List.map_congr_left λp _=>by simp only[aCx,aV];omega]
 rw[y,z];omega
theorem aPM(x:Dfn)(u:zX x<=4294967296)(s:St)(KV Kp:St->A->Prop)(y:∀xs:List Tm,KV s (.list none (xs.map Tm.enc))):Den cx 20 [.agg x.cs] KV Kp s :=
 aIZ x (by rw[aSG];exact u) s KV Kp (y _)
def qE(e:Eqn):List Tm:=[e.left,e.right]++e.cond
def pZ(p:Part):List Tm:=[p.left]++p.right
def nU(r:Rul):List Tm:=r.parts.flatMap pZ++(r.cond++r.new.flatMap Fresh.cells)
def oU(c:Cel):List Tm:=[c.init]
def vY(d:Dfn):List Tm:=d.eqs.flatMap qE++((d.once++d.many).flatMap oU++d.rules.flatMap nU)
theorem aCg(d:Dfn):vY d=eD d:=by
 have e:∀l:List Cel,l.flatMap oU=l.map Cel.init:=λl=>by induction l with|nil=>rfl|cons x r u=>simp only[jR,u,bX];rfl
 simp only[vY,eD,e];rfl
theorem aCi{α u:Type}(f:α->List u){l:List α}{i:Nat}{x:α}(h:l[i]?=some x):(l.take (i+1)).flatMap f=(l.take i).flatMap f++f x:=by
 rw[gJ,h,sD];simp
theorem aCo{α u:Type}(f:α->List u)(l:List α)(i:Nat):((l.take i).flatMap f).length<=(l.flatMap f).length:=by
 have h:(l.flatMap f).length=((l.take i).flatMap f).length+((l.drop i).flatMap f).length:=by rw[<-aH,<-sD,mQ]
 omega
theorem aLo(e:Eqn):(qE e).length=2+e.cond.length:=by simp only[qE,aH,aV,aZ]
theorem aLD(p:Part):(pZ p).length=1+p.right.length:=by simp only[pZ,aH,aV,aZ]
theorem tW(l:List Tm):∀y,y∈l.map Tm.enc->y.cells.length=6:=λy u=>jX u
theorem gvE{tk:Option Nat}{l:List Tm}{s:St}(h:tk=none->l=[]):iV (gs s tk l.length 67) tk (l.map Tm.enc).length 67:=by
 rw[aO];exact fD λe=>by rw[h e];rfl
theorem aJg(x:Dfn)(hB:(vY x).length<=4294967296)(hM:x.once.length+x.many.length<=4294967000)(s:St)(KV Kp:St->A->Prop)(hk:KV s (.list none ((vY x).map Tm.enc))):Den cx 43 [.agg x.cs] KV Kp s:=by
 refine hH λbn=>?_
 have bp:=bn _ (cQ ..);have bt:Rlz (.list none (x.eqs.map Eqn.enc)):=bp.cell (by simp[Dfn.cs]);have bm:Rlz (.list none (x.rules.map Rul.enc)):=bp.cell (by simp[Dfn.cs]);clear bn
 have bc:(x.eqs.flatMap qE).length+(((x.once++x.many).flatMap oU).length+(x.rules.flatMap nU).length)<=4294967296:=by
  unfold vY at hB;simpa only[aH]using hB
 simp only[go_sem];(refine aN func43 aA1 ?_;simp only[go_sem,ntmps43,f43]);(refine aM λp hp=>?_);simp only[go_sem,hp]
 refine Ex.loop (ι:=Nat × Option Nat) (λc=>[(1,.ptr p 0),(3,gv c.2 (((x.eqs.take c.1).flatMap qE).map Tm.enc)),(15,.list none (x.eqs.map Eqn.enc)),(16,.int .i64 x.eqs.length),(17,.int .i64 (c.1:Nat))])
  (λc=>gs (s.setO p (.cells 31 x.cs)) c.2 ((x.eqs.take c.1).flatMap qE).length 67)
  (λc=>uP s ((x.eqs.take c.1).flatMap qE) c.2/\c.1<=x.eqs.length) (λc=>x.eqs.length-c.1) (0,none) ⟨⟨λ_=>rfl,λt e=>(by cases e)⟩,aW _⟩ ?_ (by exact aE _) ?_
 ·(simp only[go_sem,hp];try exact⟨rfl,rfl⟩)
 ·rintro ⟨i,tk⟩ ⟨⟨z,B⟩,hi⟩;simp only at z B hi;refine aX (V:=aA1) _ _ _ _ ?_;simp only[go_sem,hp]
  (apply aJ<;>intro h)<;>simp only[go_sem,h,hp]
  .have G:i<x.eqs.length:=gQ h;clear h;obtain⟨e,he⟩:=bB G;have H:=aCi qE he;have U:=aCo qE x.eqs (i+1);rw[H,aH,aLo]at U;simp only[go_sem,hp,he,G];(refine rF λb5 bb=>?_);simp only[go_sem,hp,he,G,bb];(refine bD (OT.l [0,1,2,3,4,7,8,5,6,9,10] .nil) [(5,[8]),(6,[8])] ?_;simp only[go_sem,hp,he,G,bb]);refine⟨by decide,λy hy=>?_,dU rfl rfl (gvE z) (tW _) (by simp only[aO,aV,aZ];omega) (λu hu=>?_)⟩
   .simp only[dG,nI,eJ]at hy;rcases hy with rfl|rfl<;>rfl
   have Z:=iD hu B;rw[gR hu];simp only[go_sem,hp,he,G,bb];refine⟨by decide,tW _,by simp only[aH,aO,aV,aZ],λy hy=>?_,by simp only[aH,aO,aV,aZ];omega,?_⟩
   .simp only[cK,dG,nI,eJ]at hy;rcases hy with hy|rfl|rfl
    .exact jX hy
    .rfl
    .rfl
   refine⟨(i+1,some u),⟨⟨λh=>(by cases h),λt h=>by cases h;exact Z⟩,G⟩,aQ,?_,?_⟩
   .simp only[go_sem,bt.wrap (i:=i) (gQ G),eK,H,bU,qE,eG]
   .have e1:∀(a b:A),(List.map Tm.enc ((x.eqs.take i).flatMap qE)++[a,b]).length+e.cond.length=((x.eqs.take (i+1)).flatMap qE).length:=λa b=>by simp only[H,aH,aLo,aO,aV,aZ];omega
    rw[tR,e1];exact fB (gE (And.intro hp bb))
  .have b3:i=x.eqs.length:=by have:¬ i<x.eqs.length:=gQ h;omega
   subst b3;rw[bT]at z;rw[bT];clear h hi;obtain⟨L0,bf⟩:∃L,L=x.eqs.flatMap qE:=⟨_,rfl⟩
   rw[<-bf]at z bc⊢;refine aFE [x.once,x.many] (by simp only[mB,pB,dK,aH];omega) _ _ _ ?_;rw[show [x.once,x.many].flatten=x.once++x.many by simp];simp only[go_sem];obtain⟨CL,b4⟩:∃L,L=x.once++x.many:=⟨_,rfl⟩
   have bk:CL.length<=4294967000:=by rw[b4,aH];exact hM
   rw[<-b4]at bc⊢
   refine Ex.loop (ι:=Nat × Option Nat) (λc=>[(1,.ptr p 0),(3,gv c.2 ((L0++(CL.take c.1).flatMap oU).map Tm.enc)),(37,.list none (CL.map Cel.enc)),(38,.int .i64 (CL.length:Nat)),(39,.int .i64 (c.1:Nat))])
    (λc=>gs (s.setO p (.cells 31 x.cs)) c.2 (L0++(CL.take c.1).flatMap oU).length 67)
    (λc=>uP s (L0++(CL.take c.1).flatMap oU) c.2/\c.1<=CL.length) (λc=>CL.length-c.1) (0,tk) ⟨⟨gQ z,B⟩,aW _⟩ ?_ (by simp only[kO,sF,dK];exact aE _) ?_
   .simp only[go_sem];simp
   .clear z B tk;rintro⟨i,tk⟩ ⟨⟨z,B⟩,hi⟩;simp only at z B hi;refine aX (V:=aA1) _ _ _ _ ?_;simp only[go_sem]
    (apply aJ<;>intro h)<;>simp only[go_sem,h]
    .have G:i<CL.length:=gQ h;clear h;obtain⟨o,ho⟩:=bB G;have H:=aCi oU ho;have U:=aCo oU CL (i+1);rw[H,aH]at U;simp only[oU,aV,aZ]at U;simp only[go_sem,hp,ho,G];(refine rF λb7 bh=>?_);simp only[go_sem,hp,ho,G,bh];refine⟨by decide,λy hy=>by simp only[bO]at hy;subst hy;rfl,dU rfl rfl (gvE z) (tW _) (by simp only[aO,aH,aV,aZ];omega) (λu hu=>?_)⟩;have Z:=iD hu B;rw[gR hu];simp only[go_sem,hp,ho,G,bh];refine⟨(i+1,some u),⟨⟨λh=>(by cases h),λt h=>by cases h;exact Z⟩,G⟩,aQ,?_,?_⟩
     .simp only[go_sem,aU i aB,eK,H,bU,oU,eG]
     .rw[show(L0++(CL.take i).flatMap oU).length+1=(L0++(CL.take (i+1)).flatMap oU).length by rw[H];simp only[aO,aH,oU,aV,aZ];omega];exact fB (gE (And.intro hp bh))
    .have b3:i=CL.length:=by have:¬ i<CL.length:=gQ h;omega
     subst b3;clear h hi;rw[bT]at z;rw[bT];obtain⟨L1,b6⟩:∃L,L=L0++CL.flatMap oU:=⟨_,rfl⟩
     have c2:L1.length+(x.rules.flatMap nU).length<=4294967296:=by rw[b6,aH];omega
     rw[<-b6]at z⊢;have bl:vY x=L1++x.rules.flatMap nU:=by rw[vY,<-bf,<-b4,b6,eG]
     rw[bl]at hk;clear bc hB;clear b4 bk b6 bf L0
     refine Ex.loop (ι:=Nat × Option Nat) (λc=>[(3,gv c.2 ((L1++(x.rules.take c.1).flatMap nU).map Tm.enc)),(50,.list none (x.rules.map Rul.enc)),(51,.int .i64 x.rules.length),(52,.int .i64 (c.1:Nat))])
      (λc=>gs s c.2 (L1++(x.rules.take c.1).flatMap nU).length 67)
      (λc=>uP s (L1++(x.rules.take c.1).flatMap nU) c.2/\c.1<=x.rules.length) (λc=>x.rules.length-c.1) (0,tk) ⟨⟨gQ z,B⟩,aW _⟩ ?_ ?_ ?_
     .simp only[go_sem,hp];simp
     .simp only[kO,sF,dK];exact qW (aDs (wY hp (aAy _ _ _)))
     .clear z B tk;rintro⟨i,tk⟩ ⟨⟨z,B⟩,hi⟩;simp only at z B hi;refine aX (V:=aA1) _ _ _ _ ?_;simp only[go_sem]
      (apply aJ<;>intro h)<;>simp only[go_sem,h]
      .have G:i<x.rules.length:=gQ h;clear h;obtain⟨r,hr⟩:=bB G;have H:=aCi nU hr;have U:=aCo nU x.rules (i+1);rw[H,aH]at U;simp only[go_sem,hr,G];(refine rF λb9 O=>?_);simp only[go_sem,hr,G,O];have bq:Rlz (.agg r.cs):=bm.agg_elem (cN.2 ⟨r,bK hr,rfl⟩);have bv:Rlz (.list none (r.parts.map Part.enc)):=bq.cell (by simp[Rul.cs]);have bw:Rlz (.list none (r.new.map Fresh.enc)):=bq.cell (by simp[Rul.cs]);have br:IntKind.i64.wrap ((i:Int)+1)=((i+1:Nat):Int):=bm.wrap (i:=i) (gQ G);obtain⟨L2,bg⟩:∃L,L=L1++(x.rules.take i).flatMap nU:=⟨_,rfl⟩
       have b1:L1++(x.rules.take (i+1)).flatMap nU=L2++nU r:=by rw[H,bg,eG]
       have bd:L2.length+(nU r).length<=4294967296:=by rw[bg,aH];omega
       rw[<-bg]at z⊢;clear U H
       refine Ex.loop (ι:=Nat × Option Nat) (λc=>[(3,gv c.2 ((L2++(r.parts.take c.1).flatMap pZ).map Tm.enc)),(9,.ptr b9 0),(50,.list none (x.rules.map Rul.enc)),(51,.int .i64 x.rules.length),(52,.int .i64 (i:Nat)),(57,.list none (r.parts.map Part.enc)),(58,.int .i64 r.parts.length),(59,.int .i64 (c.1:Nat))])
        (λc=>gs (s.setO b9 (.cells 50 r.cs)) c.2 (L2++(r.parts.take c.1).flatMap pZ).length 67)
        (λc=>uP s (L2++(r.parts.take c.1).flatMap pZ) c.2/\c.1<=r.parts.length) (λc=>r.parts.length-c.1) (0,tk) ⟨⟨gQ z,B⟩,aW _⟩ ?_ (by simp only[kO,sF,dK];exact aE _) ?_
       .simp only[go_sem,O];simp
       .clear z B tk;rintro⟨j,tk⟩ ⟨⟨z,B⟩,hj⟩;simp only at z B hj;refine aX (V:=aA1) _ _ _ _ ?_;simp only[go_sem,O]
        (apply aJ<;>intro h)<;>simp only[go_sem,h,O]
        .have M:j<r.parts.length:=gQ h;clear h;obtain⟨q,hq⟩:=bB M;have H:=aCi pZ hq;have U:=aCo pZ r.parts (j+1);rw[H,aH,aLD]at U;rw[nU,aH]at bd;simp only[go_sem,O,hq,M];(refine rF λc0 b0=>?_);simp only[go_sem,O,hq,M,b0];(refine bD (OT.l [0,1,2,3,5,6,4,7,8] .nil) [(4,[6])] ?_;simp only[go_sem,O,hq,M,b0]);refine⟨by decide,λy hy=>by simp only[bO]at hy;subst hy;rfl,dU rfl rfl (gvE z) (tW _) (by simp only[aO,aH,aV,aZ];omega) (λu hu=>?_)⟩;have Z:=iD hu B;rw[gR hu];simp only[go_sem,O,hq,M,b0];refine⟨by decide,tW _,by simp only[aH,aO,aV,aZ],λy hy=>?_,by simp only[aH,aO,aV,aZ];omega,?_⟩
         .simp only[cK,bO]at hy;rcases hy with hy|rfl
          .exact tW _ _ hy
          .rfl
         refine⟨(j+1,some u),⟨⟨λh=>(by cases h),λt h=>by cases h;exact Z⟩,M⟩,aQ,?_,?_⟩
         .simp only[go_sem,bv.wrap (i:=j) (gQ M),eK,H,bU,pZ,eG]
         .have e1:∀(a:A),(List.map Tm.enc (L2++(r.parts.take j).flatMap pZ)++[a]).length+q.right.length=(L2++(r.parts.take (j+1)).flatMap pZ).length:=λa=>by simp only[H,aH,aLD,aO,aV,aZ];omega
          rw[tR,e1];exact fB (gE (And.intro O b0))
        .have bj:j=r.parts.length:=by have:¬ j<r.parts.length:=gQ h;omega
         subst bj;clear h hj;rw[bT]at z;rw[bT];rw[nU]at b1 bd;simp only[aH]at bd;obtain⟨L3,b8⟩:∃L,L=L2++r.parts.flatMap pZ:=⟨_,rfl⟩
         rw[<-eG,<-b8]at b1;have bz:L3.length=L2.length+(r.parts.flatMap pZ).length:=by rw[b8,aH]
         rw[<-b8]at z⊢;clear b8;refine⟨by decide,tW _,dU rfl rfl (gvE z) (tW _) (by simp only[aO];omega) (λu hu=>?_)⟩;have Z:=iD hu B;rw[gR hu];simp only[go_sem,O];clear z B hu tk
         refine Ex.loop (ι:=Nat × Option Nat) (λc=>[(3,gv c.2 ((L3++(r.cond++(r.new.take c.1).flatMap Fresh.cells)).map Tm.enc)),(50,.list none (x.rules.map Rul.enc)),(51,.int .i64 x.rules.length),(52,.int .i64 (i:Nat)),(77,.list none (r.new.map Fresh.enc)),(78,.int .i64 r.new.length),(79,.int .i64 (c.1:Nat))])
          (λc=>gs s c.2 (L3++(r.cond++(r.new.take c.1).flatMap Fresh.cells)).length 67)
          (λc=>uP s (L3++(r.cond++(r.new.take c.1).flatMap Fresh.cells)) c.2/\c.1<=r.new.length) (λc=>r.new.length-c.1) (0,some u) ⟨⟨λh=>(by cases h),λt h=>by cases h;exact Z⟩,aW _⟩ ?_ ?_ ?_
         .simp only[go_sem,O,eK,bU];simp
         .show St.ge _ (s.setT u ((L3++(r.cond++(r.new.take 0).flatMap Fresh.cells)).length,67));rw[show(L3++(r.cond++(r.new.take 0).flatMap Fresh.cells)).length=L3.length+r.cond.length by simp];exact fB (gE O)
         .rintro⟨j,tk⟩ ⟨⟨z,B⟩,hj⟩;simp only at z B hj;refine aX (V:=aA1) _ _ _ _ ?_;simp only[go_sem]
          (apply aJ<;>intro h)<;>simp only[go_sem,h]
          .have M:j<r.new.length:=gQ h;clear h;obtain⟨q,hq⟩:=bB M;have H:=aCi Fresh.cells hq;have U:=aCo Fresh.cells r.new (j+1);rw[H,aH]at U;simp only[go_sem,hq,M];(refine rF λc1 b2=>?_);simp only[go_sem,hq,M,b2];refine⟨by decide,tW _,dU rfl rfl (gvE z) (tW _) (by simp only[aO,aH];omega) (λu hu=>?_)⟩;have Z:=iD hu B;rw[gR hu];simp only[go_sem,hq,M,b2];refine⟨(j+1,some u),⟨⟨λh=>(by cases h),λt h=>by cases h;exact Z⟩,M⟩,aQ,?_,?_⟩
           .simp only[go_sem,bw.wrap (i:=j) (gQ M),eK,H,bU,eG]
           .rw[show(L3++(r.cond++(r.new.take j).flatMap Fresh.cells)).length+q.cells.length=(L3++(r.cond++(r.new.take (j+1)).flatMap Fresh.cells)).length by simp only[H,aH];omega];exact fB (gE b2)
          .have bj:j=r.new.length:=by have:¬ j<r.new.length:=gQ h;omega
           subst bj;clear h hj;rw[bT,<-b1]at z;rw[bT,<-b1];refine⟨(i+1,tk),⟨⟨z,B⟩,G⟩,aQ,?_,aE _⟩;simp only[go_sem,br]
      .have b3:i=x.rules.length:=by have:¬ i<x.rules.length:=gQ h;omega
       subst b3;rw[bT]at z⊢;exact DK.mk hk (fR (aE _) B) (kJ _ _ (λe=>by rw[z e];rfl))
section
section
variable {s:St} {KV Kp:St->A->Prop}
theorem aN5(x:aC)(u:KV s (.bool (!cP x))):Den cx 51 [.str x] KV Kp s:=by
 (refine aN func51 [0,2] ?_;simp only[go_sem,ntmps51,f51]);refine tO _ _ _ _ ?_;simp only[go_sem];exact aP u
theorem aOa(t:Tm)(z:TmW t)(u:KV s (.bool (!(Tm.val 60 t 0).isSome))):Den cx 56 [.agg t.cs] KV Kp s:=by
 (refine aN func56 [0,1,2] ?_;simp only[go_sem,ntmps56,f56]);(refine aM λp y=>?_);simp only[go_sem,y];refine aIW t z _ _ _ ?_;simp only[go_sem];exact aG u aR
theorem aUf(a b c d:Nat):decide ((20:Int)<aED (a:Int) (b:Int) (c:Int) (d:Int))=!(decide (a<=20)&&(decide (b<=20)&&(decide (c<=20)&&decide (d<=20)))):=by
 have h:(20:Int)<aED (a:Int) (b:Int) (c:Int) (d:Int)↔¬ (a<=20/\b<=20/\c<=20/\d<=20):=by
  unfold aED;simp only;split<;>split<;>split<;>omega
 rw[gA];simp only[bW,iY,Bool.and_eq_false_iff,fO,h];omega
theorem iC{α:Type}{l:List α}{i:Nat}{x:α}(h:l[i]?=some x):l.drop i=x::l.drop (i+1):=by
 obtain⟨u,rfl⟩:=dZ.1 h;exact oZ u
theorem aPa(d:Dfn)(hB:(hZ d).length<=4294967000)(hM:d.once.length+d.many.length<=4294967000)(s:St)(KV Kp:St->A->Prop)(hk:KV s (strs (hZ d))):Den cx 54 [.agg d.cs] KV Kp s:=by
 refine hH λbj=>?_
 have bp:=bj _ (cQ ..);have bg:Rlz (.list none (d.rules.map Rul.enc)):=bp.cell (by simp[Dfn.cs]);clear bj;simp only[go_sem];(refine uQ func54 aEL ?_;simp only[go_sem,ntmps54,f54]);(refine aM λp hp=>?_);simp only[go_sem,hp];refine .inr λt bf=>?_
 have gp:(s.setO p (.cells 31 d.cs)).getO p=some (.cells 31 d.cs):=by rw[aL,aF rfl]
 have b6:(s.setO p (.cells 31 d.cs)).ge s:=bG hp (aE s);have bd:(s.setO p (.cells 31 d.cs)).getT t=none:=bf;simp only[Dfn.cs,Sig.cs,dY,dD]at gp b6 bd;generalize bl:s.setO p _=S1 at gp b6 bd⊢;clear bl bf hp;have bm:(d.once++d.many).length<=4294967000:=by rw[aH];exact hM
 obtain⟨X0,H⟩:∃X,X=[d.name,d.start,d.watch]++(if d.kind=[] then [] else [d.kind]):=⟨_,rfl⟩
 have b2:X0++((d.once++d.many).map Cel.name++d.rules.flatMap mM)=hZ d:=by rw[H,eG];rfl
 cases c1:decide (d.kind=[])<;>simp only[go_sem,gp,c1]
 case' true =>
  rw[aF (fT c1)]at H;have bb:[A.str d.name,A.str d.start,A.str d.watch]=X0.map A.str:=by rw[H];rfl
  have bc:S1.setT t (3,9)=S1.setT t (X0.length,9):=by rw[H];rfl
 case' false =>
  rw[aD (of_decide_eq_false c1)]at H;refine .inl ⟨by decide,λy B=>(by rw[bO.1 B];rfl),λy B=>(by simp only[dG,iI,eJ]at B;rcases B with rfl|rfl|rfl<;>rfl),?_⟩;rw[oP];have bb:[A.str d.name,A.str d.start,A.str d.watch,A.str d.kind]=X0.map A.str:=by rw[H];rfl
  have bc:S1.setT t (4,9)=S1.setT t (X0.length,9):=by rw[H];rfl
 all_goals
  rw[bb,bc];clear bb bc H;refine .inl ?_;refine cW (aFE [d.once,d.many] (by simp only[mB,pB,dK];omega) _ _ _ ?_);rw[show [d.once,d.many].flatten=d.once++d.many by simp];generalize d.once++d.many=cells at b2 bm;simp only[go_sem,gp];refine Ex.loop (ι:=Nat × List aC) (λc=>[(1,.ptr p 0),(3,.list (some t) (c.2.map .str)),(30,.list none (cells.map Cel.enc)),(31,.int .i64 (cells.length:Nat)),(32,.int .i64 (c.1:Nat))]) (λc=>S1.setT t (c.2.length,9)) (λc=>c.1<=cells.length/\c.2++((cells.drop c.1).map Cel.name++d.rules.flatMap mM)=hZ d) (λc=>cells.length-c.1) (0,X0) ⟨aW _,b2⟩ ?_ (aE _) ?_
  .simp only[go_sem]
   try exact rfl
  .rintro⟨i,X⟩ ⟨hi,z⟩;simp only at hi z;refine aX (V:=aEL) _ _ _ _ ?_;simp only[go_sem]
   (apply aJ<;>intro h)<;>simp only[go_sem,h]
   .have G:i<cells.length:=gQ h;clear h;obtain⟨x,hx⟩:=bB G;rw[iC hx,bX,dY]at z;have b3:X.length+1<=4294967000:=by rw[<-z,aH,aV]at hB;omega
    simp only[go_sem,hx,G];(refine cH λb5 b4=>?_);have f1:=aI gp (aS b4);simp only[go_sem,hx,G,b4,f1];refine .inl ⟨by decide,λy B=>(by rw[bO.1 B];rfl),λy B=>fK B,by omega,(i+1,X++[x.name]),⟨G,by rw[eG];exact z⟩,aQ,⟨by rw[bU];rfl,aU i aB⟩,?_⟩;rw[oP];simp only[aH,aV,aZ];exact fB (gE b4)
   .have b8:=bQ hi h;subst b8;rw[dP (bJ _)]at z
    replace z:X++d.rules.flatMap mM=hZ d:=z
    simp only[go_sem,gp];refine Ex.loop (ι:=Nat × List aC) (λc=>[(1,.ptr p 0),(3,.list (some t) (c.2.map .str)),(43,.list none (d.rules.map Rul.enc)),(44,.int .i64 (d.rules.length:Nat)),(45,.int .i64 (c.1:Nat))]) (λc=>S1.setT t (c.2.length,9)) (λc=>c.1<=d.rules.length/\c.2++(d.rules.drop c.1).flatMap mM=hZ d) (λc=>d.rules.length-c.1) (0,X) ⟨aW _,z⟩ ?_ (aE _) ?_
    .simp only[go_sem]
     try exact rfl
    .clear z X b2;rintro⟨i,X⟩ ⟨hi,z⟩;simp only at hi z;refine aX (V:=aEL) _ _ _ _ ?_;simp only[go_sem]
     (apply aJ<;>intro h)<;>simp only[go_sem,h]
     .have G:i<d.rules.length:=gQ h;clear h;obtain⟨r,hr⟩:=bB G;have bq:Rlz (.agg r.cs):=bg.agg_elem (cN.2 ⟨r,bK hr,rfl⟩);have bh:Rlz (.list none (r.parts.map Part.enc)):=bq.cell (by simp[Rul.cs]);rw[iC hr,jR]at z;generalize hR:(d.rules.drop (i+1)).flatMap mM=R at z;have M:(X++(r.name::r.drop))++((r.parts.map Part.at_).filter (λx=>!decide (x=[]))++R)=hZ d:=by rw[<-z];simp[mM]
      have b3:X.length+1+r.drop.length<=4294967000:=by rw[<-M]at hB;simp only[aH,aV]at hB;omega
      simp only[go_sem,hr,G];(refine cH λb7 U=>?_);have f1:=aI gp (aS U);simp only[go_sem,hr,G,U,f1];(refine bD (OT.l [0,1,2,3,5,6,4,7,8] .nil) [(4,[6])] ?_;simp only[go_sem,hr,G,U,f1]);refine⟨by decide,λy B=>(by rw[bO.1 B];rfl),λy B=>fK B,by omega,by decide,λy B=>fK B,by simp,λy B=>?_,by simp only[aH,aO,aV,aZ];omega,?_⟩
      .rcases cK.1 B with B|B
       .exact fK B
       .rw[bO.1 B];rfl
      have gb:(S1.setO b7 (.cells 50 r.cs)).getO b7=some (.cells 50 r.cs):=by rw[aL,aF rfl]
      have Z:(S1.setO b7 (.cells 50 r.cs)).ge S1:=bG U (aE S1);rw[oP,oP,show List.map A.str X++[A.str r.name]++List.map A.str r.drop=(X++(r.name::r.drop)).map A.str by simp];rw[show(List.map A.str X++[A.str r.name]).length+r.drop.length=(X++(r.name::r.drop)).length by simp;omega];generalize X++(r.name::r.drop)=X3 at M;generalize b1:S1.setO b7 (.cells 50 r.cs)=S2 at gb Z;simp only[Rul.cs]at b1;rw[b1];clear b1 f1 U z b3;have bk:=Z.ob _ _ gp;refine Ex.loop (ι:=Nat × List aC) (λc=>[(1,.ptr p 0),(3,.list (some t) (c.2.map .str)),(43,.list none (d.rules.map Rul.enc)),(44,.int .i64 (d.rules.length:Nat)),(45,.int .i64 (i:Nat)),(58,.list none (r.parts.map Part.enc)),(59,.int .i64 (r.parts.length:Nat)),(60,.int .i64 (c.1:Nat))]) (λc=>S2.setT t (c.2.length,9)) (λc=>c.1<=r.parts.length/\c.2++(((r.parts.drop c.1).map Part.at_).filter (λx=>!decide (x=[]))++R)=hZ d) (λc=>r.parts.length-c.1) (0,X3) ⟨aW _,M⟩ ?_ (aE _) ?_
      .simp only[go_sem]
       try exact rfl
      .clear M X3 X;rintro⟨j,X⟩ ⟨hj,z⟩;simp only at hj z;refine aX (V:=aEL) _ _ _ _ ?_;simp only[go_sem]
       (apply aJ<;>intro h)<;>simp only[go_sem,h]
       .have O:j<r.parts.length:=gQ h;clear h;obtain⟨x,hx⟩:=bB O;rw[iC hx,bX,List.filter_cons]at z;simp only[go_sem,hx,O];(refine cH λb9 b0=>?_);have f2:=aI bk (aS b0);cases c2:decide (x.at_=[])<;>rw[c2]at z<;>simp only[go_sem,hx,O,b0,f2,c2]
        .have M:X++(x.at_::(((r.parts.drop (j+1)).map Part.at_).filter (λx=>!decide (x=[]))++R))=hZ d:=z;have b3:X.length+1<=4294967000:=by rw[<-M,aH,aV]at hB;omega
         refine .inl ⟨by decide,λy B=>(by rw[bO.1 B];rfl),λy B=>fK B,by omega,(j+1,X++[x.at_]),⟨O,by rw[eG];exact M⟩,aQ,⟨by rw[bU];rfl,bh.wrap (i:=j) (gQ O)⟩,?_⟩;rw[oP];simp only[aH,aV,aZ];exact fB (gE b0)
        .refine⟨(j+1,X),⟨O,z⟩,aQ,⟨rfl,bh.wrap (i:=j) (gQ O)⟩,?_⟩;exact fB (gE b0)
       .have bn:=bQ hj h;subst bn;rw[dP (bJ _)]at z
        replace z:X++R=hZ d:=z
        refine⟨(i+1,X),⟨G,by rw[hR];exact z⟩,aQ,⟨rfl,bg.wrap (i:=i) (gQ G)⟩,fB Z⟩
     .have b8:=bQ hi h;subst b8;rw[dP (bJ _),sF,dK]at z;subst z;exact DK.mk hk (fR (tk:=some t) b6 (λu e=>by cases e;exact bd)) (A.le.forget _ _)
theorem aK8{α:Type}{f:α->Bool}{l:List α}{i:Nat}{x:α}(h:l[i]?=some x):(l.drop i).all f=(f x&&(l.drop (i+1)).all f):=by
 rw[iC h,fG]
theorem aOP(d:Dfn)(hT:∀t,t∈eD d->TmW t)(hL:(eD d).length<=4294967000)(hB:(hZ d).length<=4294967000)(hM:d.once.length+d.many.length<=4294967000)(u:KV s (.bool (qU d))):Den cx 23 [.agg d.cs] KV Kp s:=by
 refine hH λb3=>?_
 have b2:=b3 _ (cQ ..);have b7:Rlz (.list none (d.eqs.map Eqn.enc)):=b2.cell (by simp[Dfn.cs]);have b8:Rlz (.list none (d.rules.map Rul.enc)):=b2.cell (by simp[Dfn.cs]);clear b3 b2;unfold qU at u;have z1:decide ((12:Int)<((d.once.length:Nat):Int))=decide (12<d.once.length):=by rw[cC];omega
 have z2:decide ((12:Int)<((d.many.length:Nat):Int))=decide (12<d.many.length):=by rw[cC];omega
 have z3:decide ((300:Int)<((d.rules.length:Nat):Int))=decide (300<d.rules.length):=by rw[cC];omega
 have z4:decide ((300:Int)<((d.eqs.length:Nat):Int))=decide (300<d.eqs.length):=by rw[cC];omega
 (refine aN func23 aHI ?_;simp only[go_sem,ntmps23,f23]);(refine aM λp hp=>?_);have M:(s.setO p (.cells 31 d.cs)).getO p=some (.cells 31 d.cs):=by rw[aL,aF rfl]
 have B:(s.setO p (.cells 31 d.cs)).ge s:=bG hp (aE s);simp only[go_sem,hp,z1];simp only[Dfn.cs,Sig.cs,dY,dD]at M B;generalize b5:s.setO p _=S1 at M B⊢;clear b5 hp;cases H:decide (12<d.once.length)<;>rw[H]at u<;>simp only[go_sem,M,z1,H,z2]
 rotate_left
 .exact aG u B
 cases Z:decide (12<d.many.length)<;>rw[Z]at u<;>simp only[go_sem,M,z1,H,z2,Z,z3]
 rotate_left
 .exact aG u B
 cases c3:decide (300<d.rules.length)<;>rw[c3]at u<;>simp only[go_sem,M,z1,H,z2,Z,z3,c3,z4]
 rotate_left
 .exact aG u B
 cases c4:decide (300<d.eqs.length)<;>rw[c4]at u<;>simp only[go_sem,M,z1,H,z2,Z,z3,c3,z4,c4]
 rotate_left
 .exact aG u B
 clear H Z c3 c4 z1 z2 z3 z4;simp only[iB,dW]at u;refine Ex.loop (ι:=Nat) (λi=>[(1,.ptr p 0),(31,.list none (d.eqs.map Eqn.enc)),(32,.int .i64 (d.eqs.length:Nat)),(33,.int .i64 (i:Nat))]) (λ_=>S1) (λi=>i<=d.eqs.length/\KV s (.bool (((d.eqs.drop i).all λx=>!decide (20<x.cond.length))&&((d.rules.all λr=>decide (r.parts.length<=20)&&(decide (r.cond.length<=20)&&(decide (r.new.length<=20)&&decide (r.drop.length<=20))))&&((hZ d).all cP&&(eD d).all λt=>(Tm.val 60 t 0).isSome))))) (λi=>d.eqs.length-i) 0 ⟨aW _,u⟩ ?_ (aE _) ?_
 .simp only[go_sem]
  try exact rfl
 .clear u;rintro i ⟨hi,u⟩;refine aX (V:=aHI) _ _ _ _ ?_;simp only[go_sem]
  (apply aJ<;>intro h)<;>simp only[go_sem,h]
  .have y:i<d.eqs.length:=gQ h;clear h;obtain⟨x,O⟩:=bB y;rw[aK8 O]at u;have z:decide ((20:Int)<((x.cond.length:Nat):Int))=decide (20<x.cond.length):=by rw[cC];omega
   simp only[go_sem,O,y];(refine cH λb4 b0=>?_);have f1:=aI M (aS b0);have G:(S1.setO b4 (.cells 69 x.cs)).ge S1:=bG b0 (aE S1);simp only[Eqn.cs]at G;cases H:decide (20<x.cond.length)<;>rw[H]at u<;>simp only[go_sem,O,y,b0,f1,z,H]
   .exact⟨i+1,⟨y,u⟩,by omega,b7.wrap (i:=i) (gQ y),cD⟩
   .exact aG u (G.trans B)
  .have b1:=bQ hi h;subst b1;clear h hi;rw[dP (bJ _)]at u;simp only[go_sem,M];refine Ex.loop (ι:=Nat) (λi=>[(1,.ptr p 0),(43,.list none (d.rules.map Rul.enc)),(44,.int .i64 (d.rules.length:Nat)),(45,.int .i64 (i:Nat))]) (λ_=>S1) (λi=>i<=d.rules.length/\KV s (.bool (((d.rules.drop i).all λr=>decide (r.parts.length<=20)&&(decide (r.cond.length<=20)&&(decide (r.new.length<=20)&&decide (r.drop.length<=20))))&&((hZ d).all cP&&(eD d).all λt=>(Tm.val 60 t 0).isSome)))) (λi=>d.rules.length-i) 0 ⟨aW _,u⟩ ?_ (aE _) ?_
   .simp only[go_sem]
    try exact rfl
   .clear u;rintro i ⟨hi,u⟩;refine aX (V:=aHI) _ _ _ _ ?_;simp only[go_sem]
    (apply aJ<;>intro h)<;>simp only[go_sem,h]
    .have y:i<d.rules.length:=gQ h;clear h;obtain⟨x,O⟩:=bB y;rw[aK8 O]at u;have z:=aUf x.parts.length x.cond.length x.new.length x.drop.length;simp only[go_sem,O,y];(refine cH λb6 U=>?_);have f1:=aI M (aS U);have G:(S1.setO b6 (.cells 50 x.cs)).ge S1:=bG U (aE S1);simp only[Rul.cs]at G;simp only[go_sem,O,y,U,f1,z];cases H:(decide (x.parts.length<=20)&&(decide (x.cond.length<=20)&&(decide (x.new.length<=20)&&decide (x.drop.length<=20))))<;>rw[H]at u<;>simp only[go_sem,O,y,U,f1,H]
     .exact aG u (G.trans B)
     .exact⟨i+1,⟨y,u⟩,by omega,b8.wrap (i:=i) (gQ y),G⟩
    .have b1:=bQ hi h;subst b1;clear h hi;rw[dP (bJ _)]at u
     replace u:KV s (.bool ((hZ d).all cP&&(eD d).all λt=>(Tm.val 60 t 0).isSome)):=u
     simp only[go_sem,M];refine sI (aPa d hB aB S1 _ _ ?_) (by simp only[Dfn.cs,Sig.cs,dY,dD]);simp only[go_sem,M];refine aFM (hZ d) (λx=>!cP x) 51 [] [] _ _ _ (λx O KV Kp u=>aN5 x u) ?_;rw[show((hZ d).any λx=>!cP x)=!(hZ d).all cP by simp[List.any_eq_not_all_not]];cases H:(hZ d).all cP<;>rw[H]at u<;>simp only[go_sem,M]
     .exact aG u B
     .refine sI (aJg d (by rw[aCg];omega) hM S1 _ _ ?_) (by simp only[Dfn.cs,Sig.cs,dY,dD]);rw[aCg];simp only[go_sem,M];refine aPN (eD d) (λt=>!(Tm.val 60 t 0).isSome) 56 [] [] _ _ _ (λx O KV Kp u=>aOa x (hT x O) u) ?_;rw[show((eD d).any λt=>!(Tm.val 60 t 0).isSome)=!(eD d).all λt=>(Tm.val 60 t 0).isSome by simp[List.any_eq_not_all_not]];simp only[go_sem];cases Z:(eD d).all λt=>(Tm.val 60 t 0).isSome<;>rw[Z]at u<;>simp only[go_sem]
      .exact aG u B
      .exact aG u B
end
end
section
section
variable {s:St} {KV Kp:St->A->Prop} {c:Nat} {d:Dfn}
def aCr(x y:Part):Bool:=decide (y.cell=x.cell)&&decide (y.at_=x.at_)
theorem aO6(p:Nat)(x y:Part)(z:s.getO p=some (.cells 101 x.cs))(u:KV s (.bool (aCr x y))):Den cx 144 [.agg y.cs,.ptr p 0] KV Kp s:=by
 unfold aCr at u;simp only[Part.cs,dY,dD]at z;(refine aN func144 [0,1,2,3] ?_;simp only[go_sem,ntmps144,f144]);(refine aM λq B=>?_);have H:=aI z B;simp only[go_sem,z,B,H];cases G:decide (y.cell=x.cell)<;>rw[G]at u<;>simp only[go_sem,z,B,H,G]
 .exact aG u aR
 .exact aG u aR
theorem aO9(p:Nat)(a:aC)(y:Part)(u:s.getO p=some (.cells 9 [.str a]))(G:KV s (.bool (decide (y.at_=a)))):Den cx 146 [.agg y.cs,.ptr p 0] KV Kp s:=by
 (refine aN func146 [0,1,2,3] ?_;simp only[go_sem,ntmps146,f146]);(refine aM λq z=>?_);have B:=aI u z;simp only[go_sem,u,z,B];exact aG G aR
theorem aPb(h:CkAt s c d)(ho:d.once.length<=4294967000)(hm:d.many.length<=4294967000)(z:List Part)(x:Part)(hW:TmW x.left)(hL:x.left.pre.length<=4294967000)(hR:x.right.length<=4294967000)
  (B:CK KV Kp s (zS d z x)):Den cx 84 [.ptr c 0,.agg x.cs,.list none (z.map Part.enc)] KV Kp s:=by
 have hC:=h;obtain⟨r,hc,hB⟩:=h;unfold zS at B;(refine uQ func84 aM2 ?_;simp only[go_sem,ntmps84,f84]);(refine aM λp hp=>?_);have e1:=aI hc hp;simp only[go_sem,hp];(refine aM λq hq=>?_);have e2:=aI hc hq.2;have G:((s.setO p (.cells 101 x.cs)).setO q (.cells 58 [.int .i64 x.line,.int .i64 x.col])).ge s:=by simp only[Part.cs,dY,dD];exact aR
 have H:((s.setO p (.cells 101 x.cs)).setO q (.cells 58 [.int .i64 x.line,.int .i64 x.col])).getO p=some (.cells 101 x.cs):=by rw[aL,aD (λe=>hq.1.1 e.symm),aL,aF rfl]
 have M:((s.setO p (.cells 101 x.cs)).setO q (.cells 58 [.int .i64 x.line,.int .i64 x.col])).getO q=some (.cells 58 [.int .i64 x.line,.int .i64 x.col]):=by rw[aL,aF rfl]
 simp only[go_sem,hp,hq,hc,e1,e2];generalize b2:((s.setO p (.cells 101 x.cs)).setO q (.cells 58 [.int .i64 x.line,.int .i64 x.col]))=S1 at G H M;simp only[Part.cs,dY,dD,Tm.cs]at b2;rw[b2];clear b2;have b1:=hC.ge G;have gc:=G.ob _ _ hc;have b8:=H;simp only[Part.cs,dY,dD,Tm.cs]at H;refine cW (aFQ b1 ho hm x.cell ?_);generalize hS:dJ d x.cell=C at B;obtain⟨S,mn,ok⟩:=C;simp only[go_sem,H,M];cases ok with
 | false =>
  simp only[go_sem,H,M];refine cW (fU 13 _ _ _ ?_);simp only[go_sem];exact aG B G
 | true =>
  rw[aD (λh=>by cases h)]at B;simp only[go_sem,H,M];have key:mn=!decide (x.at_=[])\/mn≠!decide (x.at_=[]):=by cases mn<;>cases decide (x.at_=[])<;>simp
  rcases key with O|O
  rotate_left
  .rw[aF O]at B;cases c2:decide (x.at_=[])<;>cases mn<;>rw[c2]at O<;>first|exact cV rfl O|(simp only[go_sem,H,M,c2,beq_true,beq_false];refine cW (fU 15 _ _ _ ?_);simp only[go_sem];exact aG B G)
  rw[aD (λh=>h O)]at B;cases c2:decide (x.at_=[])<;>cases mn<;>rw[c2]at O<;>first|(cases O;done)|skip
  all_goals
   simp only[go_sem,H,M,c2,beq_true,beq_false];refine cW (aIK z (aCr x) 144 [] [.ptr p 0] _ _ _ (λy hy KV Kp B=>aO6 p x y b8 B) ?_);have b5:(z.any λy=>decide (y.cell=x.cell)&&decide (y.at_=x.at_))=z.any (aCr x):=rfl;rw[b5]at B;cases hb:z.any (aCr x)<;>rw[hb]at B
   rotate_left
   .simp only[go_sem,H,M];refine cW (fU 14 _ _ _ ?_);simp only[go_sem];exact aG B G
   rw[aD (λh:false=true=>by cases h)]at B;simp only[go_sem,H,M];(refine bD (OT.r 0 15) [(6,[10])] ?_;simp only[go_sem,H,M,gc]);refine cW (aIv (hB.ge G) x.left hW aB ?_);cases b7:mF d.sig x.left
   .rw[b7,aF (.inl rfl)]at B;simp only[go_sem,H,M];refine cW (fU 16 _ _ _ ?_);simp only[go_sem];exact aG B G
   rw[b7]at B;have f1:decide ((1:Int)<((x.right.length:Nat):Int))=decide (1<x.right.length):=by rw[cC];omega
   by_cases b0:1<x.right.length
   .rw[aF (.inr b0)]at B;simp only[go_sem,H,M,f1,cT b0];refine cW (fU 16 _ _ _ ?_);simp only[go_sem];exact aG B G
   rw[aD (λh=>h.elim (λh=>by cases h) b0)]at B;simp only[go_sem,H,M,f1,bR b0];refine cW (aBD b1 _ _ _ x.right (lS B (λB=>?_) (λf hf=>?_)));rotate_left
   .simp only[go_sem];exact aG hf G
   simp only[go_sem,H,M];refine .inr λt bd=>⟨by decide,λy hy=>kV hy,λy hy=>(by rw[bO.1 hy];rfl),by omega,?_⟩
   have b6:((S1.setT t (1,67)).setT t (1+x.right.length,67)).ge S1:=by simp only[oP];exact fR (tk:=some t) (aE S1) (λu hu=>by cases hu;exact bd)
   have b4:(A.agg x.left.cs::x.right.map Tm.enc)=(x.left::x.right).map Tm.enc:=by simp only[bX,cY]
   simp only[Tm.cs]at b4;rw[b4]
   refine Ex.loop (ι:=Nat) (λi=>[(0,.ptr c 0),(4,.ptr p 0),(6,.ptr q 0),(7,.str S),(81,.list (some t) ((x.left::x.right).map Tm.enc)),(82,.int .i64 ((x.left::x.right).length:Nat)),(83,.int .i64 (i:Nat))])
    (λ_=>S1) (λi=>i<=(x.left::x.right).length/\CK KV Kp s (bS (λt=>jY d.sig x.cell x.line x.col t S) ((x.left::x.right).drop i))) (λi=>(x.left::x.right).length-i) 0 ⟨aW _,B⟩ ?_ b6 ?_
   .simp only[go_sem]
    try exact rfl
   .clear B;have bb:(x.left::x.right).length<=4294967100:=by rw[aV];omega
    generalize x.left::x.right=L at bb;rintro i ⟨hi,B⟩;refine aX (V:=aM2) _ _ _ _ ?_;simp only[go_sem]
    (apply aJ<;>intro h)<;>simp only[go_sem,h]
    .have Z:i<L.length:=gQ h;clear h;obtain⟨k,b3⟩:=bB Z;rw[sH _ b3]at B;simp only[go_sem,b3,Z];(refine cH λb9 U=>?_);have f2:=aI M (aS U);have f3:=aI H U;simp only[go_sem,b3,Z,U,f2,f3,M,H];refine cW (aAj (b1.ge (bG U (aE S1))) _ _ _ k _ (lS B (λB=>?_) (λf hf=>?_)));rotate_left
     .simp only[go_sem];exact aG hf ((bG U (aE S1)).trans G)
     simp only[go_sem];exact⟨i+1,⟨Z,B⟩,by omega,aU i aB,cD⟩
    .have bc:=bQ hi h;subst bc;rw[dP (bJ _)]at B;exact aG B G
end
end
section
theorem aPn{d:Dfn}{n:aC}{l k:Int}:∀{ts:List Tm} {u:List Cel} {j:Nat} {t:Tm} {m:Cel},ts[j]?=some t->u[j]?=some m ->
  rQ d n l k (ts.drop j) (u.drop j)=aK (lH d.sig n l k [t]) (aK (jY d.sig n l k t m.sort) (rQ d n l k (ts.drop (j+1)) (u.drop (j+1)))):=by
 intro ts u j t m y z;obtain⟨B,rfl⟩:=dZ.1 y;obtain⟨i2,rfl⟩:=dZ.1 z;rw[oZ B,oZ i2];rfl
theorem aQG{l k:Int}{b:List aC}{ss:List aC}{j:Nat}{x:aC}(h:ss[j]?=some x):mG l k b (ss.drop j)=aK (bH (decide (x∈b)) ⟨14,x,l,k⟩) (mG l k (b++[x]) (ss.drop (j+1))):=by
 obtain⟨u,rfl⟩:=dZ.1 h;rw[oZ u];rfl
theorem eB{α:Type}{l:List α}{i:Nat}{x:α}(h:l[i]?=some x):l.take (i+1)=l.take i++[x]:=by rw[gJ,h];rfl
section
variable {s:St} {KV Kp:St->A->Prop} {c:Nat} {d:Dfn}
theorem aPA(h:CkAt s c d)(r:Rul)(hn:r.new.length<=4294967000)(bd:∀x,x∈r.new->x.cells.length<=4294967000)(hd:r.drop.length<=4294967000)(u:CK KV Kp s (uJ d r)) :
  Den cx 87 [.ptr c 0,.agg [.int .i64 r.line,.int .i64 r.col],.agg r.cs] KV Kp s:=by
 have hC:=h;obtain⟨rb,hc,hB⟩:=h;unfold uJ at u;(refine aN func87 aBc ?_;simp only[go_sem,ntmps87,f87]);(refine aM λq hq=>?_);simp only[go_sem,hq];(refine aM λp hp=>?_);simp only[go_sem,hp];have G:((s.setO q (.cells 58 [.int .i64 r.line,.int .i64 r.col])).setO p (.cells 50 r.cs)).ge s:=by simp only[Rul.cs];exact aR
 have H:((s.setO q (.cells 58 [.int .i64 r.line,.int .i64 r.col])).setO p (.cells 50 r.cs)).getO p=some (.cells 50 r.cs):=by rw[aL,aF rfl]
 have O:((s.setO q (.cells 58 [.int .i64 r.line,.int .i64 r.col])).setO p (.cells 50 r.cs)).getO q=some (.cells 58 [.int .i64 r.line,.int .i64 r.col]):=by rw[aL,aD (λe=>by subst e;simp at hp),aL,aF rfl]
 generalize b3:((s.setO q (.cells 58 [.int .i64 r.line,.int .i64 r.col])).setO p (.cells 50 r.cs))=S1 at G H O;simp only[Rul.cs]at b3;rw[b3];clear b3;have b5:=hC.ge G;have gc:=G.ob _ _ hc;simp only[Rul.cs]at H
 (try simp only[go_sem,H,O])
 refine Ex.loop (ι:=Nat) (λi=>[(0,.ptr c 0),(4,.ptr q 0),(5,.ptr p 0),(17,.list none (r.new.map Fresh.enc)),(18,.int .i64 (r.new.length:Nat)),(19,.int .i64 (i:Nat))])
  (fun _=>S1) (fun i=>i≤r.new.length∧(∀ x,x∈r.new.take i→x.cells.length=d.many.length)∧CK KV Kp s (aK (bS (fun x:Fresh=>bH (decide (d.kind=[])||!decide (x.cells.length=d.many.length)) ⟨15,r.name,r.line,r.col⟩) (r.new.drop i))
   (aK (bS (λx:Fresh=>rQ d r.name r.line r.col x.cells d.many) r.new) (aK (bS (λs=>bH (!r.parts.any λx=>decide (x.at_=s)) ⟨13,s,r.line,r.col⟩) r.drop) (mG r.line r.col [] r.drop)))))
  (λi=>r.new.length-i) 0 ⟨aW _,λx hx=>(by cases hx),u⟩ ?_ (aE _) ?_
 .simp only[go_sem]
  try exact rfl
 .clear u;rintro i ⟨hi,b2,u⟩;refine aX (V:=aBc) _ _ _ _ ?_;simp only[go_sem]
  (apply aJ<;>intro h)<;>simp only[go_sem,h]
  .have z:i<r.new.length:=gQ h;clear h;obtain⟨x,hx⟩:=bB z;rw[sH _ hx,eO]at u;have bg:=eB hx;simp only[go_sem,hx,z];(refine cH λb7 U=>?_);have f1:=aI gc (aS U);have f2:=aI O U;have f3:=aI H U;simp only[go_sem,hx,z,U,f1,f2,f3,H,O,gc];(refine bD (OT.r 0 18) [] ?_;simp only[go_sem,hx,z,U,f1,f2,f3,H,O,gc]);have n1:decide (((x.cells.length:Nat):Int)=((d.many.length:Nat):Int))=decide (x.cells.length=d.many.length):=by rw[cC];omega
   cases c1:decide (d.kind=[])<;>rw[c1]at u<;>simp only[go_sem,hx,z,U,f1,f2,f3,H,O,gc,c1,n1]
   rotate_left
   ·replace u:CK KV Kp s (some (⟨15,r.name,r.line,r.col⟩:Fault)):=u
    refine fU 15 _ _ _ ?_;simp only[go_sem];exact aG u ((bG U (aE S1)).trans G)
   cases c2:decide (x.cells.length=d.many.length)<;>rw[c2]at u<;>simp only[go_sem,hx,z,U,f1,f2,f3,H,O,gc,c1,c2,n1]
   ·replace u:CK KV Kp s (some (⟨15,r.name,r.line,r.col⟩:Fault)):=u
    refine fU 15 _ _ _ ?_;simp only[go_sem];exact aG u ((bG U (aE S1)).trans G)
   .refine⟨i+1,⟨z,λy hy=>?_,u⟩,by omega,aU i aB,cD⟩;rw[bg]at hy;rcases cK.1 hy with hy|hy
    .exact b2 y hy
    .rw[bO.1 hy];exact fT c2
  .have Z:=bQ hi h;subst Z;clear h hi;rw[dP (bJ _)]at u;rw[bT]at b2
   replace u:CK KV Kp s (aK (bS (λx:Fresh=>rQ d r.name r.line r.col x.cells d.many) r.new) (aK (bS (λs=>bH (!r.parts.any λx=>decide (x.at_=s)) ⟨13,s,r.line,r.col⟩) r.drop) (mG r.line r.col [] r.drop))):=u
   simp only[go_sem,H,O]
   refine Ex.loop (ι:=Nat) (λi=>[(0,.ptr c 0),(4,.ptr q 0),(5,.ptr p 0),(47,.list none (r.new.map Fresh.enc)),(48,.int .i64 (r.new.length:Nat)),(49,.int .i64 (i:Nat))])
    (λ_=>S1) (λi=>i<=r.new.length/\CK KV Kp s (aK (bS (λx:Fresh=>rQ d r.name r.line r.col x.cells d.many) (r.new.drop i)) (aK (bS (λs=>bH (!r.parts.any λx=>decide (x.at_=s)) ⟨13,s,r.line,r.col⟩) r.drop) (mG r.line r.col [] r.drop))))
    (λi=>r.new.length-i) 0 ⟨aW _,u⟩ ?_ (aE _) ?_
   .simp only[go_sem]
    try exact rfl
   .clear u;rintro i ⟨hi,u⟩;refine aX (V:=aBc) _ _ _ _ ?_;simp only[go_sem]
    (apply aJ<;>intro h)<;>simp only[go_sem,h]
    .have z:i<r.new.length:=gQ h;clear h;obtain⟨x,hx⟩:=bB z;have bb:x∈r.new:=bK hx;have bj:=b2 x bb;have bh:=bd x bb;rw[sH _ hx,eO]at u;generalize hR:aK (bS (λx:Fresh=>rQ d r.name r.line r.col x.cells d.many) (r.new.drop (i+1))) (aK (bS (λs=>bH (!r.parts.any λx=>decide (x.at_=s)) ⟨13,s,r.line,r.col⟩) r.drop) (mG r.line r.col [] r.drop))=R at u;simp only[go_sem,hx,z];(refine aM λb9 b6=>?_);simp only[go_sem,hx,z,b6]
     refine Ex.loop (ι:=Nat) (λj=>[(0,.ptr c 0),(4,.ptr q 0),(5,.ptr p 0),(47,.list none (r.new.map Fresh.enc)),(48,.int .i64 (r.new.length:Nat)),(49,.int .i64 (i:Nat)),(54,.list none (x.cells.map Tm.enc)),(55,.int .i64 (x.cells.length:Nat)),(56,.int .i64 (j:Nat))])
      (λ_=>S1) (λj=>j<=x.cells.length/\CK KV Kp s (aK (rQ d r.name r.line r.col (x.cells.drop j) (d.many.drop j)) R)) (λj=>x.cells.length-j) 0 ⟨aW _,u⟩ ?_ (bG b6 (aE S1)) ?_
     .simp only[go_sem]
      try exact rfl
     .clear u;rintro j ⟨hj,u⟩;refine aX (V:=aBc) _ _ _ _ ?_;simp only[go_sem]
      (apply aJ<;>intro h)<;>simp only[go_sem,h]
      .have b1:j<x.cells.length:=gQ h;clear h;obtain⟨t,ht⟩:=bB b1;have b8:j<d.many.length:=by omega
       obtain⟨m,hm⟩:=bB b8;rw[aPn ht hm,eO,eO]at u;simp only[go_sem,ht,b1];(refine cH λbc B=>?_);have f1:=aI gc (aS B);have f2:=aI O B;have f3:=aI H B;have b0:(S1.setO bc (.cells 67 t.cs)).ge S1:=bG B (aE S1);simp only[Tm.cs]at b0;simp only[go_sem,ht,b1,B,f1,f2,f3,H,O,gc];refine sI (aBD (b5.ge b0) _ _ _ [t] (lS u (λu=>?_) (λf hf=>?_))) (by rw[aBf];rfl);rotate_left
       .simp only[go_sem];exact aG hf (b0.trans G)
       simp only[go_sem,ht,b1,B,f1,f2,f3,H,O,gc];(refine bD (OT.r 0 15) [] ?_;simp only[go_sem,ht,b1,B,f1,f2,f3,H,O,gc,hm,b8]);refine aAj (b5.ge b0) _ _ _ t _ (lS u (λu=>?_) (λf hf=>?_));rotate_left
       .simp only[go_sem];exact aG hf (b0.trans G)
       simp only[go_sem];exact⟨j+1,⟨b1,u⟩,by omega,aU j aB,b0⟩
      .have bf:=bQ hj h;subst bf;rw[dP (bJ _)]at u
       replace u:CK KV Kp s R:=u
       rw[<-hR]at u;exact⟨i+1,⟨z,u⟩,by omega,aU i aB,aE _⟩
    .have Z:=bQ hi h;subst Z;clear h hi;rw[dP (bJ _)]at u
     replace u:CK KV Kp s (aK (bS (λs=>bH (!r.parts.any λx=>decide (x.at_=s)) ⟨13,s,r.line,r.col⟩) r.drop) (mG r.line r.col [] r.drop)):=u
     simp only[go_sem,H,O]
     refine Ex.loop (ι:=Nat) (λi=>[(0,.ptr c 0),(4,.ptr q 0),(5,.ptr p 0),(86,.list none (r.drop.map .str)),(87,.int .i64 (r.drop.length:Nat)),(88,.int .i64 (i:Nat))])
      (λ_=>S1) (λi=>i<=r.drop.length/\CK KV Kp s (aK (bS (λs=>bH (!r.parts.any λx=>decide (x.at_=s)) ⟨13,s,r.line,r.col⟩) (r.drop.drop i)) (mG r.line r.col [] r.drop))) (λi=>r.drop.length-i) 0 ⟨aW _,u⟩ ?_ (aE _) ?_
     .simp only[go_sem]
      try exact rfl
     .clear u;rintro i ⟨hi,u⟩;refine aX (V:=aBc) _ _ _ _ ?_;simp only[go_sem]
      (apply aJ<;>intro h)<;>simp only[go_sem,h]
      .have z:i<r.drop.length:=gQ h;clear h;obtain⟨a,ha⟩:=bB z;rw[sH _ ha,eO]at u;simp only[go_sem,ha,z];(refine cH λb4 M=>?_);have f1:=aI gc (aS M);have f2:=aI O M;have f3:=aI H M;simp only[go_sem,ha,z,M,f1,f2,f3,H,O,gc];refine aIK r.parts (λx=>decide (x.at_=a)) 146 [] [.ptr b4 0] _ _ _ (λy hy KV Kp u=>aO9 b4 a y (by rw[aL,aF rfl]) u) ?_;cases hb:r.parts.any λx=>decide (x.at_=a)<;>rw[hb]at u<;>simp only[go_sem,M,f1,f2,f3,H,O,gc]
       ·replace u:CK KV Kp s (some (⟨13,a,r.line,r.col⟩:Fault)):=u
        refine fU 13 _ _ _ ?_;simp only[go_sem];exact aG u ((bG M (aE S1)).trans G)
       .exact⟨i+1,⟨z,u⟩,by omega,aU i aB,cD⟩
      .have Z:=bQ hi h;subst Z;clear h hi;rw[dP (bJ _)]at u
       replace u:CK KV Kp s (mG r.line r.col [] r.drop):=u
       simp only[go_sem,H,O]
       refine Ex.loop (ι:=Nat) (λi=>[(0,.ptr c 0),(4,.ptr q 0),(5,.ptr p 0),(102,.list none (r.drop.map .str)),(103,.int .i64 (r.drop.length:Nat)),(104,.int .i64 (i:Nat))])
        (λ_=>S1) (λi=>i<=r.drop.length/\CK KV Kp s (mG r.line r.col (r.drop.take i) (r.drop.drop i))) (λi=>r.drop.length-i) 0 ⟨aW _,u⟩ ?_ (aE _) ?_
       .simp only[go_sem]
        try exact rfl
       .clear u;rintro i ⟨hi,u⟩;refine aX (V:=aBc) _ _ _ _ ?_;simp only[go_sem]
        (apply aJ<;>intro h)<;>simp only[go_sem,h]
        .have z:i<r.drop.length:=gQ h;clear h;obtain⟨a,ha⟩:=bB z;rw[aQG ha,<-eB ha]at u;simp only[go_sem,ha,z,H,O,gc];refine⟨λy hy=>fK hy,hi,sI (pG _ (r.drop.take i) a _ _ ?_) (by rw[lC])⟩;cases c1:decide (a∈r.drop.take i)<;>rw[c1]at u<;>simp only[go_sem,H,O,gc]
         .exact⟨i+1,⟨z,u⟩,by omega,aU i aB,aE _⟩
         ·replace u:CK KV Kp s (some (⟨14,a,r.line,r.col⟩:Fault)):=u
          refine fU 14 _ _ _ ?_;simp only[go_sem];exact aG u G
        .have Z:=bQ hi h;subst Z;rw[dP (bJ _)]at u;exact aG u G
end
end
section
theorem aOV(x:Tm)(l:List Tm)(H:l.length<=4294967000)(t:Nat)(s:St)(KV Kp:St->A->Prop)(B:∀u,s.getT u=none->KV (s.setT u ((x::l).length,67)) (.list (some u) ((x::l).map Tm.enc))) :
  Den cx 86 [.list (some t) ((x::l).map Tm.enc)] KV Kp s:=by
 simp only[bX,cY];(refine aN func86 [0,2,4] ?_;simp only[go_sem,ntmps86,f86]);refine⟨by decide,λy z=>?_,by omega,λu G=>?_⟩
 .rcases List.mem_cons.1 z with rfl|z
  .rfl
  .exact kV z
 .simp only[go_sem];refine aP ?_;have:=B u G;simp only[bX,aV,cY,Tm.cs]at this;exact this
theorem aP0(l:List Tm)(y:l≠[])(B:l.length<=4294967000)(t:Nat)(s:St)(KV Kp:St->A->Prop)(z:∀u,s.getT u=none->KV (s.setT u (l.length,67)) (.list (some u) (l.map Tm.enc))) :
  Den cx 86 [.list (some t) (l.map Tm.enc)] KV Kp s:=by
 cases l with
 | nil=>exact cV rfl y
 | cons x l=>exact aOV x l (by rw[aV]at B;omega) t s KV Kp z
structure RlI (S1:St) (a:Option Nat) (n:Nat) (b:Option Nat) (m:Nat) (S:St):Prop where
 ge:S.ge S1
 ga:iV S a n 67
 gb:iV S b m 67
 na:∀t,a=some t->S1.getT t=none
 nb:∀t,b=some t->S1.getT t=none
 ne:∀t,a=some t->b≠some t
section
variable {S1 S S':St} {a b:Option Nat} {n m:Nat}
theorem RlI.swap(h:RlI S1 a n b m S):RlI S1 b m a n S:=⟨h.ge,h.gb,h.ga,h.nb,h.na,λt u y=>h.ne t y u⟩
theorem RlI.mono(h:RlI S1 a n b m S)(hs:S'.ge S):RlI S1 a n b m S':=by
 refine⟨hs.trans h.ge,?_,?_,h.na,h.nb,h.ne⟩
 .have:=h.ga;cases a with
  | none=>exact this
  | some t=>exact hs.tk _ _ this
 .have:=h.gb;cases b with
  | none=>exact this
  | some t=>exact hs.tk _ _ this
theorem RlI.step(h:RlI S1 a n b m S){t:Nat}(z:a=some t\/a=none/\S.getT t=none)(k:Nat):RlI S1 (some t) k b m (S.setT t (k,67)):=by
 have G:S1.getT t=none:=by
  rcases z with z|⟨_,z⟩
  .exact h.na t z
  .cases M:S1.getT t with
   | none=>rfl
   | some v=>rw[h.ge.tk _ _ M]at z;cases z
 have H:b≠some t:=by
  rcases z with z|⟨_,z⟩
  .exact h.ne t z
  .rintro rfl;have:S.getT t=some (m,67):=h.gb;rw[z]at this;cases this
 refine⟨⟨λq o O=>h.ge.ob q o O,λu v B=>?_,λy U=>h.ge.ls y U⟩,?_,?_,λu B=>by cases B;exact G,h.nb,λu B=>by cases B;exact H⟩
 .rw[dC,aD (λe=>by rw[<-e,G]at B;cases B)];exact h.ge.tk u v B
 .show(S.setT t (k,67)).getT t=_;rw[dC,aF rfl]
 .have:=h.gb;cases b with
  | none=>exact this
  | some u =>
   show(S.setT t (k,67)).getT u=_;rw[dC,aD (λe=>H (by rw[e]))];exact this
end
theorem aPh{d:Dfn}{b:List Part}{l:List Part}{i:Nat}{x:Part}(h:l[i]?=some x):xD d b (l.drop i)=aK (zS d b x) (xD d (b++[x]) (l.drop (i+1))):=by
 obtain⟨u,rfl⟩:=dZ.1 h;rw[oZ u];rfl
theorem aMa{l:List Part}{y:A}(u:y∈l.map Part.enc):y.cells.length=11:=by
 obtain⟨z,_,rfl⟩:=cN.1 u;rfl
theorem aAq{α u:Type}(f:α->List u){l:List α}{i:Nat}{x:α}(h:l[i]?=some x):(l.take (i+1)).flatMap f=(l.take i).flatMap f++f x:=by
 rw[gJ,h,sD];simp
theorem aKC{α u:Type}(f:α->List u)(l:List α)(i:Nat):((l.take i).flatMap f).length<=(l.flatMap f).length:=by
 have h:(l.flatMap f).length=((l.take i).flatMap f).length+((l.drop i).flatMap f).length:=by rw[<-aH,<-sD,mQ]
 omega
theorem aQ6(r:Rul):(aY (gC r++eH r)).length=(aY (fX r)).length:=by
 have h:∀u:List Part,(aY (u.map Part.left)).length+(aY (u.flatMap Part.right)).length=(aY (u.flatMap λp=>p.left::p.right)).length:=by
  intro u
  induction u with
  | nil=>rfl
  | cons x r y =>
   simp only[bX,jR,gX,aY,aH,dY]at y⊢;omega
 have:=h r.parts;simp only[gC,eH,fX,gX,aH]at this⊢;omega
section
variable {s:St} {KV Kp:St->A->Prop} {c:Nat} {d:Dfn}
theorem aQA(h:CkAt s c d)(ho:d.once.length<=4294967000)(hm:d.many.length<=4294967000)(H:List aC)(r:Rul)(hP:r.parts.length<=4294967000)(hW:∀x,x∈r.parts->TmW x.left)
  (hT:(aY (fX r)).length<=4294967000)(hn:r.new.length<=4294967000)(hd:r.drop.length<=4294967000)(B:CK KV Kp s (zU d H r)) :
  Den cx 30 [.ptr c 0,.agg r.cs,.list none (H.map .str)] KV Kp s:=by
 have hC:=h;obtain⟨rb,hc,hB⟩:=h;unfold zU at B;have c8:=aQ6 r;rw[gX,aH]at c8;have cj:=lO (gC r);have cl:=lO (eH r)
 have cg:(r.parts.flatMap Part.right).length+(r.cond.length+(r.new.flatMap Fresh.cells).length)<=4294967000:=by
  have:(eH r).length=(r.parts.flatMap Part.right).length+(r.cond.length+(r.new.flatMap Fresh.cells).length):=by simp only[eH,aH];omega
  omega
 have c4:∀x,x∈r.new->x.cells.length<=4294967000:=λx G=>by
  have:x.cells.length<=(r.new.flatMap Fresh.cells).length:=by
   obtain⟨a,b,e⟩:=List.append_of_mem G;rw[e];simp only[sD,jR,aH];omega
  omega
 have c9:∀x,x∈r.parts->x.left.pre.length<=4294967000/\x.right.length<=4294967000:=λx G=>by
  have h1:x.left.pre.length<=(aY (gC r)).length:=wN (cN.2 ⟨x,G,rfl⟩)
  have h2:x.right.length<=(r.parts.flatMap Part.right).length:=by
   obtain⟨a,b,e⟩:=List.append_of_mem G;rw[e];simp only[sD,jR,aH];omega
  omega
 (refine aN func30 aEK ?_;simp only[go_sem,ntmps30,f30]);(refine aM λp hp=>?_);have e1:=aI hc hp;simp only[go_sem,hp];(refine aM λq hq=>?_);have e2:=aI hc hq.2;have b0:((s.setO p (.cells 50 r.cs)).setO q (.cells 58 [.int .i64 r.line,.int .i64 r.col])).ge s:=by simp only[Rul.cs];exact aR
 have gp:((s.setO p (.cells 50 r.cs)).setO q (.cells 58 [.int .i64 r.line,.int .i64 r.col])).getO p=some (.cells 50 r.cs):=by rw[aL,aD (λe=>hq.1.1 e.symm),aL,aF rfl]
 have gq:((s.setO p (.cells 50 r.cs)).setO q (.cells 58 [.int .i64 r.line,.int .i64 r.col])).getO q=some (.cells 58 [.int .i64 r.line,.int .i64 r.col]):=by rw[aL,aF rfl]
 simp only[go_sem,hp,hq,hc,e1,e2];generalize bp:((s.setO p (.cells 50 r.cs)).setO q (.cells 58 [.int .i64 r.line,.int .i64 r.col]))=S1 at b0 gp gq;simp only[Rul.cs]at bp;rw[bp];clear bp;have c2:=hC.ge b0;have gc:=b0.ob _ _ hc;simp only[Rul.cs]at gp;refine pG _ H r.name _ _ ?_;by_cases h0:r.name∈H
 .rw[aF h0]at B;simp only[go_sem,gp,gq,cT h0];refine fU 14 _ _ _ ?_;simp only[go_sem];exact aG B b0
 rw[aD h0]at B
 have z1:decide (((r.parts.length:Nat):Int)=0)=decide (r.parts=[]):=by
  rw[cC];constructor
  .intro h;exact eS aB
  .intro h;rw[h];rfl
 have z2:decide (r.parts.length=0)=decide (r.parts=[]):=by rw[cC];exact List.length_eq_zero_iff
 by_cases h1:r.parts=[]
 .rw[aF h1]at B;simp only[go_sem,gp,gq,bR h0,z1,z2,cT h1];refine fU 15 _ _ _ ?_;simp only[go_sem];exact aG B b0
 rw[aD h1]at B;simp only[go_sem,gp,gq,bR h0,z1,z2,bR h1]
 refine Ex.loop (ι:=Nat × Option Nat × Option Nat × St) (λk=>[(0,.ptr c 0),(4,.ptr p 0),(6,.ptr q 0),(7,gv k.2.1 (((r.parts.take k.1).map Part.left).map Tm.enc)),(8,gv k.2.2.1 (((r.parts.take k.1).flatMap Part.right).map Tm.enc)),(9,.nils),(40,.list none (r.parts.map Part.enc)),(41,.int .i64 (r.parts.length:Nat)),(42,.int .i64 (k.1:Nat))])
  (fun k=>k.2.2.2) (fun k=>k.1≤r.parts.length∧RlI S1 k.2.1 ((r.parts.take k.1).map Part.left).length k.2.2.1 ((r.parts.take k.1).flatMap Part.right).length k.2.2.2∧CK KV Kp s (aK (xD d (r.parts.take k.1) (r.parts.drop k.1)) (aK (vS r.line r.col (gC r++eH r)) (aK (uB r.line r.col (gC r) (eH r))
   (aK (bS (λt=>aK (lH d.sig r.name r.line r.col [t]) (jY d.sig r.name r.line r.col t [66,111,111,108])) r.cond) (uJ d r)))))) (λk=>r.parts.length-k.1) (0,none,none,S1)
  ⟨aW _,⟨aE _,rfl,rfl,λt ht=>(by cases ht),λt ht=>(by cases ht),λt ht=>(by cases ht)⟩,B⟩ ?_ (aE _) ?_
 .simp only[go_sem]
  try exact⟨rfl,rfl,rfl⟩
 .clear B;rintro⟨i,a,b,S⟩ ⟨hi,hR,B⟩;simp only at hi hR B;refine aX (V:=aEK) _ _ _ _ ?_;simp only[go_sem]
  (apply aJ<;>intro h)<;>simp only[go_sem,h]
  .have z:i<r.parts.length:=gQ h;clear h;obtain⟨x,G⟩:=bB z;have bz:x∈r.parts:=bK G;obtain⟨cb,cd⟩:=c9 x bz;rw[aPh G,eO,<-eB G]at B;have br:=hR.ge.ob _ _ gc;have U:=hR.ge.ob _ _ gp;simp only[go_sem,G,z];(refine cH λbh b1=>?_);have f1:=aI U (aS b1);have bf:(S.setO bh (.cells 101 x.cs)).ge S:=bG b1 (aE S);have gb:(S.setO bh (.cells 101 x.cs)).getO bh=some (.cells 101 x.cs):=by rw[aL,aF rfl]
   simp only[go_sem,G,z,b1,f1,U];generalize bq:S.setO bh (.cells 101 x.cs)=S2 at bf gb;simp only[Part.cs,Tm.cs,dY,dD]at bq;rw[bq];clear bq f1 b1;have bk:=hR.mono bf;have b5:=bf.ob _ _ U;simp only[Part.cs,Tm.cs,dY,dD]at gb;(refine bD (OT.r 0 7) [] ?_;simp only[go_sem,G,z,gb,b5]);refine⟨λy O=>aMa O,hi,?_⟩;rw[<-lC];refine aPb (c2.ge bk.ge) ho hm _ x (hW x bz) cb cd (lS B (λB=>?_) (λf Z=>?_));rotate_left
   .simp only[go_sem];exact aG Z (bk.ge.trans b0)
   simp only[go_sem,G,z,gb,b5];(refine bD (OT.l [0,1,2,3,5,6,7,4,8,9,10] .nil) [(4,[7])] ?_;simp only[go_sem,G,z,gb,b5]);refine⟨by decide,λy O=>(by rw[bO.1 O];rfl),dU rfl rfl (by rw[aO];exact bk.ga) (λy O=>kV O) (by simp only[aO,dT,aV,aZ];omega) (λt ht=>?_)⟩;have bt:=bk.step ht ((r.parts.take i).length+1);simp only[go_sem,G,z,gb,b5];have bc:=aKC Part.right r.parts (i+1);rw[aAq _ G,aH]at bc;refine⟨by decide,λy O=>kV O,dU rfl rfl (by rw[aO];exact bt.gb) (λy O=>kV O) (by simp only[aO];omega) (λu hu=>?_)⟩;have bv:=(bt.swap.step hu ((((r.parts.take i).flatMap Part.right).map Tm.enc).length+(x.right.map Tm.enc).length)).swap;simp only[go_sem,G,z,gb,b5];simp only[aO]at bv⊢;refine⟨(i+1,some t,some u,_),⟨z,?_,B⟩,aQ,⟨?_,?_,aU i aB⟩,aE _⟩
   .have q1:(r.parts.take (i+1)).length=(r.parts.take i).length+1:=by rw[eB G];simp
    have q2:((r.parts.take (i+1)).flatMap Part.right).length=((r.parts.take i).flatMap Part.right).length+x.right.length:=by rw[aAq _ G,aH]
    show RlI S1 (some t) (r.parts.take (i+1)).length (some u) ((r.parts.take (i+1)).flatMap Part.right).length _;rw[q1,q2];exact bv
   .rw[eB G,bU,bU];simp only[bX,dL,cY,Tm.cs];rfl
   .rw[aAq _ G,bU];rfl
  .have bg:=bQ hi h;subst bg;clear h hi;rw[dP (bJ _)]at B;rw[bT]at hR⊢
   replace B:CK KV Kp s (aK (vS r.line r.col (gC r++eH r)) (aK (uB r.line r.col (gC r) (eH r)) (aK (bS (λt=>aK (lH d.sig r.name r.line r.col [t]) (jY d.sig r.name r.line r.col t [66,111,111,108])) r.cond) (uJ d r)))):=B
   have U:=hR.ge.ob _ _ gp;have bm:=hR.ge.ob _ _ gq;have br:=hR.ge.ob _ _ gc;simp only[go_sem,U,bm]
   refine Ex.loop (ι:=Nat × Option Nat) (λk=>[(0,.ptr c 0),(4,.ptr p 0),(6,.ptr q 0),(7,gv a ((r.parts.map Part.left).map Tm.enc)),(8,gv b ((r.parts.flatMap Part.right).map Tm.enc)),(9,gv k.2 (((r.new.take k.1).flatMap Fresh.cells).map Tm.enc)),(65,.list none (r.new.map Fresh.enc)),(66,.int .i64 (r.new.length:Nat)),(67,.int .i64 (k.1:Nat))])
    (λk=>gs S k.2 ((r.new.take k.1).flatMap Fresh.cells).length 67) (λk=>k.1<=r.new.length/\(k.2=none->((r.new.take k.1).flatMap Fresh.cells).length=0)/\∀t,k.2=some t->S.getT t=none) (λk=>r.new.length-k.1) (0,none)
    ⟨aW _,λ_=>rfl,λt ht=>(by cases ht)⟩ ?_ (aE _) ?_
   .simp only[go_sem]
    try exact⟨rfl,rfl⟩
   .rintro⟨i,k⟩ ⟨hi,bl,Z⟩;simp only at hi bl Z;refine aX (V:=aEK) _ _ _ _ ?_;simp only[go_sem]
    (apply aJ<;>intro h)<;>simp only[go_sem,h]
    .have z:i<r.new.length:=gQ h;clear h;obtain⟨x,G⟩:=bB z;simp only[go_sem,G,z];(refine rF λch bb=>?_);simp only[go_sem,G,z,bb];have bc:=aKC Fresh.cells r.new (i+1);rw[aAq _ G,aH]at bc;refine⟨by decide,λy O=>kV O,dU rfl rfl (by rw[aO];exact fD bl) (λy O=>kV O) (by simp only[aO];omega) (λu hu=>?_)⟩;have c5:=iD hu Z;rw[gR hu];simp only[go_sem,G,z,bb];refine⟨(i+1,some u),⟨z,λh=>(by cases h),λt h=>by cases h;exact c5⟩,aQ,⟨?_,aU i aB⟩,?_⟩
     .rw[aAq _ G,bU];rfl
     .simp only[gs,aO];rw[aAq _ G,aH];exact fB (gE bb)
    .have bg:=bQ hi h;subst bg;clear h hi;rw[bT]at bl⊢
     obtain⟨t,rfl⟩:∃t,a=some t:=by
      cases a with
      | some t=>exact⟨t,rfl⟩
      | none=>exact cV (List.map_eq_nil_iff.1 (eS hR.ga)) h1
     have c3:b=none->r.parts.flatMap Part.right=[]:=λe=>by subst e;exact eS hR.gb
     have c6:k=none->r.new.flatMap Fresh.cells=[]:=λe=>eS (bl e)
     have bd:(gs S k (r.new.flatMap Fresh.cells).length 67).ge S:=fR (aE S) Z;simp only[go_sem,U,bm];generalize gs S k (r.new.flatMap Fresh.cells).length 67=S5 at bd;have b6:=bd.ob _ _ U;have b8:=bd.ob _ _ bm;have c1:=bd.ob _ _ br;have bw:=bd.trans (hR.ge.trans b0)
     refine⟨⟨by cases b<;>exact⟨rfl,rfl⟩,by cases k<;>exact⟨rfl,rfl⟩⟩,jI (show kC [.list none [gv b ((r.parts.flatMap Part.right).map Tm.enc),.list none (r.cond.map Tm.enc),gv k ((r.new.flatMap Fresh.cells).map Tm.enc)]] [.list none ([r.parts.flatMap Part.right,r.cond,r.new.flatMap Fresh.cells].map λl=>.list none (l.map Tm.enc))] from⟨A.le.list ⟨by simp only[aLa];exact⟨⟨kJ _ _ λe=>by rw[c3 e];rfl,rfl⟩,trivial⟩,⟨⟨bL _,rfl⟩,trivial⟩,by simp only[aLa];exact⟨⟨kJ _ _ λe=>by rw[c6 e];rfl,rfl⟩,trivial⟩,trivial⟩,trivial⟩)
      (aIo _ (by simp only[mB,pB,aH,aZ];omega) _ _ _ ?_)⟩
     have bc:[r.parts.flatMap Part.right,r.cond,r.new.flatMap Fresh.cells].flatten=eH r:=by simp[eH]
     rw[bc];simp only[go_sem,b6,b8];(refine bD (OT.l [0,1,3,2,4,5] .nil) [(2,[0]),(4,[0])] ?_;simp only[go_sem,b6,b8]);have c7:r.parts.map Part.left≠[]:=λe=>h1 (List.map_eq_nil_iff.1 e)
     have ck:(r.parts.map Part.left).length=r.parts.length:=aO ..;have cf:(gC r).length=r.parts.length:=aO ..;refine aP0 _ c7 aB t _ _ _ (λu hu=>?_);simp only[go_sem,b6,b8];refine⟨by decide,λy O=>kV O,λy O=>kV O,by omega,?_⟩
     have b2:((S5.setT u (r.parts.length,67)).setT u (r.parts.length+(eH r).length,67)).ge S5:=by
      rw[oP];exact fR (tk:=some u) (aE S5) (λt h=>by cases h;exact hu)
     rw[<-bU];refine aJW _ _ (gC r++eH r) (by rw[gX,aH];omega) rfl (lS B (λB=>?_) (λf Z=>?_));rotate_left
     .simp only[go_sem];exact aG Z (b2.trans bw)
     simp only[go_sem,b6,b8];generalize (S5.setT u (r.parts.length,67)).setT u (r.parts.length+(eH r).length,67)=S6 at b2;have b7:=b2.ob _ _ b6;have b9:=b2.ob _ _ b8;have bj:=b2.ob _ _ c1;have b4:=b2.trans bw;refine aJf _ _ (gC r) (eH r) aB aB rfl rfl (lS B (λB=>?_) (λf Z=>?_));rotate_left
     .simp only[go_sem];exact aG Z b4
     simp only[go_sem,b7,b9];have bn:=hC.ge b4
     refine Ex.loop (ι:=Nat) (λi=>[(0,.ptr c 0),(4,.ptr p 0),(6,.ptr q 0),(93,.list none (r.cond.map Tm.enc)),(94,.int .i64 (r.cond.length:Nat)),(95,.int .i64 (i:Nat))])
      (λ_=>S6) (λi=>i<=r.cond.length/\CK KV Kp s (aK (bS (λt=>aK (lH d.sig r.name r.line r.col [t]) (jY d.sig r.name r.line r.col t [66,111,111,108])) (r.cond.drop i)) (uJ d r))) (λi=>r.cond.length-i) 0 ⟨aW _,B⟩ ?_ (aE _) ?_
     .simp only[go_sem]
      try exact rfl
     .clear B;rintro i ⟨hi,B⟩;refine aX (V:=aEK) _ _ _ _ ?_;simp only[go_sem]
      (apply aJ<;>intro h)<;>simp only[go_sem,h]
      .have z:i<r.cond.length:=gQ h;clear h;obtain⟨x,G⟩:=bB z;rw[sH _ G,eO,eO]at B;simp only[go_sem,G,z];(refine cH λc0 M=>?_);have f1:=aI b7 (aS M);have f2:=aI b9 M;have f3:=aI bj M;have b3:(S6.setO c0 (.cells 67 x.cs)).ge S6:=bG M (aE S6);simp only[Tm.cs]at b3;simp only[go_sem,G,z,M,f1,f2,f3,b7,b9,bj];refine sI (aBD (bn.ge b3) _ _ _ [x] (lS B (λB=>?_) (λf Z=>?_))) (by rw[aBf];rfl);rotate_left
       .simp only[go_sem];exact aG Z (b3.trans b4)
       simp only[go_sem,G,z,M,f1,f2,f3,b7,b9,bj];refine aAj (bn.ge b3) _ _ _ x _ (lS B (λB=>?_) (λf Z=>?_));rotate_left
       .simp only[go_sem];exact aG Z (b3.trans b4)
       simp only[go_sem];exact⟨i+1,⟨z,B⟩,by omega,aU i aB,b3⟩
      .have bg:=bQ hi h;subst bg;clear h hi;rw[dP (bJ _)]at B
       replace B:CK KV Kp s (uJ d r):=B
       simp only[go_sem,b7,b9,bj];refine aPA bn r hn c4 hd (CK.map (a:=uJ d r) B (λB=>?_) (λf Z=>?_))
       .simp only[go_sem];exact aG B b4
       .simp only[go_sem];exact aG Z b4
end
end
section
section
variable {s S S':St} {KV Kp:St->A->Prop} {c:Nat} {d:Dfn}
theorem yX{tk:Option Nat}{n:Nat}{e:TypeId}(h:iV S tk n e)(hs:S'.ge S):iV S' tk n e:=by
 cases tk with
 | none=>exact h
 | some t=>exact hs.tk _ _ h
theorem aB8{tk:Option Nat}{u:Nat}(z:∀t,tk=some t->s.getT t=none)(hs:S.ge s)(B:tk=some u\/tk=none/\S.getT u=none):s.getT u=none:=by
 rcases B with e|⟨_,e⟩
 .exact z u e
 .cases y:s.getT u with
  | none=>rfl
  | some v=>rw[hs.tk _ _ y]at e;cases e
theorem aPv{sg:Sig}{b:List aC}{l:List Cel}{i:Nat}{x:Cel}(h:l[i]?=some x):mW sg b (l.drop i)=aK (yB sg b x) (mW sg (b++[x.name]) (l.drop (i+1))):=by
 rw[iC h];rfl
theorem aPG(tk:Option Nat)(s:St)(l:List aC)(x:aC)(u:tk=none->l=[])(KV Kp:St->A->Prop)(y:KV s (.bool (decide (x∈l)))):Den cx 62 [gv tk (l.map .str),.str x] KV Kp s :=
 jI (show kC [gv tk (l.map .str),.str x] [.list none (l.map .str),.str x] from⟨kJ _ _ (λe=>by rw[u e];rfl),bL _,trivial⟩) (pG s l x KV Kp y)
theorem aPy(h:CkAt s c d)(hN:(d.once++d.many).length<=4294967000)(hP:∀x,x∈d.once++d.many->x.init.pre.length<=4294967000)(z:CK KV Kp s (mW d.sig [] (d.once++d.many))):Den cx 28 [.ptr c 0] KV Kp s:=by
 have hC:=h;obtain⟨r,hc,hB⟩:=h;have b6:=hc;simp only[Dfn.cs,Sig.cs,dY,dD]at b6;(refine aN func28 aHN ?_;simp only[go_sem,ntmps28,f28]);(refine bD (OT.l [0,1,2,3,4,5,6,7,8,9,13,10,11,12] .nil) [] ?_;simp only[go_sem,b6]);refine aFE [d.once,d.many] (by simp only[mB,pB,dK];omega) _ _ _ ?_;rw[show [d.once,d.many].flatten=d.once++d.many by simp];generalize hL:d.once++d.many=L at hN hP z;clear hL;simp only[go_sem]
 refine Ex.loop (ι:=Nat × Option Nat) (λk=>[(0,.ptr c 0),(2,gv k.2 (((L.take k.1).map Cel.name).map .str)),(19,.list none (L.map Cel.enc)),(20,.int .i64 (L.length:Nat)),(21,.int .i64 (k.1:Nat))]) (λk=>gs s k.2 ((L.take k.1).map Cel.name).length 9)
  (λk=>k.1<=L.length/\(k.2=none->(L.take k.1).map Cel.name=[])/\(∀t,k.2=some t->s.getT t=none)/\CK KV Kp s (mW d.sig ((L.take k.1).map Cel.name) (L.drop k.1))) (λk=>L.length-k.1) (0,none) ⟨aW _,λ_=>rfl,λt h=>(by cases h),z⟩ ?_ (aE _) ?_
 .simp only[go_sem]
  try exact⟨rfl,rfl⟩
 .clear z;rintro⟨i,tk⟩ ⟨hi,hn,hf,z⟩;simp only at hi hn hf z;refine aX (V:=aHN) _ _ _ _ ?_;have b1:(gs s tk ((L.take i).map Cel.name).length 9).ge s:=fR (aE s) hf;have bb:iV (gs s tk ((L.take i).map Cel.name).length 9) tk ((L.take i).map Cel.name).length 9:=fD λe=>by rw[hn e];rfl
  simp only;generalize gs s tk ((L.take i).map Cel.name).length 9=S at b1 bb;have gc:=b1.ob _ _ b6;simp only[go_sem]
  (apply aJ<;>intro h)<;>simp only[go_sem,h]
  .have O:i<L.length:=gQ h;clear h;obtain⟨x,hx⟩:=bB O;have bc:x∈L:=bK hx;rw[aPv hx]at z;simp only[go_sem,hx,O];(refine cH λb4 Z=>?_);have f1:=aI gc (aS Z);simp only[go_sem,hx,O,Z,f1];(refine cH λb5 b0=>?_);have f2:=aI gc (aS b0);simp only[go_sem,hx,O,Z,f1,b0,f2];have H:((S.setO b4 (.cells 96 x.cs)).setO b5 (.cells 58 [.int .i64 x.line,.int .i64 x.col])).ge S:=by simp only[Cel.cs,Tm.cs,dY,dD];exact aR
   have M:((S.setO b4 (.cells 96 x.cs)).setO b5 (.cells 58 [.int .i64 x.line,.int .i64 x.col])).getO b4=some (.cells 96 x.cs):=by rw[aL,aD (λe=>b0.1.1 e.symm),aL,aF rfl]
   have U:((S.setO b4 (.cells 96 x.cs)).setO b5 (.cells 58 [.int .i64 x.line,.int .i64 x.col])).getO b5=some (.cells 58 [.int .i64 x.line,.int .i64 x.col]):=by rw[aL,aF rfl]
   generalize b3:(S.setO b4 (.cells 96 x.cs)).setO b5 (.cells 58 [.int .i64 x.line,.int .i64 x.col])=S2 at H M U;simp only[Cel.cs,Tm.cs,dY,dD]at b3 M;rw[b3];clear b3 f1 f2 Z b0;have b8:=yX bb H;have G:=H.ob _ _ gc;have B:=H.trans b1;have b9:=hC.ge B;have bd:=hB.ge B;unfold yB at z;refine aPG tk _ _ x.name hn _ _ ?_;by_cases c1:x.name∈(L.take i).map Cel.name
   .rw[aF c1]at z;simp only[go_sem,M,U,G,cT c1];refine fU 14 _ _ _ ?_;simp only[go_sem];exact aG z B
   rw[aD c1]at z;simp only[go_sem,M,U,G,bR c1];(refine bD (OT.r 0 9) [] ?_;simp only[go_sem,M,U,G]);simp only[eO]at z;refine tI bd x.sort ?_;cases c2:cR d.sig x.sort<;>rw[c2]at z<;>simp only[go_sem,M,U,G]
   ·replace z:CK KV Kp s (some (⟨13,x.name,x.line,x.col⟩:Fault)):=z
    refine fU 13 _ _ _ ?_;simp only[go_sem];exact aG z B
   replace z:CK KV Kp s (aK (lH d.sig x.name x.line x.col [x.init]) (aK (jY d.sig x.name x.line x.col x.init x.sort) (aK (bS (λs=>bH (!decide (s=[36])) ⟨17,s,x.line,x.col⟩) (lI [x.init])) (mW d.sig ((L.take i).map Cel.name++[x.name]) (L.drop (i+1)))))):=z
   refine sI (aBD b9 _ _ _ [x.init] (lS z (λz=>?_) (λf hf=>?_))) (by rw[aBf];rfl);rotate_left
   .simp only[go_sem];exact aG hf B
   simp only[go_sem,M,U,G];refine aAj b9 _ _ _ x.init _ (lS z (λz=>?_) (λf hf=>?_));rotate_left
   .simp only[go_sem];exact aG hf B
   simp only[go_sem,M,U,G];refine sI (aJm [x.init] (by have:=hP x bc;simp only[aY,aH,aZ];omega) _ _ _ ?_) (by rw[aBf];rfl)
   have bj:(lI [x.init]).length<=4294967000:=by
    have h1:(lI [x.init]).length<=(aY [x.init]).length:=by
     unfold lI iT;rw[(tP _).length_eq,aO];exact List.length_filter_le _ _
    have:=hP x bc;simp only[aY,aH,aZ]at h1;omega
   unfold strs;simp only[go_sem,M,U,G]
   refine Ex.loop (ι:=Nat) (λj=>[(0,.ptr c 0),(2,gv tk (((L.take i).map Cel.name).map .str)),(4,.ptr b4 0),(5,.ptr b5 0),(19,.list none (L.map Cel.enc)),(20,.int .i64 (L.length:Nat)),(21,.int .i64 (i:Nat)),(72,.list none ((lI [x.init]).map .str)),(73,.int .i64 ((lI [x.init]).length:Nat)),(74,.int .i64 (j:Nat))]) (λ_=>S2)
    (λj=>j<=(lI [x.init]).length/\CK KV Kp s (aK (bS (λs=>bH (!decide (s=[36])) ⟨17,s,x.line,x.col⟩) ((lI [x.init]).drop j)) (mW d.sig ((L.take i).map Cel.name++[x.name]) (L.drop (i+1))))) (λj=>(lI [x.init]).length-j) 0 ⟨aW _,z⟩ ?_ (aE _) ?_
   .simp only[go_sem]
    try exact rfl
   .clear z;rintro j ⟨hj,z⟩;refine aX (V:=aHN) _ _ _ _ ?_;simp only[go_sem]
    (apply aJ<;>intro h)<;>simp only[go_sem,h]
    .have b2:j<(lI [x.init]).length:=gQ h;clear h;obtain⟨a,ha⟩:=bB b2;rw[sH _ ha,eO]at z;simp only[go_sem,ha,b2];cases c3:decide (a=[36])<;>rw[c3]at z<;>simp only[go_sem,ha,b2,c3,M,U]
     ·replace z:CK KV Kp s (some (⟨17,a,x.line,x.col⟩:Fault)):=z
      refine fU 17 _ _ _ ?_;simp only[go_sem];exact aG z B
     .exact⟨j+1,⟨b2,z⟩,by omega,aU j aB,aE _⟩
    .have bh:=bQ hj h;subst bh;rw[dP (bJ _)]at z
     replace z:CK KV Kp s (mW d.sig ((L.take i).map Cel.name++[x.name]) (L.drop (i+1))):=z
     simp only[go_sem,M,U];refine⟨by decide,λy hy=>(by rw[bO.1 hy];rfl),dU rfl rfl (by simp only[aO]at b8⊢;exact b8) (λy hy=>fK hy) (by simp only[aO,dT,aV,aZ];omega) (λu hu=>?_)⟩;have bf:=aB8 hf B hu;have b7:=eB hx;simp only[go_sem];refine⟨(i+1,some u),⟨O,λh=>(by cases h),λt h=>by cases h;exact bf,by rw[b7,bU];exact z⟩,aQ,⟨by rw[b7,bU,bU];rfl,aU i aB⟩,?_⟩;show St.ge _ (s.setT u ((L.take (i+1)).length,9));rw[b7,aH];exact fB B
  .have bg:=bQ hi h;subst bg;rw[dP (bJ _)]at z;exact aG z b1
theorem aPI(h:CkAt s c d)(ho:d.once.length<=4294967000)(hm:d.many.length<=4294967000)(hO:d.sig.ops.length<=4294967000)(u:CK KV Kp s (xF d)):Den cx 29 [.ptr c 0] KV Kp s:=by
 have hC:=h;obtain⟨r,hc,hB⟩:=h;have b5:=hB;obtain⟨a,oo,f,ma,mo,mf,hr,ha,b6,hf,la,lo,lf⟩:=b5;unfold xF at u;(refine aN func29 aHS ?_;simp only[go_sem,ntmps29,f29]);(refine aM λp hp=>?_);have B:(s.setO p (.cells 58 [.int .i64 0,.int .i64 0])).ge s:=bG hp (aE s);have M:(s.setO p (.cells 58 [.int .i64 0,.int .i64 0])).getO p=some (.cells 58 [.int .i64 0,.int .i64 0]):=by rw[aL,aF rfl]
 (try simp only[go_sem])
 generalize s.setO p (.cells 58 [.int .i64 0,.int .i64 0])=S at B M⊢;clear hp;have b2:=hC.ge B;have b1:=hB.ge B;have O:=B.ob _ _ hc;have gr:=B.ob _ _ hr;simp only[Dfn.cs,Sig.cs,dY,dD]at O gr;(refine bD (OT.r 0 11) [] ?_;simp only[go_sem,O,M]);refine tI b1 d.start ?_;cases c1:cR d.sig d.start<;>rw[c1]at u<;>simp only[go_sem,O,M]
 ·replace u:CK KV Kp s (some (⟨13,d.start,0,0⟩:Fault)):=u
  (refine bD (OT.r 0 7) [] ?_;simp only[go_sem,O,M]);refine fU 13 _ _ _ ?_;simp only[go_sem];exact aG u B
 rw[aF8]at u;refine aFQ b2 ho hm d.watch ?_;cases c2:(dJ d d.watch).2.2<;>rw[c2]at u<;>simp only[go_sem,O,M]
 ·replace u:CK KV Kp s (some (⟨13,d.watch,0,0⟩:Fault)):=u
  (refine bD (OT.r 0 7) [] ?_;simp only[go_sem,O,M]);refine fU 13 _ _ _ ?_;simp only[go_sem];exact aG u B
 cases c3:(dJ d d.watch).2.1<;>rw[c3]at u<;>simp only[go_sem,O,M]
 rotate_left
 ·replace u:CK KV Kp s (some (⟨13,d.watch,0,0⟩:Fault)):=u
  (refine bD (OT.r 0 7) [] ?_;simp only[go_sem,O,M]);refine fU 13 _ _ _ ?_;simp only[go_sem];exact aG u B
 replace u:CK KV Kp s (aK (bH (!(decide (d.kind=[]) == decide (d.many.length=0))) ⟨15,d.kind,0,0⟩)
  (aK (bS (λo:Opr=>bH (decide (0<o.strict.length)&&(!(dJ d [107]).2.2||!decide ((dJ d [107]).1=[76,105,115,116]))) ⟨13,[107],0,0⟩) d.sig.ops)
  (bS (λo:Opr=>bH (decide (0<o.strict.length)&&vJ d.sig o.sort) ⟨16,o.name,0,0⟩) d.sig.ops))):=u
 have z0:decide (((d.many.length:Nat):Int)=0)=decide (d.many.length=0):=by rw[cC];omega
 (refine bD (OT.r 0 14) [] ?_;simp only[go_sem,O,M,z0]);have key:(decide (d.kind=[]) == decide (d.many.length=0))=false\/(decide (d.kind=[]) == decide (d.many.length=0))=true:=by cases decide (d.kind=[])<;>cases decide (d.many.length=0)<;>simp
 rcases key with c4|c4<;>rw[c4]at u<;>simp only[go_sem,O,M,c4]
 ·replace u:CK KV Kp s (some (⟨15,d.kind,0,0⟩:Fault)):=u
  (refine bD (OT.r 0 7) [] ?_;simp only[go_sem,O,M]);refine fU 15 _ _ _ ?_;simp only[go_sem];exact aG u B
 rw[aF8]at u;refine aFQ b2 ho hm [107] ?_;simp only[go_sem,O,M,gr]
 refine Ex.loop (ι:=Nat) (λi=>[(0,.ptr c 0),(2,.ptr p 0),(6,.str (dJ d [107]).1),(8,.bool (dJ d [107]).2.2),(89,.list none (d.sig.ops.map Opr.enc)),(90,.int .i64 (d.sig.ops.length:Nat)),(91,.int .i64 (i:Nat))]) (λ_=>S)
  (λi=>i<=d.sig.ops.length/\CK KV Kp s (aK (bS (λo:Opr=>bH (decide (0<o.strict.length)&&(!(dJ d [107]).2.2||!decide ((dJ d [107]).1=[76,105,115,116]))) ⟨13,[107],0,0⟩) (d.sig.ops.drop i))
  (bS (λo:Opr=>bH (decide (0<o.strict.length)&&vJ d.sig o.sort) ⟨16,o.name,0,0⟩) d.sig.ops))) (λi=>d.sig.ops.length-i) 0 ⟨aW _,u⟩ ?_ (aE _) ?_
 .simp only[go_sem]
  try exact rfl
 .clear u;rintro i ⟨hi,u⟩;refine aX (V:=aHS) _ _ _ _ ?_;simp only[go_sem]
  (apply aJ<;>intro h)<;>simp only[go_sem,h]
  .have y:i<d.sig.ops.length:=gQ h;clear h;obtain⟨x,Z⟩:=bB y;rw[sH _ Z,eO]at u;have z:decide ((0:Int)<((x.strict.length:Nat):Int))=decide (0<x.strict.length):=by rw[cC];omega
   simp only[go_sem,Z,y];(refine cH λb3 U=>?_);have f1:=aI M (aS U);have H:(S.setO b3 (.cells 80 x.cs)).ge S:=bG U (aE S);simp only[Opr.cs]at H;cases c5:decide (0<x.strict.length)<;>rw[c5]at u<;>simp only[go_sem,Z,y,U,f1,z,c5,M]
   .exact⟨i+1,⟨y,u⟩,by omega,aU i aB,H⟩
   cases c6:(dJ d [107]).2.2<;>rw[c6]at u<;>simp only[go_sem,Z,y,U,f1,z,c5,M,c6]
   ·replace u:CK KV Kp s (some (⟨13,[107],0,0⟩:Fault)):=u
    refine fU 13 _ _ _ ?_;simp only[go_sem];exact aG u (H.trans B)
   cases c7:decide ((dJ d [107]).1=[76,105,115,116])<;>rw[c7]at u<;>simp only[go_sem,Z,y,U,f1,z,c5,M,c6,c7]
   ·replace u:CK KV Kp s (some (⟨13,[107],0,0⟩:Fault)):=u
    refine fU 13 _ _ _ ?_;simp only[go_sem];exact aG u (H.trans B)
   .exact⟨i+1,⟨y,u⟩,by omega,aU i aB,H⟩
  .have b0:=bQ hi h;subst b0;clear h hi;rw[dP (bJ _)]at u
   replace u:CK KV Kp s (bS (λo:Opr=>bH (decide (0<o.strict.length)&&vJ d.sig o.sort) ⟨16,o.name,0,0⟩) d.sig.ops):=u
   simp only[go_sem,O,M,gr]
   refine Ex.loop (ι:=Nat) (λi=>[(0,.ptr c 0),(2,.ptr p 0),(117,.list none (d.sig.ops.map Opr.enc)),(118,.int .i64 (d.sig.ops.length:Nat)),(119,.int .i64 (i:Nat))]) (λ_=>S)
    (λi=>i<=d.sig.ops.length/\CK KV Kp s (bS (λo:Opr=>bH (decide (0<o.strict.length)&&vJ d.sig o.sort) ⟨16,o.name,0,0⟩) (d.sig.ops.drop i))) (λi=>d.sig.ops.length-i) 0 ⟨aW _,u⟩ ?_ (aE _) ?_
   .simp only[go_sem]
    try exact rfl
   .clear u;rintro i ⟨hi,u⟩;refine aX (V:=aHS) _ _ _ _ ?_;simp only[go_sem]
    (apply aJ<;>intro h)<;>simp only[go_sem,h]
    .have y:i<d.sig.ops.length:=gQ h;clear h;obtain⟨x,Z⟩:=bB y;rw[sH _ Z]at u;have z:decide ((0:Int)<((x.strict.length:Nat):Int))=decide (0<x.strict.length):=by rw[cC];omega
     simp only[go_sem,Z,y];(refine cH λb4 G=>?_);have f1:=aI M (aS G);have f2:=aI O G;have H:(S.setO b4 (.cells 80 x.cs)).ge S:=bG G (aE S);simp only[Opr.cs]at H;simp only[go_sem,Z,y,G,f1,f2,z,M,O];(refine bD (OT.r 0 13) [] ?_;simp only[go_sem,Z,y,G,f1,f2,z,M,O]);cases c5:decide (0<x.strict.length)<;>rw[c5]at u<;>simp only[go_sem,Z,y,G,f1,f2,z,c5,M,O]
     .exact⟨i+1,⟨y,u⟩,by omega,aU i aB,H⟩
     refine aNY (b1.ge H) x.sort ?_;cases c6:vJ d.sig x.sort<;>rw[c6]at u<;>simp only[go_sem,Z,y,G,f1,f2,z,c5,M,O]
     .exact⟨i+1,⟨y,u⟩,by omega,aU i aB,H⟩
     ·replace u:CK KV Kp s (some (⟨16,x.name,0,0⟩:Fault)):=u
      refine fU 16 _ _ _ ?_;simp only[go_sem];exact aG u (H.trans B)
    .have b0:=bQ hi h;subst b0;rw[dP (bJ _)]at u;exact aG u B
end
end
end Go.AV
