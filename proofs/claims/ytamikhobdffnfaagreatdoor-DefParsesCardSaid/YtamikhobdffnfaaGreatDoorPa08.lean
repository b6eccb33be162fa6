/-
  Of DefParses.
-/
import Derived.Test.YtamikhobdffnfaaGreatDoorPa07
set_option linter.all false
set_option maxRecDepth 99999
set_option maxHeartbeats 0
namespace Go.AV
open Go Go.Proofs Tryz
section
structure XT.ok (T:XT) (C:Cx):Prop where
 tt:∀ t ti,T.tt t=some ti→C.tt t=some ti
 eq:∀ t a b r,T.eq t a b=some r→C.eq t a b=some r
 gl:∀ g,T.gl g=C.gl g
 cv:∀ a b,T.cv a b=C.cv a b
 us:∀ a,T.us a=C.us a
theorem aGZ {n:Nat}:∀ {l:List A},aCk n l=true→aAN n l
 | [],_=>trivial
 | x::r,h=>by
  simp only[aCk,bT] at h;exact ⟨⟨cC h.1.1,h.1.2⟩,aGZ h.2⟩
theorem xI {n:Nat}:∀ {l:List A},uK n l=true→∀ x,x∈l→x.cells.length=n
 | [],_=>by simp
 | x::r,h=>by
  simp only[uK,bT] at h;intro y hy;cases hy with
  | head=>exact cC h.1
  | tail _ hy=>exact xI h.2 y hy
section
variable {T:XT} {C:Cx} {ρ:Operand→Option A} {K:A→Prop}
theorem xV (hT:T.ok C) {t:TypeId} {cs:List A} {o:Nat} {v:A} (h:qX T t cs o=some v):pY C t cs o=some v:=by
 unfold qX at h;split at h
 ·rename_i ti hti;simp only[pY,hT.tt _ _ hti];split at h
  ·rename_i hag;rw[if_pos hag];split at h
   ·rename_i hl;rw[if_pos (kP hl)];exact h
   ·cases h
  ·rename_i hag;rw[if_neg (by simp[hag])];exact h
 ·cases h
theorem aIz {x:A} {lo hi:Option A} {v:A} (h:aCM x lo hi=some v) (hK:K v):rB x lo hi K:=by
 unfold aCM at h;split at h
 ·split at h
  ·rename_i l hh e1 e2;split at h
   ·rename_i hc;cases h;simp only[rB,e1,e2];exact ⟨hc,hK⟩
   ·cases h
  ·cases h
 ·split at h
  ·rename_i l hh e1 e2;split at h
   ·rename_i hc;cases h;simp only[rB,e1,e2];exact ⟨hc,hK⟩
   ·cases h
  ·cases h
 ·cases h
theorem aEK (hT:T.ok C) {op:Op} {v:A} (h:gL T op ρ=some v) (hK:K v):bF C op ρ K:=by
 cases op
 case move x=>simp only[gL,jS,jN,jT,jH,jG,jO,jJ,iY,jD,jI,jK,jM,jE,jR,jP,jF,jQ,jU] at h;simp only[bF,h];exact hK
 case assign x=>simp only[gL,jS,jN,jT,jH,jG,jO,jJ,iY,jD,jI,jK,jM,jE,jR,jP,jF,jQ,jU] at h;simp only[bF,h];exact hK
 case pick c a b =>
  simp only[gL,jS,jN,jT,jH,jG,jO,jJ,iY,jD,jI,jK,jM,jE,jR,jP,jF,jQ,jU] at h;split at h
  ·rename_i c' hc;cases c'<;>simp only at h<;>simp only[bF,hc,h]<;>exact hK
  ·cases h
 case binOp op t x y ty =>
  simp only[gL,jS,jN,jT,jH,jG,jO,jJ,iY,jD,jI,jK,jM,jE,jR,jP,jF,jQ,jU] at h;split at h
  ·rename_i a b ha hb;simp only[bF,ha,hb];cases hn:aCc y
   ·rw[hn] at h;simp only at h ⊢;cases hd:yL op a b
    ·rw[hd] at h;simp only at h ⊢;split at h
     ·rename_i a' b';split at h
      ·rename_i hl;cases h;exact ⟨kP hl,hK⟩
      ·cases h
     ·rename_i hne;split
      ·rename_i a' b';exact (hne a' b' rfl rfl rfl).elim
      ·rw[h];exact hK
    ·rw[hd] at h;simp only at h ⊢;split at h
     ·rename_i r hr;rw[hT.eq _ _ _ _ hr];cases h;cases op<;>first|exact hK|(simp only[yL] at hd;cases hd)
     ·cases h
   ·rw[hn] at h;simp only at h ⊢;split at h
    ·rename_i ti hti;rw[hT.tt _ _ hti];simp only;split at h
     ·rename_i hk;simp only[hk,h];exact hK
     ·cases h
    ·cases h
  ·cases h
 case unOp op t x =>
  simp only[gL,jS,jN,jT,jH,jG,jO,jJ,iY,jD,jI,jK,jM,jE,jR,jP,jF,jQ,jU] at h;split at h
  ·rename_i a ha;simp only[bF,ha,h];exact hK
  ·cases h
 case nilCheck x =>
  simp only[gL,jS,jN,jT,jH,jG,jO,jJ,iY,jD,jI,jK,jM,jE,jR,jP,jF,jQ,jU] at h;split at h
  ·rename_i hx;cases h;simp only[bF,hx];exact hK
  ·rename_i hx;cases h;simp only[bF,hx];exact hK
  ·cases h
 case fieldAddr t x f =>
  simp only[gL,jS,jN,jT,jH,jG,jO,jJ,iY,jD,jI,jK,jM,jE,jR,jP,jF,jQ,jU] at h;split at h
  ·rename_i a ti ha hti;simp only[bF,ha,hT.tt _ _ hti];split at h
   ·rename_i fs hk;simp only[hk];split at h
    ·rename_i off sz ag hf;simp only[hf];split at h
     ·cases h;exact hK
     ·cases h;exact hK
     ·cases h
    ·cases h
   ·cases h
  ·cases h
 case field t x f =>
  simp only[gL,jS,jN,jT,jH,jG,jO,jJ,iY,jD,jI,jK,jM,jE,jR,jP,jF,jQ,jU] at h;split at h
  ·rename_i cs ti ha hti;simp only[bF,ha,hT.tt _ _ hti];split at h
   ·rename_i fs hk;simp only[hk];split at h
    ·rename_i off sz ag hf;simp only[hf];cases ag
     ·simp only at h;rw[if_neg (by simp)];rw[h];exact hK
     ·simp only at h;rw[if_pos rfl];split at h
      ·rename_i hl;cases h;exact ⟨kP hl,hK⟩
      ·cases h
    ·cases h
   ·cases h
  ·cases h
 case typeAssert x xt t ok =>
  cases ok<;>simp only[gL,iY] at h
  ·cases h
  ·split at h
   ·rename_i u v ti hx hti;split at h
    ·rename_i fs hk;split at h
     ·rename_i hb;cases h;simp only[bF,hx,hT.tt _ _ hti,hk];exact ⟨cC hb,hK⟩
     ·cases h
    ·cases h
   ·cases h
 case extract x i =>
  simp only[gL,jS,jN,jT,jH,jG,jO,jJ,iY,jD,jI,jK,jM,jE,jR,jP,jF,jQ,jU] at h;split at h
  ·rename_i vs hx;simp only[bF,hx,h];exact hK
  ·cases h
 case makeInterface t x =>
  simp only[gL,jS,jN,jT,jH,jG,jO,jJ,iY,jD,jI,jK,jM,jE,jR,jP,jF,jQ,jU] at h;split at h
  ·rename_i a ti ha hti;simp only[bF,ha,hT.tt _ _ hti];cases hk:ti.k<;>rw[hk] at h<;>simp only at h ⊢<;>cases h<;>exact hK
  ·cases h
 case makeFunc fn first caps =>
  cases fn<;>simp only[gL,jS,jN,jT,jH,jG,jO,jJ,iY,jD,jI,jK,jM,jE,jR,jP,jF,jQ,jU] at h
  ·split at h
   ·rename_i l m hl hm;simp only[bF,hl,hm];cases h;exact hK
   ·cases h
  all_goals cases h
 case convert a b x =>
  simp only[gL,jS,jN,jT,jH,jG,jO,jJ,iY,jD,jI,jK,jM,jE,jR,jP,jF,jQ,jU] at h;split at h
  ·rename_i k n ta tb hx hta htb;simp only[bF,hx,hT.tt _ _ hta,hT.tt _ _ htb];split at h
   ·rename_i k' hk;simp only[hk];cases h;exact hK
   ·cases h
  ·rename_i s ta tb hx hta htb;simp only[bF,hx,hT.tt _ _ hta,hT.tt _ _ htb];split at h
   ·rename_i hk;simp only[hk];cases h;exact hK
   ·rename_i e hk;simp only[hk];split at h
    ·rename_i te hka hte;simp only[hka,hT.tt _ _ hte];split at h
     ·rename_i hkt;simp only[hkt];split at h
      ·rename_i hc;cases h;exact ⟨hc.1,hc.2,hK⟩
      ·cases h
     ·cases h
    ·cases h
   ·cases h
  ·cases h
 case build t parts =>
  simp only[gL,jS,jN,jT,jH,jG,jO,jJ,iY,jD,jI,jK,jM,jE,jR,jP,jF,jQ,jU] at h;split at h
  ·rename_i ps ti hps hti;simp only[bF,hps,hT.tt _ _ hti];split at h
   ·rename_i fs hk;simp only[hk,h];exact hK
   ·cases h
  ·cases h
 case buildSlice t len parts =>
  simp only[gL,jS,jN,jT,jH,jG,jO,jJ,iY,jD,jI,jK,jM,jE,jR,jP,jF,jQ,jU] at h;split at h
  ·rename_i ps ti hps hti;simp only[bF,hps,hT.tt _ _ hti];split at h
   ·rename_i e hk;simp only[hk];split at h
    ·rename_i te hte;simp only[hT.tt _ _ hte];split at h
     ·rename_i es hes;simp only[hes];split at h
      ·rename_i hc;cases h;refine ⟨⟨hc.1,hc.2.1,aGZ hc.2.2⟩,?_⟩;cases hz:yS parts.toList<;>rw[hz] at hK<;>exact hK
      ·cases h
     ·cases h
    ·cases h
   ·cases h
  ·cases h
 case load t x =>
  simp only[gL,jS,jN,jT,jH,jG,jO,jJ,iY,jD,jI,jK,jM,jE,jR,jP,jF,jQ,jU] at h;split at h
  ·rename_i cs o hx;simp only[bF,hx,xV hT h];exact hK
  ·cases h
 case slice t x lo hi mx =>
  cases mx with
  | some m=>simp only[gL,jS,jN,jT,jH,jG,jO,jJ,iY,jD,jI,jK,jM,jE,jR,jP,jF,jQ,jU] at h;cases h
  | none =>
   simp only[gL,jS,jN,jT,jH,jG,jO,jJ,iY,jD,jI,jK,jM,jE,jR,jP,jF,jQ,jU] at h;split at h
   ·rename_i a l h' ti ha hlo hhi hti;simp only[bF,ha,hlo,hhi,hT.tt _ _ hti];split at h
    ·rename_i hk;simp only[hk];split at h
     ·exact aIz h hK
     ·cases h
    ·rename_i e hk;simp only[hk];split at h
     ·rename_i tk es te hte;simp only[hT.tt _ _ hte];split at h
      ·rename_i hl;exact ⟨xI hl,aIz h hK⟩
      ·cases h
     ·rename_i te hte;simp only[hT.tt _ _ hte];split at h
      ·rename_i i j e1 e2;simp only[e1,e2];split at h
       ·rename_i hc;cases h;exact ⟨hc,hK⟩
       ·cases h
      ·cases h
     ·rename_i t0 n0 te hte;simp only[hT.tt _ _ hte];split at h
      ·rename_i i j e1 e2;simp only[e1,e2];split at h
       ·rename_i hc;cases h;exact ⟨hc,hK⟩
       ·cases h
      ·cases h
     ·rename_i b off n te hte;simp only[hT.tt _ _ hte];split at h
      ·rename_i i j e1 e2;simp only[e1,e2];split at h
       ·rename_i hc;cases h;exact ⟨hc,hK⟩
       ·cases h
      ·cases h
     ·cases h
    ·cases h
   ·cases h
 case indexAddr t x i =>
  simp only[gL,jS,jN,jT,jH,jG,jO,jJ,iY,jD,jI,jK,jM,jE,jR,jP,jF,jQ,jU] at h;split at h
  ·rename_i a k n ti ha hi hti;simp only[bF,ha,hi,hT.tt _ _ hti];split at h
   ·rename_i e hk;simp only[hk];split at h
    ·rename_i tk es;split at h
     ·rename_i te hte;simp only[hT.tt _ _ hte];split at h
      ·rename_i h0;split at h
       ·rename_i x hx;split at h
        ·rename_i hl;cases h;refine ⟨⟨h0,(eT.1 hx).1⟩,?_⟩;rw[hx];exact ⟨cC hl,hK⟩
        ·cases h
       ·cases h
      ·cases h
     ·cases h
    ·rename_i b off m;split at h
     ·rename_i te hte;simp only[hT.tt _ _ hte];split at h
      ·rename_i hc;cases h;exact ⟨hc,hK⟩
      ·cases h
     ·cases h
    ·rename_i t' es sz;split at h
     ·rename_i te hte;simp only[hT.tt _ _ hte];split at h
      ·rename_i hc;cases h;exact ⟨hc,hK⟩
      ·cases h
     ·cases h
    ·cases h
   ·rename_i m e hk;simp only[hk];split at h
    ·rename_i cs o;split at h
     ·rename_i te hte;simp only[hT.tt _ _ hte];split at h
      ·rename_i hc;cases h;exact ⟨hc,hK⟩
      ·cases h
     ·cases h
    ·cases h
   ·cases h
  ·cases h
 case index t x i =>
  simp only[gL,jS,jN,jT,jH,jG,jO,jJ,iY,jD,jI,jK,jM,jE,jR,jP,jF,jQ,jU] at h;split at h
  ·rename_i s k n ti ha hi hti;simp only[bF,ha,hi,hT.tt _ _ hti];split at h
   ·rename_i hk;simp only[hk];split at h
    ·rename_i h0;split at h
     ·rename_i c hc;cases h;refine ⟨⟨h0,(eT.1 hc).1⟩,?_⟩;rw[hc];exact hK
     ·cases h
    ·cases h
   ·cases h
  ·cases h
 case call c =>
  obtain ⟨cal,args,ats⟩:=c;obtain ⟨args⟩:=args;obtain ⟨ats⟩:=ats;simp only[gL,jS,jN,jT,jH,jG,jO,jJ,iY,jD,jI,jK,jM,jE,jR,jP,jF,jQ,jU] at h;split at h
  ·rename_i x t;split at h
   ·rename_i a ti ha hti;simp only[bF,ha,hT.tt _ _ hti];split at h
    ·rename_i hk;simp only[hk];split at h
     ·cases h;exact hK
     ·cases h
    ·rename_i e hk;simp only[hk];split at h<;>first|(cases h;exact hK)|cases h
    ·cases h
   ·cases h
  ·rename_i x;split at h
   ·rename_i tk y ys hx;simp only[bF,hx];cases h;exact hK
   ·rename_i hx;simp only[bF,hx];cases h;exact hK
   ·cases h
  ·rename_i x t;split at h
   ·rename_i ti hx hti;simp only[bF,hx,hT.tt _ _ hti];split at h
    ·rename_i e hk;simp only[hk];cases h;exact hK
    ·cases h
   ·cases h
  ·rename_i x y;split at h
   ·rename_i j a k b hx hy;simp only[bF,hx,hy];cases h;exact hK
   ·cases h
  ·rename_i x y;split at h
   ·rename_i j a k b hx hy;simp only[bF,hx,hy];cases h;exact hK
   ·cases h
  ·cases h
 all_goals (simp only[gL,jS,jN,jT,jH,jG,jO,jJ,iY,jD,jI,jK,jM,jE,jR,jP,jF,jQ,jU] at h;cases h)
end
end
def XS.newO (σ:XS) (o:Ob):XS:=⟨σ.bx.set σ.lim o,σ.tk,σ.lim+1,σ.ls⟩
def XS.newT (σ:XS) (n:Nat × TypeId):XS:=⟨σ.bx,σ.tk.set σ.lim n,σ.lim+1,σ.ls⟩
def XS.setO (σ:XS) (b:Nat) (o:Ob):XS:=⟨σ.bx.set b o,σ.tk,σ.lim,σ.ls⟩
def XS.setT (σ:XS) (b:Nat) (n:Nat × TypeId):XS:=⟨σ.bx,σ.tk.set b n,σ.lim,σ.ls⟩
def XS.setL (σ:XS) (x:Option (Nat × Nat × A)):XS:=⟨σ.bx,σ.tk,σ.lim,x⟩
def XS.delT (σ:XS) (t:Nat):XS:=⟨σ.bx,σ.tk.del t,σ.lim,σ.ls⟩
def aB3:List A→Option (List UInt8)
 | []=>some []
 | a::r=>match a with
  | .int k n=>match k with
   | .u8=>match n with
    | .ofNat m=>match Nat.blt m 256,aB3 r with
     | true,some l=>some (UInt8.ofNat m::l)
     | _,_=>none
    | _=>none
   | _=>none
  | _=>none
theorem aGw:∀ (es:List A) (bs:List UInt8),aB3 es=some bs→es=fM bs
 | [],bs,h=>by cases h;rfl
 | a::r,bs,h=>by
  simp only[aB3] at h;split at h
  ·split at h
   ·split at h
    ·rename_i m;split at h
     ·rename_i l hm hl;cases h;have:=aGw r l hl;rw[this];have hm':m<256:=by rwa[Nat.blt_eq] at hm
      simp[fM,Nat.mod_eq_of_lt hm']
     ·cases h
    ·cases h
   ·cases h
  ·cases h
def aFF (T:XT) (ti:TI) (u:TypeId):Option TypeId:=match ti.k with
 | .slice e=>match T.tt u,T.tt e with
  | some tu,some te=>match tu.k with
   | .string=>match te.k with
    | .int .u8=>if te.sz=1∧te.bytes=1 then some e else none
    | _=>none
   | _=>none
  | _,_=>none
 | _=>none
def aFu (σ:XS) (e:TypeId) (bs:List UInt8):A→XR
 | .nils=>match Nat.ble bs.length 4294967296 with
  | true=>.val (.list (some σ.lim) (fM bs)) (σ.newT (bs.length,e))
  | false=>.bad
 | .list (some t) es=>match σ.tk.get t with
  | some (n,e')=>match Nat.beq n es.length&&Nat.beq e' e&&uK 1 es&&Nat.ble (es.length+bs.length) 4294967296 with
   | true=>.val (.list (some t) (es++fM bs)) (σ.setT t (es.length+bs.length,e))
   | false=>.bad
  | none=>.bad
 | _=>.bad
def aFn (T:XT) (σ:XS) (ti:TI) (u:TypeId) (n:Int):A→XR
 | .nils=>match ti.k with
  | .slice e=>match T.tt e,T.tt u with
   | some te,some tu=>match tu.k with
    | .int _=>if 0<n∧n≤65536∧te.sz≠0∧te.bytes≤32768 then .val (.gr σ.lim n.toNat) (σ.newT (0,e)) else .bad
    | _=>.bad
   | _,_=>.bad
  | _=>.bad
 | _=>.bad
def aCE (T:XT) (σ:XS) (ti:TI) (t u:TypeId) (a:A):XR:=match ti.k with
 | .slice e=>match T.tt e with
  | some _=>match Nat.beq u t with
   | true=>match a with
    | .nils=>.val .nils σ
    | .emp=>.val .emp σ
    | .list tk es=>.val (.list tk es) σ
    | .ml b o n=>.val (.ml b o n) σ
    | _=>.bad
   | false=>.bad
  | none=>.bad
 | _=>.bad
def aFt (T:XT) (σ:XS) (ti:TI) (t u:TypeId) (z a:A):XR:=match ti.k with
 | .slice e=>match T.tt e with
  | some te=>match Nat.beq u t&&!(Nat.beq te.sz 0)&&Nat.ble te.bytes 32768&&Nat.beq z.cells.length te.sz with
   | true=>match a with
    | .nils=>.val (.pen σ.lim [] te.sz) (σ.newT (0,e))
    | .list tk es=>match tk with
     | some k=>match σ.tk.get k with
      | some (n,e')=>match Nat.beq n es.length&&Nat.beq e' e&&uK te.sz es&&Nat.ble (es.length+1) 4294967296 with
       | true=>.val (.pen σ.lim es te.sz) ((σ.delT k).newT (es.length,e))
       | false=>.bad
      | none=>.bad
     | none=>.bad
    | _=>.bad
   | false=>.bad
  | none=>.bad
 | _=>.bad
def aFB (σ:XS):A→A
 | .pen t es sz=>match σ.ls with
  | some q=>zI t es sz q
  | none=>.pen t es sz
 | a=>a
def rmX (T:XT) (σ:XS) (k n z:Nat) (ti:TI) (v:A):XR:=match σ.tk.get k with
 | some (m,e)=>match T.tt e with
  | some te=>match Nat.beq m n&&Nat.beq te.sz z&&Nat.beq ti.sz z&&Nat.beq v.cells.length z&&fZ v.cells with
   | true=>.val (.tuple []) ((σ.setT k (n+1,e)).setL (some (k,n,v)))
   | false=>.bad
  | none=>.bad
 | none=>.bad
def aJN (T:XT) (σ:XS) (pt:TypeId):A→A→XR
 | .nilp,.int .i64 n=>if n=0 then .val (.str []) σ else .bad
 | .sd (some t) es,.int .i64 n=>match T.us pt with
  | some e=>match σ.tk.get t with
   | some (m,e')=>if n=es.length∧m=es.length∧e'=e then (match aB3 es with
    | some bs=>.val (.str bs) (σ.delT t)
    | none=>.bad) else .bad
   | none=>.bad
  | none=>.bad
 | _,_=>.bad
def cvX (T:XT) (σ:XS) (a b:TypeId) (x:Operand) (ρ:Operand→Option A):XR :=
 match ρ x with
 | some (.ptr k 0)=>match σ.bx.get k,T.cv a b with
  | some (.cells e cs),some e'=>match T.tt e with
   | some te=>if e=e'∧te.sz≤cs.length then .val (.ptr k 0) σ else .bad
   | none=>.bad
  | _,_=>.bad
 | _=>match gL T (.convert a b x) ρ with
  | some v=>.val v σ
  | none=>.bad
def aAQ (σ:XS):Option A→XR
 | some v=>.val v σ
 | none=>.bad
def aRX (x:List UInt8) (pos:Nat):Nat × Nat:=Utf8.decode ⟨x.toArray⟩ pos
def aJc (T:XT) (t:TypeId) (x:Operand) (ρ:Operand→Option A) (σ:XS):XR :=
 match ρ x with
 | some (.ptr b o)=>match σ.bx.get b with
  | some (.cells _ cs)=>aAQ σ (qX T t cs o)
  | _=>.bad
 | some (.eptr cs o)=>aAQ σ (qX T t cs o)
 | _=>.bad
def stX (σ:XS) (b o:Nat) (ti:TI) (e:TypeId) (cs:List A) (v:A):XR:=match Nat.beq v.cells.length ti.sz&&Nat.ble (o+v.cells.length) cs.length&&fZ v.cells with
 | true=>.val (.tuple []) (σ.setO b (.cells e (nJ cs o v.cells)))
 | false=>.bad
def aIF (T:XT) (t:TypeId) (x:Operand) (y:Operand) (ρ:Operand→Option A) (σ:XS):XR :=
 match ρ x,ρ y,T.tt t with
 | some (.ptr b o),some v,some ti=>match σ.bx.get b with
  | some (.cells e cs)=>stX σ b o ti e cs (aFB σ v)
  | _=>.bad
 | some (.rm k n z),some v,some ti=>rmX T σ k n z ti v
 | _,_,_=>.bad
def aIA (T:XT) (t:TypeId) (ρ:Operand→Option A) (σ:XS):XR :=
 match T.tt t with
 | some ti=>.val (.ptr σ.lim 0) (σ.newO (.cells t ti.zero))
 | none=>.bad
def aJx (T:XT) (t:TypeId) (x:Operand) (ρ:Operand→Option A) (σ:XS):XR :=
 match ρ x with
 | some v=>match fZ v.cells with
  | true=>.val (.ptr σ.lim 0) (σ.newO (.cells t v.cells))
  | false=>.bad
 | none=>.bad
def aJq (T:XT) (t:TypeId) (l c:Operand) (ρ:Operand→Option A) (σ:XS):XR :=
 match ρ l,ρ c,T.tt t with
 | some (.int _ n),some (.int _ m),some ti=>match ti.k with
  | .slice e=>match T.tt e with
   | some te=>if n=m∧0<n∧te.sz=1∧te.bytes * n.toNat≤281474976710656∧n≤4294967296 then
     .val (.ml σ.lim 0 n.toNat) (σ.newO (.cells e (List.replicate n.toNat te.zero).flatten)) else .bad
   | none=>.bad
  | _=>.bad
 | _,_,_=>.bad
def aIJ (T:XT) (x:Operand) (ρ:Operand→Option A) (σ:XS):XR :=
 match ρ x with
 | some (.iface t a)=>.pan (.iface t a) σ
 | _=>.bad
def aIE (T:XT) (t:TypeId) (x:Operand) (ρ:Operand→Option A) (σ:XS):XR :=
 match ρ x,T.tt t with
 | some (.str x),some ti=>match ti.k with
  | .string=>.val (.ptr σ.lim 0) (σ.newO (.iter x 0))
  | _=>.bad
 | _,_=>.bad
def aI3 (T:XT) (x:Operand) (str:Bool) (ρ:Operand→Option A) (σ:XS):XR :=
 match str with
 | true=>match ρ x with
  | some (.ptr b 0)=>match σ.bx.get b with
   | some (.iter x pos)=>match Nat.blt pos x.length with
    | true=>match aRX x pos with
     | (c,k)=>.val (.tuple [.bool true,.int .i64 pos,.int .i32 c]) (σ.setO b (.iter x (pos+k)))
    | false=>.val (.tuple [.bool false]) σ
   | _=>.bad
  | _=>.bad
 | false=>.bad
def aI9 (T:XT) (c:Call) (ρ:Operand→Option A) (σ:XS):XR :=
 match c.callee with
 | .value f=>match ρ f,kN ρ c.args.toList with
  | some (.fn f first caps),some az=>.call f (first++az++caps)
  | _,_=>.bad
 | .builtin .append=>match c.args.toList,c.argTypes.toList with
  | [x,y],[t,u] => match ρ x,ρ y,T.tt t with
   | some a,some (.list _ ys),some ti=>match ti.k with
    | .slice e=>match T.tt e with
     | some te=>match Nat.beq u t&&!(Nat.beq te.sz 0)&&Nat.ble te.bytes 32768&&uK te.sz ys with
      | true=>match a with
       | .nils=>match Nat.ble ys.length 4294967296 with
        | true=>.val (.list (some σ.lim) ys) (σ.newT (ys.length,e))
        | false=>.bad
       | .emp=>match Nat.ble ys.length 4294967296&&Nat.blt 0 ys.length with
        | true=>.val (.list (some σ.lim) ys) (σ.newT (ys.length,e))
        | false=>.bad
       | .list (some t) es=>match σ.tk.get t with
        | some (n,e')=>match Nat.beq n es.length&&Nat.beq e' e&&uK te.sz es&&Nat.ble (es.length+ys.length) 4294967296 with
         | true=>.val (.list (some t) (es++ys)) (σ.setT t (es.length+ys.length,e))
         | false=>.bad
        | none=>.bad
       | _=>.bad
      | false=>.bad
     | none=>.bad
    | _=>.bad
   | some a,some (.str bs),some ti=>match aFF T ti u with
    | some e=>aFu σ e bs a
    | none=>.bad
   | some a,some (.int .i64 n),some ti=>aFn T σ ti u n a
   | some a,some .nils,some ti=>aCE T σ ti t u a
   | some a,some .emp,some ti=>aCE T σ ti t u a
   | some a,some (.hl z),some ti=>aFt T σ ti t u z a
   | _,_,_=>.bad
  | _,_=>.bad
 | .builtin .unsafeString=>match c.args.toList,c.argTypes.toList with
  | [p,n],[pt,_]=>match ρ p,ρ n with
   | some a,some b=>aJN T σ pt a b
   | _,_=>.bad
  | _,_=>.bad
 | .builtin .panic=>match c.args.toList with
  | [x]=>match ρ x with
   | some (.iface t a)=>.pan (.iface t a) σ
   | _=>.bad
  | _=>.bad
 | _=>aAQ σ (gL T (.call c) ρ)
def nT (T:XT) (op:Op) (ρ:Operand→Option A) (σ:XS):XR :=
 match op with
 | .load t x=>aJc T t x ρ σ
 | .store t x y=>aIF T t x y ρ σ
 | .alloc t=>aIA T t ρ σ
 | .box t x=>aJx T t x ρ σ
 | .makeSlice t l c=>aJq T t l c ρ σ
 | .convert a b x=>cvX T σ a b x ρ
 | .panic x=>aIJ T x ρ σ
 | .range t x=>aIE T t x ρ σ
 | .next x str=>aI3 T x str ρ σ
 | .call c=>aI9 T c ρ σ
 | op=>aAQ σ (gL T op ρ)
inductive CR where
 | val (a:A) (σ:XS)
 | pan (a:A) (σ:XS)
 | bad
inductive OR where
 | ok (ε:Tr A) (σ:XS)
 | pan (a:A) (σ:XS)
 | bad
inductive CO where
 | ok (x:XK) (ε:Tr A) (σ:XS)
 | bad
def qB (n:Nat) (dst:Option Tmp) (ε:Tr A) (v:A):Option (Tr A):=match dst with
 | none=>some ε
 | some d=>match Nat.blt d n with
  | true=>some (ε.set d v)
  | false=>none
def doX (T:XT) (F:FuncId→List A→XS→CR) (n:Nat) (dst:Option Tmp) (op:Op) (ε:Tr A) (σ:XS):OR :=
 match nT T op (mZ T ε) σ with
 | .val a σ'=>match qB n dst ε a with
  | some ε'=>.ok ε' σ'
  | none=>.bad
 | .pan a σ'=>.pan a σ'
 | .call f az=>match F f az σ with
  | .val a σ'=>match qB n dst ε a with
   | some ε'=>.ok ε' σ'
   | none=>.bad
  | .pan a σ'=>.pan a σ'
  | .bad=>.bad
 | .bad=>.bad
def aFJ (T:XT) (F:FuncId→List A→XS→CR) (n:Nat) (ds:List (Option Tmp)) (o:Oper) (ε:Tr A) (σ:XS):OR :=
 match o.guard with
 | none=>doX T F n o.dst o.op ε σ
 | some (j,want)=>match jV ds j with
  | none=>.bad
  | some t=>match ε.get t with
   | some (.bool b)=>match b == want with
    | true=>doX T F n o.dst o.op ε σ
    | false=>match qB n o.dst ε (.tuple []) with
     | some ε'=>.ok ε' σ
     | none=>.bad
   | some (.tuple _)=>match qB n o.dst ε (.tuple []) with
    | some ε'=>.ok ε' σ
    | none=>.bad
   | _=>.bad
def aCH (T:XT) (F:FuncId→List A→XS→CR) (n:Nat) (ds:List (Option Tmp)):List Oper→Tr A→XS→OR
 | [],ε,σ=>.ok ε σ
 | o::r,ε,σ=>match aFJ T F n ds o ε σ with
  | .ok ε' σ'=>aCH T F n ds r ε' σ'
  | x=>x
def oK (f:A→A→Bool):List A→List A→Bool
 | [],[]=>true
 | a::l,b::m=>f a b&&oK f l m
 | _,_=>false
def oJ:Nat→A→A→Bool
 | 0,_,_=>false
 | _+1,.int k a,.int j b=>decide (k=j)&&decide (a=b)
 | _+1,.bool a,.bool b=>a == b
 | _+1,.str a,.str b=>decide (a=b)
 | _+1,.ptr a o,.ptr b p=>Nat.beq a b&&Nat.beq o p
 | f+1,.eptr a o,.eptr b p=>oK (oJ f) a b&&Nat.beq o p
 | _+1,.nilp,.nilp=>true
 | _+1,.nils,.nils=>true
 | f+1,.list t a,.list u b=>decide (t=u)&&oK (oJ f) a b
 | f+1,.agg a,.agg b=>oK (oJ f) a b
 | f+1,.fn i a c,.fn j b d=>decide (i=j)&&oK (oJ f) a b&&oK (oJ f) c d
 | _+1,.nilf,.nilf=>true
 | f+1,.iface t a,.iface u b=>decide (t=u)&&oJ f a b
 | _+1,.nili,.nili=>true
 | f+1,.tuple a,.tuple b=>oK (oJ f) a b
 | _+1,.ml a o m,.ml b p n=>Nat.beq a b&&Nat.beq o p&&Nat.beq m n
 | _+1,.emp,.emp=>true
 | f+1,.sd t a,.sd u b=>decide (t=u)&&oK (oJ f) a b
 | _+1,.gr t m,.gr u n=>Nat.beq t u&&Nat.beq m n
 | f+1,.hl a,.hl b=>oJ f a b
 | f+1,.pen t a m,.pen u b n=>Nat.beq t u&&oK (oJ f) a b&&Nat.beq m n
 | _+1,.rm t m k,.rm u n l=>Nat.beq t u&&Nat.beq m n&&Nat.beq k l
 | _,_,_=>false
def wQ (a b:A):Bool:=oJ 60 a b
theorem aEX {f:A→A→Bool} (hf:∀ a b,f a b=true→a=b):∀ l m,oK f l m=true→l=m
 | [],[],_=>rfl
 | a::l,b::m,h=>by
  simp only[oK,bT] at h;rw[hf _ _ h.1,aEX hf l m h.2]
 | [],_::_,h=>by simp[oK] at h
 | _::_,[],h=>by simp[oK] at h
theorem uJ:∀ (f:Nat) (a b:A),oJ f a b=true→a=b
 | 0,a,b,h=>by simp[oJ] at h
 | f+1,a,b,h=>by
  have ih:=aEX (uJ f);cases a<;>cases b<;>simp only[oJ,bT,eC,beq_iff_eq,bN] at h
  case int=>rw[h.1,h.2]
  case bool=>rw[h]
  case str=>rw[h]
  case ptr=>rw[cC h.1,cC h.2]
  case eptr=>rw[ih _ _ h.1,cC h.2]
  case nilp=>rfl
  case nils=>rfl
  case list=>rw[h.1,ih _ _ h.2]
  case agg=>rw[ih _ _ h]
  case fn=>rw[h.1.1,ih _ _ h.1.2,ih _ _ h.2]
  case nilf=>rfl
  case iface=>rw[h.1,uJ f _ _ h.2]
  case nili=>rfl
  case tuple=>rw[ih _ _ h]
  case ml=>rw[cC h.1.1,cC h.1.2,cC h.2]
  case emp=>rfl
  case sd=>rw[h.1,ih _ _ h.2]
  case gr=>rw[cC h.1,cC h.2]
  case hl=>rw[uJ f _ _ h]
  case pen=>rw[cC h.1.1,ih _ _ h.1.2,cC h.2]
  case rm=>rw[cC h.1.1,cC h.1.2,cC h.2]
def aAS:Ob→Ob→Bool
 | .cells e a,.cells f b=>Nat.beq e f&&oK wQ a b
 | .iter x p,.iter y q=>decide (x=y)&&Nat.beq p q
 | _,_=>false
theorem aO2 (a b:Ob) (h:aAS a b=true):a=b:=by
 cases a<;>cases b<;>simp only[aAS,bT,eC,bN] at h
 ·rw[cC h.1,aEX (uJ 60) _ _ h.2]
 ·rw[h.1,cC h.2]
def zA {α:Type} (f:α→α→Bool):Option α→Option α→Bool
 | none,none=>true
 | some a,some b=>f a b
 | _,_=>false
def pK {α:Type} (f:α→α→Bool):Tr α→Tr α→Bool
 | .lf,.lf=>true
 | .nd l v r,.nd l' v' r'=>pK f l l'&&zA f v v'&&pK f r r'
 | _,_=>false
theorem aIB {α:Type} {f:α→α→Bool} (hf:∀ a b,f a b=true→a=b) (a b:Option α) (h:zA f a b=true):a=b:=by
 cases a<;>cases b<;>simp only[zA,bN] at h
 ·rfl
 ·rw[hf _ _ h]
theorem aAw {α:Type} {f:α→α→Bool} (hf:∀ a b,f a b=true→a=b):∀ (t u:Tr α),pK f t u=true→t=u
 | .lf,.lf,_=>rfl
 | .nd l v r,.nd l' v' r',h=>by
  simp only[pK,bT] at h;rw[aAw hf l l' h.1.1,aIB hf v v' h.1.2,aAw hf r r' h.2]
 | .lf,.nd ..,h=>by simp[pK] at h
 | .nd ..,.lf,h=>by simp[pK] at h
def aFq:OR→OR→OR
 | .ok ε σ,.ok ε' σ'=>match pK wQ ε ε'&&pK aAS σ.bx σ'.bx&&pK (fun a b=>decide (a=b)) σ.tk σ'.tk&&Nat.beq σ.lim σ'.lim&&zA (fun a b=>Nat.beq a.1 b.1&&Nat.beq a.2.1 b.2.1&&wQ a.2.2 b.2.2) σ.ls σ'.ls with
  | true=>.ok ε σ
  | false=>.bad
 | .pan a σ,.pan b σ'=>match wQ a b&&pK aAS σ.bx σ'.bx&&pK (fun a b=>decide (a=b)) σ.tk σ'.tk&&Nat.beq σ.lim σ'.lim&&zA (fun a b=>Nat.beq a.1 b.1&&Nat.beq a.2.1 b.2.1&&wQ a.2.2 b.2.2) σ.ls σ'.ls with
  | true=>.pan a σ
  | false=>.bad
 | _,_=>.bad
abbrev WX:=List (Nat × (TypeId × Nat × Nat × A))
def aAy (T:XT) (t:TypeId) (b o:Nat) (σ:XS):Option A:=match σ.bx.get b with
 | some (.cells _ cs)=>qX T t cs o
 | _=>none
def wO (T:XT) (ms:List Nat) (σ:XS):WX→Bool
 | []=>true
 | (m,t,b,o,v)::W=>(match ms.elem m with
  | true=>(match aAy T t b o σ with
   | some u=>wQ u v
   | none=>false)
  | false=>true)&&wO T ms σ W
inductive SR where
 | ok (W:WX) (ε:Tr A) (σ:XS)
 | pan (a:A) (σ:XS)
 | bad
def sC (n:Nat) (dst:Option Tmp) (W:WX) (ε:Tr A) (σ:XS) (a:A):SR:=match qB n dst ε a with
 | some ε'=>.ok W ε' σ
 | none=>.bad
def aJL (n:Nat) (dst:Option Tmp) (W:WX) (ε:Tr A) (σ:XS):Option A→SR
 | some v=>sC n dst W ε σ v
 | none=>.bad
def aCq (T:XT) (n:Nat) (i:Nat) (dst:Option Tmp) (op:Op) (W:WX) (ε:Tr A) (σ:XS):SR :=
 match op with
 | .load t x=>match mZ T ε x with
  | some (.ptr b o)=>match aAy T t b o σ with
   | some v=>sC n dst ((i,t,b,o,v)::W) ε σ v
   | none=>.bad
  | some (.eptr cs o)=>match qX T t cs o with
   | some v=>sC n dst W ε σ v
   | none=>.bad
  | _=>.bad
 | op=>aJL n dst W ε σ (gL T op (mZ T ε))
def aFz (T:XT) (F:FuncId→List A→XS→CR) (n:Nat) (ms:List Nat) (dst:Option Tmp) (op:Op) (W:WX) (ε:Tr A) (σ:XS):SR :=
 match nT T op (mZ T ε) σ with
 | .val a σ'=>match wO T ms σ' W with
  | true=>sC n dst W ε σ' a
  | false=>.bad
 | .pan a σ'=>.pan a σ'
 | .call f az=>match F f az σ with
  | .val a σ'=>match wO T ms σ' W with
   | true=>sC n dst W ε σ' a
   | false=>.bad
  | .pan a σ'=>.pan a σ'
  | .bad=>.bad
 | .bad=>.bad
def aCw (T:XT) (F:FuncId→List A→XS→CR) (n:Nat) (ms:List Nat) (i:Nat) (dst:Option Tmp) (op:Op) (W:WX) (ε:Tr A) (σ:XS):SR :=
 match iO op with
 | true=>aFz T F n ms dst op W ε σ
 | false=>aCq T n i dst op W ε σ
def vA (T:XT) (F:FuncId→List A→XS→CR) (n:Nat) (ds:List (Option Tmp)) (ms:List Nat) (i:Nat) (o:Oper) (W:WX) (ε:Tr A) (σ:XS):SR :=
 match o.guard with
 | none=>aCw T F n ms i o.dst o.op W ε σ
 | some (j,want)=>match jV ds j with
  | none=>.bad
  | some t=>match ε.get t with
   | some (.bool b)=>match b == want with
    | true=>aCw T F n ms i o.dst o.op W ε σ
    | false=>sC n o.dst W ε σ (.tuple [])
   | some (.tuple _)=>sC n o.dst W ε σ (.tuple [])
   | _=>.bad
def aCx (T:XT) (ε:Tr A) (a b:Oper):Bool :=
 match a.dst,a.guard,a.op,b.dst,b.guard,b.op with
 | none,none,.store _ x _,none,none,.store _ x' y'=>match mZ T ε x,mZ T ε x',mZ T ε y' with
  | some (.rm k m z),some (.ptr _ _),some (.pen k' es z')=>Nat.beq k k'&&Nat.beq m es.length&&Nat.beq z z'
  | _,_,_=>false
 | _,_,_,_,_,_=>false
def wG (T:XT) (F:FuncId→List A→XS→CR) (n:Nat) (ds:List (Option Tmp)) (ops:List Oper) (E:List (Nat × List Nat)):OT→WX→Tr A→XS→OR
 | .nil,_,ε,σ=>.ok ε σ
 | .node i r,W,ε,σ=>match jB ops i with
  | none=>.bad
  | some o=>match vA T F n ds (nO E i) i o W ε σ with
   | .ok W' ε' σ'=>wG T F n ds ops E r W' ε' σ'
   | .pan a σ'=>.pan a σ'
   | .bad=>.bad
 | .alt a b,W,ε,σ=>aFq (wG T F n ds ops E a W ε σ) (wG T F n ds ops E b W ε σ)
 | .pair i j,W,ε,σ=>match jB ops i,jB ops j with
  | some a,some b=>match aCx T ε a b with
   | true=>match vA T F n ds (nO E i) i a W ε σ with
    | .ok W' ε' σ'=>match vA T F n ds (nO E j) j b W' ε' σ' with
     | .ok _ ε' σ'=>.ok ε' σ'
     | .pan a σ'=>.pan a σ'
     | .bad=>.bad
    | .pan a σ'=>.pan a σ'
    | .bad=>.bad
   | false=>.bad
  | _,_=>.bad
structure FX where
 code:Code
 n:Nat
 rs:List ResultVar
 df:Bool
structure XP where
 T:XT
 fns:FuncId→Option FX
 ext:FuncId→Option (List A→XS→CR)
 ord:Nat→Nat→Option (OT × List (Nat × List Nat))
 hd:FuncId
 ft:TypeId
def wH:Nat→List A→Tr A→Tr A
 | _,[],ε=>ε
 | k,a::r,ε=>wH (k+1) r (ε.set k a)
def tO (T:XT) (ε:Tr A) (σ:XS):List ResultVar→Option (List A)
 | []=>some []
 | .tmp t::r=>match ε.get t,tO T ε σ r with
  | some a,some l=>some (a::l)
  | _,_=>none
 | .cell p t::r=>match ε.get p,tO T ε σ r with
  | some (.ptr b o),some l=>match σ.bx.get b with
   | some (.cells _ cs)=>match qX T t cs o with
    | some a=>some (a::l)
    | none=>none
   | _=>none
  | _,_=>none
def tP (X:XP) (rs:List ResultVar) (x:XK) (ε:Tr A) (σ:XS):CR:=match x with
 | .normal=>match tO X.T ε σ rs with
  | some l=>.val (rC l) σ
  | none=>.bad
 | .ret=>match tO X.T ε σ rs with
  | some l=>.val (rC l) σ
  | none=>.bad
 | .panic a=>.pan a σ
 | _=>.bad
inductive DO where
 | ok (x:XK) (ε:Tr A) (σ:XS) (d:Option Nat)
 | bad
def aAn:Code→Option (FuncId × Operand)
 | .region _ ops draw=>match draw with
  | true=>none
  | false=>match ops.toList with
   | [o]=>match o.dst,o.guard,o.op with
    | none,none,.defer c=>match c.callee,c.args.toList with
     | .value (.func h),[x]=>some (h,x)
     | _,_=>none
    | _,_,_=>none
   | _=>none
 | _=>none
def yU (X:XP) (rec:Code→Tr A→XS→CO):Code→Tr A→XS→DO
 | .seq c d,ε,σ=>match aAn c with
  | some (h,x)=>match Nat.beq h X.hd,mZ X.T ε x with
   | true,some (.ptr b 0)=>match rec d ε σ with
    | .ok x ε σ=>.ok x ε σ (some b)
    | .bad=>.bad
   | _,_=>.bad
  | none=>match rec c ε σ with
   | .ok x ε σ=>match x with
    | .normal=>yU X rec d ε σ
    | x=>.ok x ε σ none
   | .bad=>.bad
 | c,ε,σ=>match rec c ε σ with
  | .ok x ε σ=>.ok x ε σ none
  | .bad=>.bad
def aJT (X:XP) (rs:List ResultVar):DO→CR
 | .ok x ε σ d=>match d with
  | none=>tP X rs x ε σ
  | some b=>match x with
   | .panic a=>match a with
    | .iface t v=>match v with
     | .agg fs=>match σ.bx.get b with
      | some (.cells e cs)=>match Nat.beq t X.ft&&Nat.beq e X.ft&&Nat.beq fs.length cs.length&&(match X.T.tt X.ft with|some ti=>Nat.beq ti.sz fs.length|none=>false) with
       | true=>tP X rs .ret ε ((σ.newO (.cells e fs)).setO b (.cells e fs))
       | false=>.bad
      | _=>.bad
     | _=>.bad
    | _=>.bad
   | x=>tP X rs x ε σ
 | .bad=>.bad
def uR (X:XP) (rec:FuncId→Nat→Code→Tr A→XS→CO) (f:FuncId) (az:List A) (σ:XS):CR :=
 match X.ext f with
 | some h=>h az σ
 | none=>match X.fns f with
  | none=>.bad
  | some fx=>match Nat.ble az.length fx.n with
   | true=>match fx.df with
    | false=>match rec f fx.n fx.code (wH 0 az .lf) σ with
     | .ok x ε' σ'=>tP X fx.rs x ε' σ'
     | .bad=>.bad
    | true=>aJT X fx.rs (yU X (rec f fx.n) fx.code (wH 0 az .lf) σ)
   | false=>.bad
def uY:List (Option Tmp)→Tr A→Tr A
 | [],ε=>ε
 | none::r,ε=>uY r ε
 | some d::r,ε=>uY r (ε.del d)
theorem aEl:∀ (ds:List (Option Tmp)) (ε:Tr A) (t:Nat),(uY ds ε).get t=if ds.elem (some t) then none else ε.get t
 | [],ε,t=>by simp[uY]
 | none::r,ε,t=>by
  simp only[uY,aEl r,List.elem_cons];rfl
 | some d::r,ε,t=>by
  simp only[uY,aEl r,Tr.get_del,List.elem_cons];by_cases h:d=t
  ·subst h;simp
  ·have h':(some t == some d)=false:=by simp;exact fun e=>h e.symm
   simp[h,h']
def aFH (ds:List (Option Tmp)) (ε0:Tr A):OR→CO
 | .ok ε σ=>.ok .normal ε σ
 | .pan a σ=>.ok (.panic a) (uY ds ε0) σ
 | .bad=>.bad
def aCv (r:CO) (k:Tr A→XS→CO):CO:=match r with
 | .ok x ε σ=>match x with
  | .normal=>k ε σ
  | x=>.ok x ε σ
 | .bad=>.bad
def aFA (i:Nat) (r:CO):CO:=match r with
 | .ok x ε σ=>match x with
  | .exit j=>match Nat.beq j i with
   | true=>.ok .normal ε σ
   | false=>.ok (.exit j) ε σ
  | x=>.ok x ε σ
 | .bad=>.bad
def aJK (a:Option A) (k:Bool→CO):CO:=match a with
 | some (.bool b)=>k b
 | _=>.bad
def aJA (X:XP) (F:FuncId→List A→XS→CR) (fi n id:Nat) (ops:Array Oper) (ε:Tr A) (σ:XS):CO:=match X.ord fi id with
 | some (t,E)=>aFH (ops.toList.map (·.dst)) ε (wG X.T F n (ops.toList.map (·.dst)) ops.toList E t [] ε σ)
 | none=>.bad
def kZ (X:XP):Nat→FuncId→Nat→Code→Tr A→XS→CO
 | 0,_,_,_,_,_=>.bad
 | f+1,fi,n,c,ε,σ=>match c with
  | .skip=>.ok .normal ε σ
  | .label _=>.ok .normal ε σ
  | .exit i=>.ok (.exit i) ε σ
  | .goto i=>.ok (.goto i) ε σ
  | .ret=>.ok .ret ε σ
  | .seq c d=>aCv (kZ X f fi n c ε σ) (fun ε σ=>kZ X f fi n d ε σ)
  | .block i c=>aFA i (kZ X f fi n c ε σ)
  | .cond c x y=>aJK (mZ X.T ε c) (fun b=>match b with
   | true=>kZ X f fi n x ε σ
   | false=>kZ X f fi n y ε σ)
  | .region id ops draw=>match draw with
   | false=>aFH (ops.toList.map (·.dst)) ε (aCH X.T (uR X (kZ X f)) n (ops.toList.map (·.dst)) ops.toList ε σ)
   | true=>aJA X (uR X (kZ X f)) fi n id ops ε σ
  | .loop c=>aCv (kZ X f fi n c ε σ) (fun ε σ=>kZ X f fi n (.loop c) ε σ)
  | _=>.bad
def aFC (X:XP) (fuel:Nat) (f:FuncId) (az:List A):CR:=uR X (kZ X fuel) f az ⟨.lf,.lf,0,none⟩
section
structure Sim (s:St) (σ:XS):Prop where
 ob:∀ b,s.getO b=σ.bx.get b
 tk:∀ t,s.getT t=σ.tk.get t
 lim:s.lim=σ.lim
 ls:s.ls=σ.ls
def SimE (e:Env) (ε:Tr A):Prop:=∀ t,e.get t=ε.get t
theorem Sim.newO {s:St} {σ:XS} (h:Sim s σ) (o:Ob):Sim (s.newO o) (σ.newO o) :=
 ⟨fun b=>by rw[xC];simp only[XS.newO,Tr.get_set];rw[h.lim,h.ob],fun t=>by exact h.tk t,by simp only[St.newO,XS.newO,h.lim],h.ls⟩
theorem Sim.newT {s:St} {σ:XS} (h:Sim s σ) (o:Nat × TypeId):Sim (s.newT o) (σ.newT o) :=
 ⟨fun b=>by exact h.ob b,fun t=>by rw[aBa];simp only[XS.newT,Tr.get_set];rw[h.lim,h.tk],by simp only[St.newT,XS.newT,h.lim],h.ls⟩
theorem Sim.setO {s:St} {σ:XS} (h:Sim s σ) (b:Nat) (o:Ob):Sim (s.setO b o) (σ.setO b o) :=
 ⟨fun c=>by rw[aJ];simp only[XS.setO,Tr.get_set];rw[h.ob],fun t=>by exact h.tk t,h.lim,h.ls⟩
theorem Sim.setT {s:St} {σ:XS} (h:Sim s σ) (b:Nat) (o:Nat × TypeId):Sim (s.setT b o) (σ.setT b o) :=
 ⟨fun c=>by exact h.ob c,fun t=>by rw[cO];simp only[XS.setT,Tr.get_set];rw[h.tk],h.lim,h.ls⟩
theorem Sim.setL {s:St} {σ:XS} (h:Sim s σ) (x:Option (Nat × Nat × A)):Sim (s.setL x) (σ.setL x):=⟨h.ob,h.tk,h.lim,rfl⟩
theorem Sim.delT {s:St} {σ:XS} (h:Sim s σ) (t:Nat):Sim (s.delT t) (σ.delT t) :=
 ⟨fun c => by exact h.ob c,fun u => by
  rw[qJ];simp only[XS.delT,Tr.get_del,h.tk];by_cases hu:u=t
  ·subst hu;simp
  ·have:¬ t=u:=fun e=>hu e.symm
   simp[hu,this],h.lim,h.ls⟩
theorem SimE.put {e:Env} {ε:Tr A} (h:SimE e ε) (d:Nat) (v:A):SimE (e.put d v) (ε.set d v):=fun t=>by
 rw[lH,Tr.get_set,h t]
def XR.to (C:Cx) (s:St) (KV Kp:St→A→Prop):XR→Prop
 | .val a σ'=>∀ s',Sim s' σ'→KV s' a
 | .pan a σ'=>∀ s',Sim s' σ'→Kp s' a
 | .call f az=>Den C f az KV Kp s
 | .bad=>False
def CR.to (KV Kp:St→A→Prop):CR→Prop
 | .val a σ'=>∀ s',Sim s' σ'→KV s' a
 | .pan a σ'=>∀ s',Sim s' σ'→Kp s' a
 | .bad=>False
def OR.to (K:Env→St→Prop) (Kp:St→A→Prop):OR→Prop
 | .ok ε σ=>∀ e s,SimE e ε→Sim s σ→K e s
 | .pan a σ=>∀ s,Sim s σ→Kp s a
 | .bad=>False
def CO.to (Q:XK→Env→St→Prop):CO→Prop
 | .ok x ε σ=>∀ e s,SimE e ε→Sim s σ→Q x e s
 | .bad=>False
section
variable {T:XT} {C:Cx} {ρ:Operand→Option A} {s:St} {σ:XS} {KV Kp:St→A→Prop}
theorem yE (hT:T.ok C) {e:Env} {ε:Tr A} (h:SimE e ε):eF C e=mZ T ε:=by
 funext x;cases x with
 | tmp t=>exact h t
 | const v=>rfl
 | global g =>
  simp only[eF,mZ,hT.gl];cases C.gl g<;>rfl
 | func f=>rfl
theorem aIi (hT:T.ok C) (hs:Sim s σ) {op:Op} (h:(aAQ σ (gL T op ρ)).to C s KV Kp):aX C op ρ KV Kp s:=by
 cases hv:gL T op ρ with
 | none=>rw[hv] at h;exact h.elim
 | some v =>
  rw[hv] at h;exact yB (aEK hT hv (h s hs))
theorem aON (hT:T.ok C) {ti:TI} {u e:TypeId} (h:aFF T ti u=some e):zB C ti u=some e:=by
 unfold aFF at h;split at h
 ·rename_i e0 hk;split at h
  ·rename_i tu te htu hte;simp only[zB,hk,hT.tt _ _ htu,hT.tt _ _ hte];exact h
  ·cases h
 ·cases h
theorem aNU (hd:C.det=true) (hs:Sim s σ) {e:TypeId} {bs:List UInt8} {a:A} (h:(aFu σ e bs a).to C s KV Kp):wE C s e bs KV a:=by
 cases a<;>simp only[aFu] at h<;>try exact h.elim
 case nils =>
  split at h
  ·rename_i hl;refine ⟨kP hl,?_⟩;have:=h _ (hs.newT (bs.length,e));simp only[newT,hd,hs.lim];exact this
  ·exact h.elim
 case list tk es =>
  cases tk with
  | none=>exact h.elim
  | some t' =>
   simp only at h;split at h
   ·rename_i n e' hn;split at h
    ·rename_i hl;simp only[bT] at hl;have e1:=cC hl.1.1.1;have e2:=cC hl.1.1.2;subst e1 e2;exact ⟨⟨by rw[hs.tk];exact hn,xI hl.1.2,kP hl.2⟩,h _ (hs.setT _ _)⟩
    ·exact h.elim
   ·exact h.elim
theorem aNA (hT:T.ok C) (hd:C.det=true) (hs:Sim s σ) {ti:TI} {u:TypeId} {n:Int} {a:A} (h:(aFn T σ ti u n a).to C s KV Kp):uX C s ti u n KV a:=by
 cases a<;>simp only[aFn] at h<;>try exact h.elim
 split at h
 ·rename_i e hk;split at h
  ·rename_i te tu hte htu;split at h
   ·rename_i k hku;split at h
    ·rename_i hc;simp only[uX,hk,hT.tt _ _ hte,hT.tt _ _ htu,hku];refine ⟨hc,?_⟩;have:=h _ (hs.newT (0,e));simp only[wI,hd,hs.lim];exact this
    ·exact h.elim
   ·exact h.elim
  ·exact h.elim
 ·exact h.elim
theorem aHY (hT:T.ok C) (hs:Sim s σ) {ti:TI} {t u:TypeId} {a:A} (h:(aCE T σ ti t u a).to C s KV Kp):tJ C s ti t u KV a:=by
 unfold aCE at h;split at h
 ·rename_i e hk;split at h
  ·rename_i te hte;split at h
   ·rename_i hu;have hu':=cC hu;split at h
    all_goals first
     | exact h.elim
     | (simp only[tJ,hk,hT.tt _ _ hte];exact ⟨hu',h s hs⟩)
   ·exact h.elim
  ·exact h.elim
 ·exact h.elim
theorem aNe (hT:T.ok C) (hd:C.det=true) (hs:Sim s σ) {ti:TI} {t u:TypeId} {z a:A} (h:(aFt T σ ti t u z a).to C s KV Kp):tM C s ti t u z KV a:=by
 unfold aFt at h;split at h
 ·rename_i e hk;split at h
  ·rename_i te hte;split at h
   ·rename_i hc;simp only[bT,mM] at hc;simp only[tM,hk,hT.tt _ _ hte];refine ⟨⟨cC hc.1.1.1,(fun h0=>by have:=hc.1.1.2;rw[h0] at this;cases this),kP hc.1.2,cC hc.2⟩,?_⟩;split at h
    ·have:=h _ (hs.newT (0,e));simp only[qZ,hd,hs.lim];exact this
    ·split at h
     ·split at h
      ·rename_i n e' hn;split at h
       ·rename_i hl;simp only[bT] at hl;have e1:=cC hl.1.1.1;have e2:=cC hl.1.1.2;subst e1 e2;refine ⟨⟨by rw[hs.tk];exact hn,xI hl.1.2,kP hl.2⟩,?_⟩;have:=h _ ((hs.delT _).newT _);have hlim:∀ q,(s.delT q).lim=σ.lim:=fun _=>hs.lim
        simp only[qZ,hd,hlim];exact this
       ·exact h.elim
      ·exact h.elim
     ·exact h.elim
    ·exact h.elim
   ·exact h.elim
  ·exact h.elim
 ·exact h.elim
theorem aOM (hs:Sim s σ) (a:A):iG s a=aFB σ a:=by
 cases a<;>try rfl
 simp only[iG,aFB,hs.ls];cases σ.ls<;>rfl
theorem aPb (hT:T.ok C) (hs:Sim s σ) {k n z:Nat} {ti:TI} {v:A} (h:(rmX T σ k n z ti v).to C s KV Kp):qE C s k n z ti v KV:=by
 unfold rmX at h;split at h
 ·rename_i m e hm;split at h
  ·rename_i te hte;split at h
   ·rename_i hc;simp only[bT] at hc;simp only[qE,hs.tk k,hm,hT.tt _ _ hte];exact ⟨⟨cC hc.1.1.1.1,cC hc.1.1.1.2,cC hc.1.1.2,cC hc.1.2,hc.2⟩,h _ ((hs.setT _ _).setL _)⟩
   ·exact h.elim
  ·exact h.elim
 ·exact h.elim
theorem aJk (hT:T.ok C) (hd:C.det=true) (hs:Sim s σ) {op:Op} (h:(nT T op ρ σ).to C s KV Kp):aX C op ρ KV Kp s:=by
  have nb:∀ o:Ob,KV (s.newO o) (.ptr σ.lim 0)→pJ C s o (fun b=>.ptr b 0) KV:=fun o h=>by
    simp only[pJ,hd,hs.lim];exact h
  cases op
  case load t x =>
    simp only[nT,aJc] at h;split at h
    · rename_i b o hx
      split at h
      · rename_i e0 cs hb
        cases hv:qX T t cs o with
        | none=>rw[hv] at h;exact h.elim
        | some v =>
          rw[hv] at h;simp only[aX,hx,hs.ob b,hb,xV hT hv];exact h s hs
      · exact h.elim
    · rename_i cs o hx
      cases hv:qX T t cs o with
      | none=>rw[hv] at h;exact h.elim
      | some v =>
        rw[hv] at h;simp only[aX,hx,bF,xV hT hv];exact h s hs
    · exact h.elim
  case store t x y =>
    simp only[nT,aIF] at h;split at h
    · rename_i b o v ti hx hy hti
      split at h
      · rename_i e0 cs hb
        unfold stX at h;split at h
        · rename_i hc
          simp only[bT] at hc;simp only[aX,hx,hy,hT.tt _ _ hti,hs.ob b,hb,aOM hs];exact ⟨⟨cC hc.1.1,kP hc.1.2,hc.2⟩,h _ (hs.setO _ _)⟩
        · exact h.elim
      · exact h.elim
    · rename_i k n z v ti hx hy hti
      simp only[aX,hx,hy,hT.tt _ _ hti];exact aPb hT hs h
    · exact h.elim
  case alloc t =>
    simp only[nT,aIA] at h;split at h
    · rename_i ti hti
      simp only[aX,hT.tt _ _ hti,wD];exact nb _ (h _ (hs.newO _))
    · exact h.elim
  case box t x =>
    simp only[nT,aJx] at h;split at h
    · rename_i v hv
      split at h
      · rename_i h1
        simp only[aX,hv,wD];exact ⟨h1,nb _ (h _ (hs.newO _))⟩
      · exact h.elim
    · exact h.elim
  case convert a b x =>
    simp only[nT,cvX] at h;split at h
    · rename_i k hx
      split at h
      · rename_i e cs e' hb hcv
        rw[hT.cv] at hcv;split at h
        · rename_i te hte
          split at h
          · rename_i hc
            obtain ⟨rfl,hc⟩:=hc;simp only[aX,hx,hs.ob k,hb,hcv,hT.tt _ _ hte];exact ⟨⟨.inl trivial,hc⟩,h s hs⟩
          · exact h.elim
        · exact h.elim
      · exact h.elim
    · rename_i hne
      have key:bF C (.convert a b x) ρ (KV s):=by
        split at h
        · rename_i v hv;exact aEK hT hv (h s hs)
        · exact h.elim
      simp only[aX];exact key
  case makeSlice t l c =>
    simp only[nT,aJq] at h;split at h
    · rename_i kl n kc m ti hl hc hti
      split at h
      · rename_i e hk
        split at h
        · rename_i te hte
          split at h
          · rename_i hcond
            simp only[aX,hl,hc,hT.tt _ _ hti,hk,hT.tt _ _ hte];refine ⟨hcond,?_⟩;simp only[pJ,hd,hs.lim];exact h _ (hs.newO _)
          · exact h.elim
        · exact h.elim
      · exact h.elim
    · exact h.elim
  case panic x =>
    simp only[nT,aIJ] at h;split at h
    · rename_i t a hx
      simp only[aX,hx];exact h s hs
    · exact h.elim
  case range t x =>
    simp only[nT,aIE] at h;split at h
    · rename_i x' ti hx hti
      split at h
      · rename_i hk
        simp only[aX,hx,hT.tt _ _ hti,hk,aJM];exact nb _ (h _ (hs.newO _))
      · exact h.elim
    · exact h.elim
  case next x str =>
    simp only[nT,aI3] at h;split at h
    · split at h
      · rename_i b hx
        split at h
        · rename_i x' pos hb
          simp only[aX,hx,hs.ob b,hb,aAM];split at h
          · rename_i hp
            rw[if_pos (by simpa [Nat.blt_eq] using hp)];exact h _ (hs.setO _ _)
          · rename_i hp
            rw [if_neg (by intro hlt; have h2 : Nat.blt pos x'.length = true := by rw [Nat.blt_eq]; exact hlt
                           rw[h2] at hp;cases hp)]
            exact h s hs
        · exact h.elim
      · exact h.elim
    · exact h.elim
  case call c =>
    obtain ⟨cal,args,ats⟩:=c;obtain ⟨args⟩:=args;obtain ⟨ats⟩:=ats;have keep:=fun h'=>aIi (KV:=KV) (Kp:=Kp) (op:=.call ⟨cal,⟨args⟩,⟨ats⟩⟩) (ρ:=ρ) hT hs h'
    simp only[nT,aI9] at h;cases cal with
    | value f =>
      simp only at h;split at h
      · rename_i f' first caps az hf has
        simp only[aX,hf,has];exact h
      · exact h.elim
    | invoke r m=>exact keep h
    | builtin b =>
      cases b
      case append =>
        simp only at h;split at h
        · rename_i x y t u
          split at h
          · rename_i a tk ys ti hx hy hti
            split at h
            · rename_i e hk
              split at h
              · rename_i te hte
                split at h
                · rename_i hc
                  simp only[bT,mM] at hc;simp only[aX,hx,hy,hT.tt _ _ hti,hk,hT.tt _ _ hte];have h0:te.sz≠0:=fun e0=>by rw[e0] at hc;exact absurd hc.1.1.2 (by decide)
                  refine ⟨⟨cC hc.1.1.1,h0,kP hc.1.2⟩,xI hc.2,?_⟩;unfold sB;split at h
                  · split at h
                    · rename_i hl
                      refine ⟨kP hl,?_⟩;have:=h _ (hs.newT (ys.length,e));simp only[mY,newT,hd,hs.lim];exact this
                    · exact h.elim
                  · split at h
                    · rename_i hl
                      simp only[bT] at hl;have hl0:0<ys.length:=by have:=hl.2;rwa[Nat.blt_eq] at this
                      obtain ⟨y0,r0,rfl⟩:∃ y0 r0,ys=y0::r0:=by
                        cases ys with
                        | nil=>exact absurd hl0 (Nat.lt_irrefl _)
                        | cons y r=>exact ⟨y,r,rfl⟩
                      refine ⟨⟨kP hl.1,hl0⟩,?_⟩;have:=h _ (hs.newT ((y0::r0).length,e));simp only[mY,newT,hd,hs.lim];exact this
                    · exact h.elim
                  · rename_i t' es
                    split at h
                    · rename_i n e' hn
                      split at h
                      · rename_i hl
                        simp only[bT] at hl;have e1:=cC hl.1.1.1;have e2:=cC hl.1.1.2;subst e1 e2;exact ⟨by rw[hs.tk];exact hn,xI hl.1.2,kP hl.2,h _ (hs.setT _ _)⟩
                      · exact h.elim
                    · exact h.elim
                  · exact h.elim
                · exact h.elim
              · exact h.elim
            · exact h.elim
          · rename_i a bs ti hx hy hti
            split at h
            · rename_i e hE
              simp only[aX,hx,hy,hT.tt _ _ hti,aON hT hE];exact aNU hd hs h
            · exact h.elim
          · rename_i a n ti hx hy hti
            simp only[aX,hx,hy,hT.tt _ _ hti];exact aNA hT hd hs h
          · rename_i a ti hx hy hti
            simp only[aX,hx,hy,hT.tt _ _ hti];exact aHY hT hs h
          · rename_i a ti hx hy hti
            simp only[aX,hx,hy,hT.tt _ _ hti];exact aHY hT hs h
          · rename_i a z ti hx hy hti
            simp only[aX,hx,hy,hT.tt _ _ hti];exact aNe hT hd hs h
          · exact h.elim
        · exact h.elim
      case unsafeString =>
        simp only at h;split at h
        · rename_i p n pt u
          split at h
          · rename_i a b hp hn
            unfold aJN at h;split at h
            · rename_i m
              split at h
              · rename_i h0
                simp only[aX,hp,hn];exact ⟨h0,h s hs⟩
              · exact h.elim
            · rename_i t es m
              split at h
              · rename_i e he
                split at h
                · rename_i q e' hq
                  split at h
                  · rename_i hc
                    obtain ⟨rfl,rfl,rfl⟩:=hc;split at h
                    · rename_i bs hb
                      simp only[aX,hp,hn];rw[hT.us] at he;simp only[he];exact ⟨⟨trivial,by rw[hs.tk];exact hq⟩,bs,aGw _ _ hb,h _ (hs.delT _)⟩
                    · exact h.elim
                  · exact h.elim
                · exact h.elim
              · exact h.elim
            · exact h.elim
          · exact h.elim
        · exact h.elim
      case panic =>
        simp only at h;split at h
        · rename_i x
          split at h
          · rename_i t a hx
            simp only[aX,hx];exact h s hs
          · exact h.elim
        · exact h.elim
      all_goals exact keep h
  all_goals exact aIi hT hs h
theorem aCb {n:Nat} {dst:Option Tmp} {e:Env} {ε ε':Tr A} {a:A} {K:Env→St→Prop} (he:SimE e ε) (h:qB n dst ε a=some ε') (hK:∀ e',SimE e' ε'→K e' s):cG n dst K e s a:=by
 unfold qB at h;cases dst with
 | none=>simp only[bM] at h;subst h;exact hK e he
 | some d =>
  simp only at h;split at h
  ·rename_i hd;simp only[bM] at h;subst h;exact ⟨by simpa [Nat.blt_eq] using hd,hK _ (he.put d a)⟩
  ·cases h
def tW (C:Cx) (F:FuncId→List A→XS→CR):Prop:=∀ f az σ s KV Kp,Sim s σ→(F f az σ).to KV Kp→Den C f az KV Kp s
variable {F:FuncId→List A→XS→CR} {n:Nat} {e:Env} {ε:Tr A} {K:Env→St→Prop}
theorem aE4 (hT:T.ok C) (hd:C.det=true) (hF:tW C F) (he:SimE e ε) (hs:Sim s σ) {dst:Option Tmp} {op:Op} (h:(doX T F n dst op ε σ).to K Kp) :
  aX C op (eF C e) (cG n dst K e) Kp s:=by
 rw[yE hT he];refine aJk hT hd hs ?_;unfold doX at h;cases hv:nT T op (mZ T ε) σ with
 | val a σ' =>
  rw[hv] at h;simp only at h;cases hp:qB n dst ε a with
  | none=>rw[hp] at h;exact h.elim
  | some ε'=>rw[hp] at h;exact fun s' hs'=>aCb he hp fun e' he'=>h e' s' he' hs'
 | pan a σ'=>rw[hv] at h;exact h
 | call f az =>
  rw[hv] at h;simp only at h;refine hF f az σ s _ _ hs ?_;cases hc:F f az σ with
  | val a σ' =>
   rw[hc] at h;simp only at h;cases hp:qB n dst ε a with
   | none=>rw[hp] at h;exact h.elim
   | some ε'=>rw[hp] at h;exact fun s' hs'=>aCb he hp fun e' he'=>h e' s' he' hs'
  | pan a σ'=>rw[hc] at h;exact h
  | bad=>rw[hc] at h;exact h.elim
 | bad=>rw[hv] at h;exact h.elim
theorem SimE.same {t:Nat} {a:A} (he:SimE e ε) (h:ε.get t=some a):SimE (e.put t a) ε:=fun u=>by
 rw[lH];by_cases hu:t=u
 ·subst hu;simp[h]
 ·simp[hu,he u]
theorem aIt (hT:T.ok C) (hd:C.det=true) (hF:tW C F) {ds:List (Option Tmp)}:∀ (l:List Oper) (e:Env) (s:St) (ε:Tr A) (σ:XS),SimE e ε→Sim s σ →
  (aCH T F n ds l ε σ).to K Kp→fT C n ds l K Kp e s
 | [],e,s,ε,σ,he,hs,h=>h e s he hs
 | ⟨dst,op,ty,pos,after,gd⟩ :: r,e,s,ε,σ,he,hs,h => by
  have ih:=aIt hT hd hF (ds:=ds) r
  have next:∀ {o:OR},(match o with|.ok ε' σ'=>aCH T F n ds r ε' σ'|x=>x).to K Kp→o.to (fT C n ds r K Kp) Kp:=by
   intro o ho;cases o with
   | ok ε' σ'=>exact fun e' s' he' hs'=>ih e' s' ε' σ' he' hs' ho
   | pan a σ'=>exact ho
   | bad=>exact ho.elim
  have h':=next (o:=aFJ T F n ds ⟨dst,op,ty,pos,after,gd⟩ ε σ) h
  have pass:∀ {e:Env},SimE e ε→(match qB n dst ε (.tuple []) with|some ε'=>OR.ok ε' σ|none=>.bad).to (fT C n ds r K Kp) Kp→cG n dst (fT C n ds r K Kp) e s (.tuple []):=by
   intro e he h;cases hp:qB n dst ε (.tuple []) with
   | none=>rw[hp] at h;exact h.elim
   | some ε'=>rw[hp] at h;exact aCb he hp fun e' he'=>h e' s he' hs
  cases gd with
  | none=>exact aE4 hT hd hF he hs h'
  | some jw =>
   obtain ⟨j,want⟩:=jw;simp only[aFJ] at h';simp only[fT];cases ht:jV ds j with
   | none=>rw[ht] at h';exact h'.elim
   | some t =>
    rw[ht] at h';simp only at h' ⊢;rw[he t];cases hg:ε.get t with
    | none=>rw[hg] at h';exact h'.elim
    | some a =>
     rw[hg] at h';cases a<;>simp only at h' ⊢
     case bool b =>
      have he':=he.same hg;cases b<;>cases want<;>simp only[beq_self_eq_true,beq_iff_eq,Bool.false_beq,Bool.true_beq,dT,fD] at h' ⊢
      ·exact aE4 hT hd hF he' hs h'
      ·exact pass he' h'
      ·exact pass he' h'
      ·exact aE4 hT hd hF he' hs h'
     case tuple l=>exact pass he h'
     all_goals exact h'.elim
end
end
end Go.AV
