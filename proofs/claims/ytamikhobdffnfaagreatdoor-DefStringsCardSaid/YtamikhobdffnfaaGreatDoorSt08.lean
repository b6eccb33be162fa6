/-
  Of DefStrings.
-/
import Derived.Test.YtamikhobdffnfaaGreatDoorSt07
set_option linter.all false
set_option maxRecDepth 99999
set_option maxHeartbeats 0
namespace Go.AV
open Go Go.Proofs Tryz
section
structure XT.ok (T:XT) (C:Cx):Prop where
 tt:∀ t ti,T.tt t=some ti→C.tt t=some ti
 eq:∀ t a b r,T.eq t a b=some r→C.eq t a b=some r
 gl:∀ g,T.gl g=C.gl g
 cv:∀ a b,T.cv a b=C.cv a b
 us:∀ a,T.us a=C.us a
theorem aEG {n:Nat}:∀ {l:List A},zX n l=true→wZ n l
 | [],_=>trivial
 | x::r,h=>by
  simp only[zX,aZ] at h;exact ⟨⟨bH h.1.1,h.1.2⟩,aEG h.2⟩
theorem tF {n:Nat}:∀ {l:List A},qN n l=true→∀ x,x∈l→x.cells.length=n
 | [],_=>by simp
 | x::r,h=>by
  simp only[qN,aZ] at h;intro y hy;cases hy with
  | head=>exact bH h.1
  | tail _ hy=>exact tF h.2 y hy
section
variable {T:XT} {C:Cx} {ρ:Operand→Option A} {K:A→Prop}
theorem tP (hT:T.ok C) {t:TypeId} {cs:List A} {o:Nat} {v:A} (h:nT T t cs o=some v):nA C t cs o=some v:=by
 unfold nT at h;split at h
 ·rename_i ti hti;simp only[nA,hT.tt _ _ hti];split at h
  ·rename_i hag;rw[if_pos hag];split at h
   ·rename_i hl;rw[if_pos (iB hl)];exact h
   ·cases h
  ·rename_i hag;rw[if_neg (by simp[hag])];exact h
 ·cases h
theorem aGu {x:A} {lo hi:Option A} {v:A} (h:aAz x lo hi=some v) (hK:K v):nZ x lo hi K:=by
 unfold aAz at h;split at h
 ·split at h
  ·rename_i l hh e1 e2;split at h
   ·rename_i hc;cases h;simp only[nZ,e1,e2];exact ⟨hc,hK⟩
   ·cases h
  ·cases h
 ·split at h
  ·rename_i l hh e1 e2;split at h
   ·rename_i hc;cases h;simp only[nZ,e1,e2];exact ⟨hc,hK⟩
   ·cases h
  ·cases h
 ·cases h
theorem aCr (hT:T.ok C) {op:Op} {v:A} (h:eF T op ρ=some v) (hK:K v):aQ C op ρ K:=by
 cases op
 case move x=>simp only[eF,gR,gJ,gP,gD,gB,gI,gF,fT,fZ,gE,gG,gK,gA,gN,gL,gC,gM,gQ] at h;simp only[aQ,h];exact hK
 case assign x=>simp only[eF,gR,gJ,gP,gD,gB,gI,gF,fT,fZ,gE,gG,gK,gA,gN,gL,gC,gM,gQ] at h;simp only[aQ,h];exact hK
 case pick c a b =>
  simp only[eF,gR,gJ,gP,gD,gB,gI,gF,fT,fZ,gE,gG,gK,gA,gN,gL,gC,gM,gQ] at h;split at h
  ·rename_i c' hc;cases c'<;>simp only at h<;>simp only[aQ,hc,h]<;>exact hK
  ·cases h
 case binOp op t x y ty =>
  simp only[eF,gR,gJ,gP,gD,gB,gI,gF,fT,fZ,gE,gG,gK,gA,gN,gL,gC,gM,gQ] at h;split at h
  ·rename_i a b ha hb;simp only[aQ,ha,hb];cases hn:zU y
   ·rw[hn] at h;simp only at h ⊢;cases hd:uK op a b
    ·rw[hd] at h;simp only at h ⊢;split at h
     ·rename_i a' b';split at h
      ·rename_i hl;cases h;exact ⟨iB hl,hK⟩
      ·cases h
     ·rename_i hne;split
      ·rename_i a' b';exact (hne a' b' rfl rfl rfl).elim
      ·rw[h];exact hK
    ·rw[hd] at h;simp only at h ⊢;split at h
     ·rename_i r hr;rw[hT.eq _ _ _ _ hr];cases h;cases op<;>first|exact hK|(simp only[uK] at hd;cases hd)
     ·cases h
   ·rw[hn] at h;simp only at h ⊢;split at h
    ·rename_i ti hti;rw[hT.tt _ _ hti];simp only;split at h
     ·rename_i hk;simp only[hk,h];exact hK
     ·cases h
    ·cases h
  ·cases h
 case unOp op t x =>
  simp only[eF,gR,gJ,gP,gD,gB,gI,gF,fT,fZ,gE,gG,gK,gA,gN,gL,gC,gM,gQ] at h;split at h
  ·rename_i a ha;simp only[aQ,ha,h];exact hK
  ·cases h
 case nilCheck x =>
  simp only[eF,gR,gJ,gP,gD,gB,gI,gF,fT,fZ,gE,gG,gK,gA,gN,gL,gC,gM,gQ] at h;split at h
  ·rename_i hx;cases h;simp only[aQ,hx];exact hK
  ·rename_i hx;cases h;simp only[aQ,hx];exact hK
  ·cases h
 case fieldAddr t x f =>
  simp only[eF,gR,gJ,gP,gD,gB,gI,gF,fT,fZ,gE,gG,gK,gA,gN,gL,gC,gM,gQ] at h;split at h
  ·rename_i a ti ha hti;simp only[aQ,ha,hT.tt _ _ hti];split at h
   ·rename_i fs hk;simp only[hk];split at h
    ·rename_i off sz ag hf;simp only[hf];split at h
     ·cases h;exact hK
     ·cases h;exact hK
     ·cases h
    ·cases h
   ·cases h
  ·cases h
 case field t x f =>
  simp only[eF,gR,gJ,gP,gD,gB,gI,gF,fT,fZ,gE,gG,gK,gA,gN,gL,gC,gM,gQ] at h;split at h
  ·rename_i cs ti ha hti;simp only[aQ,ha,hT.tt _ _ hti];split at h
   ·rename_i fs hk;simp only[hk];split at h
    ·rename_i off sz ag hf;simp only[hf];cases ag
     ·simp only at h;rw[if_neg (by simp)];rw[h];exact hK
     ·simp only at h;rw[if_pos rfl];split at h
      ·rename_i hl;cases h;exact ⟨iB hl,hK⟩
      ·cases h
    ·cases h
   ·cases h
  ·cases h
 case typeAssert x xt t ok =>
  cases ok<;>simp only[eF,fT] at h
  ·cases h
  ·split at h
   ·rename_i u v ti hx hti;split at h
    ·rename_i fs hk;split at h
     ·rename_i hb;cases h;simp only[aQ,hx,hT.tt _ _ hti,hk];exact ⟨bH hb,hK⟩
     ·cases h
    ·cases h
   ·cases h
 case extract x i =>
  simp only[eF,gR,gJ,gP,gD,gB,gI,gF,fT,fZ,gE,gG,gK,gA,gN,gL,gC,gM,gQ] at h;split at h
  ·rename_i vs hx;simp only[aQ,hx,h];exact hK
  ·cases h
 case makeInterface t x =>
  simp only[eF,gR,gJ,gP,gD,gB,gI,gF,fT,fZ,gE,gG,gK,gA,gN,gL,gC,gM,gQ] at h;split at h
  ·rename_i a ti ha hti;simp only[aQ,ha,hT.tt _ _ hti];cases hk:ti.k<;>rw[hk] at h<;>simp only at h ⊢<;>cases h<;>exact hK
  ·cases h
 case makeFunc fn first caps =>
  cases fn<;>simp only[eF,gR,gJ,gP,gD,gB,gI,gF,fT,fZ,gE,gG,gK,gA,gN,gL,gC,gM,gQ] at h
  ·split at h
   ·rename_i l m hl hm;simp only[aQ,hl,hm];cases h;exact hK
   ·cases h
  all_goals cases h
 case convert a b x =>
  simp only[eF,gR,gJ,gP,gD,gB,gI,gF,fT,fZ,gE,gG,gK,gA,gN,gL,gC,gM,gQ] at h;split at h
  ·rename_i k n ta tb hx hta htb;simp only[aQ,hx,hT.tt _ _ hta,hT.tt _ _ htb];split at h
   ·rename_i k' hk;simp only[hk];cases h;exact hK
   ·cases h
  ·rename_i s ta tb hx hta htb;simp only[aQ,hx,hT.tt _ _ hta,hT.tt _ _ htb];split at h
   ·rename_i hk;simp only[hk];cases h;exact hK
   ·rename_i e hk;simp only[hk];split at h
    ·rename_i te hka hte;simp only[hka,hT.tt _ _ hte];split at h
     ·rename_i hkt;simp only[hkt];split at h
      ·rename_i hc;cases h;exact ⟨hc.1,hc.2,hK⟩
      ·cases h
     ·cases h
    ·cases h
   ·cases h
  ·cases h
 case build t parts =>
  simp only[eF,gR,gJ,gP,gD,gB,gI,gF,fT,fZ,gE,gG,gK,gA,gN,gL,gC,gM,gQ] at h;split at h
  ·rename_i ps ti hps hti;simp only[aQ,hps,hT.tt _ _ hti];split at h
   ·rename_i fs hk;simp only[hk,h];exact hK
   ·cases h
  ·cases h
 case buildSlice t len parts =>
  simp only[eF,gR,gJ,gP,gD,gB,gI,gF,fT,fZ,gE,gG,gK,gA,gN,gL,gC,gM,gQ] at h;split at h
  ·rename_i ps ti hps hti;simp only[aQ,hps,hT.tt _ _ hti];split at h
   ·rename_i e hk;simp only[hk];split at h
    ·rename_i te hte;simp only[hT.tt _ _ hte];split at h
     ·rename_i es hes;simp only[hes];split at h
      ·rename_i hc;cases h;refine ⟨⟨hc.1,hc.2.1,aEG hc.2.2⟩,?_⟩;cases hz:uN parts.toList<;>rw[hz] at hK<;>exact hK
      ·cases h
     ·cases h
    ·cases h
   ·cases h
  ·cases h
 case load t x =>
  simp only[eF,gR,gJ,gP,gD,gB,gI,gF,fT,fZ,gE,gG,gK,gA,gN,gL,gC,gM,gQ] at h;split at h
  ·rename_i cs o hx;simp only[aQ,hx,tP hT h];exact hK
  ·cases h
 case slice t x lo hi mx =>
  cases mx with
  | some m=>simp only[eF,gR,gJ,gP,gD,gB,gI,gF,fT,fZ,gE,gG,gK,gA,gN,gL,gC,gM,gQ] at h;cases h
  | none =>
   simp only[eF,gR,gJ,gP,gD,gB,gI,gF,fT,fZ,gE,gG,gK,gA,gN,gL,gC,gM,gQ] at h;split at h
   ·rename_i a l h' ti ha hlo hhi hti;simp only[aQ,ha,hlo,hhi,hT.tt _ _ hti];split at h
    ·rename_i hk;simp only[hk];split at h
     ·exact aGu h hK
     ·cases h
    ·rename_i e hk;simp only[hk];split at h
     ·rename_i tk es te hte;simp only[hT.tt _ _ hte];split at h
      ·rename_i hl;exact ⟨tF hl,aGu h hK⟩
      ·cases h
     ·rename_i te hte;simp only[hT.tt _ _ hte];split at h
      ·rename_i i j e1 e2;simp only[e1,e2];split at h
       ·rename_i hc;cases h;exact ⟨hc,hK⟩
       ·cases h
      ·cases h
     ·rename_i t0 n0 te hte;simp only[hT.tt _ _ hte];split at h
      ·rename_i i j e1 e2;simp only[e1,e2];split at h
       ·rename_i hc;cases h;exact ⟨hc,hK⟩
       ·cases h
      ·cases h
     ·rename_i b off n te hte;simp only[hT.tt _ _ hte];split at h
      ·rename_i i j e1 e2;simp only[e1,e2];split at h
       ·rename_i hc;cases h;exact ⟨hc,hK⟩
       ·cases h
      ·cases h
     ·cases h
    ·cases h
   ·cases h
 case indexAddr t x i =>
  simp only[eF,gR,gJ,gP,gD,gB,gI,gF,fT,fZ,gE,gG,gK,gA,gN,gL,gC,gM,gQ] at h;split at h
  ·rename_i a k n ti ha hi hti;simp only[aQ,ha,hi,hT.tt _ _ hti];split at h
   ·rename_i e hk;simp only[hk];split at h
    ·rename_i tk es;split at h
     ·rename_i te hte;simp only[hT.tt _ _ hte];split at h
      ·rename_i h0;split at h
       ·rename_i x hx;split at h
        ·rename_i hl;cases h;refine ⟨⟨h0,(dH.1 hx).1⟩,?_⟩;rw[hx];exact ⟨bH hl,hK⟩
        ·cases h
       ·cases h
      ·cases h
     ·cases h
    ·rename_i b off m;split at h
     ·rename_i te hte;simp only[hT.tt _ _ hte];split at h
      ·rename_i hc;cases h;exact ⟨hc,hK⟩
      ·cases h
     ·cases h
    ·rename_i t' es sz;split at h
     ·rename_i te hte;simp only[hT.tt _ _ hte];split at h
      ·rename_i hc;cases h;exact ⟨hc,hK⟩
      ·cases h
     ·cases h
    ·cases h
   ·rename_i m e hk;simp only[hk];split at h
    ·rename_i cs o;split at h
     ·rename_i te hte;simp only[hT.tt _ _ hte];split at h
      ·rename_i hc;cases h;exact ⟨hc,hK⟩
      ·cases h
     ·cases h
    ·cases h
   ·cases h
  ·cases h
 case index t x i =>
  simp only[eF,gR,gJ,gP,gD,gB,gI,gF,fT,fZ,gE,gG,gK,gA,gN,gL,gC,gM,gQ] at h;split at h
  ·rename_i s k n ti ha hi hti;simp only[aQ,ha,hi,hT.tt _ _ hti];split at h
   ·rename_i hk;simp only[hk];split at h
    ·rename_i h0;split at h
     ·rename_i c hc;cases h;refine ⟨⟨h0,(dH.1 hc).1⟩,?_⟩;rw[hc];exact hK
     ·cases h
    ·cases h
   ·cases h
  ·cases h
 case call c =>
  obtain ⟨cal,args,ats⟩:=c;obtain ⟨args⟩:=args;obtain ⟨ats⟩:=ats;simp only[eF,gR,gJ,gP,gD,gB,gI,gF,fT,fZ,gE,gG,gK,gA,gN,gL,gC,gM,gQ] at h;split at h
  ·rename_i x t;split at h
   ·rename_i a ti ha hti;simp only[aQ,ha,hT.tt _ _ hti];split at h
    ·rename_i hk;simp only[hk];split at h
     ·cases h;exact hK
     ·cases h
    ·rename_i e hk;simp only[hk];split at h<;>first|(cases h;exact hK)|cases h
    ·cases h
   ·cases h
  ·rename_i x;split at h
   ·rename_i tk y ys hx;simp only[aQ,hx];cases h;exact hK
   ·rename_i hx;simp only[aQ,hx];cases h;exact hK
   ·cases h
  ·rename_i x t;split at h
   ·rename_i ti hx hti;simp only[aQ,hx,hT.tt _ _ hti];split at h
    ·rename_i e hk;simp only[hk];cases h;exact hK
    ·cases h
   ·cases h
  ·rename_i x y;split at h
   ·rename_i j a k b hx hy;simp only[aQ,hx,hy];cases h;exact hK
   ·cases h
  ·rename_i x y;split at h
   ·rename_i j a k b hx hy;simp only[aQ,hx,hy];cases h;exact hK
   ·cases h
  ·cases h
 all_goals (simp only[eF,gR,gJ,gP,gD,gB,gI,gF,fT,fZ,gE,gG,gK,gA,gN,gL,gC,gM,gQ] at h;cases h)
end
end
def XS.newO (σ:XS) (o:Ob):XS:=⟨σ.bx.set σ.lim o,σ.tk,σ.lim+1,σ.ls⟩
def XS.newT (σ:XS) (n:Nat × TypeId):XS:=⟨σ.bx,σ.tk.set σ.lim n,σ.lim+1,σ.ls⟩
def XS.setO (σ:XS) (b:Nat) (o:Ob):XS:=⟨σ.bx.set b o,σ.tk,σ.lim,σ.ls⟩
def XS.setT (σ:XS) (b:Nat) (n:Nat × TypeId):XS:=⟨σ.bx,σ.tk.set b n,σ.lim,σ.ls⟩
def XS.setL (σ:XS) (x:Option (Nat × Nat × A)):XS:=⟨σ.bx,σ.tk,σ.lim,x⟩
def XS.delT (σ:XS) (t:Nat):XS:=⟨σ.bx,σ.tk.del t,σ.lim,σ.ls⟩
def bytesOf:List A→Option (List UInt8)
 | []=>some []
 | a::r=>match a with
  | .int k n=>match k with
   | .u8=>match n with
    | .ofNat m=>match Nat.blt m 256,bytesOf r with
     | true,some l=>some (UInt8.ofNat m::l)
     | _,_=>none
    | _=>none
   | _=>none
  | _=>none
theorem aEw:∀ (es:List A) (bs:List UInt8),bytesOf es=some bs→es=cS bs
 | [],bs,h=>by cases h;rfl
 | a::r,bs,h=>by
  simp only[bytesOf] at h;split at h
  ·split at h
   ·split at h
    ·rename_i m;split at h
     ·rename_i l hm hl;cases h;have:=aEw r l hl;rw[this];have hm':m<256:=by rwa[Nat.blt_eq] at hm
      simp[cS,Nat.mod_eq_of_lt hm']
     ·cases h
    ·cases h
   ·cases h
  ·cases h
def aDp (T:XT) (ti:TI) (u:TypeId):Option TypeId:=match ti.k with
 | .slice e=>match T.tt u,T.tt e with
  | some tu,some te=>match tu.k with
   | .string=>match te.k with
    | .int .u8=>if te.sz=1∧te.bytes=1 then some e else none
    | _=>none
   | _=>none
  | _,_=>none
 | _=>none
def aC8 (σ:XS) (e:TypeId) (bs:List UInt8):A→XR
 | .nils=>match Nat.ble bs.length 4294967296 with
  | true=>.val (.list (some σ.lim) (cS bs)) (σ.newT (bs.length,e))
  | false=>.bad
 | .list (some t) es=>match σ.tk.get t with
  | some (n,e')=>match Nat.beq n es.length&&Nat.beq e' e&&qN 1 es&&Nat.ble (es.length+bs.length) 4294967296 with
   | true=>.val (.list (some t) (es++cS bs)) (σ.setT t (es.length+bs.length,e))
   | false=>.bad
  | none=>.bad
 | _=>.bad
def aDd (T:XT) (σ:XS) (ti:TI) (u:TypeId) (n:Int):A→XR
 | .nils=>match ti.k with
  | .slice e=>match T.tt e,T.tt u with
   | some te,some tu=>match tu.k with
    | .int _=>if 0<n∧n≤65536∧te.sz≠0∧te.bytes≤32768 then .val (.gr σ.lim n.toNat) (σ.newT (0,e)) else .bad
    | _=>.bad
   | _,_=>.bad
  | _=>.bad
 | _=>.bad
def aAm (T:XT) (σ:XS) (ti:TI) (t u:TypeId) (a:A):XR:=match ti.k with
 | .slice e=>match T.tt e with
  | some _=>match Nat.beq u t with
   | true=>match a with
    | .nils=>.val .nils σ
    | .emp=>.val .emp σ
    | .list tk es=>.val (.list tk es) σ
    | .ml b o n=>.val (.ml b o n) σ
    | _=>.bad
   | false=>.bad
  | none=>.bad
 | _=>.bad
def aC1 (T:XT) (σ:XS) (ti:TI) (t u:TypeId) (z a:A):XR:=match ti.k with
 | .slice e=>match T.tt e with
  | some te=>match Nat.beq u t&&!(Nat.beq te.sz 0)&&Nat.ble te.bytes 32768&&Nat.beq z.cells.length te.sz with
   | true=>match a with
    | .nils=>.val (.pen σ.lim [] te.sz) (σ.newT (0,e))
    | .list tk es=>match tk with
     | some k=>match σ.tk.get k with
      | some (n,e')=>match Nat.beq n es.length&&Nat.beq e' e&&qN te.sz es&&Nat.ble (es.length+1) 4294967296 with
       | true=>.val (.pen σ.lim es te.sz) ((σ.delT k).newT (es.length,e))
       | false=>.bad
      | none=>.bad
     | none=>.bad
    | _=>.bad
   | false=>.bad
  | none=>.bad
 | _=>.bad
def aDl (σ:XS):A→A
 | .pen t es sz=>match σ.ls with
  | some q=>uX t es sz q
  | none=>.pen t es sz
 | a=>a
def rmX (T:XT) (σ:XS) (k n z:Nat) (ti:TI) (v:A):XR:=match σ.tk.get k with
 | some (m,e)=>match T.tt e with
  | some te=>match Nat.beq m n&&Nat.beq te.sz z&&Nat.beq ti.sz z&&Nat.beq v.cells.length z&&dU v.cells with
   | true=>.val (.tuple []) ((σ.setT k (n+1,e)).setL (some (k,n,v)))
   | false=>.bad
  | none=>.bad
 | none=>.bad
def aHt (T:XT) (σ:XS) (pt:TypeId):A→A→XR
 | .nilp,.int .i64 n=>if n=0 then .val (.str []) σ else .bad
 | .sd (some t) es,.int .i64 n=>match T.us pt with
  | some e=>match σ.tk.get t with
   | some (m,e')=>if n=es.length∧m=es.length∧e'=e then (match bytesOf es with
    | some bs=>.val (.str bs) (σ.delT t)
    | none=>.bad) else .bad
   | none=>.bad
  | none=>.bad
 | _,_=>.bad
def cvX (T:XT) (σ:XS) (a b:TypeId) (x:Operand) (ρ:Operand→Option A):XR :=
 match ρ x with
 | some (.ptr k 0)=>match σ.bx.get k,T.cv a b with
  | some (.cells e cs),some e'=>match T.tt e with
   | some te=>if e=e'∧te.sz≤cs.length then .val (.ptr k 0) σ else .bad
   | none=>.bad
  | _,_=>.bad
 | _=>match eF T (.convert a b x) ρ with
  | some v=>.val v σ
  | none=>.bad
def xH (σ:XS):Option A→XR
 | some v=>.val v σ
 | none=>.bad
def aPw (x:List UInt8) (pos:Nat):Nat × Nat:=Utf8.decode ⟨x.toArray⟩ pos
def aGV (T:XT) (t:TypeId) (x:Operand) (ρ:Operand→Option A) (σ:XS):XR :=
 match ρ x with
 | some (.ptr b o)=>match σ.bx.get b with
  | some (.cells _ cs)=>xH σ (nT T t cs o)
  | _=>.bad
 | some (.eptr cs o)=>xH σ (nT T t cs o)
 | _=>.bad
def stX (σ:XS) (b o:Nat) (ti:TI) (e:TypeId) (cs:List A) (v:A):XR:=match Nat.beq v.cells.length ti.sz&&Nat.ble (o+v.cells.length) cs.length&&dU v.cells with
 | true=>.val (.tuple []) (σ.setO b (.cells e (iW cs o v.cells)))
 | false=>.bad
def aGm (T:XT) (t:TypeId) (x:Operand) (y:Operand) (ρ:Operand→Option A) (σ:XS):XR :=
 match ρ x,ρ y,T.tt t with
 | some (.ptr b o),some v,some ti=>match σ.bx.get b with
  | some (.cells e cs)=>stX σ b o ti e cs (aDl σ v)
  | _=>.bad
 | some (.rm k n z),some v,some ti=>rmX T σ k n z ti v
 | _,_,_=>.bad
def aF1 (T:XT) (t:TypeId) (ρ:Operand→Option A) (σ:XS):XR :=
 match T.tt t with
 | some ti=>.val (.ptr σ.lim 0) (σ.newO (.cells t ti.zero))
 | none=>.bad
def aHe (T:XT) (t:TypeId) (x:Operand) (ρ:Operand→Option A) (σ:XS):XR :=
 match ρ x with
 | some v=>match dU v.cells with
  | true=>.val (.ptr σ.lim 0) (σ.newO (.cells t v.cells))
  | false=>.bad
 | none=>.bad
def aGK (T:XT) (t:TypeId) (l c:Operand) (ρ:Operand→Option A) (σ:XS):XR :=
 match ρ l,ρ c,T.tt t with
 | some (.int _ n),some (.int _ m),some ti=>match ti.k with
  | .slice e=>match T.tt e with
   | some te=>if n=m∧0<n∧te.sz=1∧te.bytes * n.toNat≤281474976710656∧n≤4294967296 then
     .val (.ml σ.lim 0 n.toNat) (σ.newO (.cells e (List.replicate n.toNat te.zero).flatten)) else .bad
   | none=>.bad
  | _=>.bad
 | _,_,_=>.bad
def aFO (T:XT) (x:Operand) (ρ:Operand→Option A) (σ:XS):XR :=
 match ρ x with
 | some (.iface t a)=>.pan (.iface t a) σ
 | _=>.bad
def aGp (T:XT) (t:TypeId) (x:Operand) (ρ:Operand→Option A) (σ:XS):XR :=
 match ρ x,T.tt t with
 | some (.str x),some ti=>match ti.k with
  | .string=>.val (.ptr σ.lim 0) (σ.newO (.iter x 0))
  | _=>.bad
 | _,_=>.bad
def aGA (T:XT) (x:Operand) (str:Bool) (ρ:Operand→Option A) (σ:XS):XR :=
 match str with
 | true=>match ρ x with
  | some (.ptr b 0)=>match σ.bx.get b with
   | some (.iter x pos)=>match Nat.blt pos x.length with
    | true=>match aPw x pos with
     | (c,k)=>.val (.tuple [.bool true,.int .i64 pos,.int .i32 c]) (σ.setO b (.iter x (pos+k)))
    | false=>.val (.tuple [.bool false]) σ
   | _=>.bad
  | _=>.bad
 | false=>.bad
def aGL (T:XT) (c:Call) (ρ:Operand→Option A) (σ:XS):XR :=
 match c.callee with
 | .value f=>match ρ f,iI ρ c.args.toList with
  | some (.fn f first caps),some az=>.call f (first++az++caps)
  | _,_=>.bad
 | .builtin .append=>match c.args.toList,c.argTypes.toList with
  | [x,y],[t,u] => match ρ x,ρ y,T.tt t with
   | some a,some (.list _ ys),some ti=>match ti.k with
    | .slice e=>match T.tt e with
     | some te=>match Nat.beq u t&&!(Nat.beq te.sz 0)&&Nat.ble te.bytes 32768&&qN te.sz ys with
      | true=>match a with
       | .nils=>match Nat.ble ys.length 4294967296 with
        | true=>.val (.list (some σ.lim) ys) (σ.newT (ys.length,e))
        | false=>.bad
       | .emp=>match Nat.ble ys.length 4294967296&&Nat.blt 0 ys.length with
        | true=>.val (.list (some σ.lim) ys) (σ.newT (ys.length,e))
        | false=>.bad
       | .list (some t) es=>match σ.tk.get t with
        | some (n,e')=>match Nat.beq n es.length&&Nat.beq e' e&&qN te.sz es&&Nat.ble (es.length+ys.length) 4294967296 with
         | true=>.val (.list (some t) (es++ys)) (σ.setT t (es.length+ys.length,e))
         | false=>.bad
        | none=>.bad
       | _=>.bad
      | false=>.bad
     | none=>.bad
    | _=>.bad
   | some a,some (.str bs),some ti=>match aDp T ti u with
    | some e=>aC8 σ e bs a
    | none=>.bad
   | some a,some (.int .i64 n),some ti=>aDd T σ ti u n a
   | some a,some .nils,some ti=>aAm T σ ti t u a
   | some a,some .emp,some ti=>aAm T σ ti t u a
   | some a,some (.hl z),some ti=>aC1 T σ ti t u z a
   | _,_,_=>.bad
  | _,_=>.bad
 | .builtin .unsafeString=>match c.args.toList,c.argTypes.toList with
  | [p,n],[pt,_]=>match ρ p,ρ n with
   | some a,some b=>aHt T σ pt a b
   | _,_=>.bad
  | _,_=>.bad
 | .builtin .panic=>match c.args.toList with
  | [x]=>match ρ x with
   | some (.iface t a)=>.pan (.iface t a) σ
   | _=>.bad
  | _=>.bad
 | _=>xH σ (eF T (.call c) ρ)
def kR (T:XT) (op:Op) (ρ:Operand→Option A) (σ:XS):XR :=
 match op with
 | .load t x=>aGV T t x ρ σ
 | .store t x y=>aGm T t x y ρ σ
 | .alloc t=>aF1 T t ρ σ
 | .box t x=>aHe T t x ρ σ
 | .makeSlice t l c=>aGK T t l c ρ σ
 | .convert a b x=>cvX T σ a b x ρ
 | .panic x=>aFO T x ρ σ
 | .range t x=>aGp T t x ρ σ
 | .next x str=>aGA T x str ρ σ
 | .call c=>aGL T c ρ σ
 | op=>xH σ (eF T op ρ)
inductive CR where
 | val (a:A) (σ:XS)
 | pan (a:A) (σ:XS)
 | bad
inductive OR where
 | ok (ε:Tr A) (σ:XS)
 | pan (a:A) (σ:XS)
 | bad
inductive CO where
 | ok (x:XK) (ε:Tr A) (σ:XS)
 | bad
def nD (n:Nat) (dst:Option Tmp) (ε:Tr A) (v:A):Option (Tr A):=match dst with
 | none=>some ε
 | some d=>match Nat.blt d n with
  | true=>some (ε.set d v)
  | false=>none
def doX (T:XT) (F:FuncId→List A→XS→CR) (n:Nat) (dst:Option Tmp) (op:Op) (ε:Tr A) (σ:XS):OR :=
 match kR T op (jX T ε) σ with
 | .val a σ'=>match nD n dst ε a with
  | some ε'=>.ok ε' σ'
  | none=>.bad
 | .pan a σ'=>.pan a σ'
 | .call f az=>match F f az σ with
  | .val a σ'=>match nD n dst ε a with
   | some ε'=>.ok ε' σ'
   | none=>.bad
  | .pan a σ'=>.pan a σ'
  | .bad=>.bad
 | .bad=>.bad
def aDr (T:XT) (F:FuncId→List A→XS→CR) (n:Nat) (ds:List (Option Tmp)) (o:Oper) (ε:Tr A) (σ:XS):OR :=
 match o.guard with
 | none=>doX T F n o.dst o.op ε σ
 | some (j,want)=>match gS ds j with
  | none=>.bad
  | some t=>match ε.get t with
   | some (.bool b)=>match b == want with
    | true=>doX T F n o.dst o.op ε σ
    | false=>match nD n o.dst ε (.tuple []) with
     | some ε'=>.ok ε' σ
     | none=>.bad
   | some (.tuple _)=>match nD n o.dst ε (.tuple []) with
    | some ε'=>.ok ε' σ
    | none=>.bad
   | _=>.bad
def aAq (T:XT) (F:FuncId→List A→XS→CR) (n:Nat) (ds:List (Option Tmp)):List Oper→Tr A→XS→OR
 | [],ε,σ=>.ok ε σ
 | o::r,ε,σ=>match aDr T F n ds o ε σ with
  | .ok ε' σ'=>aAq T F n ds r ε' σ'
  | x=>x
def lJ (f:A→A→Bool):List A→List A→Bool
 | [],[]=>true
 | a::l,b::m=>f a b&&lJ f l m
 | _,_=>false
def lM:Nat→A→A→Bool
 | 0,_,_=>false
 | _+1,.int k a,.int j b=>decide (k=j)&&decide (a=b)
 | _+1,.bool a,.bool b=>a == b
 | _+1,.str a,.str b=>decide (a=b)
 | _+1,.ptr a o,.ptr b p=>Nat.beq a b&&Nat.beq o p
 | f+1,.eptr a o,.eptr b p=>lJ (lM f) a b&&Nat.beq o p
 | _+1,.nilp,.nilp=>true
 | _+1,.nils,.nils=>true
 | f+1,.list t a,.list u b=>decide (t=u)&&lJ (lM f) a b
 | f+1,.agg a,.agg b=>lJ (lM f) a b
 | f+1,.fn i a c,.fn j b d=>decide (i=j)&&lJ (lM f) a b&&lJ (lM f) c d
 | _+1,.nilf,.nilf=>true
 | f+1,.iface t a,.iface u b=>decide (t=u)&&lM f a b
 | _+1,.nili,.nili=>true
 | f+1,.tuple a,.tuple b=>lJ (lM f) a b
 | _+1,.ml a o m,.ml b p n=>Nat.beq a b&&Nat.beq o p&&Nat.beq m n
 | _+1,.emp,.emp=>true
 | f+1,.sd t a,.sd u b=>decide (t=u)&&lJ (lM f) a b
 | _+1,.gr t m,.gr u n=>Nat.beq t u&&Nat.beq m n
 | f+1,.hl a,.hl b=>lM f a b
 | f+1,.pen t a m,.pen u b n=>Nat.beq t u&&lJ (lM f) a b&&Nat.beq m n
 | _+1,.rm t m k,.rm u n l=>Nat.beq t u&&Nat.beq m n&&Nat.beq k l
 | _,_,_=>false
def sT (a b:A):Bool:=lM 60 a b
theorem aCs {f:A→A→Bool} (hf:∀ a b,f a b=true→a=b):∀ l m,lJ f l m=true→l=m
 | [],[],_=>rfl
 | a::l,b::m,h=>by
  simp only[lJ,aZ] at h;rw[hf _ _ h.1,aCs hf l m h.2]
 | [],_::_,h=>by simp[lJ] at h
 | _::_,[],h=>by simp[lJ] at h
theorem qM:∀ (f:Nat) (a b:A),lM f a b=true→a=b
 | 0,a,b,h=>by simp[lM] at h
 | f+1,a,b,h=>by
  have ih:=aCs (qM f);cases a<;>cases b<;>simp only[lM,aZ,cG,beq_iff_eq,bR] at h
  case int=>rw[h.1,h.2]
  case bool=>rw[h]
  case str=>rw[h]
  case ptr=>rw[bH h.1,bH h.2]
  case eptr=>rw[ih _ _ h.1,bH h.2]
  case nilp=>rfl
  case nils=>rfl
  case list=>rw[h.1,ih _ _ h.2]
  case agg=>rw[ih _ _ h]
  case fn=>rw[h.1.1,ih _ _ h.1.2,ih _ _ h.2]
  case nilf=>rfl
  case iface=>rw[h.1,qM f _ _ h.2]
  case nili=>rfl
  case tuple=>rw[ih _ _ h]
  case ml=>rw[bH h.1.1,bH h.1.2,bH h.2]
  case emp=>rfl
  case sd=>rw[h.1,ih _ _ h.2]
  case gr=>rw[bH h.1,bH h.2]
  case hl=>rw[qM f _ _ h]
  case pen=>rw[bH h.1.1,ih _ _ h.1.2,bH h.2]
  case rm=>rw[bH h.1.1,bH h.1.2,bH h.2]
def xE:Ob→Ob→Bool
 | .cells e a,.cells f b=>Nat.beq e f&&lJ sT a b
 | .iter x p,.iter y q=>decide (x=y)&&Nat.beq p q
 | _,_=>false
theorem aLQ (a b:Ob) (h:xE a b=true):a=b:=by
 cases a<;>cases b<;>simp only[xE,aZ,cG,bR] at h
 ·rw[bH h.1,aCs (qM 60) _ _ h.2]
 ·rw[h.1,bH h.2]
def uW {α:Type} (f:α→α→Bool):Option α→Option α→Bool
 | none,none=>true
 | some a,some b=>f a b
 | _,_=>false
def mH {α:Type} (f:α→α→Bool):Tr α→Tr α→Bool
 | .lf,.lf=>true
 | .nd l v r,.nd l' v' r'=>mH f l l'&&uW f v v'&&mH f r r'
 | _,_=>false
theorem aFU {α:Type} {f:α→α→Bool} (hf:∀ a b,f a b=true→a=b) (a b:Option α) (h:uW f a b=true):a=b:=by
 cases a<;>cases b<;>simp only[uW,bR] at h
 ·rfl
 ·rw[hf _ _ h]
theorem wJ {α:Type} {f:α→α→Bool} (hf:∀ a b,f a b=true→a=b):∀ (t u:Tr α),mH f t u=true→t=u
 | .lf,.lf,_=>rfl
 | .nd l v r,.nd l' v' r',h=>by
  simp only[mH,aZ] at h;rw[wJ hf l l' h.1.1,aFU hf v v' h.1.2,wJ hf r r' h.2]
 | .lf,.nd ..,h=>by simp[mH] at h
 | .nd ..,.lf,h=>by simp[mH] at h
def aC3:OR→OR→OR
 | .ok ε σ,.ok ε' σ'=>match mH sT ε ε'&&mH xE σ.bx σ'.bx&&mH (fun a b=>decide (a=b)) σ.tk σ'.tk&&Nat.beq σ.lim σ'.lim&&uW (fun a b=>Nat.beq a.1 b.1&&Nat.beq a.2.1 b.2.1&&sT a.2.2 b.2.2) σ.ls σ'.ls with
  | true=>.ok ε σ
  | false=>.bad
 | .pan a σ,.pan b σ'=>match sT a b&&mH xE σ.bx σ'.bx&&mH (fun a b=>decide (a=b)) σ.tk σ'.tk&&Nat.beq σ.lim σ'.lim&&uW (fun a b=>Nat.beq a.1 b.1&&Nat.beq a.2.1 b.2.1&&sT a.2.2 b.2.2) σ.ls σ'.ls with
  | true=>.pan a σ
  | false=>.bad
 | _,_=>.bad
abbrev WX:=List (Nat × (TypeId × Nat × Nat × A))
def wP (T:XT) (t:TypeId) (b o:Nat) (σ:XS):Option A:=match σ.bx.get b with
 | some (.cells _ cs)=>nT T t cs o
 | _=>none
def sS (T:XT) (ms:List Nat) (σ:XS):WX→Bool
 | []=>true
 | (m,t,b,o,v)::W=>(match ms.elem m with
  | true=>(match wP T t b o σ with
   | some u=>sT u v
   | none=>false)
  | false=>true)&&sS T ms σ W
inductive SR where
 | ok (W:WX) (ε:Tr A) (σ:XS)
 | pan (a:A) (σ:XS)
 | bad
def oU (n:Nat) (dst:Option Tmp) (W:WX) (ε:Tr A) (σ:XS) (a:A):SR:=match nD n dst ε a with
 | some ε'=>.ok W ε' σ
 | none=>.bad
def aG9 (n:Nat) (dst:Option Tmp) (W:WX) (ε:Tr A) (σ:XS):Option A→SR
 | some v=>oU n dst W ε σ v
 | none=>.bad
def aAl (T:XT) (n:Nat) (i:Nat) (dst:Option Tmp) (op:Op) (W:WX) (ε:Tr A) (σ:XS):SR :=
 match op with
 | .load t x=>match jX T ε x with
  | some (.ptr b o)=>match wP T t b o σ with
   | some v=>oU n dst ((i,t,b,o,v)::W) ε σ v
   | none=>.bad
  | some (.eptr cs o)=>match nT T t cs o with
   | some v=>oU n dst W ε σ v
   | none=>.bad
  | _=>.bad
 | op=>aG9 n dst W ε σ (eF T op (jX T ε))
def aDu (T:XT) (F:FuncId→List A→XS→CR) (n:Nat) (ms:List Nat) (dst:Option Tmp) (op:Op) (W:WX) (ε:Tr A) (σ:XS):SR :=
 match kR T op (jX T ε) σ with
 | .val a σ'=>match sS T ms σ' W with
  | true=>oU n dst W ε σ' a
  | false=>.bad
 | .pan a σ'=>.pan a σ'
 | .call f az=>match F f az σ with
  | .val a σ'=>match sS T ms σ' W with
   | true=>oU n dst W ε σ' a
   | false=>.bad
  | .pan a σ'=>.pan a σ'
  | .bad=>.bad
 | .bad=>.bad
def aAk (T:XT) (F:FuncId→List A→XS→CR) (n:Nat) (ms:List Nat) (i:Nat) (dst:Option Tmp) (op:Op) (W:WX) (ε:Tr A) (σ:XS):SR :=
 match fI op with
 | true=>aDu T F n ms dst op W ε σ
 | false=>aAl T n i dst op W ε σ
def rB (T:XT) (F:FuncId→List A→XS→CR) (n:Nat) (ds:List (Option Tmp)) (ms:List Nat) (i:Nat) (o:Oper) (W:WX) (ε:Tr A) (σ:XS):SR :=
 match o.guard with
 | none=>aAk T F n ms i o.dst o.op W ε σ
 | some (j,want)=>match gS ds j with
  | none=>.bad
  | some t=>match ε.get t with
   | some (.bool b)=>match b == want with
    | true=>aAk T F n ms i o.dst o.op W ε σ
    | false=>oU n o.dst W ε σ (.tuple [])
   | some (.tuple _)=>oU n o.dst W ε σ (.tuple [])
   | _=>.bad
def aAb (T:XT) (ε:Tr A) (a b:Oper):Bool :=
 match a.dst,a.guard,a.op,b.dst,b.guard,b.op with
 | none,none,.store _ x _,none,none,.store _ x' y'=>match jX T ε x,jX T ε x',jX T ε y' with
  | some (.rm k m z),some (.ptr _ _),some (.pen k' es z')=>Nat.beq k k'&&Nat.beq m es.length&&Nat.beq z z'
  | _,_,_=>false
 | _,_,_,_,_,_=>false
def sK (T:XT) (F:FuncId→List A→XS→CR) (n:Nat) (ds:List (Option Tmp)) (ops:List Oper) (E:List (Nat × List Nat)):OT→WX→Tr A→XS→OR
 | .nil,_,ε,σ=>.ok ε σ
 | .node i r,W,ε,σ=>match fX ops i with
  | none=>.bad
  | some o=>match rB T F n ds (kO E i) i o W ε σ with
   | .ok W' ε' σ'=>sK T F n ds ops E r W' ε' σ'
   | .pan a σ'=>.pan a σ'
   | .bad=>.bad
 | .alt a b,W,ε,σ=>aC3 (sK T F n ds ops E a W ε σ) (sK T F n ds ops E b W ε σ)
 | .pair i j,W,ε,σ=>match fX ops i,fX ops j with
  | some a,some b=>match aAb T ε a b with
   | true=>match rB T F n ds (kO E i) i a W ε σ with
    | .ok W' ε' σ'=>match rB T F n ds (kO E j) j b W' ε' σ' with
     | .ok _ ε' σ'=>.ok ε' σ'
     | .pan a σ'=>.pan a σ'
     | .bad=>.bad
    | .pan a σ'=>.pan a σ'
    | .bad=>.bad
   | false=>.bad
  | _,_=>.bad
structure FX where
 code:Code
 n:Nat
 rs:List ResultVar
 df:Bool
structure XP where
 T:XT
 fns:FuncId→Option FX
 ext:FuncId→Option (List A→XS→CR)
 ord:Nat→Nat→Option (OT × List (Nat × List Nat))
 hd:FuncId
 ft:TypeId
def sL:Nat→List A→Tr A→Tr A
 | _,[],ε=>ε
 | k,a::r,ε=>sL (k+1) r (ε.set k a)
def pS (T:XT) (ε:Tr A) (σ:XS):List ResultVar→Option (List A)
 | []=>some []
 | .tmp t::r=>match ε.get t,pS T ε σ r with
  | some a,some l=>some (a::l)
  | _,_=>none
 | .cell p t::r=>match ε.get p,pS T ε σ r with
  | some (.ptr b o),some l=>match σ.bx.get b with
   | some (.cells _ cs)=>match nT T t cs o with
    | some a=>some (a::l)
    | none=>none
   | _=>none
  | _,_=>none
def pR (X:XP) (rs:List ResultVar) (x:XK) (ε:Tr A) (σ:XS):CR:=match x with
 | .normal=>match pS X.T ε σ rs with
  | some l=>.val (nW l) σ
  | none=>.bad
 | .ret=>match pS X.T ε σ rs with
  | some l=>.val (nW l) σ
  | none=>.bad
 | .panic a=>.pan a σ
 | _=>.bad
inductive DO where
 | ok (x:XK) (ε:Tr A) (σ:XS) (d:Option Nat)
 | bad
def wM:Code→Option (FuncId × Operand)
 | .region _ ops draw=>match draw with
  | true=>none
  | false=>match ops.toList with
   | [o]=>match o.dst,o.guard,o.op with
    | none,none,.defer c=>match c.callee,c.args.toList with
     | .value (.func h),[x]=>some (h,x)
     | _,_=>none
    | _,_,_=>none
   | _=>none
 | _=>none
def uP (X:XP) (rec:Code→Tr A→XS→CO):Code→Tr A→XS→DO
 | .seq c d,ε,σ=>match wM c with
  | some (h,x)=>match Nat.beq h X.hd,jX X.T ε x with
   | true,some (.ptr b 0)=>match rec d ε σ with
    | .ok x ε σ=>.ok x ε σ (some b)
    | .bad=>.bad
   | _,_=>.bad
  | none=>match rec c ε σ with
   | .ok x ε σ=>match x with
    | .normal=>uP X rec d ε σ
    | x=>.ok x ε σ none
   | .bad=>.bad
 | c,ε,σ=>match rec c ε σ with
  | .ok x ε σ=>.ok x ε σ none
  | .bad=>.bad
def aHo (X:XP) (rs:List ResultVar):DO→CR
 | .ok x ε σ d=>match d with
  | none=>pR X rs x ε σ
  | some b=>match x with
   | .panic a=>match a with
    | .iface t v=>match v with
     | .agg fs=>match σ.bx.get b with
      | some (.cells e cs)=>match Nat.beq t X.ft&&Nat.beq e X.ft&&Nat.beq fs.length cs.length&&(match X.T.tt X.ft with|some ti=>Nat.beq ti.sz fs.length|none=>false) with
       | true=>pR X rs .ret ε ((σ.newO (.cells e fs)).setO b (.cells e fs))
       | false=>.bad
      | _=>.bad
     | _=>.bad
    | _=>.bad
   | x=>pR X rs x ε σ
 | .bad=>.bad
def qU (X:XP) (rec:FuncId→Nat→Code→Tr A→XS→CO) (f:FuncId) (az:List A) (σ:XS):CR :=
 match X.ext f with
 | some h=>h az σ
 | none=>match X.fns f with
  | none=>.bad
  | some fx=>match Nat.ble az.length fx.n with
   | true=>match fx.df with
    | false=>match rec f fx.n fx.code (sL 0 az .lf) σ with
     | .ok x ε' σ'=>pR X fx.rs x ε' σ'
     | .bad=>.bad
    | true=>aHo X fx.rs (uP X (rec f fx.n) fx.code (sL 0 az .lf) σ)
   | false=>.bad
def qX:List (Option Tmp)→Tr A→Tr A
 | [],ε=>ε
 | none::r,ε=>qX r ε
 | some d::r,ε=>qX r (ε.del d)
theorem aBX:∀ (ds:List (Option Tmp)) (ε:Tr A) (t:Nat),(qX ds ε).get t=if ds.elem (some t) then none else ε.get t
 | [],ε,t=>by simp[qX]
 | none::r,ε,t=>by
  simp only[qX,aBX r,List.elem_cons];rfl
 | some d::r,ε,t=>by
  simp only[qX,aBX r,Tr.get_del,List.elem_cons];by_cases h:d=t
  ·subst h;simp
  ·have h':(some t == some d)=false:=by simp;exact fun e=>h e.symm
   simp[h,h']
def aDm (ds:List (Option Tmp)) (ε0:Tr A):OR→CO
 | .ok ε σ=>.ok .normal ε σ
 | .pan a σ=>.ok (.panic a) (qX ds ε0) σ
 | .bad=>.bad
def aAf (r:CO) (k:Tr A→XS→CO):CO:=match r with
 | .ok x ε σ=>match x with
  | .normal=>k ε σ
  | x=>.ok x ε σ
 | .bad=>.bad
def aDq (i:Nat) (r:CO):CO:=match r with
 | .ok x ε σ=>match x with
  | .exit j=>match Nat.beq j i with
   | true=>.ok .normal ε σ
   | false=>.ok (.exit j) ε σ
  | x=>.ok x ε σ
 | .bad=>.bad
def aHd (a:Option A) (k:Bool→CO):CO:=match a with
 | some (.bool b)=>k b
 | _=>.bad
def aHc (X:XP) (F:FuncId→List A→XS→CR) (fi n id:Nat) (ops:Array Oper) (ε:Tr A) (σ:XS):CO:=match X.ord fi id with
 | some (t,E)=>aDm (ops.toList.map (·.dst)) ε (sK X.T F n (ops.toList.map (·.dst)) ops.toList E t [] ε σ)
 | none=>.bad
def iP (X:XP):Nat→FuncId→Nat→Code→Tr A→XS→CO
 | 0,_,_,_,_,_=>.bad
 | f+1,fi,n,c,ε,σ=>match c with
  | .skip=>.ok .normal ε σ
  | .label _=>.ok .normal ε σ
  | .exit i=>.ok (.exit i) ε σ
  | .goto i=>.ok (.goto i) ε σ
  | .ret=>.ok .ret ε σ
  | .seq c d=>aAf (iP X f fi n c ε σ) (fun ε σ=>iP X f fi n d ε σ)
  | .block i c=>aDq i (iP X f fi n c ε σ)
  | .cond c x y=>aHd (jX X.T ε c) (fun b=>match b with
   | true=>iP X f fi n x ε σ
   | false=>iP X f fi n y ε σ)
  | .region id ops draw=>match draw with
   | false=>aDm (ops.toList.map (·.dst)) ε (aAq X.T (qU X (iP X f)) n (ops.toList.map (·.dst)) ops.toList ε σ)
   | true=>aHc X (qU X (iP X f)) fi n id ops ε σ
  | .loop c=>aAf (iP X f fi n c ε σ) (fun ε σ=>iP X f fi n (.loop c) ε σ)
  | _=>.bad
def aDf (X:XP) (fuel:Nat) (f:FuncId) (az:List A):CR:=qU X (iP X fuel) f az ⟨.lf,.lf,0,none⟩
section
structure Sim (s:St) (σ:XS):Prop where
 ob:∀ b,s.getO b=σ.bx.get b
 tk:∀ t,s.getT t=σ.tk.get t
 lim:s.lim=σ.lim
 ls:s.ls=σ.ls
def SimE (e:Env) (ε:Tr A):Prop:=∀ t,e.get t=ε.get t
theorem Sim.newO {s:St} {σ:XS} (h:Sim s σ) (o:Ob):Sim (s.newO o) (σ.newO o) :=
 ⟨fun b=>by rw[sZ];simp only[XS.newO,Tr.get_set];rw[h.lim,h.ob],fun t=>by exact h.tk t,by simp only[St.newO,XS.newO,h.lim],h.ls⟩
theorem Sim.newT {s:St} {σ:XS} (h:Sim s σ) (o:Nat × TypeId):Sim (s.newT o) (σ.newT o) :=
 ⟨fun b=>by exact h.ob b,fun t=>by rw[xV];simp only[XS.newT,Tr.get_set];rw[h.lim,h.tk],by simp only[St.newT,XS.newT,h.lim],h.ls⟩
theorem Sim.setO {s:St} {σ:XS} (h:Sim s σ) (b:Nat) (o:Ob):Sim (s.setO b o) (σ.setO b o) :=
 ⟨fun c=>by rw[aE];simp only[XS.setO,Tr.get_set];rw[h.ob],fun t=>by exact h.tk t,h.lim,h.ls⟩
theorem Sim.setT {s:St} {σ:XS} (h:Sim s σ) (b:Nat) (o:Nat × TypeId):Sim (s.setT b o) (σ.setT b o) :=
 ⟨fun c=>by exact h.ob c,fun t=>by rw[bT];simp only[XS.setT,Tr.get_set];rw[h.tk],h.lim,h.ls⟩
theorem Sim.setL {s:St} {σ:XS} (h:Sim s σ) (x:Option (Nat × Nat × A)):Sim (s.setL x) (σ.setL x):=⟨h.ob,h.tk,h.lim,rfl⟩
theorem Sim.delT {s:St} {σ:XS} (h:Sim s σ) (t:Nat):Sim (s.delT t) (σ.delT t) :=
 ⟨fun c => by exact h.ob c,fun u => by
  rw[mN];simp only[XS.delT,Tr.get_del,h.tk];by_cases hu:u=t
  ·subst hu;simp
  ·have:¬ t=u:=fun e=>hu e.symm
   simp[hu,this],h.lim,h.ls⟩
theorem SimE.put {e:Env} {ε:Tr A} (h:SimE e ε) (d:Nat) (v:A):SimE (e.put d v) (ε.set d v):=fun t=>by
 rw[iU,Tr.get_set,h t]
def XR.to (C:Cx) (s:St) (KV Kp:St→A→Prop):XR→Prop
 | .val a σ'=>∀ s',Sim s' σ'→KV s' a
 | .pan a σ'=>∀ s',Sim s' σ'→Kp s' a
 | .call f az=>Den C f az KV Kp s
 | .bad=>False
def CR.to (KV Kp:St→A→Prop):CR→Prop
 | .val a σ'=>∀ s',Sim s' σ'→KV s' a
 | .pan a σ'=>∀ s',Sim s' σ'→Kp s' a
 | .bad=>False
def OR.to (K:Env→St→Prop) (Kp:St→A→Prop):OR→Prop
 | .ok ε σ=>∀ e s,SimE e ε→Sim s σ→K e s
 | .pan a σ=>∀ s,Sim s σ→Kp s a
 | .bad=>False
def CO.to (Q:XK→Env→St→Prop):CO→Prop
 | .ok x ε σ=>∀ e s,SimE e ε→Sim s σ→Q x e s
 | .bad=>False
section
variable {T:XT} {C:Cx} {ρ:Operand→Option A} {s:St} {σ:XS} {KV Kp:St→A→Prop}
theorem tY (hT:T.ok C) {e:Env} {ε:Tr A} (h:SimE e ε):cT C e=jX T ε:=by
 funext x;cases x with
 | tmp t=>exact h t
 | const v=>rfl
 | global g =>
  simp only[cT,jX,hT.gl];cases C.gl g<;>rfl
 | func f=>rfl
theorem aFT (hT:T.ok C) (hs:Sim s σ) {op:Op} (h:(xH σ (eF T op ρ)).to C s KV Kp):aJ C op ρ KV Kp s:=by
 cases hv:eF T op ρ with
 | none=>rw[hv] at h;exact h.elim
 | some v =>
  rw[hv] at h;exact uA (aCr hT hv (h s hs))
theorem aLH (hT:T.ok C) {ti:TI} {u e:TypeId} (h:aDp T ti u=some e):rC C ti u=some e:=by
 unfold aDp at h;split at h
 ·rename_i e0 hk;split at h
  ·rename_i tu te htu hte;simp only[rC,hk,hT.tt _ _ htu,hT.tt _ _ hte];exact h
  ·cases h
 ·cases h
theorem aKw (hd:C.det=true) (hs:Sim s σ) {e:TypeId} {bs:List UInt8} {a:A} (h:(aC8 σ e bs a).to C s KV Kp):rE C s e bs KV a:=by
 cases a<;>simp only[aC8] at h<;>try exact h.elim
 case nils =>
  split at h
  ·rename_i hl;refine ⟨iB hl,?_⟩;have:=h _ (hs.newT (bs.length,e));simp only[newT,hd,hs.lim];exact this
  ·exact h.elim
 case list tk es =>
  cases tk with
  | none=>exact h.elim
  | some t' =>
   simp only at h;split at h
   ·rename_i n e' hn;split at h
    ·rename_i hl;simp only[aZ] at hl;have e1:=bH hl.1.1.1;have e2:=bH hl.1.1.2;subst e1 e2;exact ⟨⟨by rw[hs.tk];exact hn,tF hl.1.2,iB hl.2⟩,h _ (hs.setT _ _)⟩
    ·exact h.elim
   ·exact h.elim
theorem aLx (hT:T.ok C) (hd:C.det=true) (hs:Sim s σ) {ti:TI} {u:TypeId} {n:Int} {a:A} (h:(aDd T σ ti u n a).to C s KV Kp):qY C s ti u n KV a:=by
 cases a<;>simp only[aDd] at h<;>try exact h.elim
 split at h
 ·rename_i e hk;split at h
  ·rename_i te tu hte htu;split at h
   ·rename_i k hku;split at h
    ·rename_i hc;simp only[qY,hk,hT.tt _ _ hte,hT.tt _ _ htu,hku];refine ⟨hc,?_⟩;have:=h _ (hs.newT (0,e));simp only[sN,hd,hs.lim];exact this
    ·exact h.elim
   ·exact h.elim
  ·exact h.elim
 ·exact h.elim
theorem aFi (hT:T.ok C) (hs:Sim s σ) {ti:TI} {t u:TypeId} {a:A} (h:(aAm T σ ti t u a).to C s KV Kp):pN C s ti t u KV a:=by
 unfold aAm at h;split at h
 ·rename_i e hk;split at h
  ·rename_i te hte;split at h
   ·rename_i hu;have hu':=bH hu;split at h
    all_goals first
     | exact h.elim
     | (simp only[pN,hk,hT.tt _ _ hte];exact ⟨hu',h s hs⟩)
   ·exact h.elim
  ·exact h.elim
 ·exact h.elim
theorem aLn (hT:T.ok C) (hd:C.det=true) (hs:Sim s σ) {ti:TI} {t u:TypeId} {z a:A} (h:(aC1 T σ ti t u z a).to C s KV Kp):pO C s ti t u z KV a:=by
 unfold aC1 at h;split at h
 ·rename_i e hk;split at h
  ·rename_i te hte;split at h
   ·rename_i hc;simp only[aZ,oZ] at hc;simp only[pO,hk,hT.tt _ _ hte];refine ⟨⟨bH hc.1.1.1,(fun h0=>by have:=hc.1.1.2;rw[h0] at this;cases this),iB hc.1.2,bH hc.2⟩,?_⟩;split at h
    ·have:=h _ (hs.newT (0,e));simp only[nY,hd,hs.lim];exact this
    ·split at h
     ·split at h
      ·rename_i n e' hn;split at h
       ·rename_i hl;simp only[aZ] at hl;have e1:=bH hl.1.1.1;have e2:=bH hl.1.1.2;subst e1 e2;refine ⟨⟨by rw[hs.tk];exact hn,tF hl.1.2,iB hl.2⟩,?_⟩;have:=h _ ((hs.delT _).newT _);have hlim:∀ q,(s.delT q).lim=σ.lim:=fun _=>hs.lim
        simp only[nY,hd,hlim];exact this
       ·exact h.elim
      ·exact h.elim
     ·exact h.elim
    ·exact h.elim
   ·exact h.elim
  ·exact h.elim
 ·exact h.elim
theorem aL6 (hs:Sim s σ) (a:A):fC s a=aDl σ a:=by
 cases a<;>try rfl
 simp only[fC,aDl,hs.ls];cases σ.ls<;>rfl
theorem aNl (hT:T.ok C) (hs:Sim s σ) {k n z:Nat} {ti:TI} {v:A} (h:(rmX T σ k n z ti v).to C s KV Kp):nH C s k n z ti v KV:=by
 unfold rmX at h;split at h
 ·rename_i m e hm;split at h
  ·rename_i te hte;split at h
   ·rename_i hc;simp only[aZ] at hc;simp only[nH,hs.tk k,hm,hT.tt _ _ hte];exact ⟨⟨bH hc.1.1.1.1,bH hc.1.1.1.2,bH hc.1.1.2,bH hc.1.2,hc.2⟩,h _ ((hs.setT _ _).setL _)⟩
   ·exact h.elim
  ·exact h.elim
 ·exact h.elim
theorem aGI (hT:T.ok C) (hd:C.det=true) (hs:Sim s σ) {op:Op} (h:(kR T op ρ σ).to C s KV Kp):aJ C op ρ KV Kp s:=by
  have nb:∀ o:Ob,KV (s.newO o) (.ptr σ.lim 0)→mG C s o (fun b=>.ptr b 0) KV:=fun o h=>by
    simp only[mG,hd,hs.lim];exact h
  cases op
  case load t x =>
    simp only[kR,aGV] at h;split at h
    · rename_i b o hx
      split at h
      · rename_i e0 cs hb
        cases hv:nT T t cs o with
        | none=>rw[hv] at h;exact h.elim
        | some v =>
          rw[hv] at h;simp only[aJ,hx,hs.ob b,hb,tP hT hv];exact h s hs
      · exact h.elim
    · rename_i cs o hx
      cases hv:nT T t cs o with
      | none=>rw[hv] at h;exact h.elim
      | some v =>
        rw[hv] at h;simp only[aJ,hx,aQ,tP hT hv];exact h s hs
    · exact h.elim
  case store t x y =>
    simp only[kR,aGm] at h;split at h
    · rename_i b o v ti hx hy hti
      split at h
      · rename_i e0 cs hb
        unfold stX at h;split at h
        · rename_i hc
          simp only[aZ] at hc;simp only[aJ,hx,hy,hT.tt _ _ hti,hs.ob b,hb,aL6 hs];exact ⟨⟨bH hc.1.1,iB hc.1.2,hc.2⟩,h _ (hs.setO _ _)⟩
        · exact h.elim
      · exact h.elim
    · rename_i k n z v ti hx hy hti
      simp only[aJ,hx,hy,hT.tt _ _ hti];exact aNl hT hs h
    · exact h.elim
  case alloc t =>
    simp only[kR,aF1] at h;split at h
    · rename_i ti hti
      simp only[aJ,hT.tt _ _ hti,sM];exact nb _ (h _ (hs.newO _))
    · exact h.elim
  case box t x =>
    simp only[kR,aHe] at h;split at h
    · rename_i v hv
      split at h
      · rename_i h1
        simp only[aJ,hv,sM];exact ⟨h1,nb _ (h _ (hs.newO _))⟩
      · exact h.elim
    · exact h.elim
  case convert a b x =>
    simp only[kR,cvX] at h;split at h
    · rename_i k hx
      split at h
      · rename_i e cs e' hb hcv
        rw[hT.cv] at hcv;split at h
        · rename_i te hte
          split at h
          · rename_i hc
            obtain ⟨rfl,hc⟩:=hc;simp only[aJ,hx,hs.ob k,hb,hcv,hT.tt _ _ hte];exact ⟨⟨.inl trivial,hc⟩,h s hs⟩
          · exact h.elim
        · exact h.elim
      · exact h.elim
    · rename_i hne
      have key:aQ C (.convert a b x) ρ (KV s):=by
        split at h
        · rename_i v hv;exact aCr hT hv (h s hs)
        · exact h.elim
      simp only[aJ];exact key
  case makeSlice t l c =>
    simp only[kR,aGK] at h;split at h
    · rename_i kl n kc m ti hl hc hti
      split at h
      · rename_i e hk
        split at h
        · rename_i te hte
          split at h
          · rename_i hcond
            simp only[aJ,hl,hc,hT.tt _ _ hti,hk,hT.tt _ _ hte];refine ⟨hcond,?_⟩;simp only[mG,hd,hs.lim];exact h _ (hs.newO _)
          · exact h.elim
        · exact h.elim
      · exact h.elim
    · exact h.elim
  case panic x =>
    simp only[kR,aFO] at h;split at h
    · rename_i t a hx
      simp only[aJ,hx];exact h s hs
    · exact h.elim
  case range t x =>
    simp only[kR,aGp] at h;split at h
    · rename_i x' ti hx hti
      split at h
      · rename_i hk
        simp only[aJ,hx,hT.tt _ _ hti,hk,aHp];exact nb _ (h _ (hs.newO _))
      · exact h.elim
    · exact h.elim
  case next x str =>
    simp only[kR,aGA] at h;split at h
    · split at h
      · rename_i b hx
        split at h
        · rename_i x' pos hb
          simp only[aJ,hx,hs.ob b,hb,wY];split at h
          · rename_i hp
            rw[if_pos (by simpa [Nat.blt_eq] using hp)];exact h _ (hs.setO _ _)
          · rename_i hp
            rw [if_neg (by intro hlt; have h2 : Nat.blt pos x'.length = true := by rw [Nat.blt_eq]; exact hlt
                           rw[h2] at hp;cases hp)]
            exact h s hs
        · exact h.elim
      · exact h.elim
    · exact h.elim
  case call c =>
    obtain ⟨cal,args,ats⟩:=c;obtain ⟨args⟩:=args;obtain ⟨ats⟩:=ats;have keep:=fun h'=>aFT (KV:=KV) (Kp:=Kp) (op:=.call ⟨cal,⟨args⟩,⟨ats⟩⟩) (ρ:=ρ) hT hs h'
    simp only[kR,aGL] at h;cases cal with
    | value f =>
      simp only at h;split at h
      · rename_i f' first caps az hf has
        simp only[aJ,hf,has];exact h
      · exact h.elim
    | invoke r m=>exact keep h
    | builtin b =>
      cases b
      case append =>
        simp only at h;split at h
        · rename_i x y t u
          split at h
          · rename_i a tk ys ti hx hy hti
            split at h
            · rename_i e hk
              split at h
              · rename_i te hte
                split at h
                · rename_i hc
                  simp only[aZ,oZ] at hc;simp only[aJ,hx,hy,hT.tt _ _ hti,hk,hT.tt _ _ hte];have h0:te.sz≠0:=fun e0=>by rw[e0] at hc;exact absurd hc.1.1.2 (by decide)
                  refine ⟨⟨bH hc.1.1.1,h0,iB hc.1.2⟩,tF hc.2,?_⟩;unfold nX;split at h
                  · split at h
                    · rename_i hl
                      refine ⟨iB hl,?_⟩;have:=h _ (hs.newT (ys.length,e));simp only[kB,newT,hd,hs.lim];exact this
                    · exact h.elim
                  · split at h
                    · rename_i hl
                      simp only[aZ] at hl;have hl0:0<ys.length:=by have:=hl.2;rwa[Nat.blt_eq] at this
                      obtain ⟨y0,r0,rfl⟩:∃ y0 r0,ys=y0::r0:=by
                        cases ys with
                        | nil=>exact absurd hl0 (Nat.lt_irrefl _)
                        | cons y r=>exact ⟨y,r,rfl⟩
                      refine ⟨⟨iB hl.1,hl0⟩,?_⟩;have:=h _ (hs.newT ((y0::r0).length,e));simp only[kB,newT,hd,hs.lim];exact this
                    · exact h.elim
                  · rename_i t' es
                    split at h
                    · rename_i n e' hn
                      split at h
                      · rename_i hl
                        simp only[aZ] at hl;have e1:=bH hl.1.1.1;have e2:=bH hl.1.1.2;subst e1 e2;exact ⟨by rw[hs.tk];exact hn,tF hl.1.2,iB hl.2,h _ (hs.setT _ _)⟩
                      · exact h.elim
                    · exact h.elim
                  · exact h.elim
                · exact h.elim
              · exact h.elim
            · exact h.elim
          · rename_i a bs ti hx hy hti
            split at h
            · rename_i e hE
              simp only[aJ,hx,hy,hT.tt _ _ hti,aLH hT hE];exact aKw hd hs h
            · exact h.elim
          · rename_i a n ti hx hy hti
            simp only[aJ,hx,hy,hT.tt _ _ hti];exact aLx hT hd hs h
          · rename_i a ti hx hy hti
            simp only[aJ,hx,hy,hT.tt _ _ hti];exact aFi hT hs h
          · rename_i a ti hx hy hti
            simp only[aJ,hx,hy,hT.tt _ _ hti];exact aFi hT hs h
          · rename_i a z ti hx hy hti
            simp only[aJ,hx,hy,hT.tt _ _ hti];exact aLn hT hd hs h
          · exact h.elim
        · exact h.elim
      case unsafeString =>
        simp only at h;split at h
        · rename_i p n pt u
          split at h
          · rename_i a b hp hn
            unfold aHt at h;split at h
            · rename_i m
              split at h
              · rename_i h0
                simp only[aJ,hp,hn];exact ⟨h0,h s hs⟩
              · exact h.elim
            · rename_i t es m
              split at h
              · rename_i e he
                split at h
                · rename_i q e' hq
                  split at h
                  · rename_i hc
                    obtain ⟨rfl,rfl,rfl⟩:=hc;split at h
                    · rename_i bs hb
                      simp only[aJ,hp,hn];rw[hT.us] at he;simp only[he];exact ⟨⟨trivial,by rw[hs.tk];exact hq⟩,bs,aEw _ _ hb,h _ (hs.delT _)⟩
                    · exact h.elim
                  · exact h.elim
                · exact h.elim
              · exact h.elim
            · exact h.elim
          · exact h.elim
        · exact h.elim
      case panic =>
        simp only at h;split at h
        · rename_i x
          split at h
          · rename_i t a hx
            simp only[aJ,hx];exact h s hs
          · exact h.elim
        · exact h.elim
      all_goals exact keep h
  all_goals exact aFT hT hs h
theorem zG {n:Nat} {dst:Option Tmp} {e:Env} {ε ε':Tr A} {a:A} {K:Env→St→Prop} (he:SimE e ε) (h:nD n dst ε a=some ε') (hK:∀ e',SimE e' ε'→K e' s):bJ n dst K e s a:=by
 unfold nD at h;cases dst with
 | none=>simp only[aP] at h;subst h;exact hK e he
 | some d =>
  simp only at h;split at h
  ·rename_i hd;simp only[aP] at h;subst h;exact ⟨by simpa [Nat.blt_eq] using hd,hK _ (he.put d a)⟩
  ·cases h
def pV (C:Cx) (F:FuncId→List A→XS→CR):Prop:=∀ f az σ s KV Kp,Sim s σ→(F f az σ).to KV Kp→Den C f az KV Kp s
variable {F:FuncId→List A→XS→CR} {n:Nat} {e:Env} {ε:Tr A} {K:Env→St→Prop}
theorem aCO (hT:T.ok C) (hd:C.det=true) (hF:pV C F) (he:SimE e ε) (hs:Sim s σ) {dst:Option Tmp} {op:Op} (h:(doX T F n dst op ε σ).to K Kp) :
  aJ C op (cT C e) (bJ n dst K e) Kp s:=by
 rw[tY hT he];refine aGI hT hd hs ?_;unfold doX at h;cases hv:kR T op (jX T ε) σ with
 | val a σ' =>
  rw[hv] at h;simp only at h;cases hp:nD n dst ε a with
  | none=>rw[hp] at h;exact h.elim
  | some ε'=>rw[hp] at h;exact fun s' hs'=>zG he hp fun e' he'=>h e' s' he' hs'
 | pan a σ'=>rw[hv] at h;exact h
 | call f az =>
  rw[hv] at h;simp only at h;refine hF f az σ s _ _ hs ?_;cases hc:F f az σ with
  | val a σ' =>
   rw[hc] at h;simp only at h;cases hp:nD n dst ε a with
   | none=>rw[hp] at h;exact h.elim
   | some ε'=>rw[hp] at h;exact fun s' hs'=>zG he hp fun e' he'=>h e' s' he' hs'
  | pan a σ'=>rw[hc] at h;exact h
  | bad=>rw[hc] at h;exact h.elim
 | bad=>rw[hv] at h;exact h.elim
theorem SimE.same {t:Nat} {a:A} (he:SimE e ε) (h:ε.get t=some a):SimE (e.put t a) ε:=fun u=>by
 rw[iU];by_cases hu:t=u
 ·subst hu;simp[h]
 ·simp[hu,he u]
theorem aGd (hT:T.ok C) (hd:C.det=true) (hF:pV C F) {ds:List (Option Tmp)}:∀ (l:List Oper) (e:Env) (s:St) (ε:Tr A) (σ:XS),SimE e ε→Sim s σ →
  (aAq T F n ds l ε σ).to K Kp→dV C n ds l K Kp e s
 | [],e,s,ε,σ,he,hs,h=>h e s he hs
 | ⟨dst,op,ty,pos,after,gd⟩ :: r,e,s,ε,σ,he,hs,h => by
  have ih:=aGd hT hd hF (ds:=ds) r
  have next:∀ {o:OR},(match o with|.ok ε' σ'=>aAq T F n ds r ε' σ'|x=>x).to K Kp→o.to (dV C n ds r K Kp) Kp:=by
   intro o ho;cases o with
   | ok ε' σ'=>exact fun e' s' he' hs'=>ih e' s' ε' σ' he' hs' ho
   | pan a σ'=>exact ho
   | bad=>exact ho.elim
  have h':=next (o:=aDr T F n ds ⟨dst,op,ty,pos,after,gd⟩ ε σ) h
  have pass:∀ {e:Env},SimE e ε→(match nD n dst ε (.tuple []) with|some ε'=>OR.ok ε' σ|none=>.bad).to (dV C n ds r K Kp) Kp→bJ n dst (dV C n ds r K Kp) e s (.tuple []):=by
   intro e he h;cases hp:nD n dst ε (.tuple []) with
   | none=>rw[hp] at h;exact h.elim
   | some ε'=>rw[hp] at h;exact zG he hp fun e' he'=>h e' s he' hs
  cases gd with
  | none=>exact aCO hT hd hF he hs h'
  | some jw =>
   obtain ⟨j,want⟩:=jw;simp only[aDr] at h';simp only[dV];cases ht:gS ds j with
   | none=>rw[ht] at h';exact h'.elim
   | some t =>
    rw[ht] at h';simp only at h' ⊢;rw[he t];cases hg:ε.get t with
    | none=>rw[hg] at h';exact h'.elim
    | some a =>
     rw[hg] at h';cases a<;>simp only at h' ⊢
     case bool b =>
      have he':=he.same hg;cases b<;>cases want<;>simp only[beq_self_eq_true,beq_iff_eq,Bool.false_beq,Bool.true_beq,dW,eX] at h' ⊢
      ·exact aCO hT hd hF he' hs h'
      ·exact pass he' h'
      ·exact pass he' h'
      ·exact aCO hT hd hF he' hs h'
     case tuple l=>exact pass he h'
     all_goals exact h'.elim
end
end
end Go.AV
