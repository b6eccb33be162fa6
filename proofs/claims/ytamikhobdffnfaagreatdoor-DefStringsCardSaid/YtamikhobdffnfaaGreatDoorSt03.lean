/-
  Of DefStrings.
-/
import Derived.Test.YtamikhobdffnfaaGreatDoorSt02
import Derived.Laws.RangeString
import Derived.Laws.IdiomStrings
import Derived.Laws.MakeOwn
set_option linter.all false
set_option maxRecDepth 99999
set_option maxHeartbeats 0
namespace Go.AV
open Go Go.Proofs Tryz
section
section
variable {C:Cx} {F:Fr} {g:Gh} {s:St} {w:World} {K:A→Prop} {ρ:Operand→Option A} {ev:Operand→Value}
theorem oO {op:Op} {ty:TypeId} {dst:Option Tmp} {pos:String} {after:Array Edge} {gd:Option (Nat × Bool)}
  (hR:R C.toCtx F g s w) (he:∀ x a,ρ x=some a→Rz g a (ev x)) (h:aQ C op ρ K) :
  OutS C F g s K ((execOp ev ⟨dst,op,ty,pos,after,gd⟩).run C.P w):=by
 cases op
 case move x =>
  simp only[aQ] at h;split at h
  ·rename_i v hv;exact OutS.val hR (he x v hv) h
  ·exact h.elim
 case assign x =>
  simp only[aQ] at h;split at h
  ·rename_i v hv;exact OutS.val hR (he x v hv) h
  ·exact h.elim
 case pick c a b =>
  simp only[aQ] at h;split at h
  ·rename_i hc;split at h
   ·rename_i v hv;simp only[execOp,aV,bC,(he c _ hc).bool_inv,asBool,aW,↓reduceIte];exact OutS.val hR (he a v hv) h
   ·exact h.elim
  ·rename_i hc;split at h
   ·rename_i v hv;simp only[execOp,aV,bC,(he c _ hc).bool_inv,asBool,aW,bR,↓reduceIte];exact OutS.val hR (he b v hv) h
   ·exact h.elim
  ·exact h.elim
 case binOp=>exact aLD hR he h
 case unOp op t x =>
  simp only[aQ] at h;split at h
  ·rename_i a ha;split at h
   ·rename_i v hv;simp only[execOp];unfold unA at hv;split at hv<;>simp only[aP,reduceCtorEq] at hv<;>subst hv
    ·exact dB hR (by simp[Op.unary,(he x _ ha).bool_inv]) (.bool _) h
    ·exact dB hR (by simp[Op.unary,Op.intArith,(he x _ ha).int_inv]) (.int _ _) h
    ·refine dB hR ?_ (.int _ _) h;rw[(he x _ ha).int_inv];simp only[Op.unary,Op.intBits,bC]
   ·exact h.elim
  ·exact h.elim
 case nilCheck x =>
  simp only[aQ] at h;split at h
  ·rename_i b o hx;obtain ⟨k,hv,hb⟩:=(he x _ hx).ptr_inv;simp only[execOp,hv];exact OutS.val hR (.ptr b o k hb) h
  ·rename_i cs o hx;have hv:=he x _ hx;obtain ⟨b,off,pre,e,_⟩:=hv.eptr_inv;simp only[execOp,e];rw[e] at hv;exact OutS.val hR hv h
  ·exact h.elim
 case fieldAddr=>exact aIK hR he h
 case field=>exact aLX hR he h
 case typeAssert x xt t ok =>
  cases ok
  ·simp only[aQ] at h
  ·simp only[aQ] at h;split at h
   ·rename_i u v ti hx hti;split at h
    ·rename_i fs hk;obtain ⟨rfl,h⟩:=h;obtain ⟨fields,hu,_⟩:=yG hti hk;obtain ⟨y,hv,hr⟩:=(he x _ hx).iface_inv;simp only[execOp];refine dB (v:=.tuple #[y,.bool true]) hR ?_ (.tuple [v,.bool true] [y,.bool true] rfl fun j c z hc hz=>?_) h
     ·simp[Instr.typeAssert,cI hu,hv]
     ·match j with
      | 0=>simp at hc hz;subst hc;subst hz;exact hr
      | 1=>simp at hc hz;subst hc;subst hz;exact .bool _
      | _+2=>simp at hc
    ·exact h.elim
   ·exact h.elim
 case extract x i =>
  simp only[aQ] at h;split at h
  ·rename_i vs hx;split at h
   ·rename_i v hv;obtain ⟨us,e,hr⟩:=(he x _ hx).tuple_inv;obtain ⟨u,hu,hru⟩:=hr.get hv;simp only[execOp];exact dB hR (by simp[Instr.extract,e,hu]) hru h
   ·exact h.elim
  ·exact h.elim
 case makeInterface t x =>
  simp only[aQ] at h;split at h
  ·rename_i a ti ha hti;obtain ⟨d,hd,hok⟩:=fH hti
   have hn:(∀ ms,d≠.interface ms)∧K (.iface t a):=by
    cases hk:ti.k<;>rw[hk] at h hok<;>simp only[TK.ok] at hok<;>simp only at h
    all_goals first
     | (subst hok;exact ⟨by simp,h⟩)
     | (obtain ⟨fields,rfl,_⟩:=hok;exact ⟨by simp,h⟩)
     | exact ⟨hok.2,h⟩
   simp only[execOp];refine dB hR (v:=.iface t (ev x)) ?_ (.iface t a _ (he x a ha)) hn.2;simp only[Instr.makeInterface,aV,cI hd,aW];cases d<;>first|rfl|exact absurd rfl (hn.1 _)
  ·exact h.elim
 case makeFunc fn first caps =>
  simp only[aQ] at h;cases fn<;>simp only at h
  rename_i f;split at h
  ·rename_i l m hl hm;simp only[execOp];have r1:=zB he hl;have r2:=zB he hm;obtain ⟨fl⟩:=first
   obtain ⟨cl⟩:=caps;exact dB hR (v:=.func (.func f) (fl.map ev).toArray (cl.map ev).toArray) (by simp[Instr.makeFunc]) (.fn f l m _ _ r1.1 r2.1 r1.2 r2.2) h
  ·exact h.elim
 case convert a b x =>
  simp only[aQ] at h;split at h
  ·rename_i k n ta tb hx hta htb;obtain ⟨d,hd,hok⟩:=fH hta;obtain ⟨d',hd',hok'⟩:=fH htb;split at h
   ·rename_i k' hk;rw[hk] at hok';simp only[TK.ok] at hok';subst hok';simp only[execOp];refine dB hR ?_ (.int _ _) h;simp only[convert,aV,cI hd,cI hd',aW,(he x _ hx).int_inv,Conv.intToInt];cases d<;>rfl
   ·exact h.elim
  ·rename_i str ta tb hx hta htb;obtain ⟨d,hd,hok⟩:=fH hta;obtain ⟨d',hd',hok'⟩:=fH htb;split at h
   ·rename_i hk;rw[hk] at hok';simp only[TK.ok] at hok';subst hok';simp only[execOp];refine dB hR (v:=.string ⟨str.toArray⟩) ?_ (.str _) h;simp only[convert,aV,cI hd,cI hd',aW,(he x _ hx).str_inv];cases d<;>rfl
   ·rename_i e hk;rw[hk] at hok';simp only[TK.ok] at hok';subst hok';split at h
    ·rename_i te hka hte;rw[hka] at hok;simp only[TK.ok] at hok;subst hok;split at h
     ·rename_i hkt;obtain ⟨h1,h2,h⟩:=h;obtain ⟨d2,hd2,hok2⟩:=fH hte;rw[hkt] at hok2;simp only[TK.ok] at hok2;subst hok2;simp only[execOp,(he x _ hx).str_inv];rw[tL,run_bytes_of_string w a b e _ hd hd' hd2];have hcap:=grownCap_ge w (ByteArray.mk str.toArray).size 0 e;have hsz:(ByteArray.mk str.toArray).size=str.length:=by simp[ByteArray.size]
      rw[hsz] at hcap ⊢;have hcm:=grownCap_le_maxLen w str.length 0 e h2
      have hrow:∃ rest,(bytesRow ⟨str.toArray⟩ (grownCap w str.length 0 e))=((str.map fun c=>Value.int .u8 c.toNat)++rest).toArray :=
       ⟨List.replicate (grownCap w str.length 0 e-str.length) (.int .u8 0),by simp[bytesRow,hsz]⟩
      obtain ⟨rest,hrow⟩:=hrow;rw[hrow]
      obtain ⟨hR',hle⟩:=R.newRow (w:=w.drew) (hR.heap rfl) (str.map fun c=>Value.int .u8 c.toNat) e rest
       ((((str.map fun c=>Value.int .u8 c.toNat)++rest).toArray).size,(((str.map fun c=>Value.int .u8 c.toNat)++rest).toArray).size+1)
      refine ⟨_,_,hle,hR',?_,h⟩
      have:=Rz.list (g:=g.know w.drew.heap.size (str.map fun c=>Value.int .u8 c.toNat)) none (str.map fun c=>A.int .u8 c.toNat) w.drew.heap.size 0 1 (grownCap w str.length 0 e)
       (str.map fun c=>Value.int .u8 c.toNat) (by simp[Gh.know]) (by simp) (by simpa using hcap) hcm
       (fun y hy=>by simp only[cO] at hy;obtain ⟨c,_,rfl⟩:=hy;rfl)
       (fun y hy z hz=>by simp only[cO] at hy;obtain ⟨c,_,rfl⟩:=hy;simp[A.cells] at hz;subst hz;rfl)
       (fun i y j z v hy hz hv => by
        rw[nM] at hy;cases hc:str[i]? with
        | none=>rw[hc] at hy;cases hy
        | some c =>
         rw[hc] at hy;simp only[kG,aP] at hy;subst hy;cases j with
         | zero =>
          simp[A.cells] at hz;subst hz;simp[hc] at hv;subst hv;exact .int _ _
         | succ j=>simp[A.cells] at hz)
       (by simp)
      simpa using this
     ·exact h.elim
    ·exact h.elim
   ·exact h.elim
  ·exact h.elim
 case build=>exact aMe hR he h
 case buildSlice=>exact aIw hR he h
 case load t x =>
  simp only[aQ] at h;split at h
  ·rename_i cs o hx;split at h
   ·rename_i v hv;obtain ⟨u,hu,hr⟩:=aJj hR hv (he x _ hx);exact dB hR hu hr h
   ·exact h.elim
  ·exact h.elim
 case slice=>exact aMp hR he h
 case indexAddr=>exact aIT hR he h
 case index=>exact aMu hR he h
 case call=>exact aM4 hR he h
 all_goals (simp only[aQ] at h)
def mG (C:Cx) (s:St) (o:Ob) (f:Nat→A) (KV:St→A→Prop):Prop:=match C.det with
 | false=>∀ b,s.getO b=none→KV (s.setO b o) (f b)
 | true=>KV (s.newO o) (f s.lim)
def sM (C:Cx) (s:St) (t:TypeId) (cs:List A) (KV:St→A→Prop):Prop:=mG C s (.cells t cs) (fun b=>.ptr b 0) KV
def newT (C:Cx) (s:St) (n:Nat) (e:TypeId) (ys:List A) (KV:St→A→Prop):Prop:=match C.det with
 | false=>∀ t,s.getT t=none→KV (s.setT t (n,e)) (.list (some t) ys)
 | true=>KV (s.newT (n,e)) (.list (some s.lim) ys)
def aAt (s:St) (n:Nat) (e:TypeId) (sz:Nat) (cs:List A) (KV:St→A→Prop):Prop :=
 ∀ (b cap:Nat) (J:List A),s.getO b=none→n≤cap→J.length=(cap-n) * sz→(∀ c,c∈J→c.one=true)→KV (s.setO b (.cells e (cs++J))) (.mg b n cap)
def kB (C:Cx) (s:St) (n:Nat) (e:TypeId) (sz:Nat) (ys:List A) (KV:St→A→Prop):Prop:=match C.det with
 | true=>newT C s n e ys KV
 | false=>match Nat.beq C.mu 1 with
  | false=>newT C s n e ys KV
  | true=>0<n∧aAt s n e sz (cW ys) KV
def xF (C:Cx):Bool:=match C.det with
 | true=>false
 | false=>Nat.beq C.mu 2
def uR (C:Cx) (s:St) (t:TypeId) (KV:St→A→Prop) (a:A):Prop:=match a,C.tt t with
 | .list _ es,some ti=>(match ti.k with
  | .slice e=>∀ k,s.getT k=none→KV (s.setT k (es.length,e)) (.list (some k) es)
  | _=>False)
 | _,_=>False
def qT (det:Bool) (s:St) (b n cap:Nat) (e:TypeId) (sz m:Nat) (ys:List A) (KV:St→A→Prop):Option Ob→Prop
 | some (.cells e' cs)=>(det=false∧e'=e∧cs.length=cap * sz∧n≤cap∧n+m≤4294967296∧0<m) ∧
  ∀ (b' cap':Nat) (J:List A),(b'=b∧cap'=cap∨s.getO b'=none)→n+m≤cap'→J.length=(cap'-(n+m)) * sz→(∀ c,c∈J→c.one=true) →
   KV (s.setO b' (.cells e (cs.take (n * sz)++(cW ys++J)))) (.mg b' (n+m) cap')
 | _=>False
def sN (C:Cx) (s:St) (n:Nat) (e:TypeId) (KV:St→A→Prop):Prop:=match C.det with
 | false=>∀ t,s.getT t=none→KV (s.setT t (0,e)) (.gr t n)
 | true=>KV (s.newT (0,e)) (.gr s.lim n)
def nY (C:Cx) (s:St) (n:Nat) (e:TypeId) (ys:List A) (sz:Nat) (KV:St→A→Prop):Prop:=match C.det with
 | false=>∀ t,s.getT t=none→KV (s.setT t (n,e)) (.pen t ys sz)
 | true=>KV (s.newT (n,e)) (.pen s.lim ys sz)
def pO (C:Cx) (s:St) (ti:TI) (t u:TypeId) (z:A) (KV:St→A→Prop) (a:A):Prop:=match ti.k with
 | .slice e=>match C.tt e with
  | some te=>(u=t∧te.sz≠0∧te.bytes≤32768∧z.cells.length=te.sz)∧(match a with
   | .nils=>nY C s 0 e [] te.sz KV
   | .list tk es=>match tk with
    | some k=>(s.getT k=some (es.length,e)∧(∀ y,y∈es→y.cells.length=te.sz)∧es.length+1≤4294967296)∧nY C (s.delT k) es.length e es te.sz KV
    | none=>False
   | _=>False)
  | none=>False
 | _=>False
def nH (C:Cx) (s:St) (k n z:Nat) (ti:TI) (v:A) (KV:St→A→Prop):Prop:=match s.getT k with
 | some (m,e)=>match C.tt e with
  | some te=>(m=n∧te.sz=z∧ti.sz=z∧v.cells.length=z∧dU v.cells=true)∧KV ((s.setT k (n+1,e)).setL (some (k,n,v))) (.tuple [])
  | none=>False
 | none=>False
def uX (t:Nat) (es:List A) (sz:Nat) (q:Nat × Nat × A):A:=if q.1=t∧q.2.1=es.length∧q.2.2.cells.length=sz then .list (some t) (es++[q.2.2]) else .pen t es sz
def fC (s:St):A→A
 | .pen t es sz=>match s.ls with
  | some q=>uX t es sz q
  | none=>.pen t es sz
 | a=>a
def cS (bs:List UInt8):List A:=bs.map fun c=>.int .u8 c.toNat
def rC (C:Cx) (ti:TI) (u:TypeId):Option TypeId:=match ti.k with
 | .slice e=>match C.tt u,C.tt e with
  | some tu,some te=>match tu.k with
   | .string=>match te.k with
    | .int .u8=>if te.sz=1∧te.bytes=1 then some e else none
    | _=>none
   | _=>none
  | _,_=>none
 | _=>none
def rE (C:Cx) (s:St) (e:TypeId) (bs:List UInt8) (KV:St→A→Prop):A→Prop
 | .nils=>bs.length≤4294967296∧newT C s bs.length e (cS bs) KV
 | .list (some t) es=>(s.getT t=some (es.length,e)∧(∀ y,y∈es→y.cells.length=1)∧es.length+bs.length≤4294967296) ∧
   KV (s.setT t (es.length+bs.length,e)) (.list (some t) (es++cS bs))
 | _=>False
def nX (C:Cx) (s:St) (e:TypeId) (te:TI) (ys:List A) (KV:St→A→Prop):A→Prop
 | .nils=>ys.length≤4294967296∧kB C s ys.length e te.sz ys KV
 | .emp=>match ys with
  | []=>KV s .emp
  | y::r=>((y::r).length≤4294967296∧0<(y::r).length)∧kB C s (y::r).length e te.sz (y::r) KV
 | .mg b n cap=>qT C.det s b n cap e te.sz ys.length ys KV (s.getO b)
 | .list (some t) es=>s.getT t=some (es.length,e)∧(∀ y,y∈es→y.cells.length=te.sz)∧es.length+ys.length≤4294967296 ∧
   KV (s.setT t (es.length+ys.length,e)) (.list (some t) (es++ys))
 | _=>False
def pN (C:Cx) (s:St) (ti:TI) (t u:TypeId) (KV:St→A→Prop) (a:A):Prop:=match ti.k with
 | .slice e=>match C.tt e with
  | some _=>u=t∧(match a with
   | .nils=>KV s .nils
   | .emp=>KV s .emp
   | .list tk es=>KV s (.list tk es)
   | .ml b o n=>KV s (.ml b o n)
   | _=>False)
  | none=>False
 | _=>False
def qY (C:Cx) (s:St) (ti:TI) (u:TypeId) (n:Int) (KV:St→A→Prop):A→Prop
 | .nils=>match ti.k with
  | .slice e=>match C.tt e,C.tt u with
   | some te,some tu=>match tu.k with
    | .int _=>(0<n∧n≤65536∧te.sz≠0∧te.bytes≤32768)∧sN C s n.toNat e KV
    | _=>False
   | _,_=>False
  | _=>False
 | _=>False
def aHp (C:Cx) (s:St) (x:List UInt8) (KV:St→A→Prop):Prop:=mG C s (.iter x 0) (fun b=>.ptr b 0) KV
def wY (s:St) (b:Nat) (x:List UInt8) (pos:Nat) (KV:St→A→Prop):Prop :=
 if pos<x.length then KV (s.setO b (.iter x (pos+(Utf8.decode ⟨x.toArray⟩ pos).2))) (.tuple [.bool true,.int .i64 pos,.int .i32 (Utf8.decode ⟨x.toArray⟩ pos).1])
 else KV s (.tuple [.bool false])
def aJ (C:Cx) (op:Op) (ρ:Operand→Option A) (KV Kp:St→A→Prop) (s:St):Prop :=
 match op with
 | .load t x=>match ρ x with
  | some (.ptr b o)=>match s.getO b with
   | some (.cells _ cs)=>match nA C t cs o with
    | some v=>KV s v
    | none=>False
   | _=>False
  | _=>aQ C (.load t x) ρ (KV s)
 | .store t x y=>match ρ x,ρ y,C.tt t with
  | some (.ptr b o),some v,some ti=>match s.getO b with
   | some (.cells e cs)=>((fC s v).cells.length=ti.sz∧o+(fC s v).cells.length≤cs.length∧dU (fC s v).cells=true)∧KV (s.setO b (.cells e (iW cs o (fC s v).cells))) (.tuple [])
   | _=>False
  | some (.rm k n z),some v,some ti=>nH C s k n z ti v KV
  | _,_,_=>False
 | .alloc t=>match C.tt t with
  | some ti=>sM C s t ti.zero KV
  | none=>False
 | .buildSlice t len parts=>match xF C with
  | false=>aQ C (.buildSlice t len parts) ρ (KV s)
  | true=>aQ C (.buildSlice t len parts) ρ (KV s)∨aQ C (.buildSlice t len parts) ρ (uR C s t KV)
 | .box t x=>match ρ x with
  | some v=>dU v.cells=true∧sM C s t v.cells KV
  | none=>False
 | .convert a b x=>match ρ x with
  | some (.ptr k 0)=>match s.getO k,C.cv a b with
   | some (.cells e cs),some e'=>match C.tt e' with
    | some te=>((e=e'∨C.cw e=some e')∧te.sz≤cs.length)∧KV s (.ptr k 0)
    | none=>False
   | _,_=>False
  | _=>aQ C (.convert a b x) ρ (KV s)
 | .makeSlice t l c=>match ρ l,ρ c,C.tt t with
  | some (.int _ n),some (.int _ m),some ti=>match ti.k with
   | .slice e=>match C.tt e with
    | some te=>(n=m∧0<n∧te.sz=1∧te.bytes * n.toNat≤281474976710656∧n≤4294967296)∧mG C s (.cells e (List.replicate n.toNat te.zero).flatten) (fun b=>.ml b 0 n.toNat) KV
    | none=>False
   | _=>False
  | _,_,_=>False
 | .panic x=>match ρ x with
  | some (.iface t a)=>Kp s (.iface t a)
  | _=>False
 | .range t x=>match ρ x,C.tt t with
  | some (.str x),some ti=>match ti.k with
   | .string=>aHp C s x KV
   | _=>False
  | _,_=>False
 | .next x true=>match ρ x with
  | some (.ptr b 0)=>match s.getO b with
   | some (.iter x pos)=>wY s b x pos KV
   | _=>False
  | _=>False
 | .call c=>match c.callee with
  | .value f=>match ρ f,iI ρ c.args.toList with
   | some (.fn f first caps),some az=>Den C f (first++az++caps) KV Kp s
   | _,_=>False
  | .builtin .append=>match c.args.toList,c.argTypes.toList with
   | [x,y],[t,u] => match ρ x,ρ y,C.tt t with
    | some a,some (.list _ ys),some ti=>match ti.k with
     | .slice e=>match C.tt e with
      | some te=>(u=t∧te.sz≠0∧te.bytes≤32768)∧(∀ y,y∈ys→y.cells.length=te.sz)∧nX C s e te ys KV a
      | none=>False
     | _=>False
    | some a,some (.str bs),some ti=>match rC C ti u with
     | some e=>rE C s e bs KV a
     | none=>False
    | some a,some (.int .i64 n),some ti=>qY C s ti u n KV a
    | some a,some .nils,some ti=>pN C s ti t u KV a
    | some a,some .emp,some ti=>pN C s ti t u KV a
    | some a,some (.hl z),some ti=>pO C s ti t u z KV a
    | _,_,_=>False
   | _,_=>False
  | .builtin .unsafeString=>match c.args.toList,c.argTypes.toList with
   | [p,n],[pt,_]=>match ρ p,ρ n with
    | some .nilp,some (.int .i64 n)=>n=0∧KV s (.str [])
    | some (.sd (some t) es),some (.int .i64 n)=>match C.us pt with
     | some e=>(n=es.length∧s.getT t=some (es.length,e))∧∃ bs,es=cS bs∧KV (s.delT t) (.str bs)
     | none=>False
    | _,_=>False
   | _,_=>False
  | .builtin .panic=>match c.args.toList with
   | [x]=>match ρ x with
    | some (.iface t a)=>Kp s (.iface t a)
    | _=>False
   | _=>False
  | _=>aQ C (.call c) ρ (KV s)
 | .binOp .eql t x y ty=>match ρ x,ρ y with
  | some (.list _ []),some .nils=>aQ C (.binOp .eql t x y ty) ρ (KV s)∨(C.nl t=true∧KV s (.bool true)∧KV s (.bool false))
  | _,_=>aQ C (.binOp .eql t x y ty) ρ (KV s)
 | op=>aQ C op ρ (KV s)
theorem lW {KV Kp:St→A→Prop} {r:Result Next} (h:OutS C F g s (KV s) r):OutV C F g KV Kp r:=by
 cases r with
 | ok n w=>cases n<;>simp only[OutS] at h;obtain ⟨g',a,h1,h2,h3,h4⟩:=h;exact ⟨g',a,s,h1.le,h2,h3,h4⟩
 | halt h' w=>simp only[OutS] at h
theorem aFo (x:Sem Unit) (P:Program) (w:World):((do x;pure Next.skip):Sem Next).run P w=(x.run P w).andThen fun _ w'=>.ok .skip w':=by
 simp
theorem R.cellsOf (hR:R C.toCtx F g s w) {b:Nat} {e:TypeId} {cs:List A} (hb:s.getO b=some (.cells e cs)) :
  ∃ k vs rest,g.beta b=some k∧w.heap[k]?=some (.cells (vs++rest).toArray e)∧Rzs g cs vs∧∀ c,c∈cs→c.one=true:=by
 obtain ⟨k,h1,⟨vs,rest,h2,h3,h4⟩,_⟩:=hR.obj b _ hb;exact ⟨k,vs,rest,h1,h2,h3,h4⟩
theorem aNf {KV Kp:St→A→Prop} {t ty:TypeId} {x:Operand} {dst:Option Tmp} {pos:String} {after:Array Edge} {gd:Option (Nat × Bool)}
  (hR:R C.toCtx F g s w) (he:∀ x a,ρ x=some a→Rz g a (ev x)) (h:aJ C (.load t x) ρ KV Kp s) :
  OutV C F g KV Kp ((execOp ev ⟨dst,.load t x,ty,pos,after,gd⟩).run C.P w):=by
 simp only[aJ] at h;split at h
 ·rename_i b o hx;split at h
  ·rename_i e cs hb;split at h
   ·rename_i v hv;obtain ⟨k,vs,rest,hbk,hh,hrs,hone⟩:=hR.cellsOf hb;obtain ⟨k',hp,hbk'⟩:=(he x _ hx).ptr_inv;rw[hbk] at hbk';cases hbk'
    have cell:∀ j u,vs[j]?=some u→w.cell? ⟨k,j,none⟩=some u:=by
     intro j u hj;simp only[World.cell?,hh,Option.isSome_none,bR,↓reduceIte,kX];rw[jR (dH.1 hj).1];exact hj
    refine lW (s:=s) (KV:=KV) ?_;simp only[execOp,hp];simp only[nA] at hv;split at hv
    ·rename_i ti hti;split at hv
     ·rename_i hag;split at hv
      ·rename_i hsz;simp only[aP] at hv;subst hv
       have hc:∀ j v,((vs.drop o).take ti.sz)[j]?=some v→w.cell? ((⟨k,o,none⟩:Addr).add j)=some v:=by
        intro j v hj;rw[kY] at hj;split at hj
        ·rw[mM] at hj;rw[iL,cell _ _ hj]
        ·simp at hj
       have hlen':((vs.drop o).take ti.sz).length=ti.sz:=by
        have:=hrs.1;rw[eL,cH];omega
       have hrun:=run_loadCells_list (P:=C.P) w ⟨k,o,none⟩ _ hc;rw[hlen'] at hrun;have hq:=(hrs.drop o).take ti.sz;refine dB (v:=.agg ((vs.drop o).take ti.sz).toArray) hR ?_ (.agg _ _ hq.1 (fun c hc=>hone c (oX (nJ hc))) hq.2) h;simp only[Instr.loadAt,Instr.sureAddr,loadVar,aV,bC,aW,uJ hti,hag,↓reduceIte,iX hti,hrun]
      ·simp at hv
     ·rename_i hag;obtain ⟨u,hu,hr⟩:=hrs.get hv;have hag':ti.k.agg=false:=by simpa using hag
      refine dB (v:=u) hR ?_ hr h;simp only[Instr.loadAt,Instr.sureAddr,loadVar,aV,bC,aW,uJ hti,hag',bR,↓reduceIte,run_load,cell _ _ hu]
    ·simp at hv
   ·exact h.elim
  ·exact h.elim
 ·exact lW (oO hR he h)
theorem sY {w:World} {b:Nat} {vs:Array Value} {e:TypeId} {fr:Nat × Nat} (hh:w.heap[b]?=some (.cells vs e fr)) (us:Array Value):(w.setRow b us).heap[b]?=some (.cells us e fr):=setRow_heap w b vs us e fr hh
theorem tG {w:World} {b k:Nat} (hk:k≠b) (us:Array Value):(w.setRow b us).heap[k]?=w.heap[k]?:=by
 have:¬ b=k:=fun e=>hk e.symm
 simp[World.setRow,Array.getElem?_modify,this]
theorem aKp {KV Kp:St→A→Prop} {a b ty:TypeId} {x:Operand} {dst:Option Tmp} {pos:String} {after:Array Edge} {gd:Option (Nat × Bool)}
  (hR:R C.toCtx F g s w) (he:∀ x a,ρ x=some a→Rz g a (ev x)) (h:aJ C (.convert a b x) ρ KV Kp s) :
  OutV C F g KV Kp ((execOp ev ⟨dst,.convert a b x,ty,pos,after,gd⟩).run C.P w):=by
 simp only[aJ] at h;split at h
 ·rename_i k0 hx;split at h
  ·rename_i e cs e' hb hcv;split at h
   ·rename_i te hte;obtain ⟨⟨hee,hsz⟩,hK⟩:=h;obtain ⟨k,vs,rest,hbk,hh,hrs,hone⟩:=hR.cellsOf hb;have hr:=he x _ hx;obtain ⟨k',hp,hbk'⟩:=hr.ptr_inv;rw[hbk] at hbk';cases hbk';have hcs:=C.hcs a b e' hcv;rw[hte] at hcs;simp only[kG,aP] at hcs;have hsz2:C.P.cellsOf e'≤(vs++rest).toArray.size:=by rw[← hcs];have:=hrs.1;simp;omega
    have hrun:(convert a b (.pointer (some ⟨k,0,none⟩))).run C.P w=.ok (.pointer (some ⟨k,0,none⟩)) w:=by
     rcases hee with rfl|hw
     ·exact C.hcv a b e hcv w k (vs++rest).toArray hh hsz2
     ·exact C.hcw a b e' e hcv hw w k (vs++rest).toArray hh hsz2
    refine lW (s:=s) (KV:=KV) ?_;simp only[execOp,hp];exact dB hR hrun (.ptr k0 0 k hbk) hK
   ·exact h.elim
  ·exact h.elim
 ·exact lW (oO hR he h)
theorem aCN {KV Kp:St→A→Prop} {o:Obj} {ob:Ob} {v:Value} {f:Nat→A} {x:Sem Value} (hR:R C.toCtx F g s w) (ho:ObRz g ob (some o))
  (hf:∀ g' b,g'.beta b=some w.heap.size→Rz g' (f b) v)
  (hx:x.run C.P w=.ok v (w.alloc o)) (hK:mG C s ob f KV) :
  OutV C F g KV Kp (((do let v ← x;pure (Next.value v)):Sem Next).run C.P w):=by
 rw[tL,hx];unfold mG at hK;cases hd:C.det with
 | false =>
  rw[hd] at hK;obtain ⟨b,hb⟩:=hR.some_free;exact ⟨_,_,_,tR hb _,hR.newObj ho hb (s':=s.setO b ob) (fun q=>aE s b ob q) (fun q=>rfl) rfl (by show C.det=true→_;rw[hd];simp),hf _ b (by simp[Gh.bx]),hK b (hR.free hb)⟩
 | true =>
  rw[hd] at hK;have hb:=(hR.dtm hd s.lim (bG _)).1;exact ⟨_,_,_,tR hb _,hR.newObj ho hb (s':=s.newO ob) (fun q=>sZ s ob q) (fun q=>rfl) rfl (fun _=>⟨Nat.le_succ _,fK _⟩),hf _ s.lim (by simp[Gh.bx]),hK⟩
theorem aFr {KV Kp:St→A→Prop} {t:TypeId} {v:Value} {cs:List A} {x:Sem Value} (hR:R C.toCtx F g s w) (hv:Rzs g cs v.cells.toList) (hone:∀ c,c∈cs→c.one=true)
  (hx:x.run C.P w=.ok (.pointer (some ⟨w.heap.size,0,none⟩)) (w.alloc (.cells v.cells t)))
  (hK:sM C s t cs KV) :
  OutV C F g KV Kp (((do let v ← x;pure (Next.value v)):Sem Next).run C.P w) :=
 aCN (ob:=.cells t cs) hR ⟨v.cells.toList,[],by simp,hv,hone⟩ (fun g' b hb=>.ptr b 0 _ hb) hx hK
theorem aL2 {KV Kp:St→A→Prop} {t ty:TypeId} {dst:Option Tmp} {pos:String} {after:Array Edge} {gd:Option (Nat × Bool)}
  (hR:R C.toCtx F g s w) (h:aJ C (.alloc t) ρ KV Kp s) :
  OutV C F g KV Kp ((execOp ev ⟨dst,.alloc t,ty,pos,after,gd⟩).run C.P w):=by
 simp only[aJ] at h;split at h
 ·rename_i ti hti;obtain ⟨z,hz,hzr⟩:=wN hti w;simp only[execOp];refine aFr (v:=z) (t:=t) hR (hzr g) (C.htt t ti hti).one ?_ h;simp only[Instr.alloc,aV,hz,aW,newVar,newRow,run_newObj,bC];rfl
 ·exact h.elim
theorem aOJ {KV Kp:St→A→Prop} {t ty:TypeId} {x:Operand} {dst:Option Tmp} {pos:String} {after:Array Edge} {gd:Option (Nat × Bool)}
  (hR:R C.toCtx F g s w) (he:∀ x a,ρ x=some a→Rz g a (ev x)) (h:aJ C (.box t x) ρ KV Kp s) :
  OutV C F g KV Kp ((execOp ev ⟨dst,.box t x,ty,pos,after,gd⟩).run C.P w):=by
 simp only[aJ] at h;split at h
 ·rename_i v hv;obtain ⟨h1,h2⟩:=h;simp only[execOp];refine aFr (v:=ev x) (t:=t) hR (he x v hv).cells (by simpa [dU] using h1) ?_ h2;simp only[Instr.box,aV,newVar,newRow,run_newObj,aW,bC];rfl
 ·exact h.elim
theorem aD6 {x:A}:∀ n:Nat,(List.replicate n [x]).flatten=List.replicate n x
 | 0=>rfl
 | n+1=>by simp[List.replicate_succ]
theorem aIJ {KV Kp:St→A→Prop} {t ty:TypeId} {l c:Operand} {dst:Option Tmp} {pos:String} {after:Array Edge} {gd:Option (Nat × Bool)}
    (hR:R C.toCtx F g s w) (he:∀ x a,ρ x=some a→Rz g a (ev x)) (h:aJ C (.makeSlice t l c) ρ KV Kp s) :
    OutV C F g KV Kp ((execOp ev ⟨dst,.makeSlice t l c,ty,pos,after,gd⟩).run C.P w):=by
  simp only[aJ] at h;split at h
  · rename_i kl n kc m ti hl hc hti
    obtain ⟨d,hd,hok⟩:=fH hti;split at h
    · rename_i e hk
      rw[hk] at hok;simp only[TK.ok] at hok;subst hok;split at h
      · rename_i te hte
        obtain ⟨⟨rfl,h0,h1,h2,h3⟩,hK⟩:=h;obtain ⟨i,z,hi,his,hib,hiz,hzr⟩:=(C.htt e te hte).info;have hzl:=(C.htt e te hte).len;have hz1:=(C.htt e te hte).one
        obtain ⟨x,hx⟩:∃ x,te.zero=[x]:=by
          match hq:te.zero with
          | [x]=>exact ⟨x,rfl⟩
          | []=>rw[hq,h1] at hzl;cases hzl
          | _::_::_=>rw[hq,h1] at hzl;simp at hzl
        obtain ⟨v,hv⟩:∃ v,z.cells=#[v]:=by
          have h4:=(hzr g).1;rw[hx] at h4
          match hq:z.cells.toList with
          | [v]=>exact ⟨v,by apply Array.ext';rw[hq]⟩
          | []=>rw[hq] at h4;simp at h4
          | _::_::_=>rw[hq] at h4;simp at h4
        have hxv:Rz g x v:=by
          have:=hzr g;rw[hx,hv] at this;exact this.2 0 x v (by simp) (by simp)
        have hrun:=run_make (P:=C.P) w t e i z hd hi hiz kl kc n n (by omega) (oI _)
          (by rw [hib]; have : ((te.bytes * n.toNat : Nat) : Int) ≤ 281474976710656 := by omega
              rw[Int.natCast_mul,Int.toNat_of_nonneg (by omega)] at this;exact this) (by omega)
        rw[his,h1,Nat.mul_one,hv] at hrun
        have hmc:madeCells #[v] n.toNat=(List.replicate n.toNat v).toArray:=by
          apply Array.ext
          · simp[madeCells]
          · intro j h5 h6
            simp[madeCells,Nat.mod_one]
        simp only[execOp,(he l _ hl).int_inv,(he c _ hc).int_inv];refine aCN (ob:=.cells e (List.replicate n.toNat te.zero).flatten) hR ⟨List.replicate n.toNat v,[],rfl,?_,?_⟩ (fun g' b hb=>?_) (by rw[hmc] at hrun;simpa using hrun) hK
        · rw[hx,aD6]
          refine ⟨by simp,fun j a u ha hu=>?_⟩;rw[List.getElem?_replicate] at ha hu;split at ha
          · rename_i hj;rw[if_pos hj] at hu;cases ha;cases hu;exact hxv
          · cases ha
        · rw[hx,aD6]
          intro a ha;rw[List.eq_of_mem_replicate ha];exact hz1 x (by rw[hx];simp)
        · exact .ml b 0 _ _ _ hb (bG _) (by unfold maxLen;omega)
      · exact h.elim
    · exact h.elim
  · exact h.elim
theorem aLZ {KV Kp:St→A→Prop} {t ty:TypeId} {x:Operand} {dst:Option Tmp} {pos:String} {after:Array Edge} {gd:Option (Nat × Bool)}
  (hR:R C.toCtx F g s w) (he:∀ x a,ρ x=some a→Rz g a (ev x)) (h:aJ C (.range t x) ρ KV Kp s) :
  OutV C F g KV Kp ((execOp ev ⟨dst,.range t x,ty,pos,after,gd⟩).run C.P w):=by
 simp only[aJ] at h;split at h
 ·rename_i x' ti hx hti;split at h
  ·rename_i hk;obtain ⟨d,hd,hok⟩:=fH hti;rw[hk] at hok;simp only[TK.ok] at hok;subst hok;have hv:=(he x _ hx).str_inv;simp only[execOp];exact aCN (ob:=.iter x' 0) (o:=.stringIter ⟨x'.toArray⟩ 0) hR rfl (fun g' b hb=>.ptr b 0 _ hb) (by rw[hv];exact run_range_string w t _ hd) h
  ·exact h.elim
 ·exact h.elim
theorem aMD {KV Kp:St→A→Prop} {ty:TypeId} {x:Operand} {str:Bool} {dst:Option Tmp} {pos:String} {after:Array Edge} {gd:Option (Nat × Bool)}
  (hR:R C.toCtx F g s w) (he:∀ x a,ρ x=some a→Rz g a (ev x)) (h:aJ C (.next x str) ρ KV Kp s) :
  OutV C F g KV Kp ((execOp ev ⟨dst,.next x str,ty,pos,after,gd⟩).run C.P w):=by
 cases str
 ·simp only[aJ,aQ] at h
 simp only[aJ] at h;split at h
 ·rename_i b hx;split at h
  ·rename_i x' p hb;obtain ⟨k,hv,hbk⟩:=(he x _ hx).ptr_inv;obtain ⟨k',hbk',ho,_,_⟩:=hR.obj b _ hb;rw[hbk] at hbk';cases hbk';have hh:w.heap[k]?=some (.stringIter ⟨x'.toArray⟩ p):=ho;have hlt:k<w.heap.size:=(fP.1 hh).1;have hsz:(ByteArray.mk x'.toArray).size=x'.length:=by simp[ByteArray.size]
   simp only[execOp];rw[tL,hv];unfold wY at h;split at h
   ·rename_i hp
    have hrun:(Instr.next (.pointer (some ⟨k,0,none⟩)) true ty).run C.P w=.ok (.tuple #[.bool true,goInt p,.int .i32 (Utf8.decode ⟨x'.toArray⟩ p).1])
      { w with heap:=w.heap.setIfInBounds k (.stringIter ⟨x'.toArray⟩ (p+(Utf8.decode ⟨x'.toArray⟩ p).2)) }:=by
     simp only[Instr.next,getObj,setObj,aV,Sem.run,hh,Result.andThen,hsz,hp,if_true,hlt];rfl
    rw[hrun];refine ⟨g,_,_,dX g,hR.setObj hb hbk (ob:=.iter x' _) (fun k hk=>?_) ?_,?_,h⟩
    ·simp[xO (Ne.symm hk)]
    ·simp[ObRz,hlt]
    ·refine .tuple _ [_,_,_] rfl fun j c v hc hv=>?_
     match j with
     | 0=>simp at hc hv;subst hc;subst hv;exact .bool _
     | 1=>simp at hc hv;subst hc;subst hv;exact .int _ _
     | 2=>simp at hc hv;subst hc;subst hv;exact .int _ _
     | _+3=>simp at hc
   ·rename_i hp
    have hrun:(Instr.next (.pointer (some ⟨k,0,none⟩)) true ty).run C.P w=.ok (.tuple #[.bool false]) w:=by
     simp only[Instr.next,getObj,aV,Sem.run,hh,Result.andThen,hsz,hp,if_false];rfl
    rw[hrun];refine ⟨g,_,_,dX g,hR,?_,h⟩;refine .tuple _ [_] rfl fun j c v hc hv=>?_
    match j with
    | 0=>simp at hc hv;subst hc;subst hv;exact .bool _
    | _+1=>simp at hc
  ·exact h.elim
 ·exact h.elim
end
end
end Go.AV
