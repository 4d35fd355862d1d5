/- Part 18 of the proof: CbKs, CbLp, CbKd, CbKr, CbGc, CbKe, CbKq, CbKf, CbKg, CbKh, CbKi, CbKj, CbKk, CbKl, CbAp0, CbC25N, CbV51P, CbTy, CbSimI, CbTo, CbT1p, CbT2p, CbT3p, CbV25E, CbJ1, CbP1, CbV25S, CbAn0, CbAn1, CbAn2, CbAn3, CbAn4, CbAn5, CbAn6, CbAn7, CbAn8, CbAn9, CbAnA, CbAnB, CbAnC, CbAnD, CbAnE, CbAnF. -/
import Derived.Test.YtcihddahcplehaaGreatDoorB3
import Derived.Test.YtcihddahcplehaaGreatDoorB2
import Derived.Laws.BitsLemmas
import Derived.Test.YtcihddahcplehaaGreatDoorB6
import Derived.Test.YtcihddahcplehaaGreatDoorB7
import Derived.Test.YtcihddahcplehaaGreatDoorB8
import Derived.Test.YtcihddahcplehaaGreatDoorB1
section
namespace Go.Sim
inductive Hd {α:Type}:α→Type where
 |h (x:α):Hd x
section
variable {R α β : Type}
def bo (x:Option α) {k:α→Option R} (_:Hd k):Option R:=match x with|some a=>k a|none=>none
def bo2 (x:Option (PV×Heap)) {k:PV→Heap→Option R} (_:Hd k):Option R:=match x with|some (v,H)=>k v H|none=>none
def brn (b:Bool) {x y:Option R} (_:Hd (x,y)):Option R:=match b with|true=>x|false=>y
def chk (p:Prop) [Decidable p] {x:Option R} (_:Hd x):Option R:=if p then x else none
theorem qeA (x y:Option R):brn true (.h (x,y))=x:=rfl
theorem qeJ (x y:Option R):brn false (.h (x,y))=y:=rfl
theorem qdp (b:Bool) (x y:Option R):brn (!b) (.h (x,y))=brn b (.h (y,x)):=by cases b<;>rfl
theorem qbs {b:Bool} {x y z:Option R} (h1:b=true→x=z) (h2:b=false→y=z):brn b (.h (x,y))=z:=by cases b;exact h2 rfl;exact h1 rfl
theorem qes (x:Option R):chk True (.h x)=x:=rfl
theorem qdK (a:α) (k:α→Option R):bo (some a) (.h k)=k a:=rfl
theorem qdw (k:α→Option R):bo none (.h k)=none:=rfl
theorem qdF (v:PV) (H:Heap) (k:PV→Heap→Option R):bo2 (some (v,H)) (.h k)=k v H:=rfl
theorem qdN (k:PV→Heap→Option R):bo2 none (.h k)=none:=rfl
theorem qis (x:Option PV) (H:Heap) (k:PV→Heap→Option R):bo2 (opt x H) (.h k)=bo x (.h fun v=>k v H):=by cases x<;>rfl
theorem qyZ (x:Option DV) (H:Heap) (k:PV→Heap→Option R):bo2 (qft x H) (.h k)=bo x (.h fun v=>k (.d v) H):=by cases x<;>rfl
abbrev KC (R:Type):=Ex→Fr→Heap→Option R
abbrev KO (R:Type):=Fr→Heap→Option R
noncomputable def kC (E:Env) (base:Nat) (fr:Fr) (H:Heap) {c:PC} {k:KC R} (_:Hd (c,k)):Option R:=match qah E lpI base c ⟨fr,H⟩ with|some (e,s)=>k e s.fr s.H|none=>none
def kO (E:Env) (id:Nat) (fr:Fr) (H:Heap) {ops:List IOper} {k:KO R} (_:Hd (ops,k)):Option R:=match qay E ops id ⟨fr,H⟩ with|some s=>k s.fr s.H|none=>none
def kD (E:Env) (id:Nat) (fr:Fr) (H:Heap) (bf:List Nat) (acc:List (List Nat×List Nat)) {ops:List IOper} {k:KO R} (_:Hd (ops,k)):Option R:=match qbm E ops bf acc id ⟨fr,H⟩ with|some s=>k s.fr s.H|none=>none
variable {E : Env} {base : Nat} {fr : Fr} {H : Heap} {k : KC R} {j : KO R}
theorem qep:kC E base fr H (.h (.skip,k))=k .norm fr H:=rfl
theorem qeN:kC E base fr H (.h (.ret,k))=k .ret fr H:=rfl
theorem qen {id:Nat}:kC E base fr H (.h (.exit id,k))=k (.exit id) fr H:=rfl
noncomputable def sqK (E:Env) (base:Nat) (b:PC) (k:KC R):KC R
 | .norm,fr,H=>kC E base fr H (.h (b,k))
 | .exit id,fr,H=>k (.exit id) fr H
 | .ret,fr,H=>k .ret fr H
def blK (id:Nat) (k:KC R):KC R
 | .exit i,fr,H=>if i=id then k .norm fr H else k (.exit i) fr H
 | .norm,fr,H=>k .norm fr H
 | .ret,fr,H=>k .ret fr H
def rgK (kill:List Nat) (k:KC R):KO R:=fun fr H=>k .norm (fr.drop kill) H
theorem qe4 {a b:PC}:kC E base fr H (.h (.seq a b,k))=kC E base fr H (.h (a,sqK E base b k)):=by
 simp only[kC,qah];cases qah E lpI base a ⟨fr,H⟩ with
 |none=>rfl
 |some x=>obtain⟨e,s⟩:=x;cases e<;>rfl
theorem qdI {id:Nat} {x:PC}:kC E base fr H (.h (.block id x,k))=kC E base fr H (.h (x,blK id k)):=by
 simp only[kC,qah];cases qah E lpI base x ⟨fr,H⟩ with
 |none=>rfl
 |some y =>
  obtain⟨e,s⟩:=y;cases e with
  |norm=>rfl
  |ret=>rfl
  |exit i =>
   by_cases h:i=id
   ·subst h;simp[blK]
   ·simp[blK,h]
theorem qdy {ops:List IOper} {kill:List Nat}:kC E base fr H (.h (.reg ops kill,k))=kO E H.length fr (H++List.replicate (qaj ops) none) (.h (ops,rgK kill k)):=by
 simp only[kC,qah,qcd,kO];cases qay E ops H.length ⟨fr,H++List.replicate (qaj ops) none⟩<;>rfl
theorem qbq {ops:List IOper} {bf kill:List Nat}:kC E base fr H (.h (.regD ops bf kill,k))=kD E H.length fr (H++List.replicate (qaj ops) none) bf [] (.h (ops,rgK kill k)):=by
 simp only[kC,qah,qcR,kD];cases qbm E ops bf [] H.length ⟨fr,H++List.replicate (qaj ops) none⟩<;>rfl
def Fr.fix:Fr→Nat→Bool→Fr
 | [],_,_=>[]
 | (j,v)::r,t,b=>if j=t then (j,.d (.b b))::r else (j,v)::Fr.fix r t b
theorem qfw : ∀{fr:Fr} {t:Nat} {b:Bool},fr.get t = .d (.b b)→fr.fix t b=fr
 | [],t,b,h=>rfl
 | (j,x)::r,t,b,h=>by
  simp only[Fr.get] at h;simp only[Fr.fix];split
  ·rename_i hj;rw[if_pos hj] at h;rw[h]
  ·rename_i hj;rw[if_neg hj] at h;rw[qfw h]
def tst (v:PV) {x y:Option R} (_:Hd (x,y)):Option R:=match v with | .d (.b true)=>x | .d (.b false)=>y|_=>none
theorem qdv (b:Bool) (x y:Option R):tst (.d (.b b)) (.h (x,y))=brn b (.h (x,y)):=by cases b<;>rfl
theorem qeG {t:Nat} {x y:PC}:kC E base fr H (.h (.cond (.t t) x y,k))=tst (fr.get t) (.h (kC E base (fr.fix t true) H (.h (x,k)),kC E base (fr.fix t false) H (.h (y,k)))):=by
 simp only[kC,qah,rd];cases h:fr.get t with
 |d v =>
  cases v with
  |b b=>cases b with
   |true=>simp only[tst];rw[qfw h]
   |false=>simp only[tst];rw[qfw h]
  | _=>rfl
 | _=>rfl
theorem qdl {b:Bool} {x y:PC}:kC E base fr H (.h (.cond (.c (.b b)) x y,k))=brn b (.h (kC E base fr H (.h (x,k)),kC E base fr H (.h (y,k)))):=by
 cases b<;>rfl
theorem qeX {id:Nat}:kO E id fr H (.h ([],j))=j fr H:=rfl
def nid (op:IOp) (id:Nat):Nat:=if op.adds=true then id+1 else id
theorem qeO {d:Nat} {op:IOp} {r:List IOper} {id:Nat}:kO E id fr H (.h (⟨some d,op,none⟩::r,j))=bo2 (qaa E (rd E fr) H id op) (.h fun v H=>kO E (nid op id) (fr.set d v) H (.h (r,j))):=by
 simp only[kO,qay,bo2];cases qaa E (rd E fr) H id op<;>rfl
theorem qdo {op:IOp} {r:List IOper} {id:Nat}:kO E id fr H (.h (⟨none,op,none⟩::r,j))=bo2 (qaa E (rd E fr) H id op) (.h fun _ H=>kO E (nid op id) fr H (.h (r,j))):=by
 simp only[kO,qay,bo2];cases qaa E (rd E fr) H id op<;>rfl
def grd (v:PV) (w:Bool) {x y z:Option R} (_:Hd (x,y,z)):Option R:=match v with | .d (.b b)=>if b=w then x else y | .t []=>z|_=>none
theorem qdA (b:Bool) (x y z:Option R):grd (.d (.b b)) true (.h (x,y,z))=brn b (.h (x,y)):=by cases b<;>rfl
theorem qeD (b:Bool) (x y z:Option R):grd (.d (.b b)) false (.h (x,y,z))=brn b (.h (y,x)):=by cases b<;>rfl
theorem qdx (w:Bool) (x y z:Option R):grd (.t []) w (.h (x,y,z))=z:=rfl
theorem qc2 {d t:Nat} {w:Bool} {op:IOp} {r:List IOper} {id:Nat}:kO E id fr H (.h (⟨some d,op,some (t,w)⟩::r,j)) =
  grd (fr.get t) w (.h (bo2 (qaa E (rd E (fr.fix t w)) H id op) (.h fun v H=>kO E (nid op id) ((fr.fix t w).set d v) H (.h (r,j))),kO E (nid op id) ((fr.fix t (!w)).set d (.t [])) H (.h (r,j)),kO E (nid op id) (fr.set d (.t [])) H (.h (r,j)))):=by
 simp only[kO,qay];cases h:fr.get t with
 |d v =>
  cases v with
  |b b =>
   by_cases hb:b=w
   ·subst hb;rw[qfw h];simp only[grd,beq_self_eq_true,if_true];cases qaa E (rd E fr) H id op<;>rfl
   ·have e:(b==w)=false:=by simpa using hb
    have e2:b = !w:=by cases b<;>cases w<;>simp_all
    rw[e2] at h;simp only[grd,e,if_neg hb,zzg,if_false];rw[qfw h];rfl
  | _=>rfl
 |t vs=>cases vs<;>rfl
 | _=>rfl
theorem qe3 {t:Nat} {w:Bool} {op:IOp} {r:List IOper} {id:Nat}:kO E id fr H (.h (⟨none,op,some (t,w)⟩::r,j)) =
  grd (fr.get t) w (.h (bo2 (qaa E (rd E (fr.fix t w)) H id op) (.h fun _ H=>kO E (nid op id) (fr.fix t w) H (.h (r,j))),kO E (nid op id) (fr.fix t (!w)) H (.h (r,j)),kO E (nid op id) fr H (.h (r,j)))):=by
 simp only[kO,qay];cases h:fr.get t with
 |d v =>
  cases v with
  |b b =>
   by_cases hb:b=w
   ·subst hb;rw[qfw h];simp only[grd,beq_self_eq_true,if_true];cases qaa E (rd E fr) H id op<;>rfl
   ·have e:(b==w)=false:=by simpa using hb
    have e2:b = !w:=by cases b<;>cases w<;>simp_all
    rw[e2] at h;simp only[grd,e,if_neg hb,zzg,if_false];rw[qfw h];rfl
  | _=>rfl
 |t vs=>cases vs<;>rfl
 | _=>rfl
variable {ρ : Rand → PV} {id : Nat} {q : PV → Heap → Option R}
theorem qdn {x:Rand}:bo2 (qaa E ρ H id (.mov x)) (.h q)=q (ρ x) H:=rfl
theorem qc1 {c x y:Rand}:bo2 (qaa E ρ H id (.pick c x y)) (.h q)=tst (ρ c) (.h (q (ρ x) H,q (ρ y) H)):=by
 simp only[qaa];cases ρ c with
 |d v =>
  cases v with
  |b b=>cases b<;>rfl
  | _=>rfl
 | _=>rfl
theorem qet {K:Sim.K} {z:DV}:bo2 (qaa E ρ H id (.alloc K z)) (.h q)=q (.p id 0 0) (H.put id (some (.box K (.d z)))):=rfl
theorem qd2 {K:Sim.K} {x:Rand}:bo2 (qaa E ρ H id (.box K x)) (.h q)=chk (fits K (ρ x)=true) (.h (q (.p id 0 0) (H.put id (some (.box K (ρ x)))))):=by
 simp only[qaa,chk];split<;>rfl
theorem qeb {K:Sim.K} {x:Rand}:bo2 (qaa E ρ H id (.load K x)) (.h q)=bo (qbl H K (ρ x)) (.h fun v=>q v H):=by
 simp only[qaa];exact qis _ _ _
theorem qdR {K:Sim.K} {x y:Rand}:bo2 (qaa E ρ H id (.store K x y)) (.h q)=bo (qb6 H K (ρ x) (ρ y)) (.h fun H'=>q .u H'):=by
 simp only[qaa];cases qb6 H K (ρ x) (ρ y)<;>rfl
theorem qdm {op:BinOp} {x y:Rand}:bo2 (qaa E ρ H id (.bin op x y)) (.h q)=bo (qaV op (ρ x) (ρ y)) (.h fun v=>q (.d v) H):=by
 simp only[qaa];exact qyZ _ _ _
theorem qdU {op:UnOp} {x:Rand}:bo2 (qaa E ρ H id (.un op x)) (.h q)=bo (unA op (ρ x)) (.h fun v=>q (.d v) H):=by
 simp only[qaa];exact qyZ _ _ _
theorem qef {neg:Bool} {n:List Nat} {x y:Rand}:bo2 (qaa E ρ H id (.eqv neg n x y)) (.h q)=bo (eqA n (ρ x) (ρ y)) (.h fun e=>q (.d (.b (if neg=true then !e else e))) H):=by
 simp only[qaa];cases eqA n (ρ x) (ρ y)<;>rfl
theorem qc5 {o:Nat} {x:Rand}:bo2 (qaa E ρ H id (.faddr o x)) (.h q)=bo (qfG o (ρ x)) (.h fun v=>q v H):=by
 simp only[qaa];exact qis _ _ _
theorem qev {o:Nat} {K:Sim.K} {x:Rand}:bo2 (qaa E ρ H id (.field o K x)) (.h q)=bo (qd9 o K (ρ x)) (.h fun v=>q v H):=by
 simp only[qaa];exact qis _ _ _
theorem qdW {K:Sim.K} {x i:Rand}:bo2 (qaa E ρ H id (.iaddr K x i)) (.h q)=bo (iaddr H K (ρ x) (ρ i)) (.h fun v=>q v H):=by
 simp only[qaa];exact qis _ _ _
theorem qdV {K:Sim.K} {x:Rand} {lo hi mx:Option Rand}:bo2 (qaa E ρ H id (.sl K x lo hi mx)) (.h q)=bo (slA H K (ρ x) (lo.map ρ) (hi.map ρ) (mx.map ρ)) (.h fun v=>q v H):=by
 simp only[qaa];exact qis _ _ _
theorem qd6 {s:Bool} {x:Rand}:bo2 (qaa E ρ H id (.len s x)) (.h q)=bo (qbw H s (ρ x)) (.h fun n:Nat=>q (.d (.i .i64 (n:Int))) H):=by
 simp only[qaa];cases qbw H s (ρ x)<;>rfl
theorem qeU {K:Sim.K} {b:Nat} {x y:Rand}:bo2 (qaa E ρ H id (.app K b x y)) (.h q)=bo2 (qcl H id K b (ρ x) (ρ y)) (.h q):=rfl
theorem qer {f:Nat} {as0:List Rand}:bo2 (qaa E ρ H id (.call 0 f as0)) (.h q)=bo (qaL H (as0.map ρ)) (.h fun d=>bo (E.val f d.1) (.h fun r=>q r.1 (if (d.2.isEmpty||r.1.scal)=true then H else frz H d.2))):=by
 simp only[qaa];cases qaL H (as0.map ρ) with
 |none=>rfl
 |some d =>
  simp only[bo];cases E.val f d.1 with
  |none=>rfl
  |some r=>rfl
def qug (x:PV×Bool) {q:K→List DV→Option R} (_:Hd q):Option R:=match x with|(.d (.l k es _),true)=>q k es|_=>none
theorem qdL {k:K} {es:List DV} {t:Bool} {q:K→List DV→Option R}:qug (.d (.l k es t),true) (.h q)=q k es:=rfl
theorem qdZ {f:Nat} {as0:List Rand}:bo2 (qaa E ρ H id (.call 1 f as0)) (.h q)=bo (qaL H (as0.map ρ)) (.h fun d=>bo (E.val f d.1) (.h fun r=>qug r (.h fun k es=>q (.r id k 0 es.length false) ((if d.2.isEmpty=true then H else frz H d.2).put id (some (.sl k 0 es)))))):=by
 simp only[qaa];cases qaL H (as0.map ρ) with
 |none=>rfl
 |some d =>
  simp only[bo];cases E.val f d.1 with
  |none=>rfl
  |some r =>
   obtain⟨r,o⟩:=r;cases r with
   |d v=>cases v with
    |l k es t=>cases o<;>rfl
    | _=>rfl
   | _=>rfl
theorem qda {m f:Nat} {as0:List Rand}:bo2 (qaa E ρ H id (.call (m+2) f as0)) (.h q)=bo2 (E.ref f (as0.map ρ) H) (.h q):=rfl
def qrZ (x:PV) (i:Nat) {q:PV→Option R} (_:Hd q):Option R:=match x with | .t vs=>bo vs[i]? (.h q)|_=>none
theorem qeK {vs:List PV} {i:Nat} {q:PV→Option R}:qrZ (.t vs) i (.h q)=bo vs[i]? (.h q):=rfl
theorem qdG {x:Rand} {i:Nat}:bo2 (qaa E ρ H id (.ext x i)) (.h q)=qrZ (ρ x) i (.h fun v=>q v H):=by
 simp only[qaa,qrZ];cases ρ x with
 |t vs=>exact qis _ _ _
 | _=>rfl
def qoA (x:PV) (lo hi:Option PV) {q:PV→Option R} (_:Hd q):Option R:=match x with | .d (.s s)=>bo (bnd s.length s.length hi) (.h fun h=>bo (bnd 0 h lo) (.h fun l=>q (.d (.s ((s.take h).drop l)))))|_=>none
theorem qeh {s:List UInt8} {lo hi:Option PV} {q:PV→Option R}:qoA (.d (.s s)) lo hi (.h q)=bo (bnd s.length s.length hi) (.h fun h=>bo (bnd 0 h lo) (.h fun l=>q (.d (.s ((s.take h).drop l))))):=rfl
theorem qde {x:Rand} {lo hi:Option Rand}:bo2 (qaa E ρ H id (.slS x lo hi)) (.h q)=qoA (ρ x) (lo.map ρ) (hi.map ρ) (.h fun v=>q v H):=by
 simp only[qaa,qoA];cases ρ x with
 |d v=>cases v with
  |s s =>
   simp only;cases bnd s.length s.length (hi.map ρ) with
   |none=>rfl
   |some h=>simp only[bo];cases bnd 0 h (lo.map ρ)<;>rfl
  | _=>rfl
 | _=>rfl
def qi3 (x i:PV) {q:PV→Option R} (_:Hd q):Option R:=match x,i with | .d (.s s),.d (.i _ n)=>chk (0≤n) (.h (bo s[n.toNat]? (.h fun b=>q (.d (.i .u8 b.toNat)))))|_,_=>none
theorem qh0 {s:List UInt8} {kk:IntKind} {n:Int} {q:PV→Option R}:qi3 (.d (.s s)) (.d (.i kk n)) (.h q)=chk (0≤n) (.h (bo s[n.toNat]? (.h fun b=>q (.d (.i .u8 b.toNat))))):=rfl
theorem qCj {x i:Rand} {s:List UInt8} {kk:IntKind} {n:Int} (hx:ρ x = .d (.s s)) (hi:ρ i = .d (.i kk n)):bo2 (qaa E ρ H id (.idxS x i)) (.h q)=chk (0≤n) (.h (bo s[n.toNat]? (.h fun b=>q (.d (.i .u8 b.toNat)) H))):=by
 simp only[qaa,hx,hi,asI,chk];split
 ·cases s[n.toNat]? <;> rfl
 ·rfl
variable {kk : IntKind}
theorem qeV {d top:Nat} {n:Int} {y:Nat→Option R}:bo (bnd d top (some (.d (.i kk n)))) (.h y)=chk (0≤n∧n≤top) (.h (y n.toNat)):=by
 simp only[bnd,asI,chk];split<;>rfl
theorem qeL {d top:Nat} {y:Nat→Option R}:bo (bnd d top none) (.h y)=y d:=rfl
theorem qea {K K':Sim.K} {es:List DV} {t:Bool} {n:Int} {y:PV→Option R} (hK:K.eq K'=true):bo (iaddr H K (.d (.l K' es t)) (.d (.i kk n))) (.h y)=chk (0≤n∧n<es.length) (.h (bo es[n.toNat]? (.h fun e=>y (.q e K 0)))):=by
 simp only[iaddr,asI,inR,chk];by_cases h:0≤n∧n<es.length
 ·rw[if_pos h,if_pos h];simp only
  cases es[n.toNat]? with
  |none=>rfl
  |some e=>simp only[hK,if_true];rfl
 ·rw[if_neg h,if_neg h];rfl
theorem qe9 {x y:List UInt8} {z:DV→Option R}:bo (qaV .add (.d (.s x)) (.d (.s y))) (.h z)=chk (x.length+y.length<4611686018427387904) (.h (z (.s (x++y)))):=by
 simp only[qaV,qiH,chk];by_cases h:x.length+y.length<4611686018427387904
 ·rw[if_pos h,if_pos (by exact h)];rfl
 ·rw[if_neg h,if_neg (by exact h)];rfl
theorem qc9 {x y:Int} {z:DV→Option R}:bo (qaV .quo (.d (.i kk x)) (.d (.i kk y))) (.h z)=chk (y≠0) (.h (z (.i kk (kk.wrap (x.tdiv y))))):=by
 simp only[qaV,qb7,if_true,chk];by_cases h:y=0<;>simp[h,bo]
theorem qdY {x y:Int} {z:DV→Option R}:bo (qaV .rem (.d (.i kk x)) (.d (.i kk y))) (.h z)=chk (y≠0) (.h (z (.i kk (x.tmod y)))):=by
 simp only[qaV,qb7,if_true,chk];by_cases h:y=0<;>simp[h,bo]
end
noncomputable def fin (E:Env) (rs:List RV):KC (PV×Bool)
 | .exit _,_,_=>none
 | _,fr,H=>bo (runG E (qaE fr) H) (.h fun H=>bo (results fr H rs) (.h fun vs=>purT H (qaZ vs)))
theorem qaY (T:Tab) {f:Nat} {F:PF} (hF:T.F f=some F) {args:List DV} (ha:args.length=F.nargs):T.val f args=kC T.env 0 (Fr.ofArgs 0 (args.map .d)) [] (.h (F.body,fin T.env F.results)):=by
 rw[quG T hF];unfold qa4;rw[if_pos (by simpa using ha)]
 simp only[kC,List.length_nil];cases qah T.env lpI 0 F.body ⟨Fr.ofArgs 0 (args.map .d),[]⟩ with
 |none=>rfl
 |some x =>
  obtain⟨e,s⟩:=x;cases e with
  |exit id=>rfl
  |norm =>
   simp only[fin];cases runG T.env (qaE s.fr) s.H with
   |none=>rfl
   |some H'=>simp only[bo];cases results s.fr H' F.results<;>rfl
  |ret =>
   simp only[fin];cases runG T.env (qaE s.fr) s.H with
   |none=>rfl
   |some H'=>simp only[bo];cases results s.fr H' F.results<;>rfl
end Go.Sim
end
section
namespace Go.Sim
section
variable {R : Type} {E : Env} {base : Nat} {live : List Nat} {body : PC}
noncomputable def lpK (E:Env) (base:Nat) (live:List Nat) (body:PC) (k:KC R):KC R
 | .norm,fr,H=>kC E base fr H (.h (.loop live body,k))
 | .exit id,fr,H=>k (.exit id) fr H
 | .ret,fr,H=>k .ret fr H
theorem qlH {fr:Fr} {H:Heap} {k:KC R}:kC E base fr H (.h (.loop live body,k))=kC E base (gc live base ⟨fr,H⟩).fr (gc live base ⟨fr,H⟩).H (.h (body,lpK E base live body k)):=by
 have h:qah E lpI base (.loop live body) ⟨fr,H⟩=lpI (fun s=>qah E lpI base body (gc live base s)) ⟨fr,H⟩:=rfl
 simp only[kC,h];rw[qqq];cases hb:qah E lpI base body (gc live base ⟨fr,H⟩) with
 |none=>simp only
 |some x =>
  obtain⟨e,s⟩:=x;simp only;cases e with
  |norm=>rfl
  |exit id=>rfl
  |ret=>rfl
def rounds {α β:Type} (step:Nat→β→α→(β→Option R)→Option R) (done:β→Option R):Nat→β→List α→Option R
 | _,b,[]=>done b
 |i,b,x::r=>step i b x fun b'=>rounds step done (i+1) b' r
theorem qcc {α β:Type} (ls:List α) (st:Nat→β→St) (inv:Nat→β→Prop) (step:Nat→β→α→(β→Option R)→Option R) (done:β→Option R) {k:KC R}
  (hend : ∀B,B=body→∀b,inv ls.length b→kC E base (st ls.length b).fr (st ls.length b).H (.h (body,lpK E base live B k))=done b)
  (hround : ∀B,B=body→∀i b (h:i<ls.length),inv i b→∀c:β→Option R,(∀b' fr H,inv (i+1) b'→gc live base ⟨fr,H⟩=st (i+1) b'→kC E base fr H (.h (.loop live B,k))=c b')→kC E base (st i b).fr (st i b).H (.h (body,lpK E base live B k))=step i b ls[i] c)
  {fr:Fr} {H:Heap} {b0:β} (h0:gc live base ⟨fr,H⟩=st 0 b0) (hi:inv 0 b0):kC E base fr H (.h (.loop live body,k))=rounds step done 0 b0 ls:=by
 have key : ∀(n i:Nat) (b:β) (fr:Fr) (H:Heap),i+n=ls.length→inv i b→gc live base ⟨fr,H⟩=st i b→kC E base fr H (.h (.loop live body,k))=rounds step done i b (ls.drop i):=by
  intro n;induction n with
  |zero =>
   intro i b fr H hn hv hg;have hi:i=ls.length:=by omega
   subst hi;rw[qlH,hg,hend body rfl b hv,List.drop_length];rfl
  |succ n ih =>
   intro i b fr H hn hv hg;have hlt:i<ls.length:=by omega
   rw[qlH,hg,List.drop_eq_getElem_cons hlt];exact hround body rfl i b hlt hv _ fun b' fr' H' hv' hg'=>ih (i+1) b' fr' H' (by omega) hv' hg'
 have:=key ls.length 0 b0 fr H (by omega) hi h0
 simpa using this
theorem qgR {α:Type} (p:α→Bool) (r:Option R) (done:Unit→Option R) (step:Nat→Unit→α→(Unit→Option R)→Option R) (hs : ∀i b x c,step i b x c=if p x=true then r else c ()) : ∀(i:Nat) (ls:List α),rounds step done i () ls=if ls.any p=true then r else done ()
 |i,[]=>by simp[rounds]
 |i,x::l=>by
  rw[rounds,hs,qgR p r done step hs (i+1) l];cases h:p x<;>simp[h]
theorem qnP {α:Type} (p:α→Bool) (r:Option R) (done:Unit→Option R) (step:Nat→Unit→α→(Unit→Option R)→Option R) (hs : ∀i b x c,step i b x c=if p x=true then c () else r) : ∀(i:Nat) (ls:List α),rounds step done i () ls=if ls.all p=true then done () else r
 |i,[]=>by simp[rounds]
 |i,x::l=>by
  rw[rounds,hs,qnP p r done step hs (i+1) l];cases h:p x<;>simp[h]
end
end Go.Sim
end
section
namespace Go.Sim
section
variable {R : Type} {y : PV → Option R} {H : Heap}
theorem qzn (v:DV):(PV.d v).cells=v.cells.map .d:=by cases v<;>rfl
theorem qu5 {α:Type} (l:List α) (c:Nat):(l.drop c).take 1=match l[c]? with|some x=>[x]|none=>[]:=by
 cases h:l[c]? with
 |none=>rw[List.getElem?_eq_none_iff] at h;rw[List.drop_eq_nil_iff.2 h];rfl
 |some x =>
  obtain⟨hc,rfl⟩:=zzk.1 h;rw[List.drop_eq_getElem_cons hc];rfl
theorem qdS (n:Nat) (v:DV) (c:Nat):bo (qdd (some n) (.d v) c none) (.h y)=chk (c<n) (.h (bo v.cells[c]? (.h fun x=>y (.d x)))):=by
 unfold chk;simp only[qdd,K.eq,Bool.and_false,zzg,if_false];change bo (@ite _ (c+1≤n) (Nat.decLe _ _) (mkP none ((List.drop c (PV.d v).cells).take 1)) none) (.h y)=_
 by_cases h:c<n
 ·rw[if_pos h,if_pos (by omega),qu5,qzn,zzj]
  cases v.cells[c]? <;> rfl
 ·rw[if_neg h,if_neg (by omega)];rfl
theorem qkS (n:Nat) (v:DV) (c:Nat) {z:DV→Option R}:bo (qcq (some n) v c none) (.h z)=chk (c<n) (.h (bo v.cells[c]? (.h z))):=by
 unfold chk;simp only[qcq,K.eq,Bool.and_false,zzg,if_false];change bo (@ite _ (c+1≤n) (Nat.decLe _ _) (mkD none ((List.drop c v.cells).take 1)) none) (.h z)=_
 by_cases h:c<n
 ·rw[if_pos h,if_pos (by omega),qu5]
  cases v.cells[c]? <;> rfl
 ·rw[if_neg h,if_neg (by omega)];rfl
theorem qeq (n:Nat) (v:DV) (c:Nat):bo (qbl H none (.q v (some n) c)) (.h y)=chk (c<n) (.h (bo v.cells[c]? (.h fun x=>y (.d x)))):=by
 have h:=qkS (R:=R) n v c (z:=fun x=>y (.d x))
 rw[←h];simp only[qbl];cases qcq (some n) v c none<;>rfl
theorem qcQ (k:K) (v:DV):bo (qbl H k (.q v k 0)) (.h y)=y (.d v):=by
 have:K.eq k k=true:=by cases k<;>simp[K.eq]
 simp[qbl,qcq,this,bo]
theorem qdt (x:Option Obj) (H:Heap):Heap.obj (x::H) 0=x:=rfl
theorem qex (x:Option Obj) (H:Heap) (n:Nat):Heap.obj (x::H) (n+1)=Heap.obj H n:=rfl
theorem qeZ (k:K) (o i c:Nat):bo (qbl H k (.p o i c)) (.h y)=match H.obj o with
  |some (.box kb v)=>chk (i=0) (.h (bo (qdd kb v c k) (.h y)))
  |some (.sl kb _ es)=>bo es[i]? (.h fun e=>bo (qcq kb e c k) (.h fun x=>y (.d x)))
  | _=>none:=by
 simp only[qbl];cases H.obj o with
 |none=>rfl
 |some x=>cases x with
  |box kb v =>
   simp only;by_cases h:i=0
   ·subst h;simp[chk]
   ·have:(i==0)=false:=by simpa using h
    simp[h,this,bo,chk]
  |sl kb ro es =>
   simp only;cases es[i]? with
   |none=>rfl
   |some e=>simp only[bo];cases qcq kb e c k<;>rfl
  | _=>rfl
theorem qcZ (k:K) (v:PV):bo (qdd k v 0 k) (.h y)=y v:=by
 have:K.eq k k=true:=by cases k<;>simp[K.eq]
 simp[qdd,this,bo]
theorem qed (off o i c:Nat):bo (qfG off (.p o i c)) (.h y)=y (.p o i (c+off)):=rfl
theorem qdH (off:Nat) (v:DV) (k:K) (c:Nat):bo (qfG off (.q v k c)) (.h y)=y (.q v k (c+off)):=rfl
variable {z : Nat → Option R}
theorem qdk (k:K) (es:List DV) (t:Bool):bo (qbw H false (.d (.l k es t))) (.h z)=z es.length:=rfl
theorem qeM (s:List UInt8):bo (qbw H true (.d (.s s))) (.h z)=z s.length:=rfl
theorem qeW (o:Nat) (k:K) (off len:Nat) (t:Bool):bo (qbw H false (.r o k off len t)) (.h z)=match H.obj o with|some (.sl _ _ es)=>chk (off+len≤es.length) (.h (z len))|_=>none:=by
 simp only[qbw,chk];cases H.obj o with
 |none=>rfl
 |some x=>cases x with
  |sl kb ro es=>simp only[zzg,if_false];split<;>rfl
  | _=>rfl
variable {d : DV → Option R}
section
variable (k : IntKind) (a b : Int)
theorem qdz:bo (qaV .add (.d (.i k a)) (.d (.i k b))) (.h d)=d (.i k (k.wrap (a+b))):=by simp[qaV,qb7,bo]
theorem qdX:bo (qaV .sub (.d (.i k a)) (.d (.i k b))) (.h d)=d (.i k (k.wrap (a-b))):=by simp[qaV,qb7,bo]
theorem qem:bo (qaV .mul (.d (.i k a)) (.d (.i k b))) (.h d)=d (.i k (k.wrap (a*b))):=by simp[qaV,qb7,bo]
theorem qe7:bo (qaV .eql (.d (.i k a)) (.d (.i k b))) (.h d)=d (.b (a==b)):=by simp[qaV,qb7,bo]
theorem qdi:bo (qaV .neq (.d (.i k a)) (.d (.i k b))) (.h d)=d (.b (a != b)):=by simp[qaV,qb7,bo]
theorem qc7:bo (qaV .lss (.d (.i k a)) (.d (.i k b))) (.h d)=d (.b (decide (a<b))):=by simp[qaV,qb7,bo]
theorem qeT:bo (qaV .leq (.d (.i k a)) (.d (.i k b))) (.h d)=d (.b (decide (a≤b))):=by simp[qaV,qb7,bo]
theorem qec:bo (qaV .gtr (.d (.i k a)) (.d (.i k b))) (.h d)=d (.b (decide (b<a))):=by simp[qaV,qb7,bo]
theorem qe5:bo (qaV .geq (.d (.i k a)) (.d (.i k b))) (.h d)=d (.b (decide (b≤a))):=by simp[qaV,qb7,bo]
theorem qe8:bo (unA .neg (.d (.i k a))) (.h d)=d (.i k (k.wrap (-a))):=by simp[unA,bo]
end
theorem qe2 (b:Bool):bo (unA .not (.d (.b b))) (.h d)=d (.b (!b)):=rfl
theorem qee (a b:List UInt8):bo (qaV .eql (.d (.s a)) (.d (.s b))) (.h d)=d (.b (a==b)):=rfl
theorem qdh (a b:List UInt8):bo (qaV .neq (.d (.s a)) (.d (.s b))) (.h d)=d (.b (!(a==b))):=rfl
theorem qe6 (n m:Nat):K.eq (some n) (some m)=(n==m):=rfl
theorem qdj (n:Nat):K.eq none (some n)=false:=rfl
theorem qdQ (n:Nat):K.eq (some n) none=false:=rfl
theorem qb5 (k:K):K.eq k k=true:=by cases k<;>simp[K.eq]
theorem qdq (j t:Nat) (v:PV) (r:Fr):Fr.get ((j,v)::r) t=if j=t then v else Fr.get r t:=rfl
theorem qd0 (t:Nat):Fr.get [] t = .u:=rfl
theorem qeR (l:List Nat) (j:Nat) (v:PV) (r:Fr):Fr.drop l ((j,v)::r)=if (l.contains j&&Nat.blt j gh)=true then Fr.drop l r else (j,v)::Fr.drop l r:=rfl
theorem qdg (l:List Nat):Fr.drop l []=[]:=rfl
theorem qd7 (j t:Nat) (x v:PV) (r:Fr):Fr.set ((j,x)::r) t v=if j=t then (t,v)::r else if j<t then (t,v)::(j,x)::r else (j,x)::Fr.set r t v:=rfl
theorem qds (t:Nat) (v:PV):Fr.set [] t v=[(t,v)]:=rfl
theorem qdr (j t:Nat) (v:PV) (r:Fr) (b:Bool):Fr.fix ((j,v)::r) t b=if j=t then (j,.d (.b b))::r else (j,v)::Fr.fix r t b:=rfl
theorem qeB (t:Nat) (b:Bool):Fr.fix [] t b=[]:=rfl
theorem wrI {n:Int} (h : -9223372036854775808≤n) (h':n<9223372036854775808):IntKind.i64.wrap n=n:=by
 rw[IntKind.wrap_i64];omega
theorem qeS (j:Nat) (v:PV) (r:Fr):qaE ((j,v)::r)=if Nat.ble gh j=true then v::qaE r else qaE r:=rfl
theorem qc4:qaE []=[]:=rfl
theorem qcn {E:Env} {rs:List RV} {fr:Fr} (h:qaE fr=[]):fin E rs .ret fr H=bo (results fr H rs) (.h fun vs=>purT H (qaZ vs)):=by
 simp only[fin,h];rfl
theorem qdD {E:Env} {rs:List RV} {fr:Fr} (h:qaE fr=[]):fin E rs .norm fr H=bo (results fr H rs) (.h fun vs=>purT H (qaZ vs)):=by
 simp only[fin,h];rfl
theorem qcK {fr:Fr} {y:List PV→Option R}:bo (results fr H []) (.h y)=y []:=rfl
theorem qcN {fr:Fr} {n:Nat} {r:List RV} {y:List PV→Option R}:bo (results fr H (.t n::r)) (.h y)=bo (results fr H r) (.h fun vs=>y (fr.get n::vs)):=by
 simp only[results];cases results fr H r<;>rfl
theorem qc6 {fr:Fr} {n:Nat} {k:K} {r:List RV} {y:List PV→Option R}:bo (results fr H (.c n k::r)) (.h y)=bo (qbl H k (fr.get n)) (.h fun v=>bo (results fr H r) (.h fun vs=>y (v::vs))):=by
 simp only[results];cases qbl H k (fr.get n) with
 |none=>rfl
 |some v=>simp only[bo];cases results fr H r<;>rfl
theorem qc8 (v:PV):qaZ [v]=v:=rfl
theorem qdc (v w:PV) (r:List PV):qaZ (v::w::r) = .t (v::w::r):=rfl
theorem qeE (b:Bool):purT H (.d (.b b))=some (.d (.b b),false):=rfl
theorem qfa (k:IntKind) (n:Int):purT H (.d (.i k n))=some (.d (.i k n),false):=rfl
theorem qdJ (s:List UInt8):purT H (.d (.s s))=some (.d (.s s),false):=rfl
theorem qd3 (cs:List DV):purT H (.d (.a cs))=some (.d (.a cs),false):=rfl
theorem qdP (k:K) (es:List DV):purT H (.d (.l k es true))=some (.d (.l k es false),es.isEmpty):=rfl
theorem qdf (k:K) (es:List DV):purT H (.d (.l k es false))=some (.d (.l k es false),false):=rfl
variable {hy : Heap → Option R}
theorem qI0 (kb k:K) (o i c:Nat) (v w:PV) (ho:H.obj o=some (.box kb w)):bo (qb6 H k (.p o i c) v) (.h hy)=chk (fits k v=true) (.h (chk (i=0) (.h (if (c==0&&K.eq k kb)=true then hy (H.put o (some (.box kb v))) else chk (c+k.size≤w.cells.length) (.h (bo (mkP kb (putAt w.cells c v.cells)) (.h fun w'=>hy (H.put o (some (.box kb w')))))))))):=by
 simp only[qb6,ho,chk];by_cases hf:fits k v=true
 ·simp only[hf,if_true];by_cases hi:i=0
  ·subst hi;simp only[beq_self_eq_true,if_true];by_cases hc:(c==0&&K.eq k kb)=true
   ·simp only[hc,if_true];rfl
   ·simp only[hc,zzg,if_false];by_cases hs:c+k.size≤w.cells.length
    ·simp only[hs,if_true];cases mkP kb (putAt w.cells c v.cells)<;>rfl
    ·simp only[hs,if_false];rfl
  ·have:(i==0)=false:=by simpa using hi
   simp only[this,hi,zzg,if_false];rfl
 ·simp only[hf,zzg,if_false];rfl
def stK (H:Heap) (k:K) (o i c:Nat) (v:PV) (x:Option Obj) {hy:Heap→Option R} (_:Hd hy):Option R:=match x with
 |some (.box kb w)=>chk (fits k v=true) (.h (chk (i=0) (.h (if (c==0&&K.eq k kb)=true then hy (H.put o (some (.box kb v))) else chk (c+k.size≤w.cells.length) (.h (bo (mkP kb (putAt w.cells c v.cells)) (.h fun w'=>hy (H.put o (some (.box kb w'))))))))))
 | _=>bo (qb6 H k (.p o i c) v) (.h hy)
theorem qeI (k:K) (o i c:Nat) (v:PV):bo (qb6 H k (.p o i c) v) (.h hy)=stK H k o i c v (H.obj o) (.h hy):=by
 unfold stK;split
 ·rename_i kb w ho;exact qI0 kb k o i c v w ho
 ·rfl
theorem qeC (kb k:K) (o i c:Nat) (v w:PV):stK H k o i c v (some (.box kb w)) (.h hy)=chk (fits k v=true) (.h (chk (i=0) (.h (if (c==0&&K.eq k kb)=true then hy (H.put o (some (.box kb v))) else chk (c+k.size≤w.cells.length) (.h (bo (mkP kb (putAt w.cells c v.cells)) (.h fun w'=>hy (H.put o (some (.box kb w')))))))))):=rfl
def qlm (E:Env) (H:Heap) (v:PV) (as0:List PV) {q:PV→Heap→Option R} (_:Hd q):Option R:=match v with
 | .f n caps=>match (if caps.isEmpty=true then qa0 as0 else none) with
  |some ds=>bo (E.val n ds) (.h fun r=>q r.1 H)
  |none=>bo2 (E.ref n (as0++caps) H) (.h q)
 | .m n firsts=>match qa0 (firsts++as0) with
  |some ds=>bo (E.val n ds) (.h fun r=>q r.1 H)
  |none=>bo2 (E.ref n (firsts++as0) H) (.h q)
 | .h o=>bo2 (E.yld o as0 H) (.h q)
 | _=>none
theorem qe1 {E:Env} {ρ:Rand→PV} {id:Nat} {x:Rand} {as0:List Rand} {q:PV→Heap→Option R}:bo2 (qaa E ρ H id (.callv x as0)) (.h q)=qlm E H (ρ x) (as0.map ρ) (.h q):=by
 simp only[qaa,qlm];cases ρ x with
 |f n caps =>
  simp only;cases (if caps.isEmpty=true then qa0 (as0.map ρ) else none) with
  |none=>rfl
  |some ds=>simp only;cases E.val n ds<;>rfl
 |m n firsts =>
  simp only;cases qa0 (firsts++as0.map ρ) with
  |none=>rfl
  |some ds=>simp only;cases E.val n ds<;>rfl
 | _=>rfl
theorem qeF {E:Env} {n:Nat} {as0:List PV} {q:PV→Heap→Option R}:qlm E H (.f n []) as0 (.h q)=match qa0 as0 with|some ds=>bo (E.val n ds) (.h fun r=>q r.1 H)|none=>bo2 (E.ref n (as0++[]) H) (.h q):=rfl
theorem qeY {E:Env} {n:Nat} {c:PV} {cs:List PV} {as0:List PV} {q:PV→Heap→Option R}:qlm E H (.f n (c::cs)) as0 (.h q)=bo2 (E.ref n (as0++c::cs) H) (.h q):=rfl
theorem qej:qa0 []=some []:=rfl
theorem qek (v:DV) (r:List PV):qa0 (.d v::r)=match qa0 r with|some vs=>some (v::vs)|none=>none:=rfl
theorem qc3 (T:Tab) (f:Nat) (ds:List DV):T.env.val f ds=T.val f ds:=rfl
theorem qdb (T:Tab) (f:Nat) (as0:List PV) (H:Heap):T.env.ref f as0 H=T.ref f as0 H:=rfl
theorem qdM:qaL H []=some ([],[]):=rfl
theorem qdT (v:DV) (r:List PV):qaL H (.d v::r)=match qaL H r with|some (xs,ps)=>some (v::xs,ps)|none=>none:=by
 simp only[qaL,pur,qa2];cases qaL H r<;>rfl
theorem qd5 {E:Env} {ρ:Rand→PV} {id f:Nat} {cs:List Rand} {q:PV→Heap→Option R}:bo2 (qaa E ρ H id (.mkf f cs)) (.h q)=q (.f f (cs.map ρ)) H:=rfl
theorem qvy : ∀l:List DV,qa0 (l.map PV.d)=some l
 | []=>rfl
 |v::l=>by simp[qa0,qvy l]
theorem qei (n m:Nat) (v:DV) (c:Nat):bo (qdd (some n) (.d v) c (some m)) (.h y)=if (c==0&&m==n)=true then y (.d v) else chk (c+m≤n∧((v.cells.drop c).take m).length=m) (.h (y (.d (.a ((v.cells.drop c).take m))))):=by
 by_cases h:(c==0&&m==n)=true
 ·have h':=h
  simp only[zzf,beq_iff_eq] at h';obtain⟨rfl,rfl⟩:=h';rw[qcZ];simp
 ·rw[if_neg h];have h':(c==0&&K.eq (some m) (some n))=false:=by simpa[K.eq] using h
  simp only[qdd,h',zzg,if_false,chk];change bo (@ite _ (c+m≤n) (Nat.decLe _ _) (mkP (some m) ((List.drop c (PV.d v).cells).take m)) none) (.h y)=_
  rw[qzn,←List.map_drop,←List.map_take];by_cases h1:c+m≤n
  ·rw[if_pos h1];by_cases h2:((v.cells.drop c).take m).length=m
   ·rw[if_pos ⟨h1,h2⟩];simp only[mkP,zzo,h2,if_true,mkA,qvy];rfl
   ·rw[if_neg (fun h=>h2 h.2)]
    simp only[mkP,zzo,h2,if_false];rfl
  ·rw[if_neg h1,if_neg (fun h=>h1 h.1)];rfl
theorem qeH (n m:Nat) (v:DV) (c:Nat):bo (qbl H (some m) (.q v (some n) c)) (.h y)=if (c==0&&m==n)=true then y (.d v) else chk (c+m≤n∧((v.cells.drop c).take m).length=m) (.h (y (.d (.a ((v.cells.drop c).take m))))):=by
 by_cases h:(c==0&&m==n)=true
 ·have h':=h
  simp only[zzf,beq_iff_eq] at h';obtain⟨rfl,rfl⟩:=h';rw[qcQ];simp
 ·rw[if_neg h];have h':(c==0&&K.eq (some m) (some n))=false:=by simpa[K.eq] using h
  simp only[qbl,qcq,h',zzg,if_false,chk];change bo (match @ite _ (c+m≤n) (Nat.decLe _ _) (mkD (some m) ((List.drop c v.cells).take m)) none with|some x=>some (PV.d x)|none=>none) (.h y)=_
  by_cases h1:c+m≤n
  ·rw[if_pos h1];by_cases h2:((v.cells.drop c).take m).length=m
   ·rw[if_pos ⟨h1,h2⟩];simp only[mkD,h2,if_true];rfl
   ·rw[if_neg (fun h=>h2 h.2)]
    simp only[mkD,h2,if_false];rfl
  ·rw[if_neg h1,if_neg (fun h=>h1 h.1)];rfl
end
theorem wr1 {i:Nat} (h:(i:Int)+1<9223372036854775808):IntKind.i64.wrap ((i:Int)+1)=(i:Int)+1:=wrI (by omega) h
theorem mxl:maxLen=9223372036854775807:=rfl
end Go.Sim
end
section
namespace Go.Sim
section
variable {R : Type} {E : Env} {fr : Fr} {H : Heap} {bf : List Nat} {acc : List (List Nat × List Nat)} {id : Nat} {j : KO R}
def rdS:IOp→Bool
 | .mov _ | .pick _ _ _ | .load _ _ | .bin _ _ _ | .eqv _ _ _ _ | .eqb _ _ _ | .isnil _ _ _ | .un _ _ | .conv _ _ | .slS _ _ _ | .sl _ _ _ _ _ | .faddr _ _ | .field _ _ _ | .iaddr _ _ _ | .iaddrA _ _ _ _ | .idxS _ _ | .idxA _ _ _ _ | .len _ _ | .ext _ _ | .nilck _ | .minmax _ _ | .call 0 _ _=>true
 | _=>false
def qgp:Heap→Bool
 | []=>true
 |some (.sl _ _ _)::_=>false
 | _::r=>qgp r
theorem qxP : ∀{H:Heap} {o:Nat},qgp H=true→∀k ro es,H.obj o≠some (.sl k ro es)
 | [],o,_,k,ro,es,h=>by simp[Heap.obj] at h
 |x::r,0,hn,k,ro,es,h=>by
  have:x=some (.sl k ro es):=h
  subst this;simp[qgp] at hn
 |x::r,o+1,hn,k,ro,es,h=>by
  have hn':qgp r=true:=by
   cases x with
   |none=>exact hn
   |some y=>cases y<;>first|exact hn|(simp[qgp] at hn)
  exact qxP (H:=r) (o:=o) hn' k ro es h
theorem qzb {H:Heap} (hn:qgp H=true) : ∀os:List Nat,frz H os=H
 | []=>rfl
 |o::r=>by
  have h1:qcJ H o=H:=by
   unfold qcJ;split
   ·rename_i k ro es h;exact absurd h (qxP hn k ro es)
   ·rfl
  rw[frz,h1,qzb hn r]
theorem qgu {x:Option PV} {H H':Heap} {v:PV} (h:opt x H=some (v,H')):H'=H:=by
 cases x with
 |none=>cases h
 |some y=>cases h;rfl
theorem qtA {x:Option DV} {H H':Heap} {v:PV} (h:qft x H=some (v,H')):H'=H:=by
 cases x with
 |none=>cases h
 |some y=>cases h;rfl
theorem qAA {ρ:Rand→PV} {op:IOp} (hs:rdS op=true) (hn:qgp H=true) {v:PV} {H':Heap} (h:qaa E ρ H id op=some (v,H')):H'=H:=by
 cases op with
 |call m f as0 =>
  match m with
  | 0 =>
   simp only[qaa] at h;split at h
   ·split at h
    ·simp only[zzb,zzc] at h;rw[←h.2,qzb hn];split<;>rfl
    ·cases h
   ·cases h
  |m+1=>simp[rdS] at hs
 |mov x=>cases h;rfl
 |pick c a b=>simp only[qaa] at h;split at h<;>first|(cases h;rfl)|cases h
 |load k x=>exact qgu h
 |bin op x y=>exact qtA h
 |eqv neg ks x y=>simp only[qaa] at h;split at h<;>first|(cases h;rfl)|cases h
 |eqb neg x y=>simp only[qaa] at h;split at h<;>first|(cases h;rfl)|cases h
 |isnil neg kd x=>simp only[qaa] at h;split at h<;>first|(cases h;rfl)|cases h
 |un op x=>exact qtA h
 |conv k x=>simp only[qaa] at h;split at h<;>first|(cases h;rfl)|cases h
 |slS x lo hi=>simp only[qaa] at h; (repeat' split at h)<;>first|(cases h;rfl)|cases h
 |sl k x lo hi mx=>exact qgu h
 |faddr o x=>exact qgu h
 |field o k x=>exact qgu h
 |iaddr k x i=>exact qgu h
 |iaddrA n k x i=>simp only[qaa] at h; (repeat' split at h)<;>first|exact qgu h|cases h
 |idxS x i=>simp only[qaa] at h; (repeat' split at h)<;>first|(cases h;rfl)|cases h
 |idxA n k x i=>simp only[qaa] at h; (repeat' split at h)<;>first|exact qgu h|cases h
 |len s x=>simp only[qaa] at h;split at h<;>first|(cases h;rfl)|cases h
 |ext x i=>simp only[qaa] at h;split at h<;>first|exact qgu h|cases h
 |nilck x=>simp only[qaa] at h;split at h<;>first|(cases h;rfl)|cases h
 |minmax m as0=>simp only[qaa] at h;split at h<;>first|exact qgu h|cases h
 | _=>simp[rdS] at hs
theorem qsI {op:IOp} (hs:rdS op=true) (ρ:Rand→PV):op.adds=false∧op.okD ρ=true∧qaQ ρ op=[]:=by
 cases op with
 |call m f as0 =>
  match m with
  | 0=>exact⟨rfl,rfl,rfl⟩
  |m+1=>simp[rdS] at hs
 | _=>first|exact⟨rfl,rfl,rfl⟩|simp[rdS] at hs
theorem qtb (H:Heap) : ∀l,chg H H l=[]
 | []=>rfl
 |o::r=>by simp only[chg,Nat.beq_refl,if_true];exact qtb H r
theorem qnY (b:Nat) (t:List Nat) : ∀(acc:List (List Nat×List Nat)) (i:Nat),(∀x∈acc,x.2=[])→qaO b i acc t []=true
 | [],_,_=>rfl
 |x::r,i,h=>by
  simp only[qaO,qnY b t r (i+1) (fun y hy=>h y (zzi _ hy)),h x (zzr ..),Bool.and_true]
  simp[qa3]
def qfW (dst:Option Nat) (fr:Fr) (v:PV):Fr:=match dst with|some t=>fr.set t v|none=>fr
theorem qrE : ∀(ops:List IOper) (bf:List Nat) (acc:List (List Nat×List Nat)) (id:Nat) (fr:Fr) (H:Heap),(ops.all fun o=>rdS o.op)=true→qgp H=true→(∀x∈acc,x.2=[])→qbm E ops bf acc id ⟨fr,H⟩=qay E ops id ⟨fr,H⟩
 | [],_,_,_,_,_,_,_,_=>rfl
 |o::r,bf,acc,id,fr,H,ho,hn,ha=>by
  simp only[List.all_cons,zzf] at ho;obtain⟨h1,h2,h3⟩:=qsI ho.1 (rd E fr);have hid:(if o.op.adds=true then id+1 else id)=id:=by rw[h1];rfl
  have ha' : ∀(t:List Nat),∀x∈acc++[(t,([]:List Nat))],x.2=[]:=fun t x hx=>by
   rcases List.mem_append.1 hx with h|h
   ·exact ha x h
   ·rw[List.mem_singleton.1 h]
  have step : ∀(v:PV) (H':Heap),qaa E (rd E fr) H id o.op=some (v,H')→∀fr',qbm E r bf.tail (acc++[(writeS E o id ⟨fr,H⟩ ⟨fr',H'⟩++touchS E o ⟨fr,H⟩,writeS E o id ⟨fr,H⟩ ⟨fr',H'⟩)]) id ⟨fr',H'⟩=qay E r id ⟨fr',H'⟩∧qaO (bf.headD 0) 0 acc (writeS E o id ⟨fr,H⟩ ⟨fr',H'⟩++touchS E o ⟨fr,H⟩) (writeS E o id ⟨fr,H⟩ ⟨fr',H'⟩)=true:=by
   intro v H' he fr'
   have:=qAA ho.1 hn he
   subst this;have hw:writeS E o id ⟨fr,H'⟩ ⟨fr',H'⟩=[]:=by
    unfold writeS;split
    ·simp[h1,h3,qtb]
    ·rfl
   rw[hw];exact⟨qrE r _ _ id fr' H' ho.2 hn (ha' _),qnY _ _ _ _ ha⟩
  have skip:runs o fr=false→∀fr',qbm E r bf.tail (acc++[(writeS E o id ⟨fr,H⟩ ⟨fr',H⟩++touchS E o ⟨fr,H⟩,writeS E o id ⟨fr,H⟩ ⟨fr',H⟩)]) id ⟨fr',H⟩=qay E r id ⟨fr',H⟩∧qaO (bf.headD 0) 0 acc (writeS E o id ⟨fr,H⟩ ⟨fr',H⟩++touchS E o ⟨fr,H⟩) (writeS E o id ⟨fr,H⟩ ⟨fr',H⟩)=true:=by
   intro hr fr';have hw:writeS E o id ⟨fr,H⟩ ⟨fr',H⟩=[]:=by unfold writeS;rw[hr];rfl
   rw[hw];exact⟨qrE r _ _ id fr' H ho.2 hn (ha' _),qnY _ _ _ _ ha⟩
  obtain⟨dst,op,g⟩:=o;simp only at h1 h2 h3 hid;have go:(match (match qal E (rd E fr) H id op with|some (v,H')=>some (⟨qfW dst fr v,H'⟩:St)|none=>none) with
    |some s'=>if qaO (bf.headD 0) 0 acc (writeS E ⟨dst,op,g⟩ id ⟨fr,H⟩ s'++touchS E ⟨dst,op,g⟩ ⟨fr,H⟩) (writeS E ⟨dst,op,g⟩ id ⟨fr,H⟩ s')=true then qbm E r bf.tail (acc++[(writeS E ⟨dst,op,g⟩ id ⟨fr,H⟩ s'++touchS E ⟨dst,op,g⟩ ⟨fr,H⟩,writeS E ⟨dst,op,g⟩ id ⟨fr,H⟩ s')]) id s' else none
    |none=>none)=match qaa E (rd E fr) H id op with|some (v,H')=>qay E r id ⟨qfW dst fr v,H'⟩|none=>none:=by
   simp only[qal,h2,if_true];cases he:qaa E (rd E fr) H id op with
   |none=>rfl
   |some x =>
    obtain⟨v,H'⟩:=x;obtain⟨q1,q2⟩:=step v H' he (qfW dst fr v);simp only[q2,if_true,q1]
  have no:runs ⟨dst,op,g⟩ fr=false→(if qaO (bf.headD 0) 0 acc (writeS E ⟨dst,op,g⟩ id ⟨fr,H⟩ ⟨qfW dst fr (.t []),H⟩++touchS E ⟨dst,op,g⟩ ⟨fr,H⟩) (writeS E ⟨dst,op,g⟩ id ⟨fr,H⟩ ⟨qfW dst fr (.t []),H⟩)=true then qbm E r bf.tail (acc++[(writeS E ⟨dst,op,g⟩ id ⟨fr,H⟩ ⟨qfW dst fr (.t []),H⟩++touchS E ⟨dst,op,g⟩ ⟨fr,H⟩,writeS E ⟨dst,op,g⟩ id ⟨fr,H⟩ ⟨qfW dst fr (.t []),H⟩)]) id ⟨qfW dst fr (.t []),H⟩ else none)=qay E r id ⟨qfW dst fr (.t []),H⟩:=by
   intro hr;obtain⟨q1,q2⟩:=skip hr (qfW dst fr (.t []));simp only[q2,if_true,q1]
  simp only[qbm,stepD,qay,hid];cases g with
  |none=>exact go
  |some g =>
   obtain⟨t,w⟩:=g;simp only;cases hg:fr.get t with
   |d v =>
    cases v with
    |b b =>
     simp only;by_cases hb:(b==w)=true
     ·simp only[hb,if_true];exact go
     ·have hb':(b==w)=false:=by simpa using hb
      simp only[hb',zzg,if_false];exact no (by simp[runs,hg,hb'])
    | _=>rfl
   |t vs =>
    cases vs with
    |nil=>simp only;exact no (by simp[runs,hg])
    |cons=>rfl
   | _=>rfl
theorem qir {base:Nat} {k:KC R} {ops:List IOper} {kill:List Nat} (ho:(ops.all fun o=>rdS o.op)=true) (hn:qgp H=true):kC E base fr H (.h (.regD ops bf kill,k))=kO E H.length fr H (.h (ops,rgK kill k)):=by
 have hz:qaj ops=0:=by
  clear hn
  induction ops with
  |nil=>rfl
  |cons o r ih =>
   simp only[List.all_cons,zzf] at ho;simp only[qaj,(qsI ho.1 (fun _=>.u)).1,ih ho.2];rfl
 simp only[kC,qah,qcR,kO,hz,List.replicate_zero,List.append_nil];rw[qrE ops bf [] H.length fr H ho hn (fun x hx=>by cases hx)]
 cases qay E ops H.length ⟨fr,H⟩<;>rfl
theorem qd1 {base:Nat} {k:KC R} {ops:List IOper} {kill:List Nat} (ho:(ops.all fun o=>rdS o.op)=true):kC E base fr [] (.h (.regD ops bf kill,k))=kO E 0 fr [] (.h (ops,rgK kill k)):=qir ho rfl
theorem qdB {base:Nat} {k:KC R} {ops:List IOper} {kill:List Nat} {k0:K} {v0:PV} (ho:(ops.all fun o=>rdS o.op)=true):kC E base fr [some (.box k0 v0)] (.h (.regD ops bf kill,k))=kO E 1 fr [some (.box k0 v0)] (.h (ops,rgK kill k)):=qir ho rfl
theorem qez {base:Nat} {k:KC R} {ops:List IOper} {kill:List Nat} {k0 k1:K} {v0 v1:PV} (ho:(ops.all fun o=>rdS o.op)=true):kC E base fr [some (.box k0 v0),some (.box k1 v1)] (.h (.regD ops bf kill,k))=kO E 2 fr [some (.box k0 v0),some (.box k1 v1)] (.h (ops,rgK kill k)):=qir ho rfl
theorem qey {base:Nat} {k:KC R} {ops:List IOper} {kill:List Nat} {k0 k1 k2:K} {v0 v1 v2:PV} (ho:(ops.all fun o=>rdS o.op)=true):kC E base fr [some (.box k0 v0),some (.box k1 v1),some (.box k2 v2)] (.h (.regD ops bf kill,k))=kO E 3 fr [some (.box k0 v0),some (.box k1 v1),some (.box k2 v2)] (.h (ops,rgK kill k)):=qir ho rfl
theorem qdC {base:Nat} {k:KC R} {ops:List IOper} {kill:List Nat} {k0 k1 k2 k3:K} {v0 v1 v2 v3:PV} (ho:(ops.all fun o=>rdS o.op)=true):kC E base fr [some (.box k0 v0),some (.box k1 v1),some (.box k2 v2),some (.box k3 v3)] (.h (.regD ops bf kill,k))=kO E 4 fr [some (.box k0 v0),some (.box k1 v1),some (.box k2 v2),some (.box k3 v3)] (.h (ops,rgK kill k)):=qir ho rfl
theorem qd8 {base:Nat} {k:KC R} {ops:List IOper} {kill:List Nat} {k0 k1 k2 k3 k4:K} {v0 v1 v2 v3 v4:PV} (ho:(ops.all fun o=>rdS o.op)=true):kC E base fr [some (.box k0 v0),some (.box k1 v1),some (.box k2 v2),some (.box k3 v3),some (.box k4 v4)] (.h (.regD ops bf kill,k))=kO E 5 fr [some (.box k0 v0),some (.box k1 v1),some (.box k2 v2),some (.box k3 v3),some (.box k4 v4)] (.h (ops,rgK kill k)):=qir ho rfl
end
end Go.Sim
end
section
namespace Go.Sim
mutual
theorem qiL (ρ:Nat→Option Nat) : ∀v:PV,(∀r∈v.refs,ρ r=some r)→v.ren ρ=v
 | .u,_=>rfl
 | .d _,_=>rfl
 | .a cs,h=>by rw[PV.ren,qj1 ρ cs (by simpa[PV.refs] using h)]
 | .t cs,h=>by rw[PV.ren,qj1 ρ cs (by simpa[PV.refs] using h)]
 | .r o k off len t,h=>by rw[PV.ren,h o (by simp[PV.refs])]
 | .p o i c,h=>by rw[PV.ren,h o (by simp[PV.refs])]
 | .q _ _ _,_=>rfl
 | .f n cs,h=>by rw[PV.ren,qj1 ρ cs (by simpa[PV.refs] using h)]
 | .h o,h=>by rw[PV.ren,h o (by simp[PV.refs])]
 | .g v,h=>by rw[PV.ren,qiL ρ v (by simpa[PV.refs] using h)]
 | .m n cs,h=>by rw[PV.ren,qj1 ρ cs (by simpa[PV.refs] using h)]
 | .w t v,h=>by rw[PV.ren,qiL ρ v (by simpa[PV.refs] using h)]
theorem qj1 (ρ:Nat→Option Nat) : ∀cs:List PV,(∀r∈PV.refsL cs,ρ r=some r)→PV.renL ρ cs=cs
 | [],_=>rfl
 |v::cs,h=>by
  simp only[PV.refsL,List.mem_append] at h;rw[PV.renL,qiL ρ v (fun r hr=>h r (.inl hr)),qj1 ρ cs (fun r hr=>h r (.inr hr))]
end
theorem qsM {ρ:Nat→Option Nat} {x:Option Obj} (h : ∀r∈qag x,ρ r=some r):x.map (·.ren ρ)=x:=by
 cases x with
 |none=>rfl
 |some y =>
  cases y with
  |box k v=>simp only[Option.map,Obj.ren,qiL ρ v (by simpa[qag,Obj.refs] using h)]
  | _=>rfl
theorem qnW {ρ:Nat→Option Nat} : ∀{H:Heap},(∀r∈qad H,ρ r=some r)→H.map (·.map (·.ren ρ))=H
 | [],_=>rfl
 |x::H,h=>by
  simp only[qad,List.mem_append] at h;rw[zzu,qsM (fun r hr=>h r (.inl hr)),qnW (fun r hr=>h r (.inr hr))]
theorem qoD {ρ:Nat→Option Nat} : ∀{fr:Fr},(∀r∈qab fr,ρ r=some r)→Fr.ren ρ fr=fr
 | [],_=>rfl
 | (j,v)::fr,h=>by
  simp only[qab,List.mem_append] at h;rw[Fr.ren,qiL ρ v (fun r hr=>h r (.inl hr)),qoD (fun r hr=>h r (.inr hr))]
theorem qoG (H:Heap) (base:Nat) : ∀(n:Nat) (acc todo:List Nat),(∀o∈todo,o<base)→qae H base n acc todo=acc
 | 0,_,_,_=>rfl
 |n+1,acc,[],_=>rfl
 |n+1,acc,o::todo,h=>by
  rw[qae,if_pos (h o (zzr ..))];exact qoG H base n acc todo fun x hx=>h x (zzi _ hx)
def Cl (H:Heap):Prop:=∀r∈qad H,r<H.length
theorem qs1 (live:List Nat) {H J:Heap} {fr:Fr} (hH:Cl H) (hf : ∀r∈qab (Fr.keep live fr),r<H.length):gc live H.length ⟨fr,H++J⟩=⟨Fr.keep live fr,H⟩:=by
 have ht:(H++J).take H.length=H:=by simp
 have hr:qae (H++J) H.length 1000 [] (qab (Fr.keep live fr)++qad H)=[]:=qoG _ _ _ _ _ fun o ho=>by
  rcases List.mem_append.1 ho with h|h
  ·exact hf o h
  ·exact hH o h
 have hp : ∀r,r<H.length→qaf H.length [] r=some r:=fun r h=>by simp[qaf,h]
 simp only[gc,ht,hr,gcH,List.map_nil,List.append_nil];rw[qoD (fun r h=>hp r (hf r h)),qnW (fun r h=>hp r (hH r h))]
theorem qry (live:List Nat) {H:Heap} {fr:Fr} (hH:Cl H) (hf : ∀r∈qab (Fr.keep live fr),r<H.length):gc live H.length ⟨fr,H⟩=⟨Fr.keep live fr,H⟩:=by
 have:=qs1 live (J:=[]) hH hf
 rwa [List.append_nil] at this
theorem qtX {H J:Heap} {v:PV} (hH:Cl H) (hf : ∀r∈v.refs,r<H.length):gcV H.length v (H++J)=(v,H):=by
 have ht:(H++J).take H.length=H:=by simp
 have hr:qae (H++J) H.length 1000 [] (v.refs++qad H)=[]:=qoG _ _ _ _ _ fun o ho=>by
  rcases List.mem_append.1 ho with h|h
  ·exact hf o h
  ·exact hH o h
 have hp : ∀r,r<H.length→qaf H.length [] r=some r:=fun r h=>by simp[qaf,h]
 simp only[gcV,ht,hr,gcH,List.map_nil,List.append_nil];rw[qiL _ v (fun r h=>hp r (hf r h)),qnW (fun r h=>hp r (hH r h))]
theorem qoi {H:Heap} {v:PV} (hH:Cl H) (hf : ∀r∈v.refs,r<H.length):gcV H.length v H=(v,H):=by
 have:=qtX (J:=[]) hH hf
 rwa [List.append_nil] at this
theorem qk9 {H:Heap} (hH:Cl H) (J:Heap) (v:DV):gcV H.length (.d v) (H++J)=(.d v,H):=qtX hH (by simp[PV.refs])
theorem quB {H:Heap} (hH:Cl H) (v:DV):gcV H.length (.d v) H=(.d v,H):=qoi hH (by simp[PV.refs])
noncomputable def qgf (E:Env) (rs:List RV) (base:Nat):KC (PV×Heap)
 | .exit _,_,_=>none
 | _,fr,H=>bo (runG E (qaE fr) H) (.h fun H=>bo (results fr H rs) (.h fun vs=>some (gcV base (qaZ vs) H)))
theorem qiG (T:Tab) {f:Nat} {F:PF} (hF:T.F f=some F) {args:List PV} {H:Heap} (ha:args.length=F.nargs):T.ref f args H=kC T.env H.length (Fr.ofArgs 0 args) H (.h (F.body,qgf T.env F.results H.length)):=by
 rw[qFf T hF];unfold qa4;rw[if_pos ha];simp only[kC];cases qah T.env lpI H.length F.body ⟨Fr.ofArgs 0 args,H⟩ with
 |none=>rfl
 |some x =>
  obtain⟨e,s⟩:=x;cases e with
  |exit id=>rfl
  |norm =>
   simp only[qgf];cases runG T.env (qaE s.fr) s.H with
   |none=>rfl
   |some H'=>simp only[bo];cases results s.fr H' F.results<;>rfl
  |ret =>
   simp only[qgf];cases runG T.env (qaE s.fr) s.H with
   |none=>rfl
   |some H'=>simp only[bo];cases results s.fr H' F.results<;>rfl
section
variable {E : Env} {rs : List RV} {base : Nat} {fr : Fr} {H : Heap}
theorem qhq (h:qaE fr=[]):qgf E rs base .ret fr H=bo (results fr H rs) (.h fun vs=>some (gcV base (qaZ vs) H)):=by
 simp only[qgf,h];rfl
theorem qAj (h:qaE fr=[]):qgf E rs base .norm fr H=bo (results fr H rs) (.h fun vs=>some (gcV base (qaZ vs) H)):=by
 simp only[qgf,h];rfl
theorem qe0 (y x:Option Obj) (H:Heap):Heap.put (y::H) 0 x=x::H:=rfl
theorem qeg (y x:Option Obj) (H:Heap) (n:Nat):Heap.put (y::H) (n+1) x=y::Heap.put H n x:=rfl
theorem qtn (H:Heap) (J:Heap) (x:Option Obj) (i:Nat):Heap.put (H++J) (H.length+i) x=H++Heap.put J i x:=by
 simp[Heap.put]
theorem qCn (H:Heap) (J:Heap) (x:Option Obj):Heap.put (H++J) H.length x=H++Heap.put J 0 x:=qtn H J x 0
theorem qyb (H J:Heap) (i:Nat):Heap.obj (H++J) (H.length+i)=Heap.obj J i:=by
 simp[Heap.obj,List.getElem?_append_right]
theorem qoe (H J:Heap):Heap.obj (H++J) H.length=Heap.obj J 0:=qyb H J 0
end
def qhJ {R:Type} (n:Nat) (k:KC R) (r:Option R):Prop:=∀fr H,fr.get n = .d (.b false)→qaE fr=[]→k .ret fr H=r
theorem qtG {R:Type} {n id:Nat} {k:KC R} {r:Option R}:qhJ n (blK id k) r=qhJ n k r:=rfl
theorem qs7 {R:Type} {n:Nat} {E:Env} {base:Nat} {b:PC} {k:KC R} {r:Option R}:qhJ n (sqK E base b k) r=qhJ n k r:=rfl
theorem qtJ {n:Nat} {E:Env}:qhJ n (fin E [.t n]) (some (.d (.b false),false))=True:=by
 refine eq_true ?_;intro fr H h1 h2;rw[qcn h2,qcN,qcK,h1];rfl
theorem qt9 (k k':K) (v w:DV):Cl [some (.box k (.d v)),some (.box k' (.d w))]:=fun r h=>by simp[qad,qag,Obj.refs,PV.refs] at h
end Go.Sim
end
section
namespace Go.Sim
section
variable {R : Type} {E : Env} {ρ : Rand → PV} {H : Heap} {id : Nat} {q : PV → Heap → Option R}
def qqY (neg:Bool) (x y:PV) {q:PV→Option R} (_:Hd q):Option R:=match x,y with
 | .d (.b a),.d (.b b)=>q (.d (.b (if neg=true then !(a==b) else a==b)))
 | _,_=>none
theorem qdO (neg a b:Bool) {q:PV→Option R}:qqY neg (.d (.b a)) (.d (.b b)) (.h q)=q (.d (.b (if neg=true then !(a==b) else a==b))):=rfl
theorem qew {neg:Bool} {x y:Rand}:bo2 (qaa E ρ H id (.eqb neg x y)) (.h q)=qqY neg (ρ x) (ρ y) (.h fun v=>q v H):=by
 simp only[qaa,qqY];cases ρ x with
 |d v =>
  cases v with
  |b a =>
   cases ρ y with
   |d w=>cases w<;>rfl
   | _=>rfl
  | _=>rfl
 | _=>rfl
end
end Go.Sim
end
section
namespace Go.Sim
section
variable {R α : Type} {E : Env} {fr : Fr} {H : Heap} {bf : List Nat} {acc : List (List Nat × List Nat)} {id : Nat} {j : KO R}
def nfp (x:α) {k:α→Option R} (_:Hd k):Option R:=k x
theorem qbg (x:α) (k:α→Option R):nfp x (.h k)=k x:=rfl
def qa5 (bf:List Nat) (acc:List (List Nat×List Nat)) (W T:List Nat):Bool×List (List Nat×List Nat):=(qaO (bf.headD 0) 0 acc (W++T) W,acc++[(W++T,W)])
noncomputable def qeo (E:Env) (id:Nat) (fr:Fr) (H:Heap) (bf:List Nat) (acc:List (List Nat×List Nat)) (o:IOper) (fr':Fr) (H':Heap) {r:List IOper} {j:KO R} (_:Hd (r,j)):Option R :=
 nfp (qa5 bf acc (writeS E o id ⟨fr,H⟩ ⟨fr',H'⟩) (touchS E o ⟨fr,H⟩)) (.h fun w=>chk (w.1=true) (.h (kD E (nid o.op id) fr' H' bf.tail w.2 (.h (r,j)))))
theorem qbr:kD E id fr H bf acc (.h ([],j))=j fr H:=rfl
theorem qkt (o:IOper) (r:List IOper):kD E id fr H bf acc (.h (o::r,j))=match stepD E o id ⟨fr,H⟩ with|some s'=>qeo E id fr H bf acc o s'.fr s'.H (.h (r,j))|none=>none:=by
 simp only[kD,qbm];cases stepD E o id ⟨fr,H⟩ with
 |none=>rfl
 |some s' =>
  obtain⟨f,h⟩:=s';by_cases hp:qaO (bf.headD 0) 0 acc (writeS E o id ⟨fr,H⟩ ⟨f,h⟩++touchS E o ⟨fr,H⟩) (writeS E o id ⟨fr,H⟩ ⟨f,h⟩)=true
  ·simp only[qeo,nfp,qa5,chk,nid,hp,if_true,kD]
  ·simp only[qeo,nfp,qa5,chk,hp,if_false,zzg]
theorem qba {d:Nat} {op:IOp} {r:List IOper}:kD E id fr H bf acc (.h (⟨some d,op,none⟩::r,j))=bo2 (qal E (rd E fr) H id op) (.h fun v H'=>qeo E id fr H bf acc ⟨some d,op,none⟩ (fr.set d v) H' (.h (r,j))):=by
 rw[qkt];simp only[stepD,bo2]
 cases qal E (rd E fr) H id op<;>rfl
theorem qbI {op:IOp} {r:List IOper}:kD E id fr H bf acc (.h (⟨none,op,none⟩::r,j))=bo2 (qal E (rd E fr) H id op) (.h fun _ H'=>qeo E id fr H bf acc ⟨none,op,none⟩ fr H' (.h (r,j))):=by
 rw[qkt];simp only[stepD,bo2]
 cases qal E (rd E fr) H id op<;>rfl
theorem qbi {d t:Nat} {w:Bool} {op:IOp} {r:List IOper}:kD E id fr H bf acc (.h (⟨some d,op,some (t,w)⟩::r,j)) =
  grd (fr.get t) w (.h (bo2 (qal E (rd E (fr.fix t w)) H id op) (.h fun v H'=>qeo E id (fr.fix t w) H bf acc ⟨some d,op,some (t,w)⟩ ((fr.fix t w).set d v) H' (.h (r,j))),qeo E id (fr.fix t (!w)) H bf acc ⟨some d,op,some (t,w)⟩ ((fr.fix t (!w)).set d (.t [])) H (.h (r,j)),qeo E id fr H bf acc ⟨some d,op,some (t,w)⟩ (fr.set d (.t [])) H (.h (r,j)))):=by
 rw[qkt];simp only[stepD]
 cases h:fr.get t with
 |d v =>
  cases v with
  |b b =>
   by_cases hb:b=w
   ·subst hb;rw[qfw h];simp only[grd,beq_self_eq_true,if_true,bo2];cases qal E (rd E fr) H id op<;>rfl
   ·have e:(b==w)=false:=by simpa using hb
    have e2:b = !w:=by cases b<;>cases w<;>simp_all
    have hf:fr.fix t (!w)=fr:=qfw (by rw[h,e2])
    simp only[grd,e,if_neg hb,zzg,if_false,hf]
  | _=>rfl
 |t vs=>cases vs<;>rfl
 | _=>rfl
theorem qb3 {t:Nat} {w:Bool} {op:IOp} {r:List IOper}:kD E id fr H bf acc (.h (⟨none,op,some (t,w)⟩::r,j)) =
  grd (fr.get t) w (.h (bo2 (qal E (rd E (fr.fix t w)) H id op) (.h fun _ H'=>qeo E id (fr.fix t w) H bf acc ⟨none,op,some (t,w)⟩ (fr.fix t w) H' (.h (r,j))),qeo E id (fr.fix t (!w)) H bf acc ⟨none,op,some (t,w)⟩ (fr.fix t (!w)) H (.h (r,j)),qeo E id fr H bf acc ⟨none,op,some (t,w)⟩ fr H (.h (r,j)))):=by
 rw[qkt];simp only[stepD]
 cases h:fr.get t with
 |d v =>
  cases v with
  |b b =>
   by_cases hb:b=w
   ·subst hb;rw[qfw h];simp only[grd,beq_self_eq_true,if_true,bo2];cases qal E (rd E fr) H id op<;>rfl
   ·have e:(b==w)=false:=by simpa using hb
    have e2:b = !w:=by cases b<;>cases w<;>simp_all
    have hf:fr.fix t (!w)=fr:=qfw (by rw[h,e2])
    simp only[grd,e,if_neg hb,zzg,if_false,hf]
  | _=>rfl
 |t vs=>cases vs<;>rfl
 | _=>rfl
theorem qbc {o:IOper} {fr':Fr} {H':Heap} {r:List IOper}:qeo E id fr H bf acc o fr' H' (.h (r,j))=nfp (qa5 bf acc (writeS E o id ⟨fr,H⟩ ⟨fr',H'⟩) (touchS E o ⟨fr,H⟩)) (.h fun w=>chk (w.1=true) (.h (kD E (nid o.op id) fr' H' bf.tail w.2 (.h (r,j))))):=rfl
theorem qbb {ρ:Rand→PV} {k:PV→Heap→Option R} {x:Rand}:bo2 (qal E ρ H id (.mov x)) (.h k)=bo2 (qaa E ρ H id (.mov x)) (.h k):=rfl
theorem qbo {ρ:Rand→PV} {k:PV→Heap→Option R} {cx a b:Rand}:bo2 (qal E ρ H id (.pick cx a b)) (.h k)=bo2 (qaa E ρ H id (.pick cx a b)) (.h k):=rfl
theorem qb0 {ρ:Rand→PV} {k:PV→Heap→Option R} {kx:Sim.K} {z:DV}:bo2 (qal E ρ H id (.alloc kx z)) (.h k)=bo2 (qaa E ρ H id (.alloc kx z)) (.h k):=rfl
theorem qbx {ρ:Rand→PV} {k:PV→Heap→Option R} {kx:Sim.K} {x:Rand}:bo2 (qal E ρ H id (.box kx x)) (.h k)=bo2 (qaa E ρ H id (.box kx x)) (.h k):=rfl
theorem qbE {ρ:Rand→PV} {k:PV→Heap→Option R} {z:List DV} {parts:List (Nat×Sim.K×Rand)}:bo2 (qal E ρ H id (.agg z parts)) (.h k)=bo2 (qaa E ρ H id (.agg z parts)) (.h k):=rfl
theorem qbK {ρ:Rand→PV} {k:PV→Heap→Option R} {kx:Sim.K} {z:DV} {len:Nat} {parts:List (Nat×Rand)}:bo2 (qal E ρ H id (.bsl kx z len parts)) (.h k)=bo2 (qaa E ρ H id (.bsl kx z len parts)) (.h k):=rfl
theorem qbf {ρ:Rand→PV} {k:PV→Heap→Option R} {kx:Sim.K} {x:Rand}:bo2 (qal E ρ H id (.load kx x)) (.h k)=bo2 (qaa E ρ H id (.load kx x)) (.h k):=rfl
theorem qbz {ρ:Rand→PV} {k:PV→Heap→Option R} {kx:Sim.K} {x y:Rand}:bo2 (qal E ρ H id (.store kx x y)) (.h k)=bo2 (qaa E ρ H id (.store kx x y)) (.h k):=rfl
theorem qbe {ρ:Rand→PV} {k:PV→Heap→Option R} {op:BinOp} {x y:Rand}:bo2 (qal E ρ H id (.bin op x y)) (.h k)=bo2 (qaa E ρ H id (.bin op x y)) (.h k):=rfl
theorem qbD {ρ:Rand→PV} {k:PV→Heap→Option R} {neg:Bool} {ks:List Nat} {x y:Rand}:bo2 (qal E ρ H id (.eqv neg ks x y)) (.h k)=bo2 (qaa E ρ H id (.eqv neg ks x y)) (.h k):=rfl
theorem qbZ {ρ:Rand→PV} {k:PV→Heap→Option R} {neg:Bool} {x y:Rand}:bo2 (qal E ρ H id (.eqb neg x y)) (.h k)=bo2 (qaa E ρ H id (.eqb neg x y)) (.h k):=rfl
theorem qb1 {ρ:Rand→PV} {k:PV→Heap→Option R} {neg:Bool} {kd:Nat} {x:Rand}:bo2 (qal E ρ H id (.isnil neg kd x)) (.h k)=bo2 (qaa E ρ H id (.isnil neg kd x)) (.h k):=rfl
theorem qbR {ρ:Rand→PV} {k:PV→Heap→Option R} {op:UnOp} {x:Rand}:bo2 (qal E ρ H id (.un op x)) (.h k)=bo2 (qaa E ρ H id (.un op x)) (.h k):=rfl
theorem qbY {ρ:Rand→PV} {k:PV→Heap→Option R} {kx:IntKind} {x:Rand}:bo2 (qal E ρ H id (.conv kx x)) (.h k)=bo2 (qaa E ρ H id (.conv kx x)) (.h k):=rfl
theorem qbO {ρ:Rand→PV} {k:PV→Heap→Option R} {x:Rand} {lo hi:Option Rand}:bo2 (qal E ρ H id (.slS x lo hi)) (.h k)=bo2 (qaa E ρ H id (.slS x lo hi)) (.h k):=rfl
theorem qby {ρ:Rand→PV} {k:PV→Heap→Option R} {kx:Sim.K} {x:Rand} {lo hi mx:Option Rand}:bo2 (qal E ρ H id (.sl kx x lo hi mx)) (.h k)=bo2 (qaa E ρ H id (.sl kx x lo hi mx)) (.h k):=rfl
theorem qbd {ρ:Rand→PV} {k:PV→Heap→Option R} {off:Nat} {x:Rand}:bo2 (qal E ρ H id (.faddr off x)) (.h k)=bo2 (qaa E ρ H id (.faddr off x)) (.h k):=rfl
theorem qbF {ρ:Rand→PV} {k:PV→Heap→Option R} {off:Nat} {kx:Sim.K} {x:Rand}:bo2 (qal E ρ H id (.field off kx x)) (.h k)=bo2 (qaa E ρ H id (.field off kx x)) (.h k):=rfl
theorem qbn {ρ:Rand→PV} {k:PV→Heap→Option R} {kx:Sim.K} {x i:Rand}:bo2 (qal E ρ H id (.iaddr kx x i)) (.h k)=bo2 (qaa E ρ H id (.iaddr kx x i)) (.h k):=rfl
theorem qbB {ρ:Rand→PV} {k:PV→Heap→Option R} {len:Nat} {kx:Sim.K} {x i:Rand}:bo2 (qal E ρ H id (.iaddrA len kx x i)) (.h k)=bo2 (qaa E ρ H id (.iaddrA len kx x i)) (.h k):=rfl
theorem qbH {ρ:Rand→PV} {k:PV→Heap→Option R} {x i:Rand}:bo2 (qal E ρ H id (.idxS x i)) (.h k)=bo2 (qaa E ρ H id (.idxS x i)) (.h k):=rfl
theorem qbL {ρ:Rand→PV} {k:PV→Heap→Option R} {len:Nat} {kx:Sim.K} {x i:Rand}:bo2 (qal E ρ H id (.idxA len kx x i)) (.h k)=bo2 (qaa E ρ H id (.idxA len kx x i)) (.h k):=rfl
theorem qbJ {ρ:Rand→PV} {k:PV→Heap→Option R} {str:Bool} {x:Rand}:bo2 (qal E ρ H id (.len str x)) (.h k)=bo2 (qaa E ρ H id (.len str x)) (.h k):=rfl
theorem qbT {ρ:Rand→PV} {k:PV→Heap→Option R} {x:Rand} {i:Nat}:bo2 (qal E ρ H id (.ext x i)) (.h k)=bo2 (qaa E ρ H id (.ext x i)) (.h k):=rfl
theorem qbW {ρ:Rand→PV} {k:PV→Heap→Option R} {f:Nat} {caps:List Rand}:bo2 (qal E ρ H id (.mkf f caps)) (.h k)=bo2 (qaa E ρ H id (.mkf f caps)) (.h k):=rfl
theorem qbS {ρ:Rand→PV} {k:PV→Heap→Option R} {f:Nat} {caps:List Rand}:bo2 (qal E ρ H id (.mkm f caps)) (.h k)=bo2 (qaa E ρ H id (.mkm f caps)) (.h k):=rfl
theorem qbC {ρ:Rand→PV} {k:PV→Heap→Option R} {p:Nat} {args:List Rand}:bo2 (qal E ρ H id (.prim p args)) (.h k)=bo2 (qaa E ρ H id (.prim p args)) (.h k):=rfl
theorem qbV {ρ:Rand→PV} {k:PV→Heap→Option R} {x:Rand}:bo2 (qal E ρ H id (.nilck x)) (.h k)=bo2 (qaa E ρ H id (.nilck x)) (.h k):=rfl
theorem qb2 {ρ:Rand→PV} {k:PV→Heap→Option R} {kx:Sim.K} {bytes:Nat} {z:DV} {len cap:Rand}:bo2 (qal E ρ H id (.mksl kx bytes z len cap)) (.h k)=bo2 (qaa E ρ H id (.mksl kx bytes z len cap)) (.h k):=rfl
theorem qbP {ρ:Rand→PV} {k:PV→Heap→Option R} {mx:Bool} {args:List Rand}:bo2 (qal E ρ H id (.minmax mx args)) (.h k)=bo2 (qaa E ρ H id (.minmax mx args)) (.h k):=rfl
theorem qbM {ρ:Rand→PV} {k:PV→Heap→Option R} {t:Nat} {x:Rand}:bo2 (qal E ρ H id (.mkif t x)) (.h k)=bo2 (qaa E ρ H id (.mkif t x)) (.h k):=rfl
theorem qbX {ρ:Rand→PV} {k:PV→Heap→Option R} {t:Nat} {z:DV} {ok:Bool} {x:Rand}:bo2 (qal E ρ H id (.tas t z ok x)) (.h k)=bo2 (qaa E ρ H id (.tas t z ok x)) (.h k):=rfl
theorem qbA {ρ:Rand→PV} {k:PV→Heap→Option R} {f:Nat} {args:List Rand}:bo2 (qal E ρ H id (.call 0 f args)) (.h k)=bo2 (qaa E ρ H id (.call 0 f args)) (.h k):=rfl
theorem qbG {ρ:Rand→PV} {k:PV→Heap→Option R} {f:Nat} {args:List Rand}:bo2 (qal E ρ H id (.call 1 f args)) (.h k)=bo2 (qaa E ρ H id (.call 1 f args)) (.h k):=rfl
end
end Go.Sim
end
section
namespace Go.Sim
theorem qfl (k:IntKind) (n:Int):fits none (.d (.i k n))=true:=rfl
theorem qfk (b:Bool):fits none (.d (.b b))=true:=rfl
theorem qfs (l:List UInt8):fits none (.d (.s l))=true:=rfl
theorem qcr (k:K) (l:List DV) (t:Bool):fits none (.d (.l k l t))=true:=rfl
theorem qfp (n:Nat) (l:List DV):fits (some n) (.d (.a l))=(l.length==n):=rfl
theorem qfh {H:Heap} {vs:List PV}:purT H (.t vs)=match qaL H vs with|some (xs,_)=>some (.t (xs.map .d),false)|none=>none:=rfl
theorem qfb (j:Nat):((j:Int)<0)=False:=by simp
section
variable {R : Type} {E : Env} {ρ : Rand → PV} {H : Heap} {id : Nat} {q : PV → Heap → Option R}
theorem qvo : ∀z:List DV,qa0 (z.map .d)=some z
 | []=>rfl
 |x::z=>by simp[qa0,qvo z]
theorem qfo {z:List DV}:bo2 (qaa E ρ H id (.agg z [])) (.h q)=q (.d (.a z)) H:=by
 simp only[qaa,List.map_nil,qck,mkA,qvo];rfl
end
end Go.Sim
end
section
namespace Go.Sim
section
variable {R : Type} {E : Env} {ρ : Rand → PV} {H : Heap} {id : Nat} {q : PV → Heap → Option R} {k : K} {b : Nat}
theorem qfR (v:DV):pur H (.d v)=some (v,[]):=rfl
theorem qfM:frz H []=H:=rfl
theorem qfJ {z:DV}:bo2 (qaa E ρ H id (.bsl k z 0 [])) (.h q)=q (.r id k 0 0 true) (H.put id (some (.sl k 0 []))):=rfl
theorem qfv {z:DV} {r:Rand}:bo2 (qaa E ρ H id (.bsl k z 1 [(0,r)])) (.h q)=chk (fits k (ρ r)=true) (.h (bo (pur H (ρ r)) (.h fun p=>q (.r id k 0 1 true) ((frz H p.2).put id (some (.sl k 0 [p.1])))))):=by
 simp only[qaa,zzu,List.map_nil,qbh,chk];by_cases h:fits k (ρ r)=true
 ·simp only[h,if_true,Bool.true_and];cases pur H (ρ r) with
  |none=>simp[bo,bo2]
  |some p=>obtain⟨x,os⟩:=p;simp[bo,bo2]
 ·simp[h,bo2]
def qcM (H:Heap) (id:Nat) (k:K) (bytes:Nat) (x:PV) (ys:List DV):Option (PV×Heap):=qcl H id k bytes x (.d (.l k ys true))
theorem qfI {x:PV} {k':K} {ys:List DV} {t:Bool}:bo2 (qcl H id k b x (.d (.l k' ys t))) (.h q)=chk ((K.eq k k'||ys.isEmpty)=true) (.h (bo2 (qcM H id k b x ys) (.h q))):=by
 simp only[qcl,qcM,qaW,chk,qb5,Bool.true_or,if_true];by_cases h:(K.eq k k'||ys.isEmpty)=true
 ·simp only[h,if_true]
 ·simp only[h,if_false,zzg];rfl
theorem qfC {x:PV} {o off len:Nat} {k':K} {t:Bool}:bo2 (qcl H id k b x (.r o k' off len t)) (.h q)=match H.obj o with|some (.sl k'' _ es)=>chk ((K.eq k k'&&K.eq k k''&&decide (off+len≤es.length))=true) (.h (bo2 (qcM H id k b x ((es.drop off).take len)) (.h q)))|_=>none:=by
 simp only[qcl,qcM,qaW];cases H.obj o with
 |none=>rfl
 |some y =>
  cases y with
  |sl k'' ro es =>
   simp only[chk];by_cases h:(K.eq k k'&&K.eq k k''&&decide (off+len≤es.length))=true
   ·simp only[h,if_true,qb5,Bool.true_or]
   ·simp only[h,if_false,zzg];rfl
  | _=>rfl
theorem qfL {k':K} {ys:List DV}:bo2 (qcM H id k b (.d (.l k' [] true)) ys) (.h q)=chk (ys.length*b≤2^47) (.h (q (.r id k 0 ys.length false) (H.put id (some (.sl k 0 ys))))):=by
 simp only[qcM,qcl,qaW,qb5,Bool.true_or,if_true,chk,List.length_nil,Nat.zero_add];by_cases h:ys.length*b≤2^47
 ·simp only[h,if_true];rfl
 ·simp only[h,if_false];rfl
theorem qfd {o off len:Nat} {k':K} {t:Bool} {y:DV} {ys:List DV}:bo2 (qcM H id k b (.r o k' off len t) (y::ys)) (.h q)=match H.obj o with
  |some (.sl k'' ro es)=>chk ((K.eq k k'&&K.eq k k''&&decide (off+len≤es.length)&&decide ((len+(ys.length+1))*b≤2^47))=true) (.h (brn t (.h (q (.r id k 0 (len+(ys.length+1)) false) (H.put id (some (.sl k 0 ((es.drop off).take len++y::ys)))),chk (ro≤off+len) (.h (q (.r id k 0 (len+(ys.length+1)) false) ((H.put o none).put id (some (.sl k (ro-off) ((es.drop off).take len++y::ys))))))))))
  | _=>none:=by
 simp only[qcM,qcl,qaW,qb5,Bool.true_or,if_true,zzn];cases H.obj o with
 |none=>rfl
 |some w =>
  cases w with
  |sl k'' ro es =>
   simp only[chk];by_cases h:(K.eq k k'&&K.eq k k''&&decide (off+len≤es.length)&&decide ((len+(ys.length+1))*b≤2^47))=true
   ·simp only[h,if_true];cases t with
    |true=>rfl
    |false =>
     simp only[zzg,if_false,brn];by_cases g:ro≤off+len
     ·simp only[g,if_true];rfl
     ·simp only[g,if_false];rfl
   ·simp only[h,if_false,zzg];rfl
  | _=>rfl
def qpo (t:Nat) (x:PV) (H:Heap) {q:PV→Heap→Option R} (_:Hd q):Option R:=match pur H x with
 |some (v,os)=>q (.d (.ifc t v)) (frz H os)
 |none=>q (.w t x) H
theorem qfN {t:Nat} {v:DV}:qpo t (.d v) H (.h q)=q (.d (.ifc t v)) H:=rfl
theorem qfF {t:Nat} {x:Rand}:bo2 (qaa E ρ H id (.mkif t x)) (.h q)=qpo t (ρ x) H (.h q):=by
 simp only[qaa,qpo];cases pur H (ρ x) with
 |none=>rfl
 |some p=>rfl
def qrb (t:Nat) (z:DV) (ok:Bool) (x:PV) {q:PV→Option R} (_:Hd q):Option R:=match x with
 | .d (.ifc u v)=>if u=t then q (if ok then .t [.d v,.d (.b true)] else .d v) else if ok then q (.t [.d z,.d (.b false)]) else none
 | .w u v=>if u=t then q (if ok then .t [v,.d (.b true)] else v) else if ok then q (.t [.d z,.d (.b false)]) else none
 | .d .ni=>if ok then q (.t [.d z,.d (.b false)]) else none
 | _=>none
theorem qfx {t u:Nat} {z v:DV} {ok:Bool} {q:PV→Option R}:qrb t z ok (.d (.ifc u v)) (.h q)=if u=t then q (if ok then .t [.d v,.d (.b true)] else .d v) else if ok then q (.t [.d z,.d (.b false)]) else none:=rfl
theorem qfE {t:Nat} {z:DV} {ok:Bool} {x:Rand}:bo2 (qaa E ρ H id (.tas t z ok x)) (.h q)=qrb t z ok (ρ x) (.h fun v=>q v H):=by
 simp only[qaa,qrb];cases ρ x with
 |d v =>
  cases v with
  |ifc u w=>by_cases h:u=t<;>cases ok<;>simp[h,bo2]
  |ni=>cases ok<;>rfl
  | _=>rfl
 |w u v=>by_cases h:u=t<;>cases ok<;>simp[h,bo2]
 | _=>rfl
theorem qjZ {z:List DV} {ps:List (Nat×Sim.K×Rand)}:bo2 (qaa E ρ H id (.agg z ps)) (.h q)=bo (qck (z.map .d) (ps.map fun x=>(x.1,x.2.1,ρ x.2.2))) (.h fun cs=>q (mkA cs) H):=by
 simp only[qaa];cases qck (z.map .d) (ps.map fun x=>(x.1,x.2.1,ρ x.2.2))<;>rfl
theorem qjW {z:List PV} {y:List PV→Option R}:bo (qck z []) (.h y)=y z:=rfl
theorem qks {z:List PV} {off:Nat} {v:PV} {k:Sim.K} {r:List (Nat×Sim.K×PV)} {y:List PV→Option R}:bo (qck z ((off,k,v)::r)) (.h y)=chk ((fits k v&&decide (off+k.size≤z.length))=true) (.h (bo (qck (putAt z off v.cells) r) (.h y))):=by
 simp only[qck,chk];split<;>simp_all[bo]
theorem qli {k:IntKind} {n:Int}:PV.cells (.d (.i k n))=[.d (.i k n)]:=rfl
theorem qno {l:List UInt8}:PV.cells (.d (.s l))=[.d (.s l)]:=rfl
theorem qfY:K.size none=1:=rfl
theorem qlc (n:Nat):K.size (some n)=n:=rfl
theorem qgl {mx:Bool} {x y:Rand}:bo2 (qaa E ρ H id (.minmax mx [x,y])) (.h q)=bo (mm2 mx (ρ x) (ρ y)) (.h fun v=>q v H):=by
 simp only[qaa,zzu,List.map_nil,mmA];cases mm2 mx (ρ x) (ρ y)<;>rfl
theorem qf2 {k:IntKind} {a b:Int} {y:PV→Option R}:bo (mm2 true (.d (.i k a)) (.d (.i k b))) (.h y)=y (.d (.i k (max a b))):=by
 have h:(if b>a then b else a)=max a b:=by rw[Int.max_def];split<;>split<;>omega
 simp only[mm2,if_true,h];rfl
theorem qfP {t:Nat} {v:DV}:purT H (.d (.ifc t v))=some (.d (.ifc t v),false):=rfl
theorem qfH {o off len:Nat} {k:K} {t:Bool}:purT H (.r o k off len t)=match H.obj o with
  |some (.sl k' ro es)=>if k'=k∧off+len≤es.length then some (.d (.l k ((es.drop off).take len) false),decide (ro≤off)) else none
  | _=>none:=rfl
theorem qfD {o off len:Nat} {k:K} {t:Bool} {y:Nat→Option R}:bo (qbw H false (.r o k off len t)) (.h y)=match H.obj o with
  |some (.sl _ _ es)=>chk (off+len≤es.length) (.h (y len))
  | _=>none:=by
 simp only[qbw,zzg,if_false];cases H.obj o with
 |none=>rfl
 |some w =>
  cases w with
  |sl k' ro es =>
   simp only[chk];by_cases h:off+len≤es.length
   ·simp only[h,if_true];rfl
   ·simp only[h,if_false];rfl
  | _=>rfl
end
end Go.Sim
end
section
namespace Go.Sim
theorem qJB (T:Tab) {f:Nat} {F:PF} (hF:T.F f=some F) (Y:Nat→List PV→Heap→Option (PV×Heap)) {args:List PV} {H:Heap} (ha:args.length=F.nargs):T.it Y f args H=kC (T.envY Y) H.length (Fr.ofArgs 0 args) H (.h (F.body,qgf (T.envY Y) F.results H.length)):=by
 rw[qxZ T hF];unfold qa4;rw[if_pos ha];simp only[kC];cases qah (T.envY Y) lpI H.length F.body ⟨Fr.ofArgs 0 args,H⟩ with
 |none=>rfl
 |some x =>
  obtain⟨e,s⟩:=x;cases e with
  |exit id=>rfl
  |norm =>
   simp only[qgf];cases runG (T.envY Y) (qaE s.fr) s.H with
   |none=>rfl
   |some H'=>simp only[bo];cases results s.fr H' F.results<;>rfl
  |ret =>
   simp only[qgf];cases runG (T.envY Y) (qaE s.fr) s.H with
   |none=>rfl
   |some H'=>simp only[bo];cases results s.fr H' F.results<;>rfl
section
variable {R : Type} {E : Env} {base : Nat} {fr : Fr} {H : Heap} {k : KC R}
noncomputable def qiW (E:Env) (a x:PC) (fr:Fr) (o:Nat) (ps:List Nat):Nat→List PV→Heap→Option (PV×Heap):=qcY (fun b s=>qah E lpI b a s) (fun b s=>qah E lpI b x s) fr o ps E.yld
def qlF (k:KC R) (fr:Fr) (g o:Nat) (H:Heap):Option R:=match H.obj o with
 |some (.lp 0 none)=>k .norm (fr.set g (.g (.h (o+1)))) (H.put o none)
 |some (.lp 1 (some e))=>k e (fr.set g (.g (.h (o+1)))) (H.put o none)
 | _=>none
noncomputable def rngS (E:Env) (fr:Fr) (H:Heap) (a x:PC) (live ps:List Nat) (g:Nat) (v w:PV) {k:KC R} (_:Hd k):Option R:=match v,w with
 | .f n caps,.u=>bo (E.it (qiW E a x (Fr.only live fr) H.length ps) n (.h H.length::caps) (H++[some (.lp 0 none),some .df])) (.h fun p=>qlF k fr g H.length p.2)
 | _,_=>none
theorem qJF {a x:PC} {live ps:List Nat} {g n:Nat} {caps:List PV}:rngS E fr H a x live ps g (.f n caps) .u (.h k)=bo (E.it (qiW E a x (Fr.only live fr) H.length ps) n (.h H.length::caps) (H++[some (.lp 0 none),some .df])) (.h fun p=>qlF k fr g H.length p.2):=rfl
theorem qDR {f:Rand} {g:Nat} {ps live:List Nat} {a x:PC}:kC E base fr H (.h (.rng f g ps live a x,k))=rngS E fr H a x live ps g (rd E fr f) (fr.get g) (.h k):=by
 simp only[kC,qah,rngS,qiW];cases rd E fr f with
 |f n caps =>
  cases fr.get g with
  |u =>
   simp only;cases E.it (qcY (fun b s=>qah E lpI b a s) (fun b s=>qah E lpI b x s) (Fr.only live fr) H.length ps E.yld) n (.h H.length::caps) (H++[some (.lp 0 none),some .df]) with
   |none=>rfl
   |some p =>
    obtain⟨v,H'⟩:=p;simp only[bo,qlF];cases hh:H'.obj H.length with
    |none=>rfl
    |some y =>
     cases y with
     |lp st j=>match st,j with
      | 0,none=>rfl
      | 0,some _=>rfl
      | 1,none=>rfl
      | 1,some e=>rfl
      | (n+2),_=>rfl
     | _=>rfl
  | _=>rfl
 | _=>rfl
theorem qJU {a x:PC} {o:Nat} {ps:List Nat} {args:List PV} (hl:args.length=ps.length) (ho:H.obj o=some (.lp 0 none)):qiW E a x fr o ps o args H =
  kC E H.length (qgj fr ps args) H (.h (a,fun e fr1 H1=>match e with
   | .norm=>match H1.obj o with
    |some (.lp 0 none)=>kC E H.length fr1 (H1.put o (some (.lp 2 none))) (.h (x,fun e2 _ H2=>match H2.obj o with
     |some (.lp 2 none)=>some (gcV H.length (.d (.b (isN e2))) (H2.put o (some (if isN e2 then .lp 0 none else .lp 1 (some e2)))))
     | _=>none))
    | _=>none
   | _=>none)):=by
 simp only[qiW,qcY,if_pos hl,if_true,ho,kC];cases qah E lpI H.length a ⟨qgj fr ps args,H⟩ with
 |none=>rfl
 |some p =>
  obtain⟨e,s1⟩:=p;cases e with
  |norm =>
   simp only;cases hh:s1.H.obj o with
   |none=>rfl
   |some y =>
    cases y with
    |lp st j=>match st,j with
     | 0,none =>
      simp only;cases qah E lpI H.length x ⟨s1.fr,s1.H.put o (some (.lp 2 none))⟩ with
      |none=>rfl
      |some q=>rfl
     | 0,some _=>rfl
     | (n+1),_=>rfl
    | _=>rfl
  | _=>rfl
theorem qEj (T:Tab) (Y:Nat→List PV→Heap→Option (PV×Heap)):(T.envY Y).yld=Y:=rfl
theorem qG3 (T:Tab) (Y:Nat→List PV→Heap→Option (PV×Heap)):T.env.it Y=T.it Y:=rfl
theorem qBs {o:Nat} {as0:List PV} {q:PV→Heap→Option R}:qlm E H (.h o) as0 (.h q)=bo2 (E.yld o as0 H) (.h q):=rfl
end
theorem qsD (H:Heap) (m:Nat) : ∀(n:Nat) (todo:List Nat),(∀r∈todo,r≤m)→qae H m n [m] todo=[m]
 | 0,_,_=>rfl
 |n+1,[],_=>rfl
 |n+1,o::todo,h=>by
  rw[qae];have h1:=h o (zzr ..)
  by_cases g:o<m
  ·rw[if_pos g];exact qsD H m n todo fun r hr=>h r (zzi _ hr)
  ·have:o=m:=by omega
   subst this;rw[if_neg g,if_pos (by simp)]
   exact qsD H o n todo fun r hr=>h r (zzi _ hr)
theorem qyH (H:Heap) (m:Nat) (hm:qag (H.obj m)=[]) : ∀(fs low:List Nat) (n:Nat),fs.length<n→(∀r∈fs,r≤m)→(∀r∈low,r≤m)→m∈fs→qae H m n [] (fs++low)=[m]
 | [],_,_,_,_,_,h=>by cases h
 |o::fs,low,0,hn,_,_,_=>absurd hn (zzm _)
 |o::fs,low,n+1,hn,h1,h2,h=>by
  rw[List.cons_append,qae];have ho:=h1 o (zzr ..)
  by_cases g:o<m
  ·rw[if_pos g];refine qyH H m hm fs low n (by simp at hn;omega) (fun r hr=>h1 r (zzi _ hr)) h2 ?_
   rcases List.mem_cons.1 h with h|h
   ·omega
   ·exact h
  ·have:o=m:=by omega
   subst this;rw[if_neg g,if_neg (by simp),hm,List.nil_append,List.nil_append]
   exact qsD H o n _ fun r hr=>by
    rcases List.mem_append.1 hr with hr|hr
    ·exact h1 r (zzi _ hr)
    ·exact h2 r hr
theorem qq5 (live:List Nat) {H J:Heap} {y:Option Obj} {fr:Fr} (hH:Cl H) (hy:qag y=[]) (hn:(qab (Fr.keep live fr)).length<1000) (hf : ∀r∈qab (Fr.keep live fr),r≤H.length) (hmem:H.length∈qab (Fr.keep live fr)):gc live H.length ⟨fr,H++y::J⟩=⟨Fr.keep live fr,H++[y]⟩:=by
 have ht:(H++y::J).take H.length=H:=by simp
 have hobj:(H++y::J).obj H.length=y:=qoe H (y::J)
 have hr:qae (H++y::J) H.length 1000 [] (qab (Fr.keep live fr)++qad H)=[H.length]:=qyH _ _ (by rw[hobj];exact hy) _ _ _ hn hf (fun r hr=>Nat.le_of_lt (hH r hr)) hmem
 have hp : ∀r,r≤H.length→qaf H.length [H.length] r=some r:=fun r h=>by
  by_cases g:r<H.length
  ·simp[qaf,g]
  ·have:r=H.length:=by omega
   subst this;simp[qaf,zzd]
 simp only[gc,ht,hr,gcH,zzu,List.map_nil,hobj];rw[qoD (fun r h=>hp r (hf r h)),qnW (fun r h=>hp r (Nat.le_of_lt (hH r h))),qsM (fun r h=>by rw[hy] at h;cases h)]
end Go.Sim
end
section
namespace Go.Sim
section
variable {R : Type} {E : Env} {ρ : Rand → PV} {H : Heap} {id : Nat} {q : PV → Heap → Option R} {base : Nat}
theorem qgV {K K':Sim.K} {o off len:Nat} {t:Bool} {kk:IntKind} {n:Int} {y:PV→Option R}:bo (iaddr H K (.r o K' off len t) (.d (.i kk n))) (.h y)=chk (0≤n∧n<len) (.h (match H.obj o with|some (.sl K2 _ es)=>chk ((K.eq K'&&K.eq K2&&decide (off+len≤es.length))=true) (.h (y (.p o (off+n.toNat) 0)))|_=>none)):=by
 simp only[iaddr,asI,inR,chk];by_cases h:0≤n∧n<len
 ·rw[if_pos h,if_pos h];cases H.obj o with
  |none=>rfl
  |some x =>
   cases x with
   |sl k2 ro es=>simp only;split<;>rfl
   | _=>rfl
 ·rw[if_neg h,if_neg h];simp only;rfl
theorem qmi {k:Sim.K} {z:DV} {len:Nat} {ps:List (Nat×Rand)}:bo2 (qaa E ρ H id (.bsl k z len ps)) (.h q)=bo (qbh H k (List.replicate len z) (ps.map fun x=>(x.1,ρ x.2))) (.h fun p=>q (.r id k 0 len true) ((frz H p.2).put id (some (.sl k 0 p.1)))):=by
 simp only[qaa];cases qbh H k (List.replicate len z) (ps.map fun x=>(x.1,ρ x.2))<;>rfl
theorem qmL {k:Sim.K} {es:List DV} {y:List DV×List Nat→Option R}:bo (qbh H k es []) (.h y)=y (es,[]):=rfl
theorem qnw {k:Sim.K} {es:List DV} {j:Nat} {v:DV} {r:List (Nat×PV)} {y:List DV×List Nat→Option R}:bo (qbh H k es ((j,.d v)::r)) (.h y)=chk ((fits k (.d v)&&decide (j<es.length))=true) (.h (bo (qbh H k (es.set j v) r) (.h y))):=by
 simp only[qbh,chk];by_cases h:(fits k (.d v)&&decide (j<es.length))=true
 ·simp only[h,if_true,pur,qa2];cases qbh H k (es.set j v) r with
  |none=>rfl
  |some p=>simp[bo]
 ·simp only[h,if_false,zzg];rfl
theorem qAV {σ:Type} {live:List Nat} {body:PC} {k:KC R} (st:σ→St) (f:Nat→σ) (n:Nat) {r:Option R}
  (hend : ∀B,B=body→kC E base (st (f n)).fr (st (f n)).H (.h (body,lpK E base live B k))=r)
  (hround : ∀B,B=body→∀i,i<n→∀c,(∀fr H,gc live base ⟨fr,H⟩=st (f (i+1))→kC E base fr H (.h (.loop live B,k))=c)→kC E base (st (f i)).fr (st (f i)).H (.h (body,lpK E base live B k))=c)
  {fr:Fr} {H:Heap} (h0:gc live base ⟨fr,H⟩=st (f 0)):kC E base fr H (.h (.loop live body,k))=r:=by
 rw[qcc (List.replicate n ()) (fun i (_:Unit)=>st (f i)) (fun _ _=>True) (fun _ _ _ c=>c ()) (fun _=>r) ?_ ?_ h0 trivial]
 ·have : ∀(i:Nat) (l:List Unit),rounds (fun _ _ _ c=>c ()) (fun _=>r) i () l=r:=by
   intro i l;induction l generalizing i with
   |nil=>rfl
   |cons x l ih=>exact ih (i+1)
  exact this _ _
 ·intro B hB _ _;simpa using hend B hB
 ·intro B hB i _ hi _ c hc;exact hround B hB i (by simpa using hi) (c ()) fun fr H hg=>hc () fr H trivial hg
end
end Go.Sim
end
section
namespace Go.Sim
theorem qxe (o off len:Nat) (k:K) (t:Bool):fits none (.r o k off len t)=true:=rfl
section
variable {R : Type} {H : Heap}
theorem qiO (k:K) (v:DV) {z:DV→Option R}:bo (qcq k v 0 k) (.h z)=z v:=by
 have:K.eq k k=true:=by cases k<;>simp[K.eq]
 simp[qcq,this,bo]
end
end Go.Sim
end
section
namespace Go.Sim
section
variable {R : Type} {E : Env} {fr : Fr} {H : Heap} {bf : List Nat} {acc : List (List Nat × List Nat)} {id : Nat} {j : KO R}
def qiF (b:Nat):Nat→Nat→Bool
 | _,0=>true
 |i,n+1=>b.testBit i&&qiF b (i+1) n
theorem qvd (b:Nat) (t w:List Nat) : ∀(acc:List (List Nat×List Nat)) (i:Nat),qiF b i acc.length=true→qaO b i acc t w=true
 | [],_,_=>rfl
 |x::r,i,h=>by
  simp only[zzn,qiF,zzf] at h;simp only[qaO,h.1,Bool.true_or,Bool.true_and];exact qvd b t w r (i+1) h.2
end
end Go.Sim
end
section
namespace Go.Sim
section
variable {R : Type} {E : Env} {ρ : Rand → PV} {H : Heap} {id : Nat} {q : PV → Heap → Option R} {base : Nat}
def qpE (k:IntKind) (x:PV) {q:PV→Option R} (_:Hd q):Option R:=match x with | .d (.i _ n)=>q (.d (.i k (k.wrap n)))|_=>none
theorem qxo {k kk:IntKind} {n:Int} {q:PV→Option R}:qpE k (.d (.i kk n)) (.h q)=q (.d (.i k (k.wrap n))):=rfl
theorem qyy {k:IntKind} {x:Rand}:bo2 (qaa E ρ H id (.conv k x)) (.h q)=qpE k (ρ x) (.h fun v=>q v H):=by
 simp only[qaa,qpE];cases ρ x with
 |d v=>cases v<;>rfl
 | _=>rfl
theorem qso {k k':Sim.K} {o off len:Nat} {t:Bool} {lo hi:Option PV} {y:PV→Option R}:bo (slA H k (.r o k' off len t) lo hi none) (.h y)=match H.obj o with
  |some (.sl _ _ es)=>chk ((K.eq k k'&&decide (off+len≤es.length))=true) (.h (bo (bnd len len hi) (.h fun h=>bo (bnd 0 h lo) (.h fun l=>y (.r o k (off+l) (h-l) (t&&h==len))))))
  | _=>none:=by
 simp only[slA];cases H.obj o with
 |none=>rfl
 |some x =>
  cases x with
  |sl k2 ro es =>
   simp only[chk];by_cases hc:(K.eq k k'&&decide (off+len≤es.length))=true
   ·have e:bnd len len none=some len:=rfl
    simp only[hc,if_true,e,Option.isSome_none,zzg,if_false];cases bnd len len hi with
    |none=>rfl
    |some h =>
     simp only[bo];cases bnd 0 h lo<;>rfl
   ·simp only[hc,if_false,zzg];rfl
  | _=>rfl
theorem qLe {k k':Sim.K} {es:List DV} {t:Bool} {lo hi:Option PV} {y:PV→Option R}:bo (slA H k (.d (.l k' es t)) lo hi none) (.h y)=chk ((K.eq k k'||es.isEmpty)=true) (.h (bo (bnd es.length es.length hi) (.h fun h=>bo (bnd 0 h lo) (.h fun l=>y (.d (.l k ((es.take h).drop l) (t&&h==es.length))))))):=by
 simp only[slA,chk];by_cases hc:(K.eq k k'||es.isEmpty)=true
 ·have e:bnd es.length es.length none=some es.length:=rfl
  simp only[hc,if_true,e,Option.isSome_none,zzg,if_false];cases bnd es.length es.length hi with
  |none=>rfl
  |some h =>
   simp only[bo];cases bnd 0 h lo<;>rfl
 ·simp only[hc,if_false,zzg];rfl
end
end Go.Sim
end
section
namespace Go.Sim
def Anx {R:Type} (Q:R→Prop) (x:Option R):Prop:=∃r,x=some r∧Q r
theorem qfU {R:Type} {Q:R→Prop} {c:Bool} {x y:Option R} (h1:c=true→Anx Q x) (h2:c=false→Anx Q y):Anx Q (brn c (.h (x,y))):=by
 cases c with
 |true=>exact h1 rfl
 |false=>exact h2 rfl
theorem qaz {R:Type} {Q:R→Prop} {r:R} (h:Q r):Anx Q (some r):=⟨r,rfl,h⟩
section
variable {R : Type} {E : Env} {base : Nat}
theorem qfj {σ:Type} {live:List Nat} {body:PC} {k:KC R} {Q:R→Prop} (st:σ→St) (inv:σ→Prop) (μ:σ→Nat)
  (hround : ∀B,B=body→∀s,inv s→(∀s',inv s'→μ s'<μ s→∀fr H,gc live base ⟨fr,H⟩=st s'→Anx Q (kC E base fr H (.h (.loop live B,k))))→Anx Q (kC E base (st s).fr (st s).H (.h (body,lpK E base live B k))))
  (s:σ) (hs:inv s) {fr:Fr} {H:Heap} (h0:gc live base ⟨fr,H⟩=st s):Anx Q (kC E base fr H (.h (.loop live body,k))):=by
 have key : ∀(n:Nat) (s:σ),μ s<n→inv s→∀fr H,gc live base ⟨fr,H⟩=st s→Anx Q (kC E base fr H (.h (.loop live body,k))):=by
  intro n;induction n with
  |zero=>intro s h;exact absurd h (zzm _)
  |succ n ih =>
   intro s hn hv fr H hg;rw[qlH,hg];exact hround body rfl s hv fun s' hv' hm fr' H' hg'=>ih s' (by omega) hv' fr' H' hg'
 exact key (μ s+1) s (Nat.lt_succ_self _) hs fr H h0
end
theorem qeP {x y:Int} (h : ¬x=y):(x==y)=false:=by simpa using h
end Go.Sim
end
section
namespace Go.Sim
end Go.Sim
end
section
namespace Go.Sim
def tabP:PT :=
 (.bin 685 qgo (.bin 607 qgv (.bin 544 qgM .nil .nil) (.bin 679 qcg .nil .nil)) (.bin 771 qh9 (.bin 770 qiN .nil .nil) (.bin 861 qhH .nil .nil)))
abbrev HP (T:Tab):Prop:=∀n F,tabP.get n=some F→T.F n=some F
end Go.Sim
end
section
namespace Go.Sim
structure SL (α:Type) where
 l:List α
 t:Bool
structure ACurrency where
 Code:List UInt8
 Digits:Int
def ACurrency.cells (x:ACurrency):List DV:=[.s x.Code,I x.Digits]
def ACurrency.dv (x:ACurrency):DV:=.a [.s x.Code,I x.Digits]
@[simp] theorem ACurrency.fits (x:ACurrency):Sim.fits (K1 2) (.d (ACurrency.dv x))=true:=rfl
@[simp] theorem ACurrency.purT (x:ACurrency) (H:Heap):Sim.purT H (.d (ACurrency.dv x))=some (.d (ACurrency.dv x),false):=rfl
@[simp] theorem ACurrency.clen (x:ACurrency):(ACurrency.dv x).cells.length=2:=rfl
@[simp] theorem ACurrency.aof (x:ACurrency):DV.a (ACurrency.cells x)=ACurrency.dv x:=rfl
@[simp] theorem ACurrency.ccl (x:ACurrency):(ACurrency.cells x).length=2:=rfl
@[simp] theorem ACurrency.c0 (x:ACurrency):(ACurrency.dv x).cells[0]? = some (.s x.Code):=rfl
@[simp] theorem ACurrency.c1 (x:ACurrency):(ACurrency.dv x).cells[1]? = some (I x.Digits):=rfl
structure ACalendar where
 Name:List UInt8
 Weekend:SL Int
 Holidays:SL Int
def ACalendar.cells (x:ACalendar):List DV:=[.s x.Name,.l K0 (x.Weekend.l.map I) x.Weekend.t,.l K0 (x.Holidays.l.map I) x.Holidays.t]
def ACalendar.dv (x:ACalendar):DV:=.a [.s x.Name,.l K0 (x.Weekend.l.map I) x.Weekend.t,.l K0 (x.Holidays.l.map I) x.Holidays.t]
@[simp] theorem ACalendar.fits (x:ACalendar):Sim.fits (K1 3) (.d (ACalendar.dv x))=true:=rfl
@[simp] theorem ACalendar.purT (x:ACalendar) (H:Heap):Sim.purT H (.d (ACalendar.dv x))=some (.d (ACalendar.dv x),false):=rfl
@[simp] theorem ACalendar.clen (x:ACalendar):(ACalendar.dv x).cells.length=3:=rfl
@[simp] theorem ACalendar.aof (x:ACalendar):DV.a (ACalendar.cells x)=ACalendar.dv x:=rfl
@[simp] theorem ACalendar.ccl (x:ACalendar):(ACalendar.cells x).length=3:=rfl
@[simp] theorem ACalendar.c0 (x:ACalendar):(ACalendar.dv x).cells[0]? = some (.s x.Name):=rfl
@[simp] theorem ACalendar.c1 (x:ACalendar):(ACalendar.dv x).cells[1]? = some (.l K0 (x.Weekend.l.map I) x.Weekend.t):=rfl
@[simp] theorem ACalendar.c2 (x:ACalendar):(ACalendar.dv x).cells[2]? = some (.l K0 (x.Holidays.l.map I) x.Holidays.t):=rfl
structure AVar where
 Name:List UInt8
 Typ:Int
def AVar.cells (x:AVar):List DV:=[.s x.Name,I x.Typ]
def AVar.dv (x:AVar):DV:=.a [.s x.Name,I x.Typ]
@[simp] theorem AVar.fits (x:AVar):Sim.fits (K1 2) (.d (AVar.dv x))=true:=rfl
@[simp] theorem AVar.purT (x:AVar) (H:Heap):Sim.purT H (.d (AVar.dv x))=some (.d (AVar.dv x),false):=rfl
@[simp] theorem AVar.clen (x:AVar):(AVar.dv x).cells.length=2:=rfl
@[simp] theorem AVar.aof (x:AVar):DV.a (AVar.cells x)=AVar.dv x:=rfl
@[simp] theorem AVar.ccl (x:AVar):(AVar.cells x).length=2:=rfl
@[simp] theorem AVar.c0 (x:AVar):(AVar.dv x).cells[0]? = some (.s x.Name):=rfl
@[simp] theorem AVar.c1 (x:AVar):(AVar.dv x).cells[1]? = some (I x.Typ):=rfl
structure ATier where
 From:Int
 Ppm:Int
def ATier.cells (x:ATier):List DV:=[I x.From,I x.Ppm]
def ATier.dv (x:ATier):DV:=.a [I x.From,I x.Ppm]
@[simp] theorem ATier.fits (x:ATier):Sim.fits (K1 2) (.d (ATier.dv x))=true:=rfl
@[simp] theorem ATier.purT (x:ATier) (H:Heap):Sim.purT H (.d (ATier.dv x))=some (.d (ATier.dv x),false):=rfl
@[simp] theorem ATier.clen (x:ATier):(ATier.dv x).cells.length=2:=rfl
@[simp] theorem ATier.aof (x:ATier):DV.a (ATier.cells x)=ATier.dv x:=rfl
@[simp] theorem ATier.ccl (x:ATier):(ATier.cells x).length=2:=rfl
@[simp] theorem ATier.c0 (x:ATier):(ATier.dv x).cells[0]? = some (I x.From):=rfl
@[simp] theorem ATier.c1 (x:ATier):(ATier.dv x).cells[1]? = some (I x.Ppm):=rfl
structure AInterest where
 Tiers:SL ATier
 Marginal:Bool
 Basis:Int
 Mode:Int
 Keep:Bool
def AInterest.cells (x:AInterest):List DV:=[.l (K1 2) (x.Tiers.l.map ATier.dv) x.Tiers.t,.b x.Marginal,I x.Basis,I x.Mode,.b x.Keep]
def AInterest.dv (x:AInterest):DV:=.a [.l (K1 2) (x.Tiers.l.map ATier.dv) x.Tiers.t,.b x.Marginal,I x.Basis,I x.Mode,.b x.Keep]
@[simp] theorem AInterest.fits (x:AInterest):Sim.fits (K1 5) (.d (AInterest.dv x))=true:=rfl
@[simp] theorem AInterest.purT (x:AInterest) (H:Heap):Sim.purT H (.d (AInterest.dv x))=some (.d (AInterest.dv x),false):=rfl
@[simp] theorem AInterest.clen (x:AInterest):(AInterest.dv x).cells.length=5:=rfl
@[simp] theorem AInterest.aof (x:AInterest):DV.a (AInterest.cells x)=AInterest.dv x:=rfl
@[simp] theorem AInterest.ccl (x:AInterest):(AInterest.cells x).length=5:=rfl
@[simp] theorem AInterest.c0 (x:AInterest):(AInterest.dv x).cells[0]? = some (.l (K1 2) (x.Tiers.l.map ATier.dv) x.Tiers.t):=rfl
@[simp] theorem AInterest.c1 (x:AInterest):(AInterest.dv x).cells[1]? = some (.b x.Marginal):=rfl
@[simp] theorem AInterest.c2 (x:AInterest):(AInterest.dv x).cells[2]? = some (I x.Basis):=rfl
@[simp] theorem AInterest.c3 (x:AInterest):(AInterest.dv x).cells[3]? = some (I x.Mode):=rfl
@[simp] theorem AInterest.c4 (x:AInterest):(AInterest.dv x).cells[4]? = some (.b x.Keep):=rfl
structure AExpr where
 (Op N:Int)
 S:List UInt8
 Args:SL DV
def AExpr.cells (x:AExpr):List DV:=[I x.Op,I x.N,.s x.S,.l (K1 4) x.Args.l x.Args.t]
def AExpr.dv (x:AExpr):DV:=.a [I x.Op,I x.N,.s x.S,.l (K1 4) x.Args.l x.Args.t]
@[simp] theorem AExpr.fits (x:AExpr):Sim.fits (K1 4) (.d (AExpr.dv x))=true:=rfl
@[simp] theorem AExpr.purT (x:AExpr) (H:Heap):Sim.purT H (.d (AExpr.dv x))=some (.d (AExpr.dv x),false):=rfl
@[simp] theorem AExpr.clen (x:AExpr):(AExpr.dv x).cells.length=4:=rfl
@[simp] theorem AExpr.aof (x:AExpr):DV.a (AExpr.cells x)=AExpr.dv x:=rfl
@[simp] theorem AExpr.ccl (x:AExpr):(AExpr.cells x).length=4:=rfl
@[simp] theorem AExpr.c0 (x:AExpr):(AExpr.dv x).cells[0]? = some (I x.Op):=rfl
@[simp] theorem AExpr.c1 (x:AExpr):(AExpr.dv x).cells[1]? = some (I x.N):=rfl
@[simp] theorem AExpr.c2 (x:AExpr):(AExpr.dv x).cells[2]? = some (.s x.S):=rfl
@[simp] theorem AExpr.c3 (x:AExpr):(AExpr.dv x).cells[3]? = some (.l (K1 4) x.Args.l x.Args.t):=rfl
structure AFee where
 Name:List UInt8
 Event:Int
 When:AExpr
 Amount:AExpr
def AFee.cells (x:AFee):List DV:=[.s x.Name,I x.Event,I x.When.Op,I x.When.N,.s x.When.S,.l (K1 4) x.When.Args.l x.When.Args.t,I x.Amount.Op,I x.Amount.N,.s x.Amount.S,.l (K1 4) x.Amount.Args.l x.Amount.Args.t]
def AFee.dv (x:AFee):DV:=.a [.s x.Name,I x.Event,I x.When.Op,I x.When.N,.s x.When.S,.l (K1 4) x.When.Args.l x.When.Args.t,I x.Amount.Op,I x.Amount.N,.s x.Amount.S,.l (K1 4) x.Amount.Args.l x.Amount.Args.t]
@[simp] theorem AFee.fits (x:AFee):Sim.fits (K1 10) (.d (AFee.dv x))=true:=rfl
@[simp] theorem AFee.purT (x:AFee) (H:Heap):Sim.purT H (.d (AFee.dv x))=some (.d (AFee.dv x),false):=rfl
@[simp] theorem AFee.clen (x:AFee):(AFee.dv x).cells.length=10:=rfl
@[simp] theorem AFee.aof (x:AFee):DV.a (AFee.cells x)=AFee.dv x:=rfl
@[simp] theorem AFee.ccl (x:AFee):(AFee.cells x).length=10:=rfl
@[simp] theorem AFee.n2_4 (x:AFee):((AFee.dv x).cells.drop 2).take 4=AExpr.cells x.When:=rfl
@[simp] theorem AFee.n6_4 (x:AFee):((AFee.dv x).cells.drop 6).take 4=AExpr.cells x.Amount:=rfl
@[simp] theorem AFee.c0 (x:AFee):(AFee.dv x).cells[0]? = some (.s x.Name):=rfl
@[simp] theorem AFee.c1 (x:AFee):(AFee.dv x).cells[1]? = some (I x.Event):=rfl
@[simp] theorem AFee.c2 (x:AFee):(AFee.dv x).cells[2]? = some (I x.When.Op):=rfl
@[simp] theorem AFee.c3 (x:AFee):(AFee.dv x).cells[3]? = some (I x.When.N):=rfl
@[simp] theorem AFee.c4 (x:AFee):(AFee.dv x).cells[4]? = some (.s x.When.S):=rfl
@[simp] theorem AFee.c5 (x:AFee):(AFee.dv x).cells[5]? = some (.l (K1 4) x.When.Args.l x.When.Args.t):=rfl
@[simp] theorem AFee.c6 (x:AFee):(AFee.dv x).cells[6]? = some (I x.Amount.Op):=rfl
@[simp] theorem AFee.c7 (x:AFee):(AFee.dv x).cells[7]? = some (I x.Amount.N):=rfl
@[simp] theorem AFee.c8 (x:AFee):(AFee.dv x).cells[8]? = some (.s x.Amount.S):=rfl
@[simp] theorem AFee.c9 (x:AFee):(AFee.dv x).cells[9]? = some (.l (K1 4) x.Amount.Args.l x.Amount.Args.t):=rfl
structure ARule where
 Name:List UInt8
 Window:Int
 Amount:AExpr
def ARule.cells (x:ARule):List DV:=[.s x.Name,I x.Window,I x.Amount.Op,I x.Amount.N,.s x.Amount.S,.l (K1 4) x.Amount.Args.l x.Amount.Args.t]
def ARule.dv (x:ARule):DV:=.a [.s x.Name,I x.Window,I x.Amount.Op,I x.Amount.N,.s x.Amount.S,.l (K1 4) x.Amount.Args.l x.Amount.Args.t]
@[simp] theorem ARule.fits (x:ARule):Sim.fits (K1 6) (.d (ARule.dv x))=true:=rfl
@[simp] theorem ARule.purT (x:ARule) (H:Heap):Sim.purT H (.d (ARule.dv x))=some (.d (ARule.dv x),false):=rfl
@[simp] theorem ARule.clen (x:ARule):(ARule.dv x).cells.length=6:=rfl
@[simp] theorem ARule.aof (x:ARule):DV.a (ARule.cells x)=ARule.dv x:=rfl
@[simp] theorem ARule.ccl (x:ARule):(ARule.cells x).length=6:=rfl
@[simp] theorem ARule.n2_4 (x:ARule):((ARule.dv x).cells.drop 2).take 4=AExpr.cells x.Amount:=rfl
@[simp] theorem ARule.c0 (x:ARule):(ARule.dv x).cells[0]? = some (.s x.Name):=rfl
@[simp] theorem ARule.c1 (x:ARule):(ARule.dv x).cells[1]? = some (I x.Window):=rfl
@[simp] theorem ARule.c2 (x:ARule):(ARule.dv x).cells[2]? = some (I x.Amount.Op):=rfl
@[simp] theorem ARule.c3 (x:ARule):(ARule.dv x).cells[3]? = some (I x.Amount.N):=rfl
@[simp] theorem ARule.c4 (x:ARule):(ARule.dv x).cells[4]? = some (.s x.Amount.S):=rfl
@[simp] theorem ARule.c5 (x:ARule):(ARule.dv x).cells[5]? = some (.l (K1 4) x.Amount.Args.l x.Amount.Args.t):=rfl
structure AProduct where
 Name:List UInt8
 Currency:List UInt8
 Calendar:List UInt8
 From:Int
 Every:Int
 Overdraft:Int
 TaxPpm:Int
 Credit:AInterest
 Debit:AInterest
 Fees:SL AFee
 Rules:SL ARule
def AProduct.cells (x:AProduct):List DV:=[.s x.Name,.s x.Currency,.s x.Calendar,I x.From,I x.Every,I x.Overdraft,I x.TaxPpm,.l (K1 2) (x.Credit.Tiers.l.map ATier.dv) x.Credit.Tiers.t,.b x.Credit.Marginal,I x.Credit.Basis,I x.Credit.Mode,.b x.Credit.Keep,.l (K1 2) (x.Debit.Tiers.l.map ATier.dv) x.Debit.Tiers.t,.b x.Debit.Marginal,I x.Debit.Basis,I x.Debit.Mode,.b x.Debit.Keep,.l (K1 10) (x.Fees.l.map AFee.dv) x.Fees.t,.l (K1 6) (x.Rules.l.map ARule.dv) x.Rules.t]
def AProduct.dv (x:AProduct):DV:=.a [.s x.Name,.s x.Currency,.s x.Calendar,I x.From,I x.Every,I x.Overdraft,I x.TaxPpm,.l (K1 2) (x.Credit.Tiers.l.map ATier.dv) x.Credit.Tiers.t,.b x.Credit.Marginal,I x.Credit.Basis,I x.Credit.Mode,.b x.Credit.Keep,.l (K1 2) (x.Debit.Tiers.l.map ATier.dv) x.Debit.Tiers.t,.b x.Debit.Marginal,I x.Debit.Basis,I x.Debit.Mode,.b x.Debit.Keep,.l (K1 10) (x.Fees.l.map AFee.dv) x.Fees.t,.l (K1 6) (x.Rules.l.map ARule.dv) x.Rules.t]
@[simp] theorem AProduct.fits (x:AProduct):Sim.fits (K1 19) (.d (AProduct.dv x))=true:=rfl
@[simp] theorem AProduct.purT (x:AProduct) (H:Heap):Sim.purT H (.d (AProduct.dv x))=some (.d (AProduct.dv x),false):=rfl
@[simp] theorem AProduct.clen (x:AProduct):(AProduct.dv x).cells.length=19:=rfl
@[simp] theorem AProduct.aof (x:AProduct):DV.a (AProduct.cells x)=AProduct.dv x:=rfl
@[simp] theorem AProduct.ccl (x:AProduct):(AProduct.cells x).length=19:=rfl
@[simp] theorem AProduct.n7_5 (x:AProduct):((AProduct.dv x).cells.drop 7).take 5=AInterest.cells x.Credit:=rfl
@[simp] theorem AProduct.n12_5 (x:AProduct):((AProduct.dv x).cells.drop 12).take 5=AInterest.cells x.Debit:=rfl
@[simp] theorem AProduct.c0 (x:AProduct):(AProduct.dv x).cells[0]? = some (.s x.Name):=rfl
@[simp] theorem AProduct.c1 (x:AProduct):(AProduct.dv x).cells[1]? = some (.s x.Currency):=rfl
@[simp] theorem AProduct.c2 (x:AProduct):(AProduct.dv x).cells[2]? = some (.s x.Calendar):=rfl
@[simp] theorem AProduct.c3 (x:AProduct):(AProduct.dv x).cells[3]? = some (I x.From):=rfl
@[simp] theorem AProduct.c4 (x:AProduct):(AProduct.dv x).cells[4]? = some (I x.Every):=rfl
@[simp] theorem AProduct.c5 (x:AProduct):(AProduct.dv x).cells[5]? = some (I x.Overdraft):=rfl
@[simp] theorem AProduct.c6 (x:AProduct):(AProduct.dv x).cells[6]? = some (I x.TaxPpm):=rfl
@[simp] theorem AProduct.c7 (x:AProduct):(AProduct.dv x).cells[7]? = some (.l (K1 2) (x.Credit.Tiers.l.map ATier.dv) x.Credit.Tiers.t):=rfl
@[simp] theorem AProduct.c8 (x:AProduct):(AProduct.dv x).cells[8]? = some (.b x.Credit.Marginal):=rfl
@[simp] theorem AProduct.c9 (x:AProduct):(AProduct.dv x).cells[9]? = some (I x.Credit.Basis):=rfl
@[simp] theorem AProduct.c10 (x:AProduct):(AProduct.dv x).cells[10]? = some (I x.Credit.Mode):=rfl
@[simp] theorem AProduct.c11 (x:AProduct):(AProduct.dv x).cells[11]? = some (.b x.Credit.Keep):=rfl
@[simp] theorem AProduct.c12 (x:AProduct):(AProduct.dv x).cells[12]? = some (.l (K1 2) (x.Debit.Tiers.l.map ATier.dv) x.Debit.Tiers.t):=rfl
@[simp] theorem AProduct.c13 (x:AProduct):(AProduct.dv x).cells[13]? = some (.b x.Debit.Marginal):=rfl
@[simp] theorem AProduct.c14 (x:AProduct):(AProduct.dv x).cells[14]? = some (I x.Debit.Basis):=rfl
@[simp] theorem AProduct.c15 (x:AProduct):(AProduct.dv x).cells[15]? = some (I x.Debit.Mode):=rfl
@[simp] theorem AProduct.c16 (x:AProduct):(AProduct.dv x).cells[16]? = some (.b x.Debit.Keep):=rfl
@[simp] theorem AProduct.c17 (x:AProduct):(AProduct.dv x).cells[17]? = some (.l (K1 10) (x.Fees.l.map AFee.dv) x.Fees.t):=rfl
@[simp] theorem AProduct.c18 (x:AProduct):(AProduct.dv x).cells[18]? = some (.l (K1 6) (x.Rules.l.map ARule.dv) x.Rules.t):=rfl
structure AGl where
 Id:Int
 Parent:Int
 Kind:Int
 Name:List UInt8
def AGl.cells (x:AGl):List DV:=[I x.Id,I x.Parent,I x.Kind,.s x.Name]
def AGl.dv (x:AGl):DV:=.a [I x.Id,I x.Parent,I x.Kind,.s x.Name]
@[simp] theorem AGl.fits (x:AGl):Sim.fits (K1 4) (.d (AGl.dv x))=true:=rfl
@[simp] theorem AGl.purT (x:AGl) (H:Heap):Sim.purT H (.d (AGl.dv x))=some (.d (AGl.dv x),false):=rfl
@[simp] theorem AGl.clen (x:AGl):(AGl.dv x).cells.length=4:=rfl
@[simp] theorem AGl.aof (x:AGl):DV.a (AGl.cells x)=AGl.dv x:=rfl
@[simp] theorem AGl.ccl (x:AGl):(AGl.cells x).length=4:=rfl
@[simp] theorem AGl.c0 (x:AGl):(AGl.dv x).cells[0]? = some (I x.Id):=rfl
@[simp] theorem AGl.c1 (x:AGl):(AGl.dv x).cells[1]? = some (I x.Parent):=rfl
@[simp] theorem AGl.c2 (x:AGl):(AGl.dv x).cells[2]? = some (I x.Kind):=rfl
@[simp] theorem AGl.c3 (x:AGl):(AGl.dv x).cells[3]? = some (.s x.Name):=rfl
structure ALeg where
 Account:Int
 Amount:Int
 Currency:List UInt8
def ALeg.cells (x:ALeg):List DV:=[I x.Account,I x.Amount,.s x.Currency]
def ALeg.dv (x:ALeg):DV:=.a [I x.Account,I x.Amount,.s x.Currency]
@[simp] theorem ALeg.fits (x:ALeg):Sim.fits (K1 3) (.d (ALeg.dv x))=true:=rfl
@[simp] theorem ALeg.purT (x:ALeg) (H:Heap):Sim.purT H (.d (ALeg.dv x))=some (.d (ALeg.dv x),false):=rfl
@[simp] theorem ALeg.clen (x:ALeg):(ALeg.dv x).cells.length=3:=rfl
@[simp] theorem ALeg.aof (x:ALeg):DV.a (ALeg.cells x)=ALeg.dv x:=rfl
@[simp] theorem ALeg.ccl (x:ALeg):(ALeg.cells x).length=3:=rfl
@[simp] theorem ALeg.c0 (x:ALeg):(ALeg.dv x).cells[0]? = some (I x.Account):=rfl
@[simp] theorem ALeg.c1 (x:ALeg):(ALeg.dv x).cells[1]? = some (I x.Amount):=rfl
@[simp] theorem ALeg.c2 (x:ALeg):(ALeg.dv x).cells[2]? = some (.s x.Currency):=rfl
structure AEntry where
 Id:Int
 Booked:Int
 Value:Int
 Kind:Int
 Auth:Int
 Period:Int
 Key:List UInt8
 Text:List UInt8
 Legs:SL ALeg
 Chain:Int
def AEntry.cells (x:AEntry):List DV:=[I x.Id,I x.Booked,I x.Value,I x.Kind,I x.Auth,I x.Period,.s x.Key,.s x.Text,.l (K1 3) (x.Legs.l.map ALeg.dv) x.Legs.t,.i .u64 x.Chain]
def AEntry.dv (x:AEntry):DV:=.a [I x.Id,I x.Booked,I x.Value,I x.Kind,I x.Auth,I x.Period,.s x.Key,.s x.Text,.l (K1 3) (x.Legs.l.map ALeg.dv) x.Legs.t,.i .u64 x.Chain]
@[simp] theorem AEntry.fits (x:AEntry):Sim.fits (K1 10) (.d (AEntry.dv x))=true:=rfl
@[simp] theorem AEntry.purT (x:AEntry) (H:Heap):Sim.purT H (.d (AEntry.dv x))=some (.d (AEntry.dv x),false):=rfl
@[simp] theorem AEntry.clen (x:AEntry):(AEntry.dv x).cells.length=10:=rfl
@[simp] theorem AEntry.aof (x:AEntry):DV.a (AEntry.cells x)=AEntry.dv x:=rfl
@[simp] theorem AEntry.ccl (x:AEntry):(AEntry.cells x).length=10:=rfl
@[simp] theorem AEntry.c0 (x:AEntry):(AEntry.dv x).cells[0]? = some (I x.Id):=rfl
@[simp] theorem AEntry.c1 (x:AEntry):(AEntry.dv x).cells[1]? = some (I x.Booked):=rfl
@[simp] theorem AEntry.c2 (x:AEntry):(AEntry.dv x).cells[2]? = some (I x.Value):=rfl
@[simp] theorem AEntry.c3 (x:AEntry):(AEntry.dv x).cells[3]? = some (I x.Kind):=rfl
@[simp] theorem AEntry.c4 (x:AEntry):(AEntry.dv x).cells[4]? = some (I x.Auth):=rfl
@[simp] theorem AEntry.c5 (x:AEntry):(AEntry.dv x).cells[5]? = some (I x.Period):=rfl
@[simp] theorem AEntry.c6 (x:AEntry):(AEntry.dv x).cells[6]? = some (.s x.Key):=rfl
@[simp] theorem AEntry.c7 (x:AEntry):(AEntry.dv x).cells[7]? = some (.s x.Text):=rfl
@[simp] theorem AEntry.c8 (x:AEntry):(AEntry.dv x).cells[8]? = some (.l (K1 3) (x.Legs.l.map ALeg.dv) x.Legs.t):=rfl
@[simp] theorem AEntry.c9 (x:AEntry):(AEntry.dv x).cells[9]? = some (.i .u64 x.Chain):=rfl
structure AHold where
 Id:Int
 Account:Int
 Amount:Int
 From:Int
 To:Int
 Key:List UInt8
def AHold.cells (x:AHold):List DV:=[I x.Id,I x.Account,I x.Amount,I x.From,I x.To,.s x.Key]
def AHold.dv (x:AHold):DV:=.a [I x.Id,I x.Account,I x.Amount,I x.From,I x.To,.s x.Key]
@[simp] theorem AHold.fits (x:AHold):Sim.fits (K1 6) (.d (AHold.dv x))=true:=rfl
@[simp] theorem AHold.purT (x:AHold) (H:Heap):Sim.purT H (.d (AHold.dv x))=some (.d (AHold.dv x),false):=rfl
@[simp] theorem AHold.clen (x:AHold):(AHold.dv x).cells.length=6:=rfl
@[simp] theorem AHold.aof (x:AHold):DV.a (AHold.cells x)=AHold.dv x:=rfl
@[simp] theorem AHold.ccl (x:AHold):(AHold.cells x).length=6:=rfl
@[simp] theorem AHold.c0 (x:AHold):(AHold.dv x).cells[0]? = some (I x.Id):=rfl
@[simp] theorem AHold.c1 (x:AHold):(AHold.dv x).cells[1]? = some (I x.Account):=rfl
@[simp] theorem AHold.c2 (x:AHold):(AHold.dv x).cells[2]? = some (I x.Amount):=rfl
@[simp] theorem AHold.c3 (x:AHold):(AHold.dv x).cells[3]? = some (I x.From):=rfl
@[simp] theorem AHold.c4 (x:AHold):(AHold.dv x).cells[4]? = some (I x.To):=rfl
@[simp] theorem AHold.c5 (x:AHold):(AHold.dv x).cells[5]? = some (.s x.Key):=rfl
structure ABlock where
 Id:Int
 Account:Int
 Kind:Int
 Amount:Int
 From:Int
 To:Int
 Source:List UInt8
def ABlock.cells (x:ABlock):List DV:=[I x.Id,I x.Account,I x.Kind,I x.Amount,I x.From,I x.To,.s x.Source]
def ABlock.dv (x:ABlock):DV:=.a [I x.Id,I x.Account,I x.Kind,I x.Amount,I x.From,I x.To,.s x.Source]
@[simp] theorem ABlock.fits (x:ABlock):Sim.fits (K1 7) (.d (ABlock.dv x))=true:=rfl
@[simp] theorem ABlock.purT (x:ABlock) (H:Heap):Sim.purT H (.d (ABlock.dv x))=some (.d (ABlock.dv x),false):=rfl
@[simp] theorem ABlock.clen (x:ABlock):(ABlock.dv x).cells.length=7:=rfl
@[simp] theorem ABlock.aof (x:ABlock):DV.a (ABlock.cells x)=ABlock.dv x:=rfl
@[simp] theorem ABlock.ccl (x:ABlock):(ABlock.cells x).length=7:=rfl
@[simp] theorem ABlock.c0 (x:ABlock):(ABlock.dv x).cells[0]? = some (I x.Id):=rfl
@[simp] theorem ABlock.c1 (x:ABlock):(ABlock.dv x).cells[1]? = some (I x.Account):=rfl
@[simp] theorem ABlock.c2 (x:ABlock):(ABlock.dv x).cells[2]? = some (I x.Kind):=rfl
@[simp] theorem ABlock.c3 (x:ABlock):(ABlock.dv x).cells[3]? = some (I x.Amount):=rfl
@[simp] theorem ABlock.c4 (x:ABlock):(ABlock.dv x).cells[4]? = some (I x.From):=rfl
@[simp] theorem ABlock.c5 (x:ABlock):(ABlock.dv x).cells[5]? = some (I x.To):=rfl
@[simp] theorem ABlock.c6 (x:ABlock):(ABlock.dv x).cells[6]? = some (.s x.Source):=rfl
structure AAccount where
 Id:Int
 Opened:Int
 Closed:Int
 Extra:Int
 Owner:List UInt8
 Product:List UInt8
 Number:List UInt8
def AAccount.cells (x:AAccount):List DV:=[I x.Id,I x.Opened,I x.Closed,I x.Extra,.s x.Owner,.s x.Product,.s x.Number]
def AAccount.dv (x:AAccount):DV:=.a [I x.Id,I x.Opened,I x.Closed,I x.Extra,.s x.Owner,.s x.Product,.s x.Number]
@[simp] theorem AAccount.fits (x:AAccount):Sim.fits (K1 7) (.d (AAccount.dv x))=true:=rfl
@[simp] theorem AAccount.purT (x:AAccount) (H:Heap):Sim.purT H (.d (AAccount.dv x))=some (.d (AAccount.dv x),false):=rfl
@[simp] theorem AAccount.clen (x:AAccount):(AAccount.dv x).cells.length=7:=rfl
@[simp] theorem AAccount.aof (x:AAccount):DV.a (AAccount.cells x)=AAccount.dv x:=rfl
@[simp] theorem AAccount.ccl (x:AAccount):(AAccount.cells x).length=7:=rfl
@[simp] theorem AAccount.c0 (x:AAccount):(AAccount.dv x).cells[0]? = some (I x.Id):=rfl
@[simp] theorem AAccount.c1 (x:AAccount):(AAccount.dv x).cells[1]? = some (I x.Opened):=rfl
@[simp] theorem AAccount.c2 (x:AAccount):(AAccount.dv x).cells[2]? = some (I x.Closed):=rfl
@[simp] theorem AAccount.c3 (x:AAccount):(AAccount.dv x).cells[3]? = some (I x.Extra):=rfl
@[simp] theorem AAccount.c4 (x:AAccount):(AAccount.dv x).cells[4]? = some (.s x.Owner):=rfl
@[simp] theorem AAccount.c5 (x:AAccount):(AAccount.dv x).cells[5]? = some (.s x.Product):=rfl
@[simp] theorem AAccount.c6 (x:AAccount):(AAccount.dv x).cells[6]? = some (.s x.Number):=rfl
structure APlan where
 Cash:Int
 Deposits:Int
 InterestPaid:Int
 InterestEarned:Int
 FeeEarned:Int
 Tax:Int
 Clearing:Int
 Loans:Int
 LoanInterest:Int
 Penalty:Int
 Provision:Int
 ProvisionCost:Int
 Loss:Int
 Recovery:Int
def APlan.cells (x:APlan):List DV:=[I x.Cash,I x.Deposits,I x.InterestPaid,I x.InterestEarned,I x.FeeEarned,I x.Tax,I x.Clearing,I x.Loans,I x.LoanInterest,I x.Penalty,I x.Provision,I x.ProvisionCost,I x.Loss,I x.Recovery]
def APlan.dv (x:APlan):DV:=.a [I x.Cash,I x.Deposits,I x.InterestPaid,I x.InterestEarned,I x.FeeEarned,I x.Tax,I x.Clearing,I x.Loans,I x.LoanInterest,I x.Penalty,I x.Provision,I x.ProvisionCost,I x.Loss,I x.Recovery]
@[simp] theorem APlan.fits (x:APlan):Sim.fits (K1 14) (.d (APlan.dv x))=true:=rfl
@[simp] theorem APlan.purT (x:APlan) (H:Heap):Sim.purT H (.d (APlan.dv x))=some (.d (APlan.dv x),false):=rfl
@[simp] theorem APlan.clen (x:APlan):(APlan.dv x).cells.length=14:=rfl
@[simp] theorem APlan.aof (x:APlan):DV.a (APlan.cells x)=APlan.dv x:=rfl
@[simp] theorem APlan.ccl (x:APlan):(APlan.cells x).length=14:=rfl
@[simp] theorem APlan.c0 (x:APlan):(APlan.dv x).cells[0]? = some (I x.Cash):=rfl
@[simp] theorem APlan.c1 (x:APlan):(APlan.dv x).cells[1]? = some (I x.Deposits):=rfl
@[simp] theorem APlan.c2 (x:APlan):(APlan.dv x).cells[2]? = some (I x.InterestPaid):=rfl
@[simp] theorem APlan.c3 (x:APlan):(APlan.dv x).cells[3]? = some (I x.InterestEarned):=rfl
@[simp] theorem APlan.c4 (x:APlan):(APlan.dv x).cells[4]? = some (I x.FeeEarned):=rfl
@[simp] theorem APlan.c5 (x:APlan):(APlan.dv x).cells[5]? = some (I x.Tax):=rfl
@[simp] theorem APlan.c6 (x:APlan):(APlan.dv x).cells[6]? = some (I x.Clearing):=rfl
@[simp] theorem APlan.c7 (x:APlan):(APlan.dv x).cells[7]? = some (I x.Loans):=rfl
@[simp] theorem APlan.c8 (x:APlan):(APlan.dv x).cells[8]? = some (I x.LoanInterest):=rfl
@[simp] theorem APlan.c9 (x:APlan):(APlan.dv x).cells[9]? = some (I x.Penalty):=rfl
@[simp] theorem APlan.c10 (x:APlan):(APlan.dv x).cells[10]? = some (I x.Provision):=rfl
@[simp] theorem APlan.c11 (x:APlan):(APlan.dv x).cells[11]? = some (I x.ProvisionCost):=rfl
@[simp] theorem APlan.c12 (x:APlan):(APlan.dv x).cells[12]? = some (I x.Loss):=rfl
@[simp] theorem APlan.c13 (x:APlan):(APlan.dv x).cells[13]? = some (I x.Recovery):=rfl
structure ABooks where
 Currencies:SL ACurrency
 Calendars:SL ACalendar
 Chart:SL AGl
 Plan:APlan
 Products:SL AProduct
 Accounts:SL AAccount
 Journal:SL AEntry
 Holds:SL AHold
 Blocks:SL ABlock
def ABooks.cells (x:ABooks):List DV:=[.l (K1 2) (x.Currencies.l.map ACurrency.dv) x.Currencies.t,.l (K1 3) (x.Calendars.l.map ACalendar.dv) x.Calendars.t,.l (K1 4) (x.Chart.l.map AGl.dv) x.Chart.t,I x.Plan.Cash,I x.Plan.Deposits,I x.Plan.InterestPaid,I x.Plan.InterestEarned,I x.Plan.FeeEarned,I x.Plan.Tax,I x.Plan.Clearing,I x.Plan.Loans,I x.Plan.LoanInterest,I x.Plan.Penalty,I x.Plan.Provision,I x.Plan.ProvisionCost,I x.Plan.Loss,I x.Plan.Recovery,.l (K1 19) (x.Products.l.map AProduct.dv) x.Products.t,.l (K1 7) (x.Accounts.l.map AAccount.dv) x.Accounts.t,.l (K1 10) (x.Journal.l.map AEntry.dv) x.Journal.t,.l (K1 6) (x.Holds.l.map AHold.dv) x.Holds.t,.l (K1 7) (x.Blocks.l.map ABlock.dv) x.Blocks.t]
def ABooks.dv (x:ABooks):DV:=.a [.l (K1 2) (x.Currencies.l.map ACurrency.dv) x.Currencies.t,.l (K1 3) (x.Calendars.l.map ACalendar.dv) x.Calendars.t,.l (K1 4) (x.Chart.l.map AGl.dv) x.Chart.t,I x.Plan.Cash,I x.Plan.Deposits,I x.Plan.InterestPaid,I x.Plan.InterestEarned,I x.Plan.FeeEarned,I x.Plan.Tax,I x.Plan.Clearing,I x.Plan.Loans,I x.Plan.LoanInterest,I x.Plan.Penalty,I x.Plan.Provision,I x.Plan.ProvisionCost,I x.Plan.Loss,I x.Plan.Recovery,.l (K1 19) (x.Products.l.map AProduct.dv) x.Products.t,.l (K1 7) (x.Accounts.l.map AAccount.dv) x.Accounts.t,.l (K1 10) (x.Journal.l.map AEntry.dv) x.Journal.t,.l (K1 6) (x.Holds.l.map AHold.dv) x.Holds.t,.l (K1 7) (x.Blocks.l.map ABlock.dv) x.Blocks.t]
@[simp] theorem ABooks.fits (x:ABooks):Sim.fits (K1 22) (.d (ABooks.dv x))=true:=rfl
@[simp] theorem ABooks.purT (x:ABooks) (H:Heap):Sim.purT H (.d (ABooks.dv x))=some (.d (ABooks.dv x),false):=rfl
@[simp] theorem ABooks.clen (x:ABooks):(ABooks.dv x).cells.length=22:=rfl
@[simp] theorem ABooks.aof (x:ABooks):DV.a (ABooks.cells x)=ABooks.dv x:=rfl
@[simp] theorem ABooks.ccl (x:ABooks):(ABooks.cells x).length=22:=rfl
@[simp] theorem ABooks.n3_14 (x:ABooks):((ABooks.dv x).cells.drop 3).take 14=APlan.cells x.Plan:=rfl
@[simp] theorem ABooks.c0 (x:ABooks):(ABooks.dv x).cells[0]? = some (.l (K1 2) (x.Currencies.l.map ACurrency.dv) x.Currencies.t):=rfl
@[simp] theorem ABooks.c1 (x:ABooks):(ABooks.dv x).cells[1]? = some (.l (K1 3) (x.Calendars.l.map ACalendar.dv) x.Calendars.t):=rfl
@[simp] theorem ABooks.c2 (x:ABooks):(ABooks.dv x).cells[2]? = some (.l (K1 4) (x.Chart.l.map AGl.dv) x.Chart.t):=rfl
@[simp] theorem ABooks.c3 (x:ABooks):(ABooks.dv x).cells[3]? = some (I x.Plan.Cash):=rfl
@[simp] theorem ABooks.c4 (x:ABooks):(ABooks.dv x).cells[4]? = some (I x.Plan.Deposits):=rfl
@[simp] theorem ABooks.c5 (x:ABooks):(ABooks.dv x).cells[5]? = some (I x.Plan.InterestPaid):=rfl
@[simp] theorem ABooks.c6 (x:ABooks):(ABooks.dv x).cells[6]? = some (I x.Plan.InterestEarned):=rfl
@[simp] theorem ABooks.c7 (x:ABooks):(ABooks.dv x).cells[7]? = some (I x.Plan.FeeEarned):=rfl
@[simp] theorem ABooks.c8 (x:ABooks):(ABooks.dv x).cells[8]? = some (I x.Plan.Tax):=rfl
@[simp] theorem ABooks.c9 (x:ABooks):(ABooks.dv x).cells[9]? = some (I x.Plan.Clearing):=rfl
@[simp] theorem ABooks.c10 (x:ABooks):(ABooks.dv x).cells[10]? = some (I x.Plan.Loans):=rfl
@[simp] theorem ABooks.c11 (x:ABooks):(ABooks.dv x).cells[11]? = some (I x.Plan.LoanInterest):=rfl
@[simp] theorem ABooks.c12 (x:ABooks):(ABooks.dv x).cells[12]? = some (I x.Plan.Penalty):=rfl
@[simp] theorem ABooks.c13 (x:ABooks):(ABooks.dv x).cells[13]? = some (I x.Plan.Provision):=rfl
@[simp] theorem ABooks.c14 (x:ABooks):(ABooks.dv x).cells[14]? = some (I x.Plan.ProvisionCost):=rfl
@[simp] theorem ABooks.c15 (x:ABooks):(ABooks.dv x).cells[15]? = some (I x.Plan.Loss):=rfl
@[simp] theorem ABooks.c16 (x:ABooks):(ABooks.dv x).cells[16]? = some (I x.Plan.Recovery):=rfl
@[simp] theorem ABooks.c17 (x:ABooks):(ABooks.dv x).cells[17]? = some (.l (K1 19) (x.Products.l.map AProduct.dv) x.Products.t):=rfl
@[simp] theorem ABooks.c18 (x:ABooks):(ABooks.dv x).cells[18]? = some (.l (K1 7) (x.Accounts.l.map AAccount.dv) x.Accounts.t):=rfl
@[simp] theorem ABooks.c19 (x:ABooks):(ABooks.dv x).cells[19]? = some (.l (K1 10) (x.Journal.l.map AEntry.dv) x.Journal.t):=rfl
@[simp] theorem ABooks.c20 (x:ABooks):(ABooks.dv x).cells[20]? = some (.l (K1 6) (x.Holds.l.map AHold.dv) x.Holds.t):=rfl
@[simp] theorem ABooks.c21 (x:ABooks):(ABooks.dv x).cells[21]? = some (.l (K1 7) (x.Blocks.l.map ABlock.dv) x.Blocks.t):=rfl
end Go.Sim
end
section
namespace Go.Sim
theorem qgd {t:Ty} {ts:List Ty} {xs:List DV} (h:qam (t::ts) xs) : ∃x r,xs=x::r∧Has t x∧qam ts r:=by
 cases xs with
 |nil=>simp[qam] at h
 |cons x r=>rw[qam] at h;exact⟨x,r,rfl,h.1,h.2⟩
theorem qcp {xs:List DV} (h:qam [] xs):xs=[]:=by
 cases xs with
 |nil=>rfl
 |cons x r=>simp[qam] at h
theorem qkv {k:IntKind} {x:DV} (h:Has (.i k) x) : ∃n,x = .i k n∧(Lit.int k n).wf=true:=by rw[Has] at h;exact h
theorem qFD {x:DV} (h:Has .b x) : ∃c,x = .b c:=by rw[Has] at h;exact h
theorem qIb {x:DV} (h:Has .s x) : ∃l,x = .s l∧l.length≤maxLen:=by rw[Has] at h;exact h
theorem qnS {n:Nat} {xs:List DV} {e:DV} (h:mkD (some n) xs=some e):e = .a xs:=by
 simp only[mkD] at h;split at h
 ·cases h;rfl
 ·cases h
end Go.Sim
end
section
namespace Go.Sim
def inK (k:IntKind) (n:Int):Prop:=(Lit.int k n).wf=true
theorem ql9 {α:Type} {f:α→DV} {p:α→Prop} : ∀{es:List DV},(∀e∈es,∃a,e=f a∧p a)→∃l:List α,es=l.map f∧∀a∈l,p a
 | [],_=>⟨[],rfl,fun a h=>by cases h⟩
 |e::es,h=>by
  obtain⟨a,ha,hp⟩:=h e (zzr ..);obtain⟨l,hl,hq⟩:=ql9 (fun x hx=>h x (zzi _ hx))
  refine⟨a::l,by rw[ha,hl];rfl,fun b hb => ?_⟩
  rcases List.mem_cons.1 hb with rfl|hb
  ·exact hp
  ·exact hq b hb
theorem qzR {α:Type} {f:α→DV} {p q:α→Prop} {n b:Nat} {ts:List Ty} {x:DV} (h:Has (.l (some n) b ts) x) (hf : ∀cs,qam ts cs→∃a,DV.a cs=f a∧p a∧q a) : ∃s:SL α,x = .l (some n) (s.l.map f) s.t∧(s.l.length≤maxLen∧∀a∈s.l,p a)∧s.t=false∧s.l.length*b≤qa8∧∀a∈s.l,q a:=by
 rw[Has] at h;obtain⟨es,rfl,h1,hb,h2⟩:=h;obtain⟨l,rfl,hp⟩:=ql9 (f:=f) (p:=fun a=>p a∧q a) (es:=es) fun e he=>by
  obtain⟨cs,h3,h4⟩:=h2 e he;obtain⟨a,ha,hp⟩:=hf cs h4;exact⟨a,by rw[qnS h3];exact ha,hp⟩
 exact⟨⟨l,false⟩,rfl,⟨by simpa using h1,fun a ha=>(hp a ha).1⟩,rfl,by simpa using hb,fun a ha=>(hp a ha).2⟩
theorem qzF {α:Type} {f:α→DV} {p:α→Prop} {t:Ty} {b:Nat} {x:DV} (h:Has (.l none b [t]) x) (hf : ∀y,Has t y→∃a,y=f a∧p a) : ∃s:SL α,x = .l none (s.l.map f) s.t∧(s.l.length≤maxLen∧∀a∈s.l,p a)∧s.t=false∧s.l.length*b≤qa8:=by
 rw[Has] at h;obtain⟨es,rfl,h1,hb,h2⟩:=h;obtain⟨l,rfl,hp⟩:=ql9 (f:=f) (p:=p) (es:=es) fun e he=>by
  obtain⟨cs,h3,h4⟩:=h2 e he;obtain⟨y,r,rfl,h5,h6⟩:=qgd h4;obtain rfl:=qcp h6;simp only[mkD,zzb] at h3;subst h3;exact hf y h5
 exact⟨⟨l,false⟩,rfl,⟨by simpa using h1,hp⟩,rfl,by simpa using hb⟩
theorem qKq {x:DV} (h:Has .e x) : ∃s:SL DV,x = .l (K1 4) s.l s.t∧XL (.l (K1 4) s.l s.t):=by
 rw[Has] at h;cases h with
 |mk es h1 h2 h3=>exact⟨⟨es,false⟩,rfl,.mk es h1 h2 h3⟩
theorem qan {k:IntKind} {ts:List Ty} {xs:List DV} (g:qam (.i k::ts) xs) : ∃n r,xs = .i k n::r∧inK k n∧qam ts r:=by
 obtain⟨_,r,rfl,h0,h⟩:=qgd g;obtain⟨n,rfl,p⟩:=qkv h0;exact⟨n,r,rfl,p,h⟩
theorem qce {ts:List Ty} {xs:List DV} (g:qam (.s::ts) xs) : ∃n r,xs = .s n::r∧n.length≤maxLen∧qam ts r:=by
 obtain⟨_,r,rfl,h0,h⟩:=qgd g;obtain⟨n,rfl,p⟩:=qIb h0;exact⟨n,r,rfl,p,h⟩
theorem qiv {ts:List Ty} {xs:List DV} (g:qam (.b::ts) xs) : ∃n r,xs = .b n::r∧True∧qam ts r:=by
 obtain⟨_,r,rfl,h0,h⟩:=qgd g;obtain⟨n,rfl⟩:=qFD h0;exact⟨n,r,rfl,trivial,h⟩
theorem qn0 {ts:List Ty} {xs:List DV} (g:qam (.e::ts) xs) : ∃(s:SL DV) (r:List DV),xs = .l (K1 4) s.l s.t::r∧XL (.l (K1 4) s.l s.t)∧qam ts r:=by
 obtain⟨_,r,rfl,h0,h⟩:=qgd g;obtain⟨n,rfl,p⟩:=qKq h0;exact⟨n,r,rfl,p,h⟩
theorem qtd {b:Nat} {ts:List Ty} {xs:List DV} (g:qam (.l none b [.i .i64]::ts) xs) : ∃(s:SL Int) (r:List DV),xs = .l none (s.l.map I) s.t::r∧(s.l.length≤maxLen∧∀y∈s.l,inK .i64 y)∧(s.t=false∧s.l.length*b≤qa8)∧qam ts r:=by
 obtain⟨_,r,rfl,h0,h⟩:=qgd g;obtain⟨n,rfl,p,q⟩:=qzF (f:=I) (p:=fun y=>inK .i64 y) h0 fun y hy=>qkv hy
 exact⟨n,r,rfl,p,q,h⟩
theorem qcP {α:Type} {f:α→DV} {p q:α→Prop} {n b:Nat} {us ts:List Ty} {xs:List DV} (hf : ∀cs,qam us cs→∃a,DV.a cs=f a∧p a∧q a) (g:qam (.l (some n) b us::ts) xs) : ∃(s:SL α) (r:List DV),xs = .l (some n) (s.l.map f) s.t::r∧(s.l.length≤maxLen∧∀a∈s.l,p a)∧(s.t=false∧s.l.length*b≤qa8∧∀a∈s.l,q a)∧qam ts r:=by
 obtain⟨_,r,rfl,h0,h⟩:=qgd g;obtain⟨n,rfl,p,q⟩:=qzR h0 hf;exact⟨n,r,rfl,p,q,h⟩
def ACurrency.ok (x:ACurrency):Prop:=x.Code.length≤maxLen∧inK .i64 x.Digits
def ACurrency.fit (_:ACurrency):Prop:=True
def ACurrency.ty:List Ty:=[.s,.i .i64]
theorem ACurrency.ofB (cs:List DV) (h:qam ACurrency.ty cs) : ∃x:ACurrency,DV.a cs=x.dv∧x.ok∧x.fit:=by
 obtain⟨a0,_,rfl,p0,h⟩:=qce h;obtain⟨a1,_,rfl,p1,h⟩:=qan h;obtain rfl:=qcp h;exact⟨⟨a0,a1⟩,rfl,⟨p0,p1⟩,trivial⟩
theorem ACurrency.of (cs:List DV) (h:qam ACurrency.ty cs) : ∃x:ACurrency,DV.a cs=x.dv∧x.ok:=let ⟨x,a,b,_⟩:=ACurrency.ofB cs h; ⟨x,a,b⟩
def ACalendar.ok (x:ACalendar):Prop:=x.Name.length≤maxLen∧(x.Weekend.l.length≤maxLen∧∀y∈x.Weekend.l,inK .i64 y)∧(x.Holidays.l.length≤maxLen∧∀y∈x.Holidays.l,inK .i64 y)
def ACalendar.fit (x:ACalendar):Prop:=(x.Weekend.t=false∧x.Weekend.l.length*8≤qa8)∧(x.Holidays.t=false∧x.Holidays.l.length*8≤qa8)
def ACalendar.ty:List Ty:=[.s,.l none 8 [.i .i64],.l none 8 [.i .i64]]
theorem ACalendar.ofB (cs:List DV) (h:qam ACalendar.ty cs) : ∃x:ACalendar,DV.a cs=x.dv∧x.ok∧x.fit:=by
 obtain⟨a0,_,rfl,p0,h⟩:=qce h;obtain⟨a1,_,rfl,p1,q1,h⟩:=qtd h;obtain⟨a2,_,rfl,p2,q2,h⟩:=qtd h;obtain rfl:=qcp h;exact⟨⟨a0,a1,a2⟩,rfl,⟨p0,p1,p2⟩,⟨q1,q2⟩⟩
theorem ACalendar.of (cs:List DV) (h:qam ACalendar.ty cs) : ∃x:ACalendar,DV.a cs=x.dv∧x.ok:=let ⟨x,a,b,_⟩:=ACalendar.ofB cs h; ⟨x,a,b⟩
def AVar.ok (x:AVar):Prop:=x.Name.length≤maxLen∧inK .i64 x.Typ
def AVar.fit (_:AVar):Prop:=True
def AVar.ty:List Ty:=[.s,.i .i64]
theorem AVar.ofB (cs:List DV) (h:qam AVar.ty cs) : ∃x:AVar,DV.a cs=x.dv∧x.ok∧x.fit:=by
 obtain⟨a0,_,rfl,p0,h⟩:=qce h;obtain⟨a1,_,rfl,p1,h⟩:=qan h;obtain rfl:=qcp h;exact⟨⟨a0,a1⟩,rfl,⟨p0,p1⟩,trivial⟩
theorem AVar.of (cs:List DV) (h:qam AVar.ty cs) : ∃x:AVar,DV.a cs=x.dv∧x.ok:=let ⟨x,a,b,_⟩:=AVar.ofB cs h; ⟨x,a,b⟩
def ATier.ok (x:ATier):Prop:=inK .i64 x.From∧inK .i64 x.Ppm
def ATier.fit (_:ATier):Prop:=True
def ATier.ty:List Ty:=[.i .i64,.i .i64]
theorem ATier.ofB (cs:List DV) (h:qam ATier.ty cs) : ∃x:ATier,DV.a cs=x.dv∧x.ok∧x.fit:=by
 obtain⟨a0,_,rfl,p0,h⟩:=qan h;obtain⟨a1,_,rfl,p1,h⟩:=qan h;obtain rfl:=qcp h;exact⟨⟨a0,a1⟩,rfl,⟨p0,p1⟩,trivial⟩
theorem ATier.of (cs:List DV) (h:qam ATier.ty cs) : ∃x:ATier,DV.a cs=x.dv∧x.ok:=let ⟨x,a,b,_⟩:=ATier.ofB cs h; ⟨x,a,b⟩
def AInterest.ok (x:AInterest):Prop:=(x.Tiers.l.length≤maxLen∧∀y∈x.Tiers.l,y.ok)∧inK .i64 x.Basis∧inK .i64 x.Mode
def AInterest.fit (x:AInterest):Prop:=(x.Tiers.t=false∧x.Tiers.l.length*16≤qa8∧∀y∈x.Tiers.l,y.fit)
def AInterest.ty:List Ty:=[.l (K1 2) 16 ATier.ty,.b,.i .i64,.i .i64,.b]
theorem AInterest.ofB (cs:List DV) (h:qam AInterest.ty cs) : ∃x:AInterest,DV.a cs=x.dv∧x.ok∧x.fit:=by
 obtain⟨a0,_,rfl,p0,q0,h⟩:=qcP ATier.ofB h;obtain⟨a1,_,rfl,-,h⟩:=qiv h;obtain⟨a2,_,rfl,p2,h⟩:=qan h;obtain⟨a3,_,rfl,p3,h⟩:=qan h;obtain⟨a4,_,rfl,-,h⟩:=qiv h;obtain rfl:=qcp h;exact⟨⟨a0,a1,a2,a3,a4⟩,rfl,⟨p0,p2,p3⟩,q0⟩
theorem AInterest.of (cs:List DV) (h:qam AInterest.ty cs) : ∃x:AInterest,DV.a cs=x.dv∧x.ok:=let ⟨x,a,b,_⟩:=AInterest.ofB cs h; ⟨x,a,b⟩
def AExpr.ok (x:AExpr):Prop:=inK .i64 x.Op∧inK .i64 x.N∧x.S.length≤maxLen∧XL (.l (K1 4) x.Args.l x.Args.t)
def AFee.ok (x:AFee):Prop:=x.Name.length≤maxLen∧inK .i64 x.Event∧x.When.ok∧x.Amount.ok
def AFee.fit (_:AFee):Prop:=True
def AFee.ty:List Ty:=[.s,.i .i64,.i .i64,.i .i64,.s,.e,.i .i64,.i .i64,.s,.e]
theorem AFee.ofB (cs:List DV) (h:qam AFee.ty cs) : ∃x:AFee,DV.a cs=x.dv∧x.ok∧x.fit:=by
 obtain⟨a0,_,rfl,p0,h⟩:=qce h;obtain⟨a1,_,rfl,p1,h⟩:=qan h;obtain⟨a2,_,rfl,p2,h⟩:=qan h;obtain⟨a3,_,rfl,p3,h⟩:=qan h;obtain⟨a4,_,rfl,p4,h⟩:=qce h;obtain⟨a5,_,rfl,p5,h⟩:=qn0 h;obtain⟨a6,_,rfl,p6,h⟩:=qan h;obtain⟨a7,_,rfl,p7,h⟩:=qan h;obtain⟨a8,_,rfl,p8,h⟩:=qce h;obtain⟨a9,_,rfl,p9,h⟩:=qn0 h;obtain rfl:=qcp h;exact⟨⟨a0,a1,⟨a2,a3,a4,a5⟩,⟨a6,a7,a8,a9⟩⟩,rfl,⟨p0,p1,⟨p2,p3,p4,p5⟩,⟨p6,p7,p8,p9⟩⟩,trivial⟩
theorem AFee.of (cs:List DV) (h:qam AFee.ty cs) : ∃x:AFee,DV.a cs=x.dv∧x.ok:=let ⟨x,a,b,_⟩:=AFee.ofB cs h; ⟨x,a,b⟩
def ARule.ok (x:ARule):Prop:=x.Name.length≤maxLen∧inK .i64 x.Window∧x.Amount.ok
def ARule.fit (_:ARule):Prop:=True
def ARule.ty:List Ty:=[.s,.i .i64,.i .i64,.i .i64,.s,.e]
theorem ARule.ofB (cs:List DV) (h:qam ARule.ty cs) : ∃x:ARule,DV.a cs=x.dv∧x.ok∧x.fit:=by
 obtain⟨a0,_,rfl,p0,h⟩:=qce h;obtain⟨a1,_,rfl,p1,h⟩:=qan h;obtain⟨a2,_,rfl,p2,h⟩:=qan h;obtain⟨a3,_,rfl,p3,h⟩:=qan h;obtain⟨a4,_,rfl,p4,h⟩:=qce h;obtain⟨a5,_,rfl,p5,h⟩:=qn0 h;obtain rfl:=qcp h;exact⟨⟨a0,a1,⟨a2,a3,a4,a5⟩⟩,rfl,⟨p0,p1,⟨p2,p3,p4,p5⟩⟩,trivial⟩
theorem ARule.of (cs:List DV) (h:qam ARule.ty cs) : ∃x:ARule,DV.a cs=x.dv∧x.ok:=let ⟨x,a,b,_⟩:=ARule.ofB cs h; ⟨x,a,b⟩
def AProduct.ok (x:AProduct):Prop:=x.Name.length≤maxLen∧x.Currency.length≤maxLen∧x.Calendar.length≤maxLen∧inK .i64 x.From∧inK .i64 x.Every∧inK .i64 x.Overdraft∧inK .i64 x.TaxPpm∧x.Credit.ok∧x.Debit.ok∧(x.Fees.l.length≤maxLen∧∀y∈x.Fees.l,y.ok)∧(x.Rules.l.length≤maxLen∧∀y∈x.Rules.l,y.ok)
def AProduct.fit (x:AProduct):Prop:=x.Credit.fit∧x.Debit.fit∧(x.Fees.t=false∧x.Fees.l.length*136≤qa8∧∀y∈x.Fees.l,y.fit)∧(x.Rules.t=false∧x.Rules.l.length*80≤qa8∧∀y∈x.Rules.l,y.fit)
def AProduct.ty:List Ty:=[.s,.s,.s,.i .i64,.i .i64,.i .i64,.i .i64,.l (K1 2) 16 ATier.ty,.b,.i .i64,.i .i64,.b,.l (K1 2) 16 ATier.ty,.b,.i .i64,.i .i64,.b,.l (K1 10) 136 AFee.ty,.l (K1 6) 80 ARule.ty]
theorem AProduct.ofB (cs:List DV) (h:qam AProduct.ty cs) : ∃x:AProduct,DV.a cs=x.dv∧x.ok∧x.fit:=by
 obtain⟨a0,_,rfl,p0,h⟩:=qce h;obtain⟨a1,_,rfl,p1,h⟩:=qce h;obtain⟨a2,_,rfl,p2,h⟩:=qce h;obtain⟨a3,_,rfl,p3,h⟩:=qan h;obtain⟨a4,_,rfl,p4,h⟩:=qan h;obtain⟨a5,_,rfl,p5,h⟩:=qan h;obtain⟨a6,_,rfl,p6,h⟩:=qan h;obtain⟨a7,_,rfl,p7,q7,h⟩:=qcP ATier.ofB h;obtain⟨a8,_,rfl,-,h⟩:=qiv h;obtain⟨a9,_,rfl,p9,h⟩:=qan h;obtain⟨a10,_,rfl,p10,h⟩:=qan h;obtain⟨a11,_,rfl,-,h⟩:=qiv h;obtain⟨a12,_,rfl,p12,q12,h⟩:=qcP ATier.ofB h;obtain⟨a13,_,rfl,-,h⟩:=qiv h;obtain⟨a14,_,rfl,p14,h⟩:=qan h;obtain⟨a15,_,rfl,p15,h⟩:=qan h;obtain⟨a16,_,rfl,-,h⟩:=qiv h;obtain⟨a17,_,rfl,p17,q17,h⟩:=qcP AFee.ofB h;obtain⟨a18,_,rfl,p18,q18,h⟩:=qcP ARule.ofB h;obtain rfl:=qcp h;exact⟨⟨a0,a1,a2,a3,a4,a5,a6,⟨a7,a8,a9,a10,a11⟩,⟨a12,a13,a14,a15,a16⟩,a17,a18⟩,rfl,⟨p0,p1,p2,p3,p4,p5,p6,⟨p7,p9,p10⟩,⟨p12,p14,p15⟩,p17,p18⟩,⟨q7,q12,q17,q18⟩⟩
theorem AProduct.of (cs:List DV) (h:qam AProduct.ty cs) : ∃x:AProduct,DV.a cs=x.dv∧x.ok:=let ⟨x,a,b,_⟩:=AProduct.ofB cs h; ⟨x,a,b⟩
def AGl.ok (x:AGl):Prop:=inK .i64 x.Id∧inK .i64 x.Parent∧inK .i64 x.Kind∧x.Name.length≤maxLen
def AGl.fit (_:AGl):Prop:=True
def AGl.ty:List Ty:=[.i .i64,.i .i64,.i .i64,.s]
theorem AGl.ofB (cs:List DV) (h:qam AGl.ty cs) : ∃x:AGl,DV.a cs=x.dv∧x.ok∧x.fit:=by
 obtain⟨a0,_,rfl,p0,h⟩:=qan h;obtain⟨a1,_,rfl,p1,h⟩:=qan h;obtain⟨a2,_,rfl,p2,h⟩:=qan h;obtain⟨a3,_,rfl,p3,h⟩:=qce h;obtain rfl:=qcp h;exact⟨⟨a0,a1,a2,a3⟩,rfl,⟨p0,p1,p2,p3⟩,trivial⟩
theorem AGl.of (cs:List DV) (h:qam AGl.ty cs) : ∃x:AGl,DV.a cs=x.dv∧x.ok:=let ⟨x,a,b,_⟩:=AGl.ofB cs h; ⟨x,a,b⟩
def ALeg.ok (x:ALeg):Prop:=inK .i64 x.Account∧inK .i64 x.Amount∧x.Currency.length≤maxLen
def ALeg.fit (_:ALeg):Prop:=True
def ALeg.ty:List Ty:=[.i .i64,.i .i64,.s]
theorem ALeg.ofB (cs:List DV) (h:qam ALeg.ty cs) : ∃x:ALeg,DV.a cs=x.dv∧x.ok∧x.fit:=by
 obtain⟨a0,_,rfl,p0,h⟩:=qan h;obtain⟨a1,_,rfl,p1,h⟩:=qan h;obtain⟨a2,_,rfl,p2,h⟩:=qce h;obtain rfl:=qcp h;exact⟨⟨a0,a1,a2⟩,rfl,⟨p0,p1,p2⟩,trivial⟩
theorem ALeg.of (cs:List DV) (h:qam ALeg.ty cs) : ∃x:ALeg,DV.a cs=x.dv∧x.ok:=let ⟨x,a,b,_⟩:=ALeg.ofB cs h; ⟨x,a,b⟩
def AEntry.ok (x:AEntry):Prop:=inK .i64 x.Id∧inK .i64 x.Booked∧inK .i64 x.Value∧inK .i64 x.Kind∧inK .i64 x.Auth∧inK .i64 x.Period∧x.Key.length≤maxLen∧x.Text.length≤maxLen∧(x.Legs.l.length≤maxLen∧∀y∈x.Legs.l,y.ok)∧inK .u64 x.Chain
def AEntry.fit (x:AEntry):Prop:=(x.Legs.t=false∧x.Legs.l.length*32≤qa8∧∀y∈x.Legs.l,y.fit)
def AEntry.ty:List Ty:=[.i .i64,.i .i64,.i .i64,.i .i64,.i .i64,.i .i64,.s,.s,.l (K1 3) 32 ALeg.ty,.i .u64]
theorem AEntry.ofB (cs:List DV) (h:qam AEntry.ty cs) : ∃x:AEntry,DV.a cs=x.dv∧x.ok∧x.fit:=by
 obtain⟨a0,_,rfl,p0,h⟩:=qan h;obtain⟨a1,_,rfl,p1,h⟩:=qan h;obtain⟨a2,_,rfl,p2,h⟩:=qan h;obtain⟨a3,_,rfl,p3,h⟩:=qan h;obtain⟨a4,_,rfl,p4,h⟩:=qan h;obtain⟨a5,_,rfl,p5,h⟩:=qan h;obtain⟨a6,_,rfl,p6,h⟩:=qce h;obtain⟨a7,_,rfl,p7,h⟩:=qce h;obtain⟨a8,_,rfl,p8,q8,h⟩:=qcP ALeg.ofB h;obtain⟨a9,_,rfl,p9,h⟩:=qan h;obtain rfl:=qcp h;exact⟨⟨a0,a1,a2,a3,a4,a5,a6,a7,a8,a9⟩,rfl,⟨p0,p1,p2,p3,p4,p5,p6,p7,p8,p9⟩,q8⟩
theorem AEntry.of (cs:List DV) (h:qam AEntry.ty cs) : ∃x:AEntry,DV.a cs=x.dv∧x.ok:=let ⟨x,a,b,_⟩:=AEntry.ofB cs h; ⟨x,a,b⟩
def AHold.ok (x:AHold):Prop:=inK .i64 x.Id∧inK .i64 x.Account∧inK .i64 x.Amount∧inK .i64 x.From∧inK .i64 x.To∧x.Key.length≤maxLen
def AHold.fit (_:AHold):Prop:=True
def AHold.ty:List Ty:=[.i .i64,.i .i64,.i .i64,.i .i64,.i .i64,.s]
theorem AHold.ofB (cs:List DV) (h:qam AHold.ty cs) : ∃x:AHold,DV.a cs=x.dv∧x.ok∧x.fit:=by
 obtain⟨a0,_,rfl,p0,h⟩:=qan h;obtain⟨a1,_,rfl,p1,h⟩:=qan h;obtain⟨a2,_,rfl,p2,h⟩:=qan h;obtain⟨a3,_,rfl,p3,h⟩:=qan h;obtain⟨a4,_,rfl,p4,h⟩:=qan h;obtain⟨a5,_,rfl,p5,h⟩:=qce h;obtain rfl:=qcp h;exact⟨⟨a0,a1,a2,a3,a4,a5⟩,rfl,⟨p0,p1,p2,p3,p4,p5⟩,trivial⟩
theorem AHold.of (cs:List DV) (h:qam AHold.ty cs) : ∃x:AHold,DV.a cs=x.dv∧x.ok:=let ⟨x,a,b,_⟩:=AHold.ofB cs h; ⟨x,a,b⟩
def ABlock.ok (x:ABlock):Prop:=inK .i64 x.Id∧inK .i64 x.Account∧inK .i64 x.Kind∧inK .i64 x.Amount∧inK .i64 x.From∧inK .i64 x.To∧x.Source.length≤maxLen
def ABlock.fit (_:ABlock):Prop:=True
def ABlock.ty:List Ty:=[.i .i64,.i .i64,.i .i64,.i .i64,.i .i64,.i .i64,.s]
theorem ABlock.ofB (cs:List DV) (h:qam ABlock.ty cs) : ∃x:ABlock,DV.a cs=x.dv∧x.ok∧x.fit:=by
 obtain⟨a0,_,rfl,p0,h⟩:=qan h;obtain⟨a1,_,rfl,p1,h⟩:=qan h;obtain⟨a2,_,rfl,p2,h⟩:=qan h;obtain⟨a3,_,rfl,p3,h⟩:=qan h;obtain⟨a4,_,rfl,p4,h⟩:=qan h;obtain⟨a5,_,rfl,p5,h⟩:=qan h;obtain⟨a6,_,rfl,p6,h⟩:=qce h;obtain rfl:=qcp h;exact⟨⟨a0,a1,a2,a3,a4,a5,a6⟩,rfl,⟨p0,p1,p2,p3,p4,p5,p6⟩,trivial⟩
theorem ABlock.of (cs:List DV) (h:qam ABlock.ty cs) : ∃x:ABlock,DV.a cs=x.dv∧x.ok:=let ⟨x,a,b,_⟩:=ABlock.ofB cs h; ⟨x,a,b⟩
def AAccount.ok (x:AAccount):Prop:=inK .i64 x.Id∧inK .i64 x.Opened∧inK .i64 x.Closed∧inK .i64 x.Extra∧x.Owner.length≤maxLen∧x.Product.length≤maxLen∧x.Number.length≤maxLen
def AAccount.fit (_:AAccount):Prop:=True
def AAccount.ty:List Ty:=[.i .i64,.i .i64,.i .i64,.i .i64,.s,.s,.s]
theorem AAccount.ofB (cs:List DV) (h:qam AAccount.ty cs) : ∃x:AAccount,DV.a cs=x.dv∧x.ok∧x.fit:=by
 obtain⟨a0,_,rfl,p0,h⟩:=qan h;obtain⟨a1,_,rfl,p1,h⟩:=qan h;obtain⟨a2,_,rfl,p2,h⟩:=qan h;obtain⟨a3,_,rfl,p3,h⟩:=qan h;obtain⟨a4,_,rfl,p4,h⟩:=qce h;obtain⟨a5,_,rfl,p5,h⟩:=qce h;obtain⟨a6,_,rfl,p6,h⟩:=qce h;obtain rfl:=qcp h;exact⟨⟨a0,a1,a2,a3,a4,a5,a6⟩,rfl,⟨p0,p1,p2,p3,p4,p5,p6⟩,trivial⟩
theorem AAccount.of (cs:List DV) (h:qam AAccount.ty cs) : ∃x:AAccount,DV.a cs=x.dv∧x.ok:=let ⟨x,a,b,_⟩:=AAccount.ofB cs h; ⟨x,a,b⟩
def APlan.ok (x:APlan):Prop:=inK .i64 x.Cash∧inK .i64 x.Deposits∧inK .i64 x.InterestPaid∧inK .i64 x.InterestEarned∧inK .i64 x.FeeEarned∧inK .i64 x.Tax∧inK .i64 x.Clearing∧inK .i64 x.Loans∧inK .i64 x.LoanInterest∧inK .i64 x.Penalty∧inK .i64 x.Provision∧inK .i64 x.ProvisionCost∧inK .i64 x.Loss∧inK .i64 x.Recovery
def APlan.fit (_:APlan):Prop:=True
def APlan.ty:List Ty:=[.i .i64,.i .i64,.i .i64,.i .i64,.i .i64,.i .i64,.i .i64,.i .i64,.i .i64,.i .i64,.i .i64,.i .i64,.i .i64,.i .i64]
theorem APlan.ofB (cs:List DV) (h:qam APlan.ty cs) : ∃x:APlan,DV.a cs=x.dv∧x.ok∧x.fit:=by
 obtain⟨a0,_,rfl,p0,h⟩:=qan h;obtain⟨a1,_,rfl,p1,h⟩:=qan h;obtain⟨a2,_,rfl,p2,h⟩:=qan h;obtain⟨a3,_,rfl,p3,h⟩:=qan h;obtain⟨a4,_,rfl,p4,h⟩:=qan h;obtain⟨a5,_,rfl,p5,h⟩:=qan h;obtain⟨a6,_,rfl,p6,h⟩:=qan h;obtain⟨a7,_,rfl,p7,h⟩:=qan h;obtain⟨a8,_,rfl,p8,h⟩:=qan h;obtain⟨a9,_,rfl,p9,h⟩:=qan h;obtain⟨a10,_,rfl,p10,h⟩:=qan h;obtain⟨a11,_,rfl,p11,h⟩:=qan h;obtain⟨a12,_,rfl,p12,h⟩:=qan h;obtain⟨a13,_,rfl,p13,h⟩:=qan h;obtain rfl:=qcp h;exact⟨⟨a0,a1,a2,a3,a4,a5,a6,a7,a8,a9,a10,a11,a12,a13⟩,rfl,⟨p0,p1,p2,p3,p4,p5,p6,p7,p8,p9,p10,p11,p12,p13⟩,trivial⟩
theorem APlan.of (cs:List DV) (h:qam APlan.ty cs) : ∃x:APlan,DV.a cs=x.dv∧x.ok:=let ⟨x,a,b,_⟩:=APlan.ofB cs h; ⟨x,a,b⟩
def ABooks.ok (x:ABooks):Prop:=(x.Currencies.l.length≤maxLen∧∀y∈x.Currencies.l,y.ok)∧(x.Calendars.l.length≤maxLen∧∀y∈x.Calendars.l,y.ok)∧(x.Chart.l.length≤maxLen∧∀y∈x.Chart.l,y.ok)∧x.Plan.ok∧(x.Products.l.length≤maxLen∧∀y∈x.Products.l,y.ok)∧(x.Accounts.l.length≤maxLen∧∀y∈x.Accounts.l,y.ok)∧(x.Journal.l.length≤maxLen∧∀y∈x.Journal.l,y.ok)∧(x.Holds.l.length≤maxLen∧∀y∈x.Holds.l,y.ok)∧(x.Blocks.l.length≤maxLen∧∀y∈x.Blocks.l,y.ok)
def ABooks.fit (x:ABooks):Prop:=(x.Currencies.t=false∧x.Currencies.l.length*24≤qa8∧∀y∈x.Currencies.l,y.fit)∧(x.Calendars.t=false∧x.Calendars.l.length*64≤qa8∧∀y∈x.Calendars.l,y.fit)∧(x.Chart.t=false∧x.Chart.l.length*40≤qa8∧∀y∈x.Chart.l,y.fit)∧(x.Products.t=false∧x.Products.l.length*240≤qa8∧∀y∈x.Products.l,y.fit)∧(x.Accounts.t=false∧x.Accounts.l.length*80≤qa8∧∀y∈x.Accounts.l,y.fit)∧(x.Journal.t=false∧x.Journal.l.length*112≤qa8∧∀y∈x.Journal.l,y.fit)∧(x.Holds.t=false∧x.Holds.l.length*56≤qa8∧∀y∈x.Holds.l,y.fit)∧(x.Blocks.t=false∧x.Blocks.l.length*64≤qa8∧∀y∈x.Blocks.l,y.fit)
def ABooks.ty:List Ty:=[.l (K1 2) 24 ACurrency.ty,.l (K1 3) 64 ACalendar.ty,.l (K1 4) 40 AGl.ty,.i .i64,.i .i64,.i .i64,.i .i64,.i .i64,.i .i64,.i .i64,.i .i64,.i .i64,.i .i64,.i .i64,.i .i64,.i .i64,.i .i64,.l (K1 19) 240 AProduct.ty,.l (K1 7) 80 AAccount.ty,.l (K1 10) 112 AEntry.ty,.l (K1 6) 56 AHold.ty,.l (K1 7) 64 ABlock.ty]
theorem ABooks.ofB (cs:List DV) (h:qam ABooks.ty cs) : ∃x:ABooks,DV.a cs=x.dv∧x.ok∧x.fit:=by
 obtain⟨a0,_,rfl,p0,q0,h⟩:=qcP ACurrency.ofB h;obtain⟨a1,_,rfl,p1,q1,h⟩:=qcP ACalendar.ofB h;obtain⟨a2,_,rfl,p2,q2,h⟩:=qcP AGl.ofB h;obtain⟨a3,_,rfl,p3,h⟩:=qan h;obtain⟨a4,_,rfl,p4,h⟩:=qan h;obtain⟨a5,_,rfl,p5,h⟩:=qan h;obtain⟨a6,_,rfl,p6,h⟩:=qan h;obtain⟨a7,_,rfl,p7,h⟩:=qan h;obtain⟨a8,_,rfl,p8,h⟩:=qan h;obtain⟨a9,_,rfl,p9,h⟩:=qan h;obtain⟨a10,_,rfl,p10,h⟩:=qan h;obtain⟨a11,_,rfl,p11,h⟩:=qan h;obtain⟨a12,_,rfl,p12,h⟩:=qan h;obtain⟨a13,_,rfl,p13,h⟩:=qan h;obtain⟨a14,_,rfl,p14,h⟩:=qan h;obtain⟨a15,_,rfl,p15,h⟩:=qan h;obtain⟨a16,_,rfl,p16,h⟩:=qan h;obtain⟨a17,_,rfl,p17,q17,h⟩:=qcP AProduct.ofB h;obtain⟨a18,_,rfl,p18,q18,h⟩:=qcP AAccount.ofB h;obtain⟨a19,_,rfl,p19,q19,h⟩:=qcP AEntry.ofB h;obtain⟨a20,_,rfl,p20,q20,h⟩:=qcP AHold.ofB h;obtain⟨a21,_,rfl,p21,q21,h⟩:=qcP ABlock.ofB h;obtain rfl:=qcp h;exact⟨⟨a0,a1,a2,⟨a3,a4,a5,a6,a7,a8,a9,a10,a11,a12,a13,a14,a15,a16⟩,a17,a18,a19,a20,a21⟩,rfl,⟨p0,p1,p2,⟨p3,p4,p5,p6,p7,p8,p9,p10,p11,p12,p13,p14,p15,p16⟩,p17,p18,p19,p20,p21⟩,⟨q0,q1,q2,q17,q18,q19,q20,q21⟩⟩
theorem ABooks.of (cs:List DV) (h:qam ABooks.ty cs) : ∃x:ABooks,DV.a cs=x.dv∧x.ok:=let ⟨x,a,b,_⟩:=ABooks.ofB cs h; ⟨x,a,b⟩
end Go.Sim
end
section
open Go.Sim
attribute [local simp ↓] qep qeN qen qe4 qdI qdy qeG qdl sqK blK lpK qeX qeO qdo qc2 qe3 qdA qdx qdv qeA qeJ qdp qes qdn qc1 qet qd2 qeb qdR qdm qdU qef qc5 qev qdW qdV qd6 qeU qer qdZ qda qdG qdK qdw qdF qdN qea qe9 qc9 qdY qeV qeL qeq qcQ qeZ qdS qcZ qed qdH qdk qeM qeW qdz qdX qem qe7 qdi qc7 qeT qec qe5 qe8 qe2 qee qdh qeD qde qeh qeK qdL qcn qdD qcK qcN qc6 qeI qeC qe1 qeF qeY qd5 qei qeH qd1 qdB qez qey qdC qd8 qew qdO qfo qfJ qfv qfI qfC qfL qfd qfD qfF qfN qfE qfx qgl qf2
attribute [local simp] qb5 qdt qex qdq qd0 qeR qdg qd7 qds qdr qeB rd IOp.adds qaj gh nid rgK rdS qeS qc4 qc8 qdc qeE qfa qdJ qd3 qdP qdf qe6 qdj qdQ qej qek qc3 qdb qdM qdT qe0 qeg qfl qfk qfs qcr qfb qfp qfh qfR qfM qfH qfP
section
namespace Go.Sim
set_option maxRecDepth 10000
set_option maxHeartbeats 8000000
end Go.Sim
end
section
namespace Go.Sim
set_option maxRecDepth 10000
set_option maxHeartbeats 8000000
end Go.Sim
end
section
namespace Go.Sim
set_option maxRecDepth 10000
set_option maxHeartbeats 8000000
end Go.Sim
end
end
section
namespace Go.Sim
end Go.Sim
end
section
open Go.Sim
attribute [local simp ↓] qep qeN qen qe4 qdI qdy qeG qdl sqK blK lpK qeX qeO qdo qc2 qe3 qdA qdx qdv qeA qeJ qdp qes qdn qc1 qet qd2 qeb qdR qdm qdU qef qc5 qev qdW qdV qd6 qeU qer qdZ qda qdG qdK qdw qdF qdN qea qe9 qc9 qdY qeV qeL qeq qcQ qeZ qdS qcZ qed qdH qdk qeM qeW qdz qdX qem qe7 qdi qc7 qeT qec qe5 qe8 qe2 qee qdh qeD qde qeh qeK qdL qcn qdD qcK qcN qc6 qeI qeC qe1 qeF qeY qd5 qei qeH qd1 qdB qez qey qdC qd8 qew qdO qfo qfJ qfv qfI qfC qfL qfd qfD qfF qfN qfE qfx qgl qf2
attribute [local simp] qb5 qdt qex qdq qd0 qeR qdg qd7 qds qdr qeB rd IOp.adds qaj gh nid rgK rdS qeS qc4 qc8 qdc qeE qfa qdJ qd3 qdP qdf qe6 qdj qdQ qej qek qc3 qdb qdM qdT qe0 qeg qfl qfk qfs qcr qfb qfp qfh qfR qfM qfH qfP
section
namespace Go.Sim
set_option maxRecDepth 10000
set_option maxHeartbeats 4000000
def qgn (d:Int):Bool:=decide (0≤d)&&decide (d≤73048)
end Go.Sim
end
section
namespace Go.Sim
set_option maxRecDepth 10000
set_option maxHeartbeats 4000000
section
variable {R : Type} {E : Env} {ρ : Rand → PV} {H : Heap} {id : Nat} {q : PV → Heap → Option R} {x i : Rand}
theorem qhz:bo2 (qaa E ρ H id (.idxS x i)) (.h q)=qi3 (ρ x) (ρ i) (.h fun v=>q v H):=by
 cases hx:ρ x with
 |d v =>
  cases v with
  |s s =>
   cases hi:ρ i with
   |d w =>
    cases w with
    |i kk n=>rw[qCj hx hi];rfl
    | _=>simp[qaa,hx,hi,asI,qi3,bo2]
   | _=>simp[qaa,hx,hi,asI,qi3,bo2]
  | _=>simp[qaa,hx,qi3,bo2]
 | _=>simp[qaa,hx,qi3,bo2]
end
def okB (lo:Nat) (c:UInt8):Bool:=decide (lo≤c.toNat)&&decide (c.toNat≤126)
def okC (c:UInt8):Bool:=decide (65≤c.toNat)&&decide (c.toNat≤90)
def qhm (s:List UInt8) (lo most:Nat):Bool:=s.all (okB lo)&&decide (s.length≤most)
theorem qJw (T:Tab) (s:List UInt8) (lo:Nat) (hn:s.length≤maxLen) {k:KC (PV×Bool)} {r:Option (PV×Bool)} {fr:Fr} {H:Heap} (hr:qhJ 6 k r) (h0:gc [0,2,7] 0 ⟨fr,H⟩=⟨[(7,.d (I 0)),(2,.d (.i .u8 lo)),(0,.d (.s s))],[]⟩) :
  kC T.env 0 fr H (.h (.loop [0,2,7] qmt,k))=brn (s.all (okB lo)) (.h (k (.exit 0) [(15,.d (.b false)),(7,.d (I s.length)),(2,.d (.i .u8 lo)),(0,.d (.s s))] [],r)):=by
 have hm:=mxl
 rw[qcc s (fun i _=>⟨[(7,.d (I i)),(2,.d (.i .u8 lo)),(0,.d (.s s))],[]⟩) (fun _ _=>True) (fun i _ x c=>if (okB lo) x=true then c () else r) (fun _=>k (.exit 0) [(15,.d (.b false)),(7,.d (I s.length)),(2,.d (.i .u8 lo)),(0,.d (.s s))] []) ?_ ?_ h0 trivial]
 ·rw[qnP (okB lo) r]
  ·cases s.all (okB lo)<;>rfl
  ·exact fun _ _ _ _=>rfl
 ·intro B _ _ _;simp[qmt]
 ·intro B _ i _ hi _ c hc;have h1:(i:Int)<s.length:=by omega
  have h3:=wr1 (i:=i) (by omega)
  simp[qmt,↓qhz,↓qh0,h1,hi];repeat' (refine qbs (fun h => ?_) (fun h => ?_)<;>(try simp at h)<;>(try simp[h,hi,h3,↓qhz,↓qh0]))
  all_goals first
   | (rw[if_neg (by simp[okB];omega)];exact hr _ _ (by simp[Fr.get]) (by simp[qaE,gh]))
   | (rw[if_pos (by simp[okB];omega)];exact hc () _ _ trivial (by simp[gc,Fr.keep,qae,qab,qad,PV.refs,gcH,PV.ren,Obj.ren,Heap.obj,Fr.ren,gh]))
theorem qCD (T:Tab) (s:List UInt8) (hn:s.length≤maxLen) {k:KC (PV×Bool)} {r:Option (PV×Bool)} {fr:Fr} {H:Heap} (hr:qhJ 2 k r) (h0:gc [0,3] 0 ⟨fr,H⟩=⟨[(3,.d (I 0)),(0,.d (.s s))],[]⟩) :
  kC T.env 0 fr H (.h (.loop [0,3] qm5,k))=brn (s.all okC) (.h (k (.exit 0) [(10,.d (.b false)),(3,.d (I s.length)),(0,.d (.s s))] [],r)):=by
 have hm:=mxl
 rw[qcc s (fun i _=>⟨[(3,.d (I i)),(0,.d (.s s))],[]⟩) (fun _ _=>True) (fun i _ x c=>if okC x=true then c () else r) (fun _=>k (.exit 0) [(10,.d (.b false)),(3,.d (I s.length)),(0,.d (.s s))] []) ?_ ?_ h0 trivial]
 ·rw[qnP okC r]
  ·cases s.all okC<;>rfl
  ·exact fun _ _ _ _=>rfl
 ·intro B _ _ _;simp[qm5]
 ·intro B _ i _ hi _ c hc;have h1:(i:Int)<s.length:=by omega
  have h3:=wr1 (i:=i) (by omega)
  simp[qm5,↓qhz,↓qh0,h1,hi];repeat' (refine qbs (fun h => ?_) (fun h => ?_)<;>(try simp at h)<;>(try simp[h,hi,h3,↓qhz,↓qh0]))
  all_goals first
   | (rw[if_neg (by simp[okC];omega)];exact hr _ _ (by simp[Fr.get]) (by simp[qaE,gh]))
   | (rw[if_pos (by simp[okC];omega)];exact hc () _ _ trivial (by simp[gc,Fr.keep,qae,qab,qad,PV.refs,gcH,PV.ren,Obj.ren,Heap.obj,Fr.ren,gh]))
def qoq (s:List UInt8):Bool:=s.all okC&&decide (s.length=3)
theorem qze (T:Tab) (hP:HP T) (s:List UInt8) (lo most:Nat) (hn:s.length≤maxLen):T.val 685 [.s s,I most,.i .u8 lo]=some (.d (.b (qhm s lo most)),false):=by
 rw[qaY T (hP 685 qgo rfl) rfl];have lp:=fun k fr H r hr h0 => @qJw T s lo hn k r fr H hr h0
 unfold qhm;by_cases hm:s.length≤most
 ·have h1 : ¬(most:Int)<s.length:=by omega
  simp[qgo,Fr.ofArgs,h1];rw[lp _ _ _ (some (.d (.b false),false)) (by simp[qtG,qs7,qtJ]) (by simp[gc,Fr.keep,qae,qab,qad,PV.refs,gcH,PV.ren,Obj.ren,Heap.obj,Fr.ren,gh])]
  cases s.all (okB lo) with
  |false=>simp
  |true=>simp[hm]
 ·have h1:(most:Int)<s.length:=by omega
  simp[qgo,Fr.ofArgs,h1,hm]
theorem qJe (T:Tab) (hP:HP T) (s:List UInt8) (hn:s.length≤maxLen):T.val 861 [.s s]=some (.d (.b (qoq s)),false):=by
 rw[qaY T (hP 861 qhH rfl) rfl];have lp:=fun k fr H r hr h0 => @qCD T s hn k r fr H hr h0
 unfold qoq;by_cases h:s.length=3
 ·have h1:((s.length:Int) != 3)=false:=by simp[h]
  simp[qhH,Fr.ofArgs,h1];rw[lp _ _ _ (some (.d (.b false),false)) (by simp[qtG,qs7,qtJ]) (by simp[gc,Fr.keep,qae,qab,qad,PV.refs,gcH,PV.ren,Obj.ren,Heap.obj,Fr.ren,gh])]
  cases s.all okC with
  |false=>simp
  |true=>simp[h]
 ·have h1:((s.length:Int) != 3)=true:=by simp;omega
  simp[qhH,Fr.ofArgs,h1,h]
def qnH (s:List UInt8):Bool:=decide (1≤s.length)&&qhm s 33 48
theorem qFx (T:Tab) (hP:HP T) (s:List UInt8) (hn:s.length≤maxLen):T.val 607 [.s s]=some (.d (.b (qnH s)),false):=by
 rw[qaY T (hP 607 qgv rfl) rfl];have e:T.val 685 [.s s,I 48,.i .u8 33]=some (.d (.b (qhm s 33 48)),false):=qze T hP s 33 48 hn
 unfold qnH;cases s with
 |nil=>simp[qgv,Fr.ofArgs]
 |cons a s =>
  have h1:(1:Int)≤(s.length:Int)+1:=by omega
  simp[qgv,Fr.ofArgs,e,h1]
theorem qoX (T:Tab) (hP:HP T) (d:Int):T.val 544 [I d]=some (.d (.b (qgn d)),false):=by
 rw[qaY T (hP 544 qgM rfl) rfl];by_cases h1:0≤d<;>by_cases h2:d≤73048<;>simp[qgM,Fr.ofArgs,qgn,h1,h2]
end Go.Sim
end
end
section
namespace Go.Sim
def tabS:PT :=
 (.bin 679 qcg (.bin 545 qjK (.bin 512 qlp (.bin 504 qjB (.bin 259 qjx (.bin 177 qg5 (.bin 106 qhT .nil .nil) .nil) (.bin 260 qlb .nil .nil)) (.bin 510 qlA (.bin 508 qkd (.bin 506 qkG .nil .nil) .nil) (.bin 511 qlo .nil .nil))) (.bin 540 qk4 (.bin 538 qkf (.bin 537 qly (.bin 513 qkZ .nil .nil) .nil) (.bin 539 qjf .nil .nil)) (.bin 543 qjV (.bin 542 qjD (.bin 541 qkq .nil .nil) .nil) (.bin 544 qgM .nil .nil)))) (.bin 599 qlu (.bin 552 qkR (.bin 550 qle (.bin 549 qjS (.bin 546 qjs .nil .nil) .nil) (.bin 551 qjp .nil .nil)) (.bin 597 qku (.bin 596 qls (.bin 595 qk6 .nil .nil) .nil) (.bin 598 qlz .nil .nil))) (.bin 607 qgv (.bin 602 qkl (.bin 601 qkI (.bin 600 qkw .nil .nil) .nil) (.bin 603 qiY .nil .nil)) (.bin 677 qjz (.bin 676 qjL .nil .nil) (.bin 678 qkM .nil .nil))))) (.bin 952 qlB (.bin 919 qf4 (.bin 770 qiN (.bin 685 qgo (.bin 684 qjM (.bin 683 qh3 .nil .nil) .nil) (.bin 769 qjc .nil .nil)) (.bin 860 qgr (.bin 859 qgS (.bin 771 qh9 .nil .nil) .nil) (.bin 861 qhH .nil .nil))) (.bin 924 qkn (.bin 922 qi5 (.bin 921 qj5 (.bin 920 qjP .nil .nil) .nil) (.bin 923 qjE .nil .nil)) (.bin 950 qg9 (.bin 925 qky .nil .nil) (.bin 951 qla .nil .nil)))) (.bin 1093 qhl (.bin 969 qkB (.bin 955 qju (.bin 954 qjq (.bin 953 qj7 .nil .nil) .nil) (.bin 968 qjF .nil .nil)) (.bin 1023 qix (.bin 985 qkx (.bin 970 qlx .nil .nil) .nil) (.bin 1090 qha .nil .nil))) (.bin 1100 qjR (.bin 1096 qgU (.bin 1095 qgY (.bin 1094 qg4 .nil .nil) .nil) (.bin 1099 qkT .nil .nil)) (.bin 1102 qj9 (.bin 1101 qjQ .nil .nil) (.bin 1103 qjv .nil .nil))))))
abbrev HS (T:Tab):Prop:=∀n F,tabS.get n=some F→T.F n=some F
end Go.Sim
end
section
namespace Go.Sim
mutual
def DV.ins (ρ:Nat→DV):DV→DV
 | .tok n=>ρ n
 | .a cs=>.a (DV.insL ρ cs)
 | .l k es x=>.l k (DV.insL ρ es) x
 | .ifc x v=>.ifc x (DV.ins ρ v)
 | .b x=>.b x
 | .i k n=>.i k n
 | .s x=>.s x
 | .np=>.np
 | .nf=>.nf
 | .ni=>.ni
 | .nm=>.nm
def DV.insL (ρ:Nat→DV):List DV→List DV
 | []=>[]
 |v::vs=>DV.ins ρ v::DV.insL ρ vs
end
mutual
def PV.ins (ρ:Nat→DV):PV→PV
 | .u=>.u
 | .d v=>.d (v.ins ρ)
 | .a cs=>.a (PV.insL ρ cs)
 | .t vs=>.t (PV.insL ρ vs)
 | .r o k off len tt=>.r o k off len tt
 | .p o i c=>.p o i c
 | .q v k c=>.q (v.ins ρ) k c
 | .f n cs=>.f n (PV.insL ρ cs)
 | .h o=>.h o
 | .g v=>.g (PV.ins ρ v)
 | .m n cs=>.m n (PV.insL ρ cs)
 | .w x v=>.w x (PV.ins ρ v)
def PV.insL (ρ:Nat→DV):List PV→List PV
 | []=>[]
 |v::vs=>PV.ins ρ v::PV.insL ρ vs
end
def Obj.ins (ρ:Nat→DV):Obj→Obj
 | .box k v=>.box k (v.ins ρ)
 | .sl k ro es=>.sl k ro (DV.insL ρ es)
 | .mp es=>.mp (es.map fun x=>(x.1.ins ρ,x.2.ins ρ))
 | .si s n=>.si s n
 | .lp n j=>.lp n j
 | .df=>.df
def Heap.ins (ρ:Nat→DV) (H:Heap):Heap:=H.map (·.map (·.ins ρ))
def Fr.ins (ρ:Nat→DV):Fr→Fr
 | []=>[]
 | (j,v)::r=>(j,v.ins ρ)::Fr.ins ρ r
def St.ins (ρ:Nat→DV) (s:St):St:=⟨s.fr.ins ρ,s.H.ins ρ⟩
def Sc (ρ:Nat→DV):Prop:=∀n cs,ρ n≠.a cs
mutual
def DV.noT:DV→Bool
 | .tok _=>false
 | .a cs=>DV.noTL cs
 | .l _ es _=>DV.noTL es
 | .ifc _ v=>v.noT
 | _=>true
def DV.noTL:List DV→Bool
 | []=>true
 |v::vs=>v.noT&&DV.noTL vs
end
inductive TA where
 |b
 |i (k:IntKind)
 |s
 |e (n:Nat)
 |l (k:K) (m:Nat) (ts:List TA)
mutual
def TA.sub:TA→TA→Bool
 | .b,.b=>true
 | .i k,.i k1=>decide (k=k1)
 | .s,.s=>true
 | .e n,.e m=>Nat.ble n m
 | .l k m ts,.l k1 m1 us=>K.eq k k1&&(Nat.ble m1 m&&TA.subL ts us)
 | _,_=>false
def TA.subL:List TA→List TA→Bool
 | [],[]=>true
 |t::ts,u::us=>TA.sub t u&&TA.subL ts us
 | _,_=>false
end
def XD:Nat→DV→Prop
 | 0,x=>x = .l (some 4) [] false
 |n+1,x=>∃es,x = .l (some 4) es false∧es.length*56≤qa8∧∀e∈es,∃o m s a,e = .a [.i .i64 o,.i .i64 m,.s s,a]∧(Lit.int .i64 o).wf=true∧(Lit.int .i64 m).wf=true∧s.length≤maxLen∧XD n a
def XT (d:Nat):Nat→DV→Prop
 | 0,x=>∃n,XD n x
 | 1,x=>XD d x
 | _,x=>∃n,n<d∧XD n x
mutual
def Hs (d:Nat):TA→DV→Prop
 | .e n,x=>XT d n x
 | .b,x=>∃c,x = .b c
 | .i k,x=>∃n,x = .i k n∧(Lit.int k n).wf=true
 | .s,x=>∃l,x = .s l∧l.length≤maxLen
 | .l k m ts,x=>∃es t,x = .l k es t∧es.length≤maxLen∧es.length≤m∧∀e∈es,∃cs,mkD k cs=some e∧HsL d ts cs
def HsL (d:Nat):List TA→List DV→Prop
 | [],[]=>True
 |t::ts,x::xs=>Hs d t x∧HsL d ts xs
 | _,_=>False
end
def vI:DV→Int
 | .i _ n=>n
 | .l _ es _=>es.length
 | .s x=>x.length
 | _=>0
abbrev Fact:=Nat×Nat×Int
def Fact.ok (ρ:Nat→DV) (f:Fact):Prop:=vI (ρ f.1)+f.2.2≤vI (ρ f.2.1)
def prv (fx:List Fact):Nat→Nat→Nat→Int→Bool
 | 0,a,b,c=>Nat.beq a b&&decide (c≤0)
 |n+1,a,b,c=>(Nat.beq a b&&decide (c≤0))||fx.any fun f=>Nat.beq f.1 a&&prv fx n f.2.1 b (c-f.2.2)
theorem qvC {ρ:Nat→DV} {fx:List Fact} (h : ∀f∈fx,Fact.ok ρ f) : ∀(n a b:Nat) (c:Int),prv fx n a b c=true→vI (ρ a)+c≤vI (ρ b)
 | 0,a,b,c,e=>by
  simp only[prv,zzf,zzq] at e;rw[Nat.eq_of_beq_eq_true e.1];omega
 |n+1,a,b,c,e=>by
  simp only[prv,Bool.or_eq_true,zzf,zzq,List.any_eq_true] at e;rcases e with e|⟨f,hf,e1,e2⟩
  ·rw[Nat.eq_of_beq_eq_true e.1];omega
  ·have h1:=h f hf
   have h2:=qvC h n _ _ _ e2
   unfold Fact.ok at h1;rw[Nat.eq_of_beq_eq_true e1] at h1;omega
theorem qff (ρ:Nat→DV) : ∀l:List DV,DV.insL ρ l=l.map (DV.ins ρ)
 | []=>rfl
 |v::vs=>by rw[DV.insL,qff ρ vs];rfl
theorem qgT (ρ:Nat→DV) : ∀l:List PV,PV.insL ρ l=l.map (PV.ins ρ)
 | []=>rfl
 |v::vs=>by rw[PV.insL,qgT ρ vs];rfl
mutual
theorem ql0 (ρ:Nat→DV) : ∀v:DV,v.noT=true→v.ins ρ=v
 | .tok _,h=>by cases h
 | .a cs,h=>by rw[DV.ins,qmM ρ cs h]
 | .l _ es _,h=>by rw[DV.ins,qmM ρ es h]
 | .ifc _ v,h=>by rw[DV.ins,ql0 ρ v h]
 | .b _,_ | .i _ _,_ | .s _,_ | .np,_ | .nf,_ | .ni,_ | .nm,_=>rfl
theorem qmM (ρ:Nat→DV) : ∀l:List DV,DV.noTL l=true→DV.insL ρ l=l
 | [],_=>rfl
 |v::vs,h=>by
  rw[DV.noTL,zzf] at h;rw[DV.insL,ql0 ρ v h.1,qmM ρ vs h.2]
end
theorem qhh (ρ:Nat→DV) (t:Nat) : ∀fr:Fr,(fr.ins ρ).get t=(fr.get t).ins ρ
 | []=>rfl
 | (j,v)::r=>by
  simp only[Fr.ins,Fr.get];split
  ·rfl
  ·exact qhh ρ t r
theorem qlS (ρ:Nat→DV) (t:Nat) (v:PV) : ∀fr:Fr,(fr.set t v).ins ρ=(fr.ins ρ).set t (v.ins ρ)
 | []=>rfl
 | (j,x)::r=>by
  simp only[Fr.ins,Fr.set];split
  ·rfl
  ·split
   ·rfl
   ·simp only[Fr.ins];rw[qlS ρ t v r]
theorem qlq (ρ:Nat→DV) (l:List Nat) : ∀fr:Fr,(fr.drop l).ins ρ=(fr.ins ρ).drop l
 | []=>rfl
 | (j,x)::r=>by
  simp only[Fr.ins,Fr.drop];split
  ·exact qlq ρ l r
  ·simp only[Fr.ins];rw[qlq ρ l r]
theorem qmk (ρ:Nat→DV) (l:List Nat) : ∀fr:Fr,(fr.keep l).ins ρ=(fr.ins ρ).keep l
 | []=>rfl
 | (j,x)::r=>by
  simp only[Fr.ins,Fr.keep];split
  ·simp only[Fr.ins];rw[qmk ρ l r]
  ·exact qmk ρ l r
theorem qgF (ρ:Nat→DV) (H:Heap) (o:Nat):(H.ins ρ).obj o=(H.obj o).map (·.ins ρ):=by
 unfold Heap.obj Heap.ins;rw[zzj];cases H[o]? with
 |none=>rfl
 |some x=>cases x<;>rfl
theorem qgZ (ρ:Nat→DV) (H:Heap) (o:Nat) (x:Option Obj):(H.put o x).ins ρ=(H.ins ρ).put o (x.map (·.ins ρ)):=by
 unfold Heap.put Heap.ins;rw[List.map_set]
theorem qHZ (ρ:Nat→DV) (H:Heap):(H.ins ρ).length=H.length:=by unfold Heap.ins;rw[zzo]
theorem qnA (ρ:Nat→DV) (H H':Heap):(H++H').ins ρ=H.ins ρ++H'.ins ρ:=by unfold Heap.ins;rw[List.map_append]
mutual
theorem qin (ρ:Nat→DV) : ∀v:PV,(v.ins ρ).refs=v.refs
 | .u | .d _ | .r .. | .p .. | .q .. | .h _=>rfl
 | .a cs=>by simp only[PV.ins,PV.refs];exact qjX ρ cs
 | .t cs=>by simp only[PV.ins,PV.refs];exact qjX ρ cs
 | .f _ cs=>by simp only[PV.ins,PV.refs];exact qjX ρ cs
 | .m _ cs=>by simp only[PV.ins,PV.refs];exact qjX ρ cs
 | .g v=>by simp only[PV.ins,PV.refs];exact qin ρ v
 | .w _ v=>by simp only[PV.ins,PV.refs];exact qin ρ v
theorem qjX (ρ:Nat→DV) : ∀l:List PV,PV.refsL (PV.insL ρ l)=PV.refsL l
 | []=>rfl
 |v::vs=>by simp only[PV.insL,PV.refsL];rw[qin ρ v,qjX ρ vs]
end
mutual
theorem qkX (ρ:Nat→DV) (σ:Nat→Option Nat) : ∀v:PV,(v.ren σ).ins ρ=(v.ins ρ).ren σ
 | .u | .d _ | .q .. => rfl
 | .r o _ _ _ _=>by simp only[PV.ins,PV.ren];cases σ o<;>rfl
 | .p o _ _=>by simp only[PV.ins,PV.ren];cases σ o<;>rfl
 | .h o=>by simp only[PV.ins,PV.ren];cases σ o<;>rfl
 | .a cs=>by simp only[PV.ins,PV.ren];rw[qlk ρ σ cs]
 | .t cs=>by simp only[PV.ins,PV.ren];rw[qlk ρ σ cs]
 | .f _ cs=>by simp only[PV.ins,PV.ren];rw[qlk ρ σ cs]
 | .m _ cs=>by simp only[PV.ins,PV.ren];rw[qlk ρ σ cs]
 | .g v=>by simp only[PV.ins,PV.ren];rw[qkX ρ σ v]
 | .w _ v=>by simp only[PV.ins,PV.ren];rw[qkX ρ σ v]
theorem qlk (ρ:Nat→DV) (σ:Nat→Option Nat) : ∀l:List PV,PV.insL ρ (PV.renL σ l)=PV.renL σ (PV.insL ρ l)
 | []=>rfl
 |v::vs=>by simp only[PV.insL,PV.renL];rw[qkX ρ σ v,qlk ρ σ vs]
end
theorem qv9 (ρ:Nat→DV) : ∀fr:Fr,qab (fr.ins ρ)=qab fr
 | []=>rfl
 | (_,v)::r=>by simp only[Fr.ins,qab];rw[qin ρ v,qv9 ρ r]
theorem qwM (ρ:Nat→DV) (σ:Nat→Option Nat) : ∀fr:Fr,(fr.ren σ).ins ρ=(fr.ins ρ).ren σ
 | []=>rfl
 | (_,v)::r=>by simp only[Fr.ins,Fr.ren];rw[qkX ρ σ v,qwM ρ σ r]
theorem qw5 (ρ:Nat→DV) : ∀x:Option Obj,qag (x.map (·.ins ρ))=qag x
 |none=>rfl
 |some (.box _ v)=>qin ρ v
 |some (.sl ..)|some (.mp _)|some (.si ..)|some (.lp ..)|some .df=>rfl
theorem qwB (ρ:Nat→DV) (σ:Nat→Option Nat) : ∀x:Obj,(x.ren σ).ins ρ=(x.ins ρ).ren σ
 | .box k v=>by simp only[Obj.ren,Obj.ins];rw[qkX]
 | .sl .. | .mp _ | .si .. | .lp .. | .df=>rfl
theorem qyY (ρ:Nat→DV) : ∀H:Heap,qad (H.ins ρ)=qad H
 | []=>rfl
 |x::r=>by
  show qag (x.map (·.ins ρ))++qad (Heap.ins ρ r)=qag x++qad r
  rw[qw5,qyY ρ r]
theorem qnj (ρ:Nat→DV) (H:Heap) (base:Nat) : ∀(n:Nat) (acc todo:List Nat),qae (H.ins ρ) base n acc todo=qae H base n acc todo
 | 0,_,_=>rfl
 |n+1,acc,[]=>rfl
 |n+1,acc,o::todo=>by
  simp only[qae];rw[qnj ρ H base n acc todo,qgF,qw5,qnj ρ H base n]
theorem qAF (ρ:Nat→DV) (σ:Nat→Option Nat) (H:Heap) (base:Nat) (ids:List Nat):(gcH σ H base ids).ins ρ=gcH σ (H.ins ρ) base ids:=by
 unfold gcH;rw[qnA];congr 1
 ·unfold Heap.ins;rw[←List.map_take,List.map_map,List.map_map];apply List.map_congr_left
  intro x _;cases x with
  |none=>rfl
  |some x=>exact congrArg some (qwB ρ σ x)
 ·unfold Heap.ins;rw[List.map_map];apply List.map_congr_left
  intro o _;show ((H.obj o).map _).map _=(Heap.obj (Heap.ins ρ H) o).map _
  rw[qgF];cases H.obj o with
  |none=>rfl
  |some x=>exact congrArg some (qwB ρ σ x)
theorem qCI (ρ:Nat→DV) (live:List Nat) (base:Nat) (s:St):(gc live base s).ins ρ=gc live base (s.ins ρ):=by
 have h1:qab (Fr.keep live (s.ins ρ).fr)++qad ((s.ins ρ).H.take base)=qab (Fr.keep live s.fr)++qad (s.H.take base):=by
  show qab (Fr.keep live (s.fr.ins ρ))++qad ((s.H.ins ρ).take base)=_
  rw[←qmk,qv9];congr 1
  unfold Heap.ins;rw[←List.map_take];exact qyY ρ _
 unfold gc;simp only;rw[h1];show St.mk _ _=St.mk _ _
 congr 1
 ·rw[qwM,qmk];show _=Fr.ren (qaf base (qae (s.H.ins ρ) base 1000 [] _)) (Fr.keep live (s.fr.ins ρ))
  rw[qnj]
 ·rw[qAF];show _=gcH (qaf base (qae (s.H.ins ρ) base 1000 [] _)) (s.H.ins ρ) base (qae (s.H.ins ρ) base 1000 [] _)
  rw[qnj]
end Go.Sim
end
section
namespace Go.Sim
section
variable {ρ : Nat → DV}
theorem qcE (l:List DV):(DV.insL ρ l).length=l.length:=by rw[qff,zzo]
theorem qjt (l:List PV):(PV.insL ρ l).length=l.length:=by rw[qgT,zzo]
theorem qpa (l:List DV) (i:Nat):(DV.insL ρ l)[i]? = (l[i]?).map (DV.ins ρ):=by rw[qff,zzj]
theorem qpt (l:List DV) (a b:Nat):DV.insL ρ ((l.drop a).take b)=((DV.insL ρ l).drop a).take b:=by rw[qff,qff,List.map_take,List.map_drop]
theorem qsS (l:List PV) (a b:Nat):PV.insL ρ ((l.drop a).take b)=((PV.insL ρ l).drop a).take b:=by rw[qgT,qgT,List.map_take,List.map_drop]
theorem qpX (l:List DV):PV.insL ρ (l.map .d)=(DV.insL ρ l).map .d:=by rw[qgT,qff,List.map_map,List.map_map];rfl
theorem qqv (hρ:Sc ρ) (v:DV):(v.ins ρ).cells=DV.insL ρ v.cells:=by
 cases v with
 |tok n =>
  show (ρ n).cells=[ρ n]
  have:=hρ n
  cases h:ρ n<;>first|rfl|exact absurd h (this _)
 | _=>rfl
theorem qmw (hρ:Sc ρ) (v:PV):(v.ins ρ).cells=PV.insL ρ v.cells:=by
 cases v with
 |d v =>
  cases v with
  |tok n =>
   show (PV.d (ρ n)).cells=[.d (ρ n)]
   have:=hρ n
   cases h:ρ n<;>first|rfl|exact absurd h (this _)
  |a cs=>exact (qpX cs).symm
  | _=>rfl
 | _=>rfl
theorem qsf {k:K} {cs:List DV} {v:DV} (h:mkD k cs=some v):mkD k (DV.insL ρ cs)=some (v.ins ρ):=by
 cases k with
 |none =>
  match cs,h with
  | [x],h=>cases h;rfl
 |some n =>
  simp only[mkD] at h⊢;rw[qcE];split at h
  ·rename_i e;rw[if_pos e];cases h;rfl
  ·cases h
theorem qyx : ∀l:List PV,∀{vs:List DV},qa0 l=some vs→qa0 (PV.insL ρ l)=some (DV.insL ρ vs)
 | [],vs,h=>by cases h;rfl
 | .d v::r,vs,h=>by
  simp only[qa0] at h;split at h
  ·rename_i ws e;cases h;simp only[PV.insL,PV.ins,qa0];rw[qyx r e];rfl
  ·cases h
 | .u::_,_,h | .a _::_,_,h | .t _::_,_,h | .r .. :: _,_,h | .p .. :: _,_,h | .q .. :: _,_,h | .f .. :: _,_,h | .h _::_,_,h | .g _::_,_,h | .m .. :: _,_,h | .w .. :: _,_,h=>by cases h
theorem qwZ : ∀l:List PV,qa0 l=none→qa0 (PV.insL ρ l)=none
 | [],h=>by cases h
 | .d v::r,h=>by
  simp only[qa0] at h;split at h
  ·cases h
  ·rename_i e;simp only[PV.insL,PV.ins,qa0];rw[qwZ r e]
 | .u::_,_ | .a _::_,_ | .t _::_,_ | .r .. :: _,_ | .p .. :: _,_ | .q .. :: _,_ | .f .. :: _,_ | .h _::_,_ | .g _::_,_ | .m .. :: _,_ | .w .. :: _,_=>rfl
theorem qt1 (cs:List PV):mkA (PV.insL ρ cs)=(mkA cs).ins ρ:=by
 unfold mkA;cases h:qa0 cs with
 |none=>rw[qwZ cs h];rfl
 |some vs=>rw[qyx cs h];rfl
theorem qoQ {k:K} {cs:List PV} {v:PV} (h:mkP k cs=some v):mkP k (PV.insL ρ cs)=some (v.ins ρ):=by
 cases k with
 |none =>
  match cs,h with
  | [x],h=>cases h;rfl
 |some n =>
  simp only[mkP] at h⊢;rw[qjt];split at h
  ·rename_i e;rw[if_pos e];cases h;rw[qt1]
  ·cases h
theorem qmI (hρ:Sc ρ) (k:K) (v:PV):fits k (v.ins ρ)=fits k v:=by
 cases v with
 |d v =>
  cases v with
  |tok n =>
   show fits k (.d (ρ n))=fits k (.d (.tok n))
   have:=hρ n
   cases h:ρ n<;>first|exact absurd h (this _)|(cases k<;>rfl)
  |a cs=>cases k with
   |none=>rfl
   |some m=>show ((DV.insL ρ cs).length==m)=(cs.length==m);rw[qcE]
  | _=>cases k<;>rfl
 |a cs=>cases k with
  |none=>rfl
  |some m=>show ((PV.insL ρ cs).length==m)=(cs.length==m);rw[qjt]
 | _=>cases k<;>rfl
theorem qwF (hρ:Sc ρ) {kv:K} {v:DV} {c:Nat} {k:K} {x:DV} (h:qcq kv v c k=some x):qcq kv (v.ins ρ) c k=some (x.ins ρ):=by
 unfold qcq at h⊢;split at h
 ·rename_i e;rw[if_pos e];cases h;rfl
 ·rename_i e;rw[if_neg e];split at h
  ·rename_i e;rw[if_pos e,qqv hρ,←qpt];exact qsf h
  ·cases h
theorem qCa (hρ:Sc ρ) {kv:K} {v:PV} {c:Nat} {k:K} {x:PV} (h:qdd kv v c k=some x):qdd kv (v.ins ρ) c k=some (x.ins ρ):=by
 unfold qdd at h⊢;split at h
 ·rename_i e;rw[if_pos e];cases h;rfl
 ·rename_i e;rw[if_neg e];split at h
  ·rename_i e;rw[if_pos e,qmw hρ,←qsS];exact qoQ h
  ·cases h
theorem qxD (hρ:Sc ρ) {H:Heap} {k:K} {p v:PV} (h:qbl H k p=some v):qbl (H.ins ρ) k (p.ins ρ)=some (v.ins ρ):=by
 unfold qbl at h;split at h
 ·rename_i o i c;simp only[PV.ins,qbl];rw[qgF];split at h
  ·rename_i kb w e;rw[e];simp only[Option.map,Obj.ins];split at h
   ·rename_i e;rw[if_pos e];exact qCa hρ h
   ·cases h
  ·rename_i kb ro es e;rw[e];simp only[Option.map,Obj.ins];rw[qpa];split at h
   ·rename_i e' he;rw[he];simp only[Option.map];split at h
    ·rename_i x hx;rw[qwF hρ hx];cases h;rfl
    ·cases h
   ·cases h
  ·cases h
 ·rename_i w kv c;simp only[PV.ins,qbl];split at h
  ·rename_i x hx;rw[qwF hρ hx];cases h;rfl
  ·cases h
 ·cases h
theorem qHx {off:Nat} {p v:PV} (h:qfG off p=some v):qfG off (p.ins ρ)=some (v.ins ρ):=by
 cases p<;>first|(cases h;rfl)|cases h
theorem qFH {off:Nat} {k:K} {p v:PV} (h:qd9 off k p=some v):qd9 off k (p.ins ρ)=some (v.ins ρ):=by
 unfold qd9 at h;split at h
 ·rename_i cs;simp only[PV.ins,DV.ins,qd9];rw[qcE];split at h
  ·rename_i e;rw[if_pos e];split at h
   ·rename_i x hx;rw[←qpt,qsf hx];cases h;rfl
   ·cases h
  ·cases h
 ·rename_i cs;simp only[PV.ins,qd9];rw[qjt];split at h
  ·rename_i e;rw[if_pos e,←qsS];exact qoQ h
  ·cases h
 ·cases h
theorem qxB (l:List PV) (c:Nat) (xs:List PV):PV.insL ρ (putAt l c xs)=putAt (PV.insL ρ l) c (PV.insL ρ xs):=by
 unfold putAt;simp only[qgT,List.map_append,List.map_take,List.map_drop,zzo]
theorem qEX (l:List DV) (c:Nat) (xs:List DV):DV.insL ρ (putAt l c xs)=putAt (DV.insL ρ l) c (DV.insL ρ xs):=by
 unfold putAt;simp only[qff,List.map_append,List.map_take,List.map_drop,zzo]
theorem qvM (hρ:Sc ρ) : ∀(ps:List (Nat×K×PV)) {z cs:List PV},qck z ps=some cs→qck (PV.insL ρ z) (ps.map fun x=>(x.1,x.2.1,x.2.2.ins ρ))=some (PV.insL ρ cs)
 | [],z,cs,h=>by cases h;rfl
 | (off,k,v)::r,z,cs,h=>by
  simp only[qck] at h;simp only[List.map,qck];rw[qmI hρ,qjt];split at h
  ·rename_i e;rw[if_pos e,qmw hρ,←qxB];exact qvM hρ r h
  ·cases h
theorem qo5 {H:Heap} {v:PV} {x:DV} {os:List Nat} (h:qa2 H v=some (x,os)):qa2 (H.ins ρ) (v.ins ρ)=some (x.ins ρ,os):=by
 unfold qa2 at h;split at h
 ·cases h;rfl
 ·rename_i o k off len t;simp only[PV.ins,qa2];rw[qgF];split at h
  ·rename_i k' ro es e;rw[e];simp only[Option.map,Obj.ins];rw[qcE];split at h
   ·rename_i e;rw[if_pos e];cases h;simp only[DV.ins,qpt]
   ·cases h
  ·cases h
 ·cases h
theorem qrr {H:Heap} : ∀(l:List PV) {xs:List DV} {os:List Nat},qcz H l=some (xs,os)→qcz (H.ins ρ) (PV.insL ρ l)=some (DV.insL ρ xs,os)
 | [],xs,os,h=>by cases h;rfl
 |v::r,xs,os,h=>by
  simp only[qcz] at h;split at h
  ·rename_i x os1 ys os2 e1 e2;cases h;simp only[PV.insL,qcz];rw[qo5 e1,qrr r e2];rfl
  ·cases h
theorem qqt {H:Heap} {v:PV} {x:DV} {os:List Nat} (h:pur H v=some (x,os)):pur (H.ins ρ) (v.ins ρ)=some (x.ins ρ,os):=by
 unfold pur at h;split at h
 ·rename_i cs;simp only[PV.ins,pur];split at h
  ·rename_i xs os' e;rw[qrr cs e];cases h;rfl
  ·cases h
 ·rename_i hn;have:pur (H.ins ρ) (v.ins ρ)=qa2 (H.ins ρ) (v.ins ρ):=by
   cases v with
   |a cs=>exact absurd rfl (hn cs)
   | _=>rfl
  rw[this];exact qo5 h
theorem qtE (hρ:Sc ρ) {H:Heap} {k:K} : ∀(ps:List (Nat×PV)) {es es':List DV} {os:List Nat},qbh H k es ps=some (es',os)→qbh (H.ins ρ) k (DV.insL ρ es) (ps.map fun x=>(x.1,x.2.ins ρ))=some (DV.insL ρ es',os)
 | [],es,es',os,h=>by cases h;rfl
 | (j,v)::r,es,es',os,h=>by
  simp only[qbh] at h;simp only[List.map,qbh];rw[qmI hρ,qcE];split at h
  ·rename_i e;rw[if_pos e];split at h
   ·rename_i x os1 e1;rw[qqt e1];simp only;have hs:(DV.insL ρ es).set j (x.ins ρ)=DV.insL ρ (es.set j x):=by rw[qff,qff,List.map_set]
    rw[hs];split at h
    ·rename_i es2 os2 e2;rw[qtE hρ r e2];cases h;rfl
    ·cases h
   ·cases h
  ·cases h
theorem qD0 (H:Heap) (o:Nat):(qcJ H o).ins ρ=qcJ (H.ins ρ) o:=by
 unfold qcJ;rw[qgF];cases h:H.obj o with
 |none=>rfl
 |some x=>cases x with
  |sl k ro es =>
   simp only[Option.map,Obj.ins];rw[qgZ,qcE];rfl
  | _=>rfl
theorem qnD : ∀(os:List Nat) (H:Heap),(frz H os).ins ρ=frz (H.ins ρ) os
 | [],_=>rfl
 |o::r,H=>by simp only[frz];rw[qnD r,qD0]
end
end Go.Sim
end
section
namespace Go.Sim
section
variable {ρ : Nat → DV}
theorem qDn (hρ:Sc ρ) {H H':Heap} {k:K} {p v:PV} (h:qb6 H k p v=some H'):qb6 (H.ins ρ) k (p.ins ρ) (v.ins ρ)=some (H'.ins ρ):=by
 unfold qb6 at h;split at h
 ·rename_i o i c;simp only[PV.ins,qb6];rw[qmI hρ,qgF];split at h
  ·rename_i hf;rw[if_pos hf];split at h
   ·rename_i kb w e;rw[e];simp only[Option.map,Obj.ins];split at h
    ·rename_i e1;rw[if_pos e1];split at h
     ·rename_i e2;rw[if_pos e2];cases h;rw[qgZ];rfl
     ·rename_i e2;rw[if_neg e2,qmw hρ,qjt];split at h
      ·rename_i e3;rw[if_pos e3];split at h
       ·rename_i w' e4;rw[qmw hρ,←qxB,qoQ e4];cases h;rw[qgZ];rfl
       ·cases h
      ·cases h
    ·cases h
   ·rename_i kb ro es e;rw[e];simp only[Option.map,Obj.ins];rw[qpa];split at h
    ·rename_i x he;rw[he];simp only[Option.map];split at h
     ·rename_i e1;rw[if_pos e1];split at h
      ·rename_i y os e2;rw[qqt e2];simp only;split at h
       ·cases h
       ·rename_i e3;rw[if_neg e3];split at h
        ·rename_i e4;rw[if_pos e4];cases h
         rw[qgZ,qnD];simp only[Option.map,Obj.ins,qff,List.map_set]
        ·rename_i e4;rw[if_neg e4,qqv hρ,qcE];split at h
         ·rename_i e5;rw[if_pos e5];split at h
          ·rename_i x' e6;rw[qqv hρ,←qEX,qsf e6];cases h
           rw[qgZ,qnD];simp only[Option.map,Obj.ins,qff,List.map_set]
          ·cases h
         ·cases h
      ·cases h
     ·cases h
    ·cases h
   ·cases h
  ·cases h
 ·cases h
theorem qJ0 {H:Heap} {b:Bool} {v:PV} {n:Nat} (h:qbw H b v=some n):qbw (H.ins ρ) b (v.ins ρ)=some n:=by
 unfold qbw at h;split at h
 ·simp only[PV.ins,DV.ins,qbw,qcE];exact h
 ·simp only[PV.ins,qbw];rw[qgF];split at h
  ·cases h
  ·rename_i hb;rw[if_neg hb];split at h
   ·rename_i k' ro es e;rw[e];simp only[Option.map,Obj.ins,qcE];exact h
   ·cases h
 ·exact h
 ·cases h
theorem qLg {v:PV} {n:Int} (h:asI v=some n):asI (v.ins ρ)=some n:=by
 unfold asI at h;split at h
 ·exact h
 ·cases h
theorem qGa {H:Heap} {k:K} {x i p:PV} (h:iaddr H k x i=some p):iaddr (H.ins ρ) k (x.ins ρ) (i.ins ρ)=some (p.ins ρ):=by
 unfold iaddr at h;split at h
 ·cases h
 ·rename_i n hn;unfold iaddr;rw[qLg hn];simp only;split at h
  ·simp only[PV.ins,DV.ins,qcE];split at h
   ·rename_i j hj;try rw[hj]
    try simp only
    rw[qpa];split at h
    ·rename_i e he;rw[he];simp only[Option.map];split at h
     ·rename_i e1;rw[if_pos e1];cases h;rfl
     ·cases h
    ·cases h
   ·cases h
  ·simp only[PV.ins];rw[qgF];split at h
   ·rename_i j k'' ro es hj ho;rw[hj,ho];simp only[Option.map,Obj.ins,qcE];split at h
    ·rename_i e1;rw[if_pos e1];cases h;rfl
    ·cases h
   ·cases h
  ·cases h
def IOp.par:IOp→Bool
 | .mov _ | .pick .. | .box .. | .load .. | .store .. | .faddr .. | .field .. | .ext .. | .len .. | .iaddr .. => true
 | .alloc _ z=>z.noT
 | .agg z _=>DV.noTL z
 | .bsl _ z _ _=>z.noT
 | .bin .. | .un .. | .eqb .. => true
 | _=>false
theorem qHq {op:BinOp} {x y:PV} {v:DV} (h:qaV op x y=some v):qaV op (x.ins ρ) (y.ins ρ)=some v∧v.noT=true:=by
 unfold qaV at h;split at h
 ·refine⟨h,?_⟩;have h1 : ∀(op:BinOp) (k:IntKind) (a b:Int) (v:DV),qb7 op k a b=some v→v.noT=true:=by
   intro op k a b v h;unfold qb7 at h;split at h<;>(try split at h)<;>first|(cases h;rfl)|cases h
  have h2 : ∀(op:BinOp) (k:IntKind) (a b:Int) (v:DV),qk1 op k a b=some v→v.noT=true:=by
   intro op k a b v h;unfold qk1 at h;simp only at h;split at h
   ·cases h
   ·split at h<;>first|(cases h;rfl)|cases h
  split at h
  ·exact h2 _ _ _ _ _ h
  ·exact h2 _ _ _ _ _ h
  ·split at h
   ·exact h1 _ _ _ _ _ h
   ·cases h
 ·refine⟨h,?_⟩;unfold qiH at h;split at h<;>(try split at h)<;>first|(cases h;rfl)|cases h
 ·cases h
theorem qCq {op:UnOp} {x:PV} {v:DV} (h:unA op x=some v):unA op (x.ins ρ)=some v∧v.noT=true:=by
 unfold unA at h;split at h
 ·refine⟨h,?_⟩;split at h<;>first|(cases h;rfl)|cases h
 ·refine⟨h,?_⟩;split at h<;>first|(cases h;rfl)|cases h
 ·cases h
theorem qhx {v:DV} (h:v.noT=true):(PV.d v).ins ρ = .d v:=by simp only[PV.ins];rw[ql0 ρ v h]
theorem qCx (hρ:Sc ρ) (E:Env) (r:Rand→PV) {H H':Heap} {id:Nat} {op:IOp} {v:PV} (hp:op.par=true) (h:qaa E r H id op=some (v,H')):qaa E (fun x=>(r x).ins ρ) (H.ins ρ) id op=some (v.ins ρ,H'.ins ρ):=by
 cases op<;>simp only[IOp.par,zzg] at hp<;>simp only[qaa] at h⊢
 case mov=>cases h;rfl
 case pick c a b =>
  split at h
  ·rename_i e;rw[e];cases h;rfl
  ·rename_i e;rw[e];cases h;rfl
  ·cases h
 case alloc k z=>cases h;rw[qgZ];simp only[Option.map,Obj.ins,qhx hp];rfl
 case box k x =>
  rw[qmI hρ];split at h
  ·rename_i e;rw[if_pos e];cases h;rw[qgZ];rfl
  ·cases h
 case agg z ps =>
  split at h
  ·rename_i cs e;cases h
   have:=qvM hρ _ e
   rw[qpX,qmM ρ z hp,List.map_map] at this;have e2:(fun x:Nat×K×PV=>(x.1,x.2.1,x.2.2.ins ρ))∘(fun x:Nat×K×Rand=>(x.1,x.2.1,r x.2.2))=fun x=>(x.1,x.2.1,(r x.2.2).ins ρ):=rfl
   rw[e2] at this;rw[this];simp only[qt1]
  ·cases h
 case bsl k z len ps =>
  split at h
  ·rename_i es os e;cases h
   have:=qtE hρ _ e
   rw[qff,List.map_replicate,ql0 ρ z hp,List.map_map] at this;have e2:(fun x:Nat×PV=>(x.1,x.2.ins ρ))∘(fun x:Nat×Rand=>(x.1,r x.2))=fun x=>(x.1,(r x.2).ins ρ):=rfl
   rw[e2] at this;rw[this];simp only;rw[qgZ,qnD];rfl
  ·cases h
 case load k x =>
  cases e:qbl H k (r x) with
  |none=>rw[e] at h;cases h
  |some w=>rw[e] at h;cases h;rw[qxD hρ e];rfl
 case store k x y =>
  split at h
  ·rename_i H1 e;cases h;rw[qDn hρ e];rfl
  ·cases h
 case bin op x y =>
  cases e:qaV op (r x) (r y) with
  |none=>rw[e] at h;cases h
  |some w=>rw[e] at h;cases h;have:=qHq (ρ:=ρ) e;rw[this.1,qhx this.2];rfl
 case eqb neg x y =>
  split at h
  ·rename_i e1 e2;rw[e1,e2];cases h;rfl
  ·cases h
 case un op x =>
  cases e:unA op (r x) with
  |none=>rw[e] at h;cases h
  |some w=>rw[e] at h;cases h;have:=qCq (ρ:=ρ) e;rw[this.1,qhx this.2];rfl
 case faddr off x =>
  cases e:qfG off (r x) with
  |none=>rw[e] at h;cases h
  |some w=>rw[e] at h;cases h;rw[qHx e];rfl
 case field off k x =>
  cases e:qd9 off k (r x) with
  |none=>rw[e] at h;cases h
  |some w=>rw[e] at h;cases h;rw[qFH e];rfl
 case iaddr k x i =>
  cases e:iaddr H k (r x) (r i) with
  |none=>rw[e] at h;cases h
  |some w=>rw[e] at h;cases h;rw[qGa e];rfl
 case len s x =>
  split at h
  ·rename_i n e;rw[qJ0 e];cases h;rfl
  ·cases h
 case ext x i =>
  split at h
  ·rename_i vs e;rw[e];simp only[PV.ins];rw[qgT,zzj];cases e2:vs[i]? with
   |none=>rw[e2] at h;cases h
   |some w=>rw[e2] at h;cases h;rfl
  ·cases h
end
end Go.Sim
end
section
namespace Go.Sim
structure AS where
 fr:Fr
 H:Heap
 G:List TA
 fx:List Fact
 cs:List (Nat×List DV×PV):=[]
 deriving Inhabited
def AS.st (σ:AS):St:=⟨σ.fr,σ.H⟩
structure Sg where
 args:List (K×List TA)
 res:List (K×List TA)
mutual
def isT (G:List TA) (t:TA):DV→Bool
 | .tok n=>match G[n]? with|some u=>TA.sub t u|none=>false
 | .b _=>match t with | .b=>true|_=>false
 | .i k n=>match t with | .i k'=>decide (k'=k)&&(Lit.int k n).wf|_=>false
 | .s x=>match t with | .s=>Nat.ble x.length 1000000|_=>false
 | .l k es _=>match t with
  | .l k' m ts=>K.eq k k'&&(Nat.ble es.length m&&Nat.ble es.length 1000000)&&qnJ G k ts es
  | _=>false
 | _=>false
def qiA (G:List TA) (ts:List TA):List DV→Bool
 | []=>ts.isEmpty
 |v::vs=>match ts with|t::us=>isT G t v&&qiA G us vs|[]=>false
def qnJ (G:List TA) (k:K) (ts:List TA):List DV→Bool
 | []=>true
 |v::vs=>(match k,v with
  |some n,.a cs=>Nat.beq cs.length n&&qiA G ts cs
  |none,x=>match ts with|[t]=>isT G t x|_=>false
  | _,_=>false)&&qnJ G k ts vs
end
def isK (G:List TA) (kt:K×List TA) (v:DV):Bool:=match kt.1,v with
 |some n,.a cs=>Nat.beq cs.length n&&qiA G kt.2 cs
 |none,x=>match kt.2 with|[t]=>isT G t x|_=>false
 | _,_=>false
def qif (G:List TA):List (K×List TA)→List DV→Bool
 | [],[]=>true
 |k::ks,v::vs=>isK G k v&&qif G ks vs
 | _,_=>false
def qf5:Int:=9223372036854775807
def qln (n:Nat):TA→List Fact
 | .s | .e _ | .l .. => [(0,n,0),(n,0,-qf5)]
 | .i .u8=>[(0,n,0),(n,0,-255)]
 | _=>[]
def qcw:Nat→List TA→List DV
 | _,[]=>[]
 |n,_::ts=>.tok n::qcw (n+1) ts
def fxs:Nat→List TA→List Fact
 | _,[]=>[]
 |n,t::ts=>qln n t++fxs (n+1) ts
def AS.news (σ:AS) (ts:List TA):AS:={ σ with G:=σ.G++ts,fx:=fxs σ.G.length ts++σ.fx }
def AS.add (σ:AS) (l:List Fact):AS:={ σ with fx:=l++σ.fx }
def qcF (σ:AS) (k:IntKind) (l:List Fact):Option (List (PV×AS)):=some [(.d (.tok σ.G.length),(σ.news [.i k]).add l)]
def opI (G:List TA):PV→Option (IntKind×Nat×Int)
 | .d (.i k n)=>if (Lit.int k n).wf then some (k,0,n) else none
 | .d (.tok m)=>match G[m]? with|some (.i k)=>some (k,m,0)|_=>none
 | _=>none
def leq (fx:List Fact) (x y:Nat×Int) (c:Int):Bool:=prv fx 4 x.1 y.1 (x.2+c-y.2)
def fle (x y:Nat×Int) (c:Int):Fact:=(x.1,y.1,x.2+c-y.2)
def qj4 (σ:AS) (t f:List Fact):Option (List (PV×AS)):=some [(.d (.b true),σ.add t),(.d (.b false),σ.add f)]
def tru (σ:AS) (b:Bool):Option (List (PV×AS)):=some [(.d (.b b),σ)]
def qsq (σ:AS) (op:BinOp) (x y:Nat×Int):Option (List (PV×AS)) :=
 let lt (σ:AS) (a b:Nat×Int) (n:Bool):Option (List (PV×AS)) :=
  if leq σ.fx a b 1 then tru σ (!n) else if leq σ.fx b a 0 then tru σ n else some [(.d (.b (!n)),σ.add [fle a b 1]),(.d (.b n),σ.add [fle b a 0])]
 let eq (n:Bool):Option (List (PV×AS)) :=
  if leq σ.fx x y 1||leq σ.fx y x 1 then tru σ n
  else some [(.d (.b (!n)),σ.add [fle x y 0,fle y x 0]),(.d (.b n),σ.add (if leq σ.fx x y 0 then [fle x y 1] else if leq σ.fx y x 0 then [fle y x 1] else []))]
 match op with
 | .lss=>lt σ x y false
 | .gtr=>lt σ y x false
 | .geq=>lt σ x y true
 | .leq=>lt σ y x true
 | .eql=>eq false
 | .neq=>eq true
 | _=>none
def z0:Nat×Int:=(0,0)
def qpY (σ:AS) (op:BinOp) (k:IntKind) (x y:Nat×Int):Option (List (PV×AS)) :=
 let n:=σ.G.length
 match op with
 | .add=>qcF σ k (if decide (k = .i64)&&Nat.beq y.1 0&&leq σ.fx x (0,qf5) y.2&&leq σ.fx (0,-qf5) x (0-y.2) then [fle x (n,0) y.2,fle (n,0) x (0-y.2)] else [])
 | .sub=>qcF σ k (if decide (k = .i64)&&Nat.beq y.1 0&&leq σ.fx x (0,qf5) (0-y.2)&&leq σ.fx (0,-qf5) x y.2 then [fle x (n,0) (0-y.2),fle (n,0) x y.2] else [])
 | .mul | .and | .or | .xor | .andNot=>qcF σ k []
 | .quo=>if Nat.beq y.1 0 && !decide (y.2=0) then qcF σ k (if decide (0<y.2)&&leq σ.fx z0 x 0&&decide (k = .i64) then [(0,n,0)] else []) else none
 | .rem=>if Nat.beq y.1 0 && !decide (y.2=0) then qcF σ k (if decide (0<y.2)&&leq σ.fx z0 x 0&&decide (k = .i64) then [(0,n,0),(n,0,1-y.2)] else []) else none
 | _=>none
def opS (G:List TA):PV→Option (Option Nat×List UInt8)
 | .d (.s x)=>some (none,x)
 | .d (.tok m)=>match G[m]? with|some .s=>some (some m,[])|_=>none
 | _=>none
def emF:Option Nat×List UInt8→Option Nat×List UInt8→List Fact×List Fact
 | (some m,_),(none,[])=>([(m,0,0)],[(0,m,1)])
 | (none,[]),(some m,_)=>([(m,0,0)],[(0,m,1)])
 | _,_=>([],[])
def qoE (σ:AS) (op:BinOp) (x y:Option Nat×List UInt8):Option (List (PV×AS)) :=
 let e:=emF x y
 match op with
 | .eql=>qj4 σ e.1 e.2
 | .neq=>qj4 σ e.2 e.1
 | .lss | .leq | .gtr | .geq=>qj4 σ [] []
 | _=>none
def eqT (G:List TA):List Nat→List DV→List DV→Bool
 | [],[],[]=>true
 |k::ks,x::xs,y::ys=>(match k with
  | 1=>match opI G (.d x),opI G (.d y) with|some a,some b=>decide (a.1=b.1)|_,_=>false
  | 2=>isT G .b x&&isT G .b y
  | 3=>isT G .s x&&isT G .s y
  | _=>false)&&eqT G ks xs ys
 | _,_,_=>false
def qih (f:Nat):List (Nat×Sg)→Option Sg
 | []=>none
 | (g,s)::r=>if Nat.beq g f then some s else qih f r
def qcj:Nat→List (K×List TA)→List PV
 | _,[]=>[]
 |n,(k,ts)::r=>.d (match k with|none=>.tok n|some _=>.a (qcw n ts))::qcj (n+ts.length) r
def qcH:List (K×List TA)→List TA
 | []=>[]
 | (_,ts)::r=>ts++qcH r
def qji:List (Nat×List DV×PV)→Nat→List DV→Option PV
 | [],_,_=>none
 | (g,es,v)::r,f,ds=>if Nat.beq g f&&DV.sameL es ds then some v else qji r f ds
def xTs (m:Nat):List TA:=[.i .i64,.i .i64,.s,.e (match m with|0=>0|_=>2)]
def qbQ (S:List (Nat×Sg)) (r:Rand→PV) (σ:AS):IOp→Option (List (PV×AS))
 | .bin op x y=>match opI σ.G (r x),opI σ.G (r y) with
  |some (k,a),some (k',b)=>if k=k' then match qsq σ op a b with
   |some l=>some l
   |none=>qpY σ op k a b
   else none
  | _,_=>match opS σ.G (r x),opS σ.G (r y) with
   |some a,some b=>qoE σ op a b
   | _,_=>none
 | .minmax _ [x,y]=>match opI σ.G (r x),opI σ.G (r y) with
  |some (k,_),some (k',_)=>if k=k' then qcF σ k [] else none
  | _,_=>none
 | .eqv _ ks x y=>match r x,r y with
  | .d (.a xs),.d (.a ys)=>if eqT σ.G ks xs ys then qj4 σ [] [] else none
  | _,_=>none
 | .un .neg x=>match opI σ.G (r x) with|some (k,_)=>qcF σ k []|none=>none
 | .conv k x=>match opI σ.G (r x) with|some _=>qcF σ k []|none=>none
 | .len s x=>match r x with
  | .d (.tok n)=>match s,σ.G[n]? with
   |true,some .s|false,some (.e _)|false,some (.l ..)=>qcF σ .i64 [(n,σ.G.length,0),(σ.G.length,n,0)]
   | _,_=>none
  | _=>none
 | .iaddr k x i=>match r x,opI σ.G (r i) with
  | .d (.tok n),some (_,a)=>if leq σ.fx z0 a 0&&leq σ.fx a (n,0) 1 then match σ.G[n]? with
   |some (.l k' _ ts)=>if K.eq k k' then match k with
    |none=>match ts with|[_]=>some [(.q (.tok σ.G.length) none 0,σ.news ts)]|_=>none
    |some m=>if Nat.beq ts.length m then some [(.q (.a (qcw σ.G.length ts)) (some m) 0,σ.news ts)] else none
    else none
   |some (.e m)=>if K.eq k (some 4) then some [(.q (.a (qcw σ.G.length (xTs m))) (some 4) 0,σ.news (xTs m))] else none
   | _=>none
   else none
  | _,_=>none
 | .idxS x i=>match opS σ.G (r x),opI σ.G (r i) with
  |some (some n,_),some (_,a)=>if leq σ.fx z0 a 0&&leq σ.fx a (n,0) 1 then qcF σ .u8 [] else none
  |some (none,s),some (_,a)=>if leq σ.fx z0 a 0&&leq σ.fx a (0,s.length) 1 then qcF σ .u8 [] else none
  | _,_=>none
 | .sl k x none (some h) none=>match r x,opI σ.G (r h) with
  | .d (.tok n),some (_,a)=>if leq σ.fx z0 a 0&&leq σ.fx a (n,0) 0 then match σ.G[n]? with
   |some (.l k' m ts)=>if K.eq k k' then some [(.d (.tok σ.G.length),(σ.news [.l k' m ts]).add [fle a (σ.G.length,0) 0,fle (σ.G.length,0) a 0])] else none
   | _=>none
   else none
  | _,_=>none
 | .call 0 f args=>match qih f S with
  |some g=>match qa0 (args.map r) with
   |some ds=>match qji σ.cs f ds with
    |some v=>some [(v,σ)]
    |none=>if qif σ.G g.args ds then some [(qaZ (qcj σ.G.length g.res),{ σ.news (qcH g.res) with cs:=(f,ds,qaZ (qcj σ.G.length g.res))::σ.cs })] else none
   |none=>none
  |none=>none
 | _=>none
def Rand.okR:Rand→Bool
 | .t _=>true
 | .c v=>v.noT
 | .g _=>false
 | .f _=>true
def IOp.rands:IOp→List Rand
 | .mov x | .box _ x | .load _ x | .faddr _ x | .field _ _ x | .ext x _ | .len _ x | .un _ x | .conv _ x=>[x]
 | .pick c a b=>[c,a,b]
 | .store _ x y | .iaddr _ x y | .bin _ x y | .eqb _ x y | .eqv _ _ x y | .idxS x y=>[x,y]
 | .agg _ ps=>ps.map fun x=>x.2.2
 | .bsl _ _ _ ps=>ps.map fun x=>x.2
 | .call _ _ as0 | .minmax _ as0=>as0
 | .sl _ x a b c=>x::(a.toList++b.toList++c.toList)
 | .alloc .. => []
 | _=>[.g 0]
def rdA (fr:Fr):Rand→PV
 | .t n=>fr.get n
 | .c v=>.d v
 | .g _=>.u
 | .f n=>.f n []
def qcT:Env:=⟨fun _=>none,fun _ _ _=>none,fun _ _=>none,fun _ _ _=>none,fun _ _ _ _=>none,fun _=>false⟩
def qn1 (l:List (PV×AS)):List (PV×AS):=l.flatMap fun x=>match x.1 with
 | .d (.tok n)=>match x.2.G[n]? with
  |some .b=>[(.d (.b true),x.2),(.d (.b false),x.2)]
  | _=>[x]
 | _=>[x]
def qmN (S:List (Nat×Sg)) (id:Nat) (op:IOp) (σ:AS):Option (List (PV×AS)) :=
 if op.rands.all Rand.okR then
  match (if op.par then qaa qcT (rdA σ.fr) σ.H id op else none) with
  |some (v,H')=>some (qn1 [(v,{ σ with H:=H' })])
  |none=>match qbQ S (rdA σ.fr) σ op with
   |some l=>some (qn1 l)
   |none=>none
 else none
def qib (d:Option Nat) (x:PV×AS):AS:=match d with
 |some t=>{ x.2 with fr:=x.2.fr.set t x.1 }
 |none=>x.2
def qr9 (S:List (Nat×Sg)) (o:IOper) (id:Nat) (σ:AS):Option (List AS) :=
 let go:Option (List AS):=match qmN S id o.op σ with
  |some l=>some (l.map (qib o.dst))
  |none=>none
 let no:Option (List AS):=some [qib o.dst (.t [],σ)]
 match o.g with
 |none=>go
 |some (t,want)=>match σ.fr.get t with
  | .d (.b b)=>if b==want then go else no
  | .t []=>no
  | _=>none
def qiM {α β:Type} (f:α→Option (List β)):List α→Option (List β)
 | []=>some []
 |x::r=>match f x,qiM f r with
  |some a,some b=>some (a++b)
  | _,_=>none
def qmY (S:List (Nat×Sg)) (D:Bool):List IOper→List Nat→List (List Nat×List Nat)→Nat→AS→Option (List AS)
 | [],_,_,_,σ=>some [σ]
 |o::r,bf,acc,id,σ=>match qr9 S o id σ with
  |none=>none
  |some l=>qiM (fun σ' =>
   let w:=writeS qcT o id σ.st σ'.st
   let t:=touchS qcT o σ.st
   if !D||(o.op.okD (rd qcT σ.fr)&&qaO (bf.headD 0) 0 acc (w++t) w) then qmY S D r bf.tail (acc++[(w++t,w)]) (if o.op.adds then id+1 else id) σ' else none) l
mutual
def DV.bnd (n:Nat):DV→Bool
 | .tok m=>Nat.blt m n
 | .a cs=>DV.bndL n cs
 | .l _ es _=>DV.bndL n es
 | .ifc _ v=>DV.bnd n v
 | _=>true
def DV.bndL (n:Nat):List DV→Bool
 | []=>true
 |v::vs=>DV.bnd n v&&DV.bndL n vs
end
mutual
def PV.bnd (n:Nat):PV→Bool
 | .d v | .q v _ _=>v.bnd n
 | .a cs=>PV.bndL n cs
 | .t cs=>PV.bndL n cs
 | .f _ cs=>PV.bndL n cs
 | .m _ cs=>PV.bndL n cs
 | .g v=>PV.bnd n v
 | .w _ v=>PV.bnd n v
 | _=>true
def PV.bndL (n:Nat):List PV→Bool
 | []=>true
 |v::vs=>PV.bnd n v&&PV.bndL n vs
end
def Obj.bnd (n:Nat):Obj→Bool
 | .box _ v=>v.bnd n
 | .sl _ _ es=>DV.bndL n es
 | .mp _=>false
 | _=>true
def Fr.bnd (n:Nat):Fr→Bool
 | []=>true
 | (_,v)::r=>v.bnd n&&Fr.bnd n r
def qhD (n:Nat):Heap→Bool
 | []=>true
 |none::r=>qhD n r
 |some x::r=>x.bnd n&&qhD n r
def qlv (n:Nat) (f:Fact):Bool:=Nat.blt f.1 n&&Nat.blt f.2.1 n
def qhP:Fr→Fr→Bool
 | [],[]=>true
 | (j,v)::r,(j',w)::r'=>Nat.beq j j'&&v.same w&&qhP r r'
 | _,_=>false
def qhu:Heap→Heap→Bool
 | [],[]=>true
 |x::r,y::r'=>qja x y&&qhu r r'
 | _,_=>false
def qkO (f g:Fact):Bool:=Nat.beq f.1 g.1&&(Nat.beq f.2.1 g.2.1&&decide (f.2.2=g.2.2))
def qk8 (c e:Nat×List DV×PV):Bool:=Nat.beq c.1 e.1&&(DV.sameL c.2.1 e.2.1&&c.2.2.same e.2.2)
def jnA (x y:AS):AS:={ x with fx:=x.fx.filter fun f=>y.fx.any (qkO f),cs:=x.cs.filter fun c=>y.cs.any (qk8 c) }
def qpI (x y:AS):Bool:=qhP x.fr y.fr&&(qhu x.H y.H&&TA.subL x.G y.G)
def qkp (x:AS):List AS→List AS
 | []=>[x]
 |y::r=>if qpI x y then jnA x y::r else y::qkp x r
def mrg:List AS→List AS
 | []=>[]
 |x::r=>qkp x (mrg r)
def qyi (n:Nat) (fx:List Fact):List Fact :=
 ((fx.filter fun f=>Nat.beq f.2.1 n && !Nat.beq f.1 n).flatMap fun f=>(fx.filter fun g=>Nat.beq g.1 n && !Nat.beq g.2.1 n).flatMap fun g=>if Nat.beq f.1 g.2.1 then [] else [(f.1,g.2.1,f.2.2+g.2.2)])++fx.filter fun f => !(Nat.beq f.1 n||Nat.beq f.2.1 n)
def qri (base:Nat):Nat→List Fact→List Fact
 | 0,fx=>fx
 |k+1,fx=>qri base k (qyi (base+k) fx)
def csB (n:Nat) (c:Nat×List DV×PV):Bool:=DV.bndL n c.2.1&&c.2.2.bnd n
def qg2 (σ x:AS):Option AS:=if x.fr.bnd σ.G.length&&qhD σ.G.length x.H then some { σ with fr:=x.fr,H:=x.H,fx:=(qri σ.G.length (x.G.length-σ.G.length) x.fx).filter (qlv σ.G.length),cs:=x.cs.filter (csB σ.G.length) } else none
def qg7 (σ:AS):List AS→List AS×List AS
 | []=>([],[])
 |x::r=>match qg2 σ x,qg7 σ r with
  |some y,(a,b)=>(y::a,b)
  |none,(a,b)=>(a,x::b)
def qiE (x:AS):List AS→List AS
 | []=>[x]
 |y::r=>if qhP x.fr y.fr&&qhu x.H y.H then jnA x y::r else y::qiE x r
def qki:List AS→List AS
 | []=>[]
 |x::r=>qiE x (qki r)
def qpC (σ:AS) (l:List AS):List AS:=match qg7 σ l with
 | (a,b)=>qki a++mrg b
def qnc (S:List (Nat×Sg)) (D:Bool) (ops:List IOper) (bf kill:List Nat) (σ:AS):Option (List (Ex×AS)) :=
 match qmY S D ops bf [] σ.H.length { σ with H:=σ.H++List.replicate (qaj ops) none } with
 |some l=>some ((qpC σ (l.map fun σ'=>{ σ' with fr:=σ'.fr.drop kill })).map fun σ'=>(.norm,σ'))
 |none=>none
def AS.gc (live:List Nat) (σ:AS):AS:=let s:=Sim.gc live 0 σ.st; { σ with fr:=s.fr,H:=s.H }
def tyD (G:List TA):DV→Option TA
 | .b _=>some .b
 | .i k _=>some (.i k)
 | .s _=>some .s
 | .tok n=>G[n]?
 | _=>none
def qvR (G0 G1:List TA) (n0:Nat) (g:List TA) (v w:DV):Option (DV×List TA) :=
 if v.same w then some (v,g) else
 match v with
 | .tok n=>if Nat.ble n0 n then some (v,g) else (tyD G0 v).bind fun t=>some (.tok (n0+g.length),g++[t])
 | _=>match tyD G0 v with
  |some t=>some (.tok (n0+g.length),g++[t])
  |none=>match w with
   | .tok n=>if Nat.ble n0 n then (G1[n]?).bind fun t=>some (.tok (n0+g.length),g++[t]) else (G1[n]?).bind fun t=>some (.tok (n0+g.length),g++[t])
   | _=>none
def auL (G0 G1:List TA) (n0:Nat):List TA→List DV→List DV→Option (List DV×List TA)
 |g,[],[]=>some ([],g)
 |g,v::vs,w::ws=>(qvR G0 G1 n0 g v w).bind fun x=>(auL G0 G1 n0 x.2 vs ws).bind fun y=>some (x.1::y.1,y.2)
 | _,_,_=>none
def auD (G0 G1:List TA) (n0:Nat) (g:List TA):DV→DV→Option (DV×List TA)
 | .a cs,.a ds=>(auL G0 G1 n0 g cs ds).bind fun x=>some (.a x.1,x.2)
 |v,w=>qvR G0 G1 n0 g v w
def auP (G0 G1:List TA) (n0:Nat) (g:List TA):PV→PV→Option (PV×List TA)
 | .d v,.d w=>(auD G0 G1 n0 g v w).bind fun x=>some (.d x.1,x.2)
 |v,w=>if v.same w then some (v,g) else none
def auF (G0 G1:List TA) (n0:Nat):List TA→Fr→Fr→Option (Fr×List TA)
 |g,[],[]=>some ([],g)
 |g,(j,v)::r,(j',w)::r'=>if Nat.beq j j' then (auP G0 G1 n0 g v w).bind fun x=>(auF G0 G1 n0 x.2 r r').bind fun y=>some ((j,x.1)::y.1,y.2) else none
 | _,_,_=>none
def auO (G0 G1:List TA) (n0:Nat) (g:List TA):Option Obj→Option Obj→Option (Option Obj×List TA)
 |some (.box k v),some (.box _ w)=>(auP G0 G1 n0 g v w).bind fun x=>some (some (.box k x.1),x.2)
 |x,y=>if qja x y then some (x,g) else none
def auH (G0 G1:List TA) (n0:Nat):List TA→Heap→Heap→Option (Heap×List TA)
 |g,[],[]=>some ([],g)
 |g,v::r,w::r'=>(auO G0 G1 n0 g v w).bind fun x=>(auH G0 G1 n0 x.2 r r').bind fun y=>some (x.1::y.1,y.2)
 | _,_,_=>none
def auS (n0:Nat) (x:Fr×Heap×List TA) (G0:List TA) (σ:AS):Option (Fr×Heap×List TA) :=
 (auF (G0++x.2.2) σ.G n0 x.2.2 x.1 σ.fr).bind fun a=>(auH (G0++x.2.2) σ.G n0 a.2 x.2.1 σ.H).bind fun b=>some (a.1,b.1,b.2)
abbrev Bd:=List (Nat×DV)
def qwh (n0:Nat) (v w:DV):Option Bd:=match v with
 | .tok n=>if Nat.ble n0 n then some [(n,w)] else if v.same w then some [] else none
 | _=>if v.same w then some [] else none
def inL (n0:Nat):List DV→List DV→Option Bd
 | [],[]=>some []
 |v::vs,w::ws=>match qwh n0 v w,inL n0 vs ws with|some a,some b=>some (a++b)|_,_=>none
 | _,_=>none
def inD (n0:Nat):DV→DV→Option Bd
 | .a cs,.a ds=>inL n0 cs ds
 |v,w=>qwh n0 v w
def inP (n0:Nat):PV→PV→Option Bd
 | .d v,.d w=>inD n0 v w
 |v,w=>if v.same w then some [] else none
def inF (n0:Nat):Fr→Fr→Option Bd
 | [],[]=>some []
 | (j,v)::r,(j',w)::r'=>if Nat.beq j j' then match inP n0 v w,inF n0 r r' with|some a,some b=>some (a++b)|_,_=>none else none
 | _,_=>none
def inO (n0:Nat):Option Obj→Option Obj→Option Bd
 |some (.box k v),some (.box k' w)=>if K.eq k k' then inP n0 v w else none
 |x,y=>if qja x y then some [] else none
def inH (n0:Nat):Heap→Heap→Option Bd
 | [],[]=>some []
 |v::r,w::r'=>match inO n0 v w,inH n0 r r' with|some a,some b=>some (a++b)|_,_=>none
 | _,_=>none
def inS (n0:Nat) (fr:Fr) (H:Heap) (σ:AS):Option Bd:=match inF n0 fr σ.fr,inH n0 H σ.H with
 |some a,some b=>some (a++b)
 | _,_=>none
def qmT:Bd→Nat→Option DV
 | [],_=>none
 | (m,v)::r,n=>if Nat.beq m n then some v else qmT r n
def thD (n0 m:Nat) (bd:Bd) (n:Nat):DV:=if Nat.ble n0 n&&Nat.blt n (n0+m) then match qmT bd n with
  |some v=>v
  |none=>.tok n
 else .tok n
def qlK:DV→Option (Nat×Int)
 | .i _ c=>some (0,c)
 | .tok m=>some (m,0)
 | .s x=>some (0,x.length)
 | .l _ es _=>some (0,es.length)
 | _=>none
def thF (th:Nat→DV) (fx:List Fact) (f:Fact):Bool:=match qlK (th f.1),qlK (th f.2.1) with
 |some a,some b=>leq fx a b f.2.2
 | _,_=>false
def thT (G:List TA) (th:Nat→DV):Nat→List TA→Bool
 | _,[]=>true
 |n,t::ts=>isT G t (th n)&&thT G th (n+1) ts
def qmy (th:Nat→DV) (n0:Nat) (fr:Fr) (H:Heap) (g:List TA) (cs:List Fact) (σ:AS):Bool :=
 qhP (fr.ins th) σ.fr&&qhu (H.ins th) σ.H&&thT σ.G th n0 g&&cs.all (thF th σ.fx)
def qrd (th:Nat→DV) (n0 m:Nat) (fx:List Fact) (ms:Bool×Nat×Nat):Bool:=match qlK (th ms.2.1) with
 |some a=>Nat.blt ms.2.1 (n0+m)&&(if ms.1 then Nat.blt ms.2.2 n0&&leq fx (ms.2.1,0) a 1&&leq fx (ms.2.1,0) (ms.2.2,0) 1 else leq fx a (ms.2.1,0) 1&&leq fx z0 (ms.2.1,0) 1)
 |none=>false
def qcv (x:Ex×AS):Bool:=isN x.1
def qGj:Ex→Bool
 | .exit _=>true
 | _=>false
def qkP (live:List Nat) (n0:Nat) (fr:Fr) (H:Heap) (g:List TA) (cs:List Fact) (ms:Bool×Nat×Nat) (σ:AS):Bool :=
 match inS n0 fr H (σ.gc live) with
 |some bd=>qmy (thD n0 g.length bd) n0 fr H g cs (σ.gc live)&&qrd (thD n0 g.length bd) n0 g.length (σ.gc live).fx ms
 |none=>false
def qsa (n0:Nat) (fr:Fr) (H:Heap) (g:List TA) (cs:List Fact) (σ0:AS):Bool:=match inS n0 fr H σ0 with
 |some bd=>qmy (thD n0 g.length bd) n0 fr H g cs σ0&&(cs.all (qlv (n0+g.length))&&(fr.bnd (n0+g.length)&&qhD (n0+g.length) H))
 |none=>false
def qrt (bd:Bd):Nat→List TA→List Fact
 | _,[]=>[]
 |n,.i _::ts=>(match qmT bd n with
  |some (.i _ c)=>[(0,n,c)]
  |some (.tok m)=>[(n,m,0),(0,n,0)]
  | _=>[])++qrt bd (n+1) ts
 |n,_::ts=>qrt bd (n+1) ts
def qqR (bd:Bd):Nat→List TA→List (Nat×Int)
 | _,[]=>[]
 |n,.i _::ts=>(match qmT bd n with
  |some (.i _ c)=>[(n,c)]
  | _=>[])++qqR bd (n+1) ts
 |n,_::ts=>qqR bd (n+1) ts
def qrX (G:List TA):Fr→List Nat
 | []=>[]
 | (_,.d (.tok m))::r=>(match G[m]? with
  |some (.l ..)|some (.e _)|some .s=>[m]
  | _=>[])++qrX G r
 | _::r=>qrX G r
def qJQ (σ0:AS) (bd:Bd) (g:List TA):List Fact :=
 let is:=qqR bd σ0.G.length g
 qrt bd σ0.G.length g++(is.flatMap fun a=>(is.flatMap fun b=>if Nat.beq a.1 b.1 then [] else [(a.1,b.1,b.2-a.2)])++(qrX σ0.G σ0.fr).map fun m=>(a.1,m,0))
def qka (live:List Nat) (n0:Nat) (fr:Fr) (H:Heap) (g:List TA) (cs:List Fact) (l:List AS):List (Bool×Nat×Nat)→Option (Bool×Nat×Nat)
 | []=>none
 |m::r=>if l.all (qkP live n0 fr H g cs m) then some m else qka live n0 fr H g cs l r
def qLn (n0:Nat) (g:List TA) (l:List AS):List (Bool×Nat×Nat):=match l with
 | []=>[(true,0,0)]
 | σ::_=>(List.range g.length).flatMap fun i=>((σ.fx.filter fun f=>Nat.beq f.1 (n0+i)&&Nat.blt f.2.1 n0&&decide (1≤f.2.2)).map fun f=>(true,n0+i,f.2.1))++(σ.fx.flatMap fun f=>if Nat.beq f.1 (n0+i)&&Nat.ble n0 f.2.1&&decide (1≤f.2.2) then (σ.fx.filter fun f'=>Nat.beq f'.1 f.2.1&&Nat.blt f'.2.1 n0&&decide (0≤f'.2.2)).map fun f'=>(true,n0+i,f'.2.1) else [])++[(false,n0+i,0)]
def qjl (f:AS→Option (List (Ex×AS))) (live:List Nat) (σ0:AS):Nat→Fr×Heap×List TA→List Fact→Option (List (Ex×AS))
 | 0,_,_=>none
 |n+1,x,bad =>
  let n0:=σ0.G.length
  match inS n0 x.1 x.2.1 σ0 with
  |none=>none
  |some bd =>
   let cs:=((qJQ σ0 bd x.2.2).filter fun c => !(bad.any fun b=>Nat.beq b.1 c.1&&(Nat.beq b.2.1 c.2.1&&decide (b.2.2=c.2.2)))).filter (thF (thD n0 x.2.2.length bd) σ0.fx)
   let σg:AS:=({ σ0 with fr:=x.1,H:=x.2.1 }.news x.2.2).add cs
   match f σg with
   |none=>none
   |some outs =>
    let rounds:=(outs.filter qcv).map (·.2)
    match rounds.foldlM (fun y σ=>auS n0 y σ0.G (σ.gc live)) x with
    |none=>none
    |some y =>
     if Nat.blt x.2.2.length y.2.2.length then qjl f live σ0 n y bad
     else
      let bads:=cs.filter fun c => !(rounds.all fun σ=>match inS n0 x.1 x.2.1 (σ.gc live) with|some b=>thF (thD n0 x.2.2.length b) (σ.gc live).fx c|none=>false)
      if !bads.isEmpty then qjl f live σ0 n x (bads++bad)
      else if qsa n0 x.1 x.2.1 x.2.2 cs σ0 then
       match qka live n0 x.1 x.2.1 x.2.2 cs rounds (qLn n0 x.2.2 rounds) with
       |some _=>some (outs.filter fun o => !qcv o)
       |none=>none
      else none
def qlP (f:AS→Option (List (Ex×AS))) (live:List Nat):Nat→AS→Option (List (Ex×AS))
 | 0,_=>none
 |n+1,σ =>
  let σ0:=σ.gc live
  match f σ0 with
  |none=>none
  |some outs =>
   if outs.any fun o=>qGj o.1 then
    match ((outs.filter qcv).map (·.2)).foldlM (fun y σ=>auS σ0.G.length y σ0.G (σ.gc live)) (σ0.fr,σ0.H,[]) with
    |some x=>qjl f live σ0 6 x []
    |none=>none
   else qiM (fun o=>if qcv o then qlP f live n o.2 else some [o]) outs
def qfz (S:List (Nat×Sg)):PC→AS→Option (List (Ex×AS))
 | .skip,σ=>some [(.norm,σ)]
 | .reg ops kill,σ=>qnc S false ops [] kill σ
 | .regD ops bf kill,σ=>qnc S true ops bf kill σ
 | .seq a b,σ=>match qfz S a σ with
  |some l=>qiM (fun o=>if qcv o then qfz S b o.2 else some [o]) l
  |none=>none
 | .cond c x y,σ=>match rdA σ.fr c with
  | .d (.b true)=>qfz S x σ
  | .d (.b false)=>qfz S y σ
  | _=>none
 | .block id x,σ=>match qfz S x σ with
  |some l=>some (l.map fun o=>match o.1 with | .exit j=>if j==id then (.norm,o.2) else o|_=>o)
  |none=>none
 | .loop live x,σ=>qlP (qfz S x) live 40 σ
 | .exit id,σ=>some [(.exit id,σ)]
 | .ret,σ=>some [(.ret,σ)]
 | _,_=>none
end Go.Sim
end
section
namespace Go.Sim
section
variable {d : Nat} {ρ : Nat → DV}
theorem Keq {a b:K} (h:K.eq a b=true):a=b:=by
 cases a<;>cases b<;>simp_all[K.eq]
theorem qsV : ∀{n:Nat} {x:DV},XD n x→XD (n+1) x
 | 0,x,h=>⟨[],h,by simp,fun e he=>by cases he⟩
 |n+1,x,⟨es,h,hl,he⟩=>⟨es,h,hl,fun e hm=>by
   obtain⟨o,m,s,a,h1,h2,h3,h4,h5⟩:=he e hm;exact⟨o,m,s,a,h1,h2,h3,h4,qsV h5⟩⟩
theorem qqr {n m:Nat} {x:DV} (h:n≤m) (hx:XD n x):XD m x:=by
 induction m with
 |zero =>
  have:n=0:=by omega
  subst this;exact hx
 |succ m ih =>
  by_cases e:n=m+1
  ·subst e;exact hx
  ·exact qsV (ih (by omega))
theorem qmG {n m:Nat} {x:DV} (h:n≤m) (hx:XT d m x):XT d n x:=by
 match n,m,h with
 | 0,0,_=>exact hx
 | 0,1,_=>exact⟨d,hx⟩
 | 0,m+2,_=>obtain⟨k,_,hk⟩:=hx;exact⟨k,hk⟩
 | 1,1,_=>exact hx
 | 1,m+2,_=>obtain⟨k,hl,hk⟩:=hx;exact qqr (by omega) hk
 |n+2,m+2,_=>exact hx
mutual
theorem qsb : ∀(t u:TA) {x:DV},TA.sub t u=true→Hs d u x→Hs d t x
 | .b,.b,_,_,hx=>hx
 | .i k,.i k1,_,h,hx=>by
  have:k=k1:=of_decide_eq_true h
  subst this;exact hx
 | .s,.s,_,_,hx=>hx
 | .e n,.e m,_,h,hx=>qmG (Nat.le_of_ble_eq_true h) hx
 | .l k m ts,.l k1 m1 us,_,h,hx=>by
  rw[TA.sub,zzf,zzf] at h
  have:=Keq h.1
  subst this;obtain⟨es,t,h1,h2,h3,h4⟩:=hx;exact⟨es,t,h1,h2,Nat.le_trans h3 (Nat.le_of_ble_eq_true h.2.1),fun e he=>by
   obtain⟨cs,e1,e2⟩:=h4 e he;exact⟨cs,e1,qza ts us h.2.2 e2⟩⟩
 | .b,.i _,_,h,_ | .b,.s,_,h,_ | .b,.e _,_,h,_ | .b,.l ..,_,h,_=>by cases h
 | .i _,.b,_,h,_ | .i _,.s,_,h,_ | .i _,.e _,_,h,_ | .i _,.l ..,_,h,_=>by cases h
 | .s,.b,_,h,_ | .s,.i _,_,h,_ | .s,.e _,_,h,_ | .s,.l ..,_,h,_=>by cases h
 | .e _,.b,_,h,_ | .e _,.i _,_,h,_ | .e _,.s,_,h,_ | .e _,.l ..,_,h,_=>by cases h
 | .l ..,.b,_,h,_ | .l ..,.i _,_,h,_ | .l ..,.s,_,h,_ | .l ..,.e _,_,h,_=>by cases h
theorem qza : ∀(ts us:List TA) {xs:List DV},TA.subL ts us=true→HsL d us xs→HsL d ts xs
 | [],[],_,_,hx=>hx
 |t::ts,u::us,[],_,hx=>hx.elim
 |t::ts,u::us,x::xs,h,hx=>by
  rw[TA.subL,zzf] at h;exact⟨qsb t u h.1 hx.1,qza ts us h.2 hx.2⟩
 | [],_::_,_,h,_=>by cases h
 | _::_,[],_,h,_=>by cases h
end
def qiJ (d:Nat) (G:List TA) (ρ:Nat→DV):Prop:=∀n t,G[n]? = some t→Hs d t (ρ n)
mutual
theorem qg0 {G:List TA} (hG:qiJ d G ρ) : ∀(t:TA) (v:DV),isT G t v=true→Hs d t (v.ins ρ)
 |t,.tok n,h=>by
  unfold isT at h;split at h
  ·rename_i u e;exact qsb t u h (hG n u e)
  ·cases h
 |t,.b c,h=>by
  unfold isT at h;split at h
  ·exact⟨c,rfl⟩
  ·cases h
 |t,.i k n,h=>by
  unfold isT at h;split at h
  ·rename_i k';rw[zzf] at h
   have:=of_decide_eq_true h.1
   subst this;exact⟨n,rfl,h.2⟩
  ·cases h
 |t,.s x,h=>by
  unfold isT at h;split at h
  ·have:=Nat.le_of_ble_eq_true h
   exact⟨x,rfl,Nat.le_trans this (by decide)⟩
  ·cases h
 |t,.l k es tt,h=>by
  unfold isT at h;split at h
  ·rename_i k' m ts;simp only[zzf] at h;have h1:=Keq h.1.1
   subst h1;refine⟨DV.insL ρ es,tt,rfl,?_,?_,qvB hG k ts es h.2⟩
   ·rw[qcE];exact Nat.le_trans (Nat.le_of_ble_eq_true h.1.2.2) (by decide)
   ·rw[qcE];exact Nat.le_of_ble_eq_true h.1.2.1
  ·cases h
 | _,.a _,h|_,.np,h|_,.nf,h|_,.ni,h|_,.nm,h|_,.ifc ..,h=>by unfold isT at h;cases h
theorem qrU {G:List TA} (hG:qiJ d G ρ) : ∀(ts:List TA) (vs:List DV),qiA G ts vs=true→HsL d ts (DV.insL ρ vs)
 |ts,[],h=>by
  unfold qiA at h
  have:=List.isEmpty_iff.1 h
  subst this;exact trivial
 |ts,v::vs,h=>by
  unfold qiA at h;split at h
  ·rename_i t us;rw[zzf] at h;exact⟨qg0 hG t v h.1,qrU hG us vs h.2⟩
  ·cases h
theorem qvB {G:List TA} (hG:qiJ d G ρ) (k:K) (ts:List TA) : ∀(es:List DV),qnJ G k ts es=true→∀e∈DV.insL ρ es,∃cs,mkD k cs=some e∧HsL d ts cs
 | [],_,e,he=>by cases he
 |v::vs,h,e,he=>by
  unfold qnJ at h;rw[zzf] at h
  rcases List.mem_cons.1 he with e1|he
  ·subst e1;have h1:=h.1
   split at h1
   ·rename_i n cs;rw[zzf] at h1;have hl:=Nat.eq_of_beq_eq_true h1.1
    refine⟨DV.insL ρ cs,?_,qrU hG ts cs h1.2⟩;simp only[mkD,qcE];rw[if_pos hl];rfl
   ·split at h1
    ·rename_i t;exact⟨[v.ins ρ],rfl,qg0 hG t _ h1,trivial⟩
    ·cases h1
   ·cases h1
  ·exact qvB hG k ts vs h.2 e he
end
def HsK (d:Nat) (kt:K×List TA) (x:DV):Prop:=∃cs,mkD kt.1 cs=some x∧HsL d kt.2 cs
theorem qHn {G:List TA} (hG:qiJ d G ρ) {kt:K×List TA} {v:DV} (h:isK G kt v=true):HsK d kt (v.ins ρ):=by
 obtain⟨k,ts⟩:=kt;unfold isK at h;split at h
 ·rename_i n cs hk;simp only at hk;subst hk;rw[zzf] at h;refine⟨DV.insL ρ cs,?_,qrU hG _ cs h.2⟩;simp only[mkD,qcE];rw[if_pos (Nat.eq_of_beq_eq_true h.1)];rfl
 ·rename_i hk;simp only at hk;subst hk;split at h
  ·rename_i t e;simp only at e;subst e;exact⟨[_],rfl,qg0 hG t _ h,trivial⟩
  ·cases h
 ·cases h
def qbu (d:Nat):List (K×List TA)→List DV→Prop
 | [],[]=>True
 |k::ks,v::vs=>HsK d k v∧qbu d ks vs
 | _,_=>False
theorem qo9 {G:List TA} (hG:qiJ d G ρ) : ∀{ks:List (K×List TA)} {vs:List DV},qif G ks vs=true→qbu d ks (DV.insL ρ vs)
 | [],[],_=>trivial
 |k::ks,v::vs,h=>by
  rw[qif,zzf] at h;exact⟨qHn hG h.1,qo9 hG h.2⟩
 | [],_::_,h=>by cases h
 | _::_,[],h=>by cases h
end
end Go.Sim
end
section
namespace Go.Sim
section
variable {d : Nat} {ρ ρ' : Nat → DV} {V : Nat → List DV → Option (PV × Bool)}
structure Mod (d:Nat) (V:Nat→List DV→Option (PV×Bool)) (σ:AS) (ρ:Nat→DV):Prop where
 sc:Sc ρ
 ty:qiJ d σ.G ρ
 fx : ∀f∈σ.fx,Fact.ok ρ f
 z:ρ 0 = .i .i64 0
 cs : ∀c∈σ.cs,∃own,V c.1 (DV.insL ρ c.2.1)=some (c.2.2.ins ρ,own)
def Agr (n:Nat) (ρ ρ':Nat→DV):Prop:=∀m,m<n→ρ' m=ρ m
structure AS.wf (σ:AS):Prop where
 st : ∀ρ ρ',Sc ρ→Sc ρ'→Agr σ.G.length ρ ρ'→σ.st.ins ρ'=σ.st.ins ρ
 cs : ∀ρ ρ',Sc ρ→Sc ρ'→Agr σ.G.length ρ ρ'→∀c∈σ.cs,DV.insL ρ' c.2.1=DV.insL ρ c.2.1∧c.2.2.ins ρ'=c.2.2.ins ρ
 fx : ∀f∈σ.fx,f.1<σ.G.length∧f.2.1<σ.G.length
 z:0<σ.G.length
theorem Agr.le {n m:Nat} (h:n≤m) (a:Agr m ρ ρ'):Agr n ρ ρ':=fun k hk=>a k (by omega)
theorem Agr.trans {n:Nat} {ρ'':Nat→DV} (a:Agr n ρ ρ') (b:Agr n ρ' ρ''):Agr n ρ ρ'':=fun k hk=>(b k hk).trans (a k hk)
theorem Agr.rfl' {n:Nat}:Agr n ρ ρ:=fun _ _=>rfl
theorem qxG {t:TA} {x:DV} (h:Hs d t x) : ∀cs,x≠.a cs:=by
 intro cs e;subst e;cases t with
 |b=>obtain⟨c,h⟩:=h;cases h
 |i k=>obtain⟨n,h,_⟩:=h;cases h
 |s=>obtain⟨l,h,_⟩:=h;cases h
 |l k m ts=>obtain⟨es,t,h,_⟩:=h;cases h
 |e n =>
  have:XT d 0 (.a cs):=qmG (Nat.zero_le n) h
  obtain⟨m,hm⟩:=this;cases m with
  |zero=>cases hm
  |succ m=>obtain⟨es,h,_⟩:=hm;cases h
def upn (ρ:Nat→DV) (n:Nat) (xs:List DV):Nat→DV:=fun m=>if n≤m then match xs[m-n]? with|some x=>x|none=>ρ m else ρ m
theorem qhd {n m:Nat} {xs:List DV} (h:m<n):upn ρ n xs m=ρ m:=by unfold upn;rw[if_neg (by omega)]
theorem qgL (n:Nat) (xs:List DV):Agr n ρ (upn ρ n xs):=fun _ h=>qhd h
theorem qfn {n i:Nat} {xs:List DV} {x:DV} (h:xs[i]? = some x):upn ρ n xs (n+i)=x:=by
 unfold upn;rw[if_pos (by omega),show n+i-n=i by omega,h]
theorem qqV : ∀{ts:List TA} {xs:List DV},HsL d ts xs→∀(i:Nat) (t:TA),ts[i]? = some t→∃x,xs[i]? = some x∧Hs d t x
 | _::_,x::_,h,0,_,e=>by cases e;exact⟨x,rfl,h.1⟩
 | _::ts,_::_,h,i+1,u,e=>qqV (ts:=ts) h.2 i u e
 | [],_,_,_,_,e=>by simp at e
 | _::_,[],h,_,_,_=>h.elim
theorem qnq : ∀{ts:List TA} {xs:List DV},HsL d ts xs→ts.length=xs.length
 | [],[],_=>rfl
 |t::ts,x::xs,h=>by rw[zzn,zzn,qnq h.2]
 | [],_::_,h=>h.elim
 | _::_,[],h=>h.elim
theorem qya : ∀{ts:List TA} {xs:List DV},HsL d ts xs→∀x∈xs,∀cs,x≠.a cs
 | [],[],_,_,hx=>by cases hx
 |t::ts,x::xs,h,y,hy=>by
  rcases List.mem_cons.1 hy with e|hy
  ·subst e;exact qxG h.1
  ·exact qya h.2 y hy
 | [],_::_,h,_,_=>h.elim
 | _::_,[],h,_,_=>h.elim
theorem qzf {ts:List TA} {xs:List DV} {n:Nat} (hs:Sc ρ) (h:HsL d ts xs):Sc (upn ρ n xs):=by
 intro m cs;unfold upn;split
 ·split
  ·rename_i x e;exact qya h x (List.mem_of_getElem? e) cs
  ·exact hs m cs
 ·exact hs m cs
theorem quL {xs:List DV} : ∀(ts:List TA) (n k:Nat),ts.length+k=xs.length→DV.insL (upn ρ n xs) (qcw (n+k) ts)=xs.drop k
 | [],n,k,h=>by
  have:k=xs.length:=by simpa using h
  subst this;rw[List.drop_length];rfl
 |t::ts,n,k,h=>by
  have hk:k<xs.length:=by rw[zzn] at h;omega
  rw[qcw,DV.insL,show n+k+1=n+(k+1) by omega,quL ts n (k+1) (by rw[zzn] at h;omega)]
  rw[DV.ins,qfn (zze hk),List.getElem_cons_drop]
theorem qD4 {t:TA} {n:Nat} (hz:ρ 0 = .i .i64 0) (h:Hs d t (ρ n)) : ∀f∈qln n t,Fact.ok ρ f:=by
 intro f hf;have h0:vI (ρ 0)=0:=by rw[hz];rfl
 have hm:(maxLen:Int)=9223372036854775807:=by decide
 have hx : ∀es:List DV,es.length≤maxLen→(es.length:Int)≤9223372036854775807:=fun es h=>by omega
 have key:0≤vI (ρ n)→vI (ρ n)≤9223372036854775807→f∈[((0:Nat),n,(0:Int)),(n,0,-qf5)]→Fact.ok ρ f:=by
  intro a b hf;simp only[List.mem_cons,List.not_mem_nil,or_false] at hf;unfold Fact.ok;rcases hf with e|e
  ·subst e;simp only;rw[h0];omega
  ·subst e;simp only;rw[h0];unfold qf5;omega
 unfold qln at hf;split at hf
 ·obtain⟨l,e,hl⟩:=h;refine key ?_ ?_ hf<;>rw[e]<;>simp only[vI]<;>omega
 ·rename_i m;have:XT d 0 (ρ n):=qmG (Nat.zero_le m) h
  obtain⟨k,hk⟩:=this;obtain⟨es,t,e,hl⟩ : ∃es t,ρ n = .l (some 4) es t∧es.length≤maxLen:=by
   cases k with
   |zero=>exact⟨[],false,hk,Nat.zero_le _⟩
   |succ k=>obtain⟨es,h,hl,_⟩:=hk;exact⟨es,false,h,by unfold qa8 at hl;have:maxLen=9223372036854775807:=rfl;omega⟩
  refine key ?_ ?_ hf<;>rw[e]<;>simp only[vI]<;>omega
 ·obtain⟨es,t,e,hl,_⟩:=h;refine key ?_ ?_ hf<;>rw[e]<;>simp only[vI]<;>omega
 ·obtain⟨m,e,hw⟩:=h;have h1:0≤m∧m≤255:=by
   simp[Lit.wf,IntKind.min,IntKind.max,IntKind.signed,IntKind.bits] at hw;omega
  simp only[List.mem_cons,List.not_mem_nil,or_false] at hf;unfold Fact.ok;rcases hf with e1|e1
  ·subst e1;simp only;rw[h0,e];simp only[vI];omega
  ·subst e1;simp only;rw[h0,e];simp only[vI];omega
 ·cases hf
end
end Go.Sim
end
section
namespace Go.Sim
section
variable {d : Nat} {ρ ρ' : Nat → DV} {V : Nat → List DV → Option (PV × Bool)} {σ : AS}
theorem qm7 (hz:ρ 0 = .i .i64 0) : ∀(ts:List TA) (n:Nat),(∀i t,ts[i]? = some t→Hs d t (ρ (n+i)))→∀f∈fxs n ts,Fact.ok ρ f
 | [],_,_,f,hf=>by cases hf
 |t::ts,n,h,f,hf=>by
  rcases List.mem_append.1 hf with hf|hf
  ·exact qD4 hz (h 0 t rfl) f hf
  ·refine qm7 hz ts (n+1) (fun i u e => ?_) f hf
   have:=h (i+1) u e
   rwa [show n+(i+1)=n+1+i by omega] at this
theorem qGK {t:TA} {n:Nat} : ∀f∈qln n t,f.1≤n∧f.2.1≤n:=by
 intro f hf;unfold qln at hf;split at hf<;>simp at hf<;>rcases hf with e|e<;>subst e<;>simp
theorem qmP : ∀(ts:List TA) (n:Nat),∀f∈fxs n ts,f.1<n+ts.length∧f.2.1<n+ts.length
 | [],_,f,hf=>by cases hf
 |t::ts,n,f,hf=>by
  rw[zzn];rcases List.mem_append.1 hf with hf|hf
  ·have:=qGK f hf;omega
  ·have:=qmP ts (n+1) f hf;omega
theorem qzg {f:Fact} {n:Nat} (h1:f.1<n) (h2:f.2.1<n) (a:Agr n ρ ρ') (h:Fact.ok ρ f):Fact.ok ρ' f:=by
 unfold Fact.ok at h⊢;rw[a _ h1,a _ h2];exact h
theorem qm8 (hM:Mod d V σ ρ) (hW:σ.wf) {ts:List TA} {xs:List DV} (h:HsL d ts xs):Mod d V (σ.news ts) (upn ρ σ.G.length xs):=by
 have hs:=qzf (n:=σ.G.length) hM.sc h
 have ha:Agr σ.G.length ρ (upn ρ σ.G.length xs):=qgL _ _
 have hz:upn ρ σ.G.length xs 0 = .i .i64 0:=by rw[ha 0 hW.z];exact hM.z
 have hn : ∀i t,ts[i]? = some t→Hs d t (upn ρ σ.G.length xs (σ.G.length+i)):=by
  intro i t e;obtain⟨x,e1,e2⟩:=qqV h i t e;rw[qfn e1];exact e2
 refine⟨hs,?_,?_,hz,?_⟩
 ·intro n t e;change (σ.G++ts)[n]? = some t at e
  by_cases hlt:n<σ.G.length
  ·rw[List.getElem?_append_left hlt] at e;rw[ha n hlt];exact hM.ty n t e
  ·rw[List.getElem?_append_right (by omega)] at e
   have:=hn _ t e
   rwa [show σ.G.length+(n-σ.G.length)=n by omega] at this
 ·intro f hf;rcases List.mem_append.1 hf with hf|hf
  ·exact qm7 hz ts _ hn f hf
  ·exact qzg (hW.fx f hf).1 (hW.fx f hf).2 ha (hM.fx f hf)
 ·intro c hc;obtain⟨own,h1⟩:=hM.cs c hc
  have:=hW.cs _ _ hM.sc hs ha c hc
  exact⟨own,by rw[this.1,this.2];exact h1⟩
theorem qiy (ts:List TA):(σ.news ts).G.length=σ.G.length+ts.length:=by
 show (σ.G++ts).length=_
 rw[zzp]
theorem qnQ (hW:σ.wf) (ts:List TA):(σ.news ts).wf:=by
 have hl:=qiy (σ:=σ) ts
 refine⟨fun ρ ρ' h h' a=>hW.st ρ ρ' h h' (a.le (by omega)),fun ρ ρ' h h' a=>hW.cs ρ ρ' h h' (a.le (by omega)),?_,by have:=hW.z;omega⟩
 intro f hf;rw[hl];rcases List.mem_append.1 hf with hf|hf
 ·exact qmP ts _ f hf
 ·have:=hW.fx f hf;omega
theorem qoR (hM:Mod d V σ ρ) {l:List Fact} (h : ∀f∈l,Fact.ok ρ f):Mod d V (σ.add l) ρ :=
 ⟨hM.sc,hM.ty,fun f hf=>(List.mem_append.1 hf).elim (h f) (hM.fx f),hM.z,hM.cs⟩
theorem qqp (hW:σ.wf) {l:List Fact} (h : ∀f∈l,f.1<σ.G.length∧f.2.1<σ.G.length):(σ.add l).wf :=
 ⟨hW.st,hW.cs,fun f hf=>(List.mem_append.1 hf).elim (h f) (hW.fx f),hW.z⟩
def nv (ρ:Nat→DV) (x:Nat×Int):Int:=vI (ρ x.1)+x.2
theorem qfi (hM:Mod d V σ ρ) (hW:σ.wf) {v:PV} {k:IntKind} {x:Nat×Int} (h:opI σ.G v=some (k,x)):v.ins ρ = .d (.i k (nv ρ x))∧x.1<σ.G.length∧(Lit.int k (nv ρ x)).wf=true:=by
 unfold opI at h;split at h
 ·rename_i k' n;split at h
  ·rename_i hw;cases h;have e:nv ρ (0,n)=n:=by unfold nv;rw[hM.z];simp[vI]
   rw[e];exact⟨rfl,hW.z,hw⟩
  ·cases h
 ·rename_i m;split at h
  ·rename_i k' e;cases h;obtain⟨n,h1,h2⟩:=hM.ty m _ e;have e1:nv ρ (m,0)=n:=by unfold nv;simp only;rw[h1];simp[vI]
   rw[e1];exact⟨congrArg PV.d h1,(zzk.1 e).1,h2⟩
  ·cases h
 ·cases h
theorem qb4 (hM:Mod d V σ ρ) {x y:Nat×Int} {c:Int} (h:leq σ.fx x y c=true):nv ρ x+c≤nv ρ y:=by
 have:=qvC hM.fx 4 _ _ _ h
 unfold nv;omega
theorem qfV {x y:Nat×Int} {c:Int} (h:nv ρ x+c≤nv ρ y):Fact.ok ρ (fle x y c):=by
 unfold Fact.ok fle;unfold nv at h;simp only;omega
end
end Go.Sim
end
section
namespace Go.Sim
section
variable {d : Nat} {ρ ρ' : Nat → DV} {V : Nat → List DV → Option (PV × Bool)} {σ : AS}
structure Good (d:Nat) (V:Nat→List DV→Option (PV×Bool)) (σ:AS) (ρ:Nat→DV) (x:PV×AS) (ρ':Nat→DV):Prop where
 ag:Agr σ.G.length ρ ρ'
 m:Mod d V x.2 ρ'
 wf:x.2.wf
 fr:x.2.fr=σ.fr
 le:σ.G.length≤x.2.G.length
 v : ∀ρ1 ρ2,Sc ρ1→Sc ρ2→Agr x.2.G.length ρ1 ρ2→x.1.ins ρ2=x.1.ins ρ1
def qbk (d:Nat) (V:Nat→List DV→Option (PV×Bool)) (σ:AS) (ρ:Nat→DV) (l:List (PV×AS)) (ev:Option (PV×Heap)):Prop :=
 ∃x∈l,∃ρ',Good d V σ ρ x ρ'∧ev=some (x.1.ins ρ',x.2.H.ins ρ')
theorem qhy (hM:Mod d V σ ρ) (hW:σ.wf) {l:List (PV×AS)} {v:DV} {fs:List Fact} (hx:(PV.d v,σ.add fs)∈l) (hv:v.noT=true) (h : ∀f∈fs,Fact.ok ρ f) (hb : ∀f∈fs,f.1<σ.G.length∧f.2.1<σ.G.length):qbk d V σ ρ l (some (.d v,σ.H.ins ρ)):=by
 refine⟨_,hx,ρ,⟨Agr.rfl',qoR hM h,qqp hW hb,rfl,zzt _,fun ρ1 ρ2 _ _ _ => ?_⟩,?_⟩
 ·show (PV.d v).ins ρ2=(PV.d v).ins ρ1
  rw[qhx hv,qhx hv]
 ·show _=some ((PV.d v).ins ρ,_)
  rw[qhx hv];rfl
theorem qrD (hM:Mod d V σ ρ) (hW:σ.wf) {b:Bool} {l:List (PV×AS)} (h:tru σ b=some l):qbk d V σ ρ l (some (.d (.b b),σ.H.ins ρ)):=by
 cases h;exact qhy (fs:=[]) hM hW (List.mem_singleton.2 rfl) rfl (fun f hf=>by cases hf) (fun f hf=>by cases hf)
theorem qcA (hM:Mod d V σ ρ) (hW:σ.wf) {k:IntKind} {fs:List Fact} {l:List (PV×AS)} {n:Int} (h:qcF σ k fs=some l) (hn:(Lit.int k n).wf=true) (hf : ∀f∈fs,Fact.ok (upn ρ σ.G.length [.i k n]) f) (hb : ∀f∈fs,f.1<σ.G.length+1∧f.2.1<σ.G.length+1):qbk d V σ ρ l (some (.d (.i k n),σ.H.ins ρ)):=by
 cases h;have hL:HsL d [TA.i k] [DV.i k n]:=⟨⟨n,rfl,hn⟩,trivial⟩
 have hM':=qm8 hM hW hL
 have hl:(σ.news [.i k]).G.length=σ.G.length+1:=qiy _
 refine⟨_,List.mem_singleton.2 rfl,upn ρ σ.G.length [.i k n],⟨qgL _ _,qoR hM' hf,qqp (qnQ hW _) (by rw[hl];exact hb),rfl,?_,fun ρ1 ρ2 _ _ a => ?_⟩,?_⟩
 ·show σ.G.length≤(σ.news [.i k]).G.length
  omega
 ·show PV.d (ρ2 σ.G.length)=PV.d (ρ1 σ.G.length)
  rw[a σ.G.length (by show σ.G.length<(σ.news [.i k]).G.length;omega)]
 ·show _=some (PV.d (upn ρ σ.G.length [.i k n] σ.G.length),Heap.ins _ σ.H)
  have e1:upn ρ σ.G.length [.i k n] σ.G.length = .i k n:=qfn (i:=0) rfl
  have e2:=hW.st _ _ hM.sc hM'.sc (qgL _ _)
  have e3:σ.H.ins (upn ρ σ.G.length [.i k n])=σ.H.ins ρ:=congrArg St.H e2
  rw[e1,e3]
theorem ql4 (hM:Mod d V σ ρ) (hW:σ.wf) {a b:Nat×Int} (ha:a.1<σ.G.length) (hb:b.1<σ.G.length) {n:Bool} {l:List (PV×AS)}
  (h:(if leq σ.fx a b 1 then tru σ (!n) else if leq σ.fx b a 0 then tru σ n else some [(.d (.b (!n)),σ.add [fle a b 1]),(.d (.b n),σ.add [fle b a 0])])=some l) :
  qbk d V σ ρ l (some (.d (.b (if nv ρ a<nv ρ b then !n else n)),σ.H.ins ρ)):=by
 split at h
 ·rename_i e
  have:=qb4 hM e
  rw[if_pos (by omega)]
  exact qrD hM hW h
 ·split at h
  ·rename_i e
   have:=qb4 hM e
   rw[if_neg (by omega)]
   exact qrD hM hW h
  ·cases h;by_cases hlt:nv ρ a<nv ρ b
   ·rw[if_pos hlt];exact qhy hM hW (zzr ..) rfl (fun f hf=>by rw[List.mem_singleton.1 hf];exact qfV (by omega)) (fun f hf=>by rw[List.mem_singleton.1 hf];exact⟨ha,hb⟩)
   ·rw[if_neg hlt];exact qhy hM hW (zzi _ (zzr ..)) rfl (fun f hf=>by rw[List.mem_singleton.1 hf];exact qfV (by omega)) (fun f hf=>by rw[List.mem_singleton.1 hf];exact⟨hb,ha⟩)
theorem qxq (hM:Mod d V σ ρ) (hW:σ.wf) {x y:Nat×Int} (hx:x.1<σ.G.length) (hy:y.1<σ.G.length) {n:Bool} {l:List (PV×AS)}
  (h:(if leq σ.fx x y 1||leq σ.fx y x 1 then tru σ n
  else some [(.d (.b (!n)),σ.add [fle x y 0,fle y x 0]),(.d (.b n),σ.add (if leq σ.fx x y 0 then [fle x y 1] else if leq σ.fx y x 0 then [fle y x 1] else []))])=some l) :
  qbk d V σ ρ l (some (.d (.b (if nv ρ x=nv ρ y then !n else n)),σ.H.ins ρ)):=by
 split at h
 ·rename_i e;have:nv ρ x≠nv ρ y:=by
   rcases Bool.or_eq_true _ _▸e with e|e<;>have:=qb4 hM e<;>omega
  rw[if_neg this];exact qrD hM hW h
 ·cases h;by_cases he:nv ρ x=nv ρ y
  ·rw[if_pos he];refine qhy hM hW (zzr ..) rfl (fun f hf => ?_) (fun f hf => ?_)
   ·rcases List.mem_cons.1 hf with e|hf
    ·rw[e];exact qfV (by omega)
    ·rw[List.mem_singleton.1 hf];exact qfV (by omega)
   ·rcases List.mem_cons.1 hf with e|hf
    ·rw[e];exact⟨hx,hy⟩
    ·rw[List.mem_singleton.1 hf];exact⟨hy,hx⟩
  ·rw[if_neg he];refine qhy hM hW (zzi _ (zzr ..)) rfl (fun f hf => ?_) (fun f hf => ?_)
   ·split at hf
    ·rename_i e;have:=qb4 hM e;rw[List.mem_singleton.1 hf];exact qfV (by omega)
    ·split at hf
     ·rename_i e;have:=qb4 hM e;rw[List.mem_singleton.1 hf];exact qfV (by omega)
     ·cases hf
   ·split at hf
    ·rw[List.mem_singleton.1 hf];exact⟨hx,hy⟩
    ·split at hf
     ·rw[List.mem_singleton.1 hf];exact⟨hy,hx⟩
     ·cases hf
theorem qCW (hM:Mod d V σ ρ) (hW:σ.wf) {op:BinOp} {k:IntKind} {x y:Nat×Int} (hx:x.1<σ.G.length) (hy:y.1<σ.G.length) {l:List (PV×AS)} (h:qsq σ op x y=some l) :
  ∃v,qb7 op k (nv ρ x) (nv ρ y)=some v∧qbk d V σ ρ l (some (.d v,σ.H.ins ρ)):=by
 unfold qsq at h;simp only at h;split at h
 ·refine⟨_,rfl,?_⟩
  have:=ql4 hM hW hx hy h
  have e:decide (nv ρ x<nv ρ y)=(if nv ρ x<nv ρ y then !false else false):=by split<;>simp[*]
  rw[e];exact this
 ·refine⟨_,rfl,?_⟩
  have:=ql4 hM hW hy hx h
  have e:decide (nv ρ x>nv ρ y)=(if nv ρ y<nv ρ x then !false else false):=by split<;>simp[*]
  rw[e];exact this
 ·refine⟨_,rfl,?_⟩
  have:=ql4 hM hW hx hy h
  have e:decide (nv ρ x≥nv ρ y)=(if nv ρ x<nv ρ y then !true else true):=by split<;>simp<;>omega
  rw[e];exact this
 ·refine⟨_,rfl,?_⟩
  have:=ql4 hM hW hy hx h
  have e:decide (nv ρ x≤nv ρ y)=(if nv ρ y<nv ρ x then !true else true):=by split<;>simp<;>omega
  rw[e];exact this
 ·refine⟨_,rfl,?_⟩
  have:=qxq hM hW hx hy h
  have e:(nv ρ x==nv ρ y)=(if nv ρ x=nv ρ y then !false else false):=by split<;>simp[*]
  rw[e];exact this
 ·refine⟨_,rfl,?_⟩
  have:=qxq hM hW hx hy h
  have e:(nv ρ x != nv ρ y)=(if nv ρ x=nv ρ y then !true else true):=by split<;>simp[*]
  rw[e];exact this
 ·cases h
end
end Go.Sim
end
section
namespace Go.Sim
section
variable {d : Nat} {ρ ρ' : Nat → DV} {V : Nat → List DV → Option (PV × Bool)} {σ : AS}
theorem qow {n:Int}:(Lit.int .i64 n).wf=true↔-9223372036854775808≤n∧n≤9223372036854775807:=by
 simp[Lit.wf,IntKind.min,IntKind.max,IntKind.signed,IntKind.bits]
theorem qga (k:IntKind) (n:Int):(Lit.int k (k.wrap n)).wf=true:=by
 cases k<;>simp[Lit.wf,IntKind.wrap,IntKind.min,IntKind.max,IntKind.signed,IntKind.bits]<;>(try split)<;>omega
theorem qnb {x:Nat×Int} {xs:List DV} (hx:x.1<σ.G.length):nv (upn ρ σ.G.length xs) x=nv ρ x:=by
 unfold nv;rw[qhd hx]
theorem quF {k:IntKind} {n:Int}:nv (upn ρ σ.G.length [.i k n]) (σ.G.length,0)=n:=by
 unfold nv;have:upn ρ σ.G.length [.i k n] σ.G.length = .i k n:=qfn (i:=0) rfl
 simp only;rw[this];simp[vI]
theorem qfm (hM:Mod d V σ ρ) (c:Int):nv ρ (0,c)=c:=by unfold nv;rw[hM.z];simp[vI]
theorem qA1 {k:IntKind} {a b:Int} (h:(Lit.int k a).wf=true):(Lit.int k (a.tmod b)).wf=true:=by
 have h1:(a.tmod b).natAbs≤a.natAbs:=by rw[Int.natAbs_tmod];exact Nat.mod_le _ _
 have h2:0≤a→0≤a.tmod b:=fun ha=>Int.tmod_nonneg _ ha
 have h3:a≤0→a.tmod b≤0:=fun ha=>by
  have e:(-a).tmod b = -(a.tmod b):=Int.neg_tmod ..
  have:=Int.tmod_nonneg (a:=-a) b (by omega)
  omega
 cases k<;>simp[Lit.wf,IntKind.min,IntKind.max,IntKind.signed,IntKind.bits] at h⊢ <;> omega
theorem qui (hM:Mod d V σ ρ) (hW:σ.wf) {k:IntKind} {x y:Nat×Int} (hx:x.1<σ.G.length) (m:Int) {l:List (PV×AS)} {c1 c2:Int}
  (hy:Nat.beq y.1 0=true→m=nv ρ x+c1∧c2 = -c1)
  (h:qcF σ k (if decide (k = .i64)&&Nat.beq y.1 0&&leq σ.fx x (0,qf5) c1&&leq σ.fx (0,-qf5) x c2 then [fle x (σ.G.length,0) c1,fle (σ.G.length,0) x c2] else [])=some l) :
  qbk d V σ ρ l (some (.d (.i k (k.wrap m)),σ.H.ins ρ)):=by
 have hb : ∀f∈[fle x (σ.G.length,0) c1,fle (σ.G.length,0) x c2],f.1<σ.G.length+1∧f.2.1<σ.G.length+1:=by
  intro f hf;rcases List.mem_cons.1 hf with e|hf
  ·rw[e];exact⟨Nat.lt_succ_of_lt hx,Nat.lt_succ_self _⟩
  ·rw[List.mem_singleton.1 hf];exact⟨Nat.lt_succ_self _,Nat.lt_succ_of_lt hx⟩
 split at h
 ·rename_i e;simp only[zzf,zzq] at e;obtain⟨⟨⟨e1,e2⟩,e3⟩,e4⟩:=e;subst e1;obtain⟨h1,h2⟩:=hy e2;have h3:=qb4 hM e3
  have h4:=qb4 hM e4
  rw[qfm hM] at h3 h4;have hmx:qf5=9223372036854775807:=rfl
  have hw:IntKind.i64.wrap m=m:=by rw[IntKind.wrap_i64];omega
  rw[hw];refine qcA hM hW h (qow.2 (by omega)) (fun f hf => ?_) hb
  rcases List.mem_cons.1 hf with e|hf
  ·rw[e];refine qfV ?_;rw[qnb hx,quF];omega
  ·rw[List.mem_singleton.1 hf];refine qfV ?_;rw[qnb hx,quF];omega
 ·exact qcA hM hW h (qga _ _) (fun f hf=>by cases hf) (fun f hf=>by cases hf)
theorem qEE {n:Nat} (h:Nat.beq n 0=true):n=0:=Nat.eq_of_beq_eq_true h
theorem qBz (hM:Mod d V σ ρ) (hW:σ.wf) {op:BinOp} {k:IntKind} {x y:Nat×Int} (hx:x.1<σ.G.length) (hw:(Lit.int k (nv ρ x)).wf=true) {l:List (PV×AS)} (h:qpY σ op k x y=some l) :
  ∃v,qb7 op k (nv ρ x) (nv ρ y)=some v∧qbk d V σ ρ l (some (.d v,σ.H.ins ρ)):=by
 have hy0:Nat.beq y.1 0=true→nv ρ y=y.2:=by
  intro e;have:y=(0,y.2):=by rw[←qEE e]
  rw[this,qfm hM]
 unfold qpY at h;simp only at h;split at h
 ·refine⟨_,rfl,qui hM hW hx _ (fun e=>⟨by rw[hy0 e],by omega⟩) h⟩
 ·refine⟨_,rfl,qui hM hW hx _ (c1:=0-y.2) (c2:=y.2) (fun e=>⟨by rw[hy0 e];omega,by omega⟩) h⟩
 ·exact⟨_,rfl,qcA hM hW h (qga _ _) (fun f hf=>by cases hf) (fun f hf=>by cases hf)⟩
 ·exact⟨_,rfl,qcA hM hW h (qga _ _) (fun f hf=>by cases hf) (fun f hf=>by cases hf)⟩
 ·exact⟨_,rfl,qcA hM hW h (qga _ _) (fun f hf=>by cases hf) (fun f hf=>by cases hf)⟩
 ·exact⟨_,rfl,qcA hM hW h (qga _ _) (fun f hf=>by cases hf) (fun f hf=>by cases hf)⟩
 ·exact⟨_,rfl,qcA hM hW h (qga _ _) (fun f hf=>by cases hf) (fun f hf=>by cases hf)⟩
 ·split at h
  ·rename_i e;simp only[zzf,Bool.not_eq_true',decide_eq_false_iff_not] at e;have h1:=hy0 e.1
   refine⟨.i k (k.wrap ((nv ρ x).tdiv (nv ρ y))),by simp only[qb7];rw[if_neg (by rw[h1];exact e.2)],?_⟩
   split at h
   ·rename_i e2;simp only[zzf,zzq] at e2;obtain⟨⟨e3,e4⟩,e5⟩:=e2;subst e5;have h4:=qb4 hM e4
    unfold z0 at h4;rw[qfm hM] at h4;refine qcA hM hW h (qga _ _) (fun f hf => ?_) (fun f hf=>by rw[List.mem_singleton.1 hf];exact⟨by simp,Nat.lt_succ_self _⟩)
    rw[List.mem_singleton.1 hf];have h6:=qow.1 hw
    have h7:0≤(nv ρ x).tdiv (nv ρ y):=Int.tdiv_nonneg (by omega) (by omega)
    have h8:(nv ρ x).tdiv (nv ρ y)≤nv ρ x:=by
     rw[Int.tdiv_eq_ediv_of_nonneg (by omega)];exact Int.ediv_le_self _ (by omega)
    have h9:IntKind.i64.wrap ((nv ρ x).tdiv (nv ρ y))=(nv ρ x).tdiv (nv ρ y):=by rw[IntKind.wrap_i64];omega
    show vI (upn ρ _ _ 0)+0≤vI (upn ρ _ _ σ.G.length)
    have e1:upn ρ σ.G.length [.i .i64 (IntKind.i64.wrap ((nv ρ x).tdiv (nv ρ y)))] σ.G.length = .i .i64 (IntKind.i64.wrap ((nv ρ x).tdiv (nv ρ y))):=qfn (i:=0) rfl
    rw[e1,qhd hW.z,hM.z,h9];simp only[vI];omega
   ·exact qcA hM hW h (qga _ _) (fun f hf=>by cases hf) (fun f hf=>by cases hf)
  ·cases h
 ·split at h
  ·rename_i e;simp only[zzf,Bool.not_eq_true',decide_eq_false_iff_not] at e;have h1:=hy0 e.1
   have hr:(Lit.int k ((nv ρ x).tmod (nv ρ y))).wf=true:=qA1 hw
   refine⟨.i k ((nv ρ x).tmod (nv ρ y)),by simp only[qb7];rw[if_neg (by rw[h1];exact e.2)],?_⟩
   split at h
   ·rename_i e2;simp only[zzf,zzq] at e2;obtain⟨⟨e3,e4⟩,e5⟩:=e2;have h4:=qb4 hM e4
    unfold z0 at h4;rw[qfm hM] at h4;have h7:0≤(nv ρ x).tmod (nv ρ y):=Int.tmod_nonneg _ (by omega)
    have h8:(nv ρ x).tmod (nv ρ y)<nv ρ y:=Int.tmod_lt_of_pos _ (by omega)
    have e1:upn ρ σ.G.length [.i k ((nv ρ x).tmod (nv ρ y))] σ.G.length = .i k ((nv ρ x).tmod (nv ρ y)):=qfn (i:=0) rfl
    refine qcA hM hW h hr (fun f hf => ?_) (fun f hf => ?_)
    ·rcases List.mem_cons.1 hf with e|hf
     ·rw[e];show vI (upn ρ _ _ 0)+0≤vI (upn ρ _ _ σ.G.length)
      rw[e1,qhd hW.z,hM.z];simp only[vI];omega
     ·rw[List.mem_singleton.1 hf];show vI (upn ρ _ _ σ.G.length)+(1-y.2)≤vI (upn ρ _ _ 0)
      rw[e1,qhd hW.z,hM.z];simp only[vI];omega
    ·rcases List.mem_cons.1 hf with e|hf
     ·rw[e];exact⟨by simp,Nat.lt_succ_self _⟩
     ·rw[List.mem_singleton.1 hf];exact⟨Nat.lt_succ_self _,by simp⟩
   ·exact qcA hM hW h hr (fun f hf=>by cases hf) (fun f hf=>by cases hf)
  ·cases h
 ·cases h
end
end Go.Sim
end
section
namespace Go.Sim
section
variable {d : Nat} {ρ ρ' : Nat → DV} {V : Nat → List DV → Option (PV × Bool)} {σ : AS}
theorem qhO (hM:Mod d V σ ρ) (hW:σ.wf) {t f:List Fact} {l:List (PV×AS)} (h:qj4 σ t f=some l) (b:Bool) (ht:b=true→∀x∈t,Fact.ok ρ x) (hf:b=false→∀x∈f,Fact.ok ρ x) (bt : ∀x∈t,x.1<σ.G.length∧x.2.1<σ.G.length) (bf : ∀x∈f,x.1<σ.G.length∧x.2.1<σ.G.length):qbk d V σ ρ l (some (.d (.b b),σ.H.ins ρ)):=by
 cases h;cases b with
 |true=>exact qhy hM hW (zzr ..) rfl (ht rfl) bt
 |false=>exact qhy hM hW (zzi _ (zzr ..)) rfl (hf rfl) bf
def tv (ρ:Nat→DV) (x:Option Nat×List UInt8):List UInt8:=match x.1 with
 |some m=>match ρ m with | .s l=>l|_=>[]
 |none=>x.2
theorem qiu (hM:Mod d V σ ρ) {v:PV} {x:Option Nat×List UInt8} (h:opS σ.G v=some x):v.ins ρ = .d (.s (tv ρ x))∧(∀m,x.1=some m→m<σ.G.length∧ρ m = .s (tv ρ x)):=by
 unfold opS at h;split at h
 ·cases h;exact⟨rfl,fun m e=>by cases e⟩
 ·rename_i m;split at h
  ·rename_i e;cases h;obtain⟨l,h1,_⟩:=hM.ty m _ e;have e1:tv ρ (some m,[])=l:=by unfold tv;simp only;rw[h1]
   rw[e1];refine⟨congrArg PV.d h1,fun k hk => ?_⟩
   cases hk;exact⟨(zzk.1 e).1,h1⟩
  ·cases h
 ·cases h
theorem qvl {l:List UInt8}:(l==[])=true↔(l.length:Int)=0:=by
 cases l<;>simp<;>omega
theorem qG1 (hM:Mod d V σ ρ) (hW:σ.wf) : ∀(x y:Option Nat×List UInt8),(∀m,x.1=some m→m<σ.G.length∧ρ m = .s (tv ρ x))→(∀m,y.1=some m→m<σ.G.length∧ρ m = .s (tv ρ y)) →
  ((tv ρ x==tv ρ y)=true→∀a∈(emF x y).1,Fact.ok ρ a)∧((tv ρ x==tv ρ y)=false→∀a∈(emF x y).2,Fact.ok ρ a)∧(∀a∈(emF x y).1,a.1<σ.G.length∧a.2.1<σ.G.length)∧(∀a∈(emF x y).2,a.1<σ.G.length∧a.2.1<σ.G.length):=by
 have no : ∀(P:Fact→Prop),∀a∈([]:List Fact),P a:=fun P a ha=>by cases ha
 have one : ∀(m:Nat) (l:List UInt8) (b:Bool),m<σ.G.length→ρ m = .s l→((l==[])=b) →
   (b=true→∀a∈[((m,0,0):Fact)],Fact.ok ρ a)∧(b=false→∀a∈[((0,m,1):Fact)],Fact.ok ρ a)∧(∀a∈[((m,0,0):Fact)],a.1<σ.G.length∧a.2.1<σ.G.length)∧(∀a∈[((0,m,1):Fact)],a.1<σ.G.length∧a.2.1<σ.G.length):=by
  intro m l b h1 h2 hb;refine⟨fun e a ha => ?_,fun e a ha => ?_,fun a ha => ?_,fun a ha => ?_⟩<;>rw[List.mem_singleton.1 ha]
  ·unfold Fact.ok;simp only;rw[h2,hM.z]
   have:=qvl.1 (hb.trans e)
   simp only[vI];omega
  ·unfold Fact.ok;simp only;rw[h2,hM.z];have : ¬(l.length:Int)=0:=fun c=>by rw[qvl.2 c] at hb;rw[←hb] at e;cases e
   simp only[vI];omega
  ·exact⟨h1,hW.z⟩
  ·exact⟨hW.z,h1⟩
 have es : ∀l:List UInt8,(([]:List UInt8)==l)=(l==[]):=fun l=>by cases l<;>rfl
 rintro⟨x1,x2⟩ ⟨y1,y2⟩ hx hy;match x1,x2,y1,y2,hx,hy with
 |some m,x2,none,[],hx,_=>obtain⟨h1,h2⟩:=hx m rfl;exact one m _ _ h1 h2 rfl
 |none,[],some m,y2,_,hy=>obtain⟨h1,h2⟩:=hy m rfl;exact one m _ _ h1 h2 (es _).symm
 |none,[],none,[],_,_=>exact⟨fun _=>no _,fun _=>no _,no _,no _⟩
 |none,[],none,_::_,_,_=>exact⟨fun _=>no _,fun _=>no _,no _,no _⟩
 |none,_::_,none,[],_,_=>exact⟨fun _=>no _,fun _=>no _,no _,no _⟩
 |none,_::_,none,_::_,_,_=>exact⟨fun _=>no _,fun _=>no _,no _,no _⟩
 |some _,_,some _,_,_,_=>exact⟨fun _=>no _,fun _=>no _,no _,no _⟩
 |some _,_,none,_::_,_,_=>exact⟨fun _=>no _,fun _=>no _,no _,no _⟩
 |none,_::_,some _,_,_,_=>exact⟨fun _=>no _,fun _=>no _,no _,no _⟩
theorem qEm (hM:Mod d V σ ρ) (hW:σ.wf) {op:BinOp} {vx vy:PV} {x y:Option Nat×List UInt8} (hx:opS σ.G vx=some x) (hy:opS σ.G vy=some y) {l:List (PV×AS)} (h:qoE σ op x y=some l) :
  ∃v,qiH op (tv ρ x) (tv ρ y)=some v∧qbk d V σ ρ l (some (.d v,σ.H.ins ρ)):=by
 obtain⟨k1,k2,k3,k4⟩:=qG1 hM hW x y (qiu hM hx).2 (qiu hM hy).2;have no : ∀a∈([]:List Fact),a.1<σ.G.length∧a.2.1<σ.G.length:=fun a ha=>by cases ha
 have no' : ∀a∈([]:List Fact),Fact.ok ρ a:=fun a ha=>by cases ha
 unfold qoE at h;simp only at h;split at h
 ·exact⟨_,rfl,qhO hM hW h _ k1 k2 k3 k4⟩
 ·refine⟨_,rfl,qhO hM hW h _ (fun e=>k2 ?_) (fun e=>k1 ?_) k4 k3⟩
  ·cases c:(tv ρ x==tv ρ y) with
   |false=>rfl
   |true=>rw[c] at e;cases e
  ·cases c:(tv ρ x==tv ρ y) with
   |true=>rfl
   |false=>rw[c] at e;cases e
 ·exact⟨_,rfl,qhO hM hW h _ (fun _=>no') (fun _=>no') no no⟩
 ·exact⟨_,rfl,qhO hM hW h _ (fun _=>no') (fun _=>no') no no⟩
 ·exact⟨_,rfl,qhO hM hW h _ (fun _=>no') (fun _=>no') no no⟩
 ·exact⟨_,rfl,qhO hM hW h _ (fun _=>no') (fun _=>no') no no⟩
 ·cases h
end
end Go.Sim
end
section
namespace Go.Sim
section
variable {d : Nat} {ρ ρ' : Nat → DV} {V : Nat → List DV → Option (PV × Bool)} {σ : AS}
theorem qy6 (hM:Mod d V σ ρ) (hW:σ.wf) : ∀(ks:List Nat) (xs ys:List DV),eqT σ.G ks xs ys=true→∃b,eqL ks (DV.insL ρ xs) (DV.insL ρ ys)=some b
 | [],[],[],_=>⟨true,rfl⟩
 |k::ks,x::xs,y::ys,h=>by
  unfold eqT at h;rw[zzf] at h
  obtain⟨b,hb⟩:=qy6 hM hW ks xs ys h.2;have h1:=h.1
  have : ∃c,eqK k (x.ins ρ) (y.ins ρ)=some c:=by
   split at h1
   ·split at h1
    ·rename_i a b ea eb
     have:=of_decide_eq_true h1
     obtain⟨k1,x1⟩:=a;obtain⟨k2,x2⟩:=b;simp only at this;subst this;have e1:=(qfi hM hW ea).1
     have e2:=(qfi hM hW eb).1
     simp only[PV.ins,PV.d.injEq] at e1 e2;rw[e1,e2];exact⟨_,if_pos rfl⟩
    ·cases h1
   ·rw[zzf] at h1;obtain⟨a,ea⟩:=qg0 hM.ty .b x h1.1;obtain⟨b,eb⟩:=qg0 hM.ty .b y h1.2;rw[ea,eb];exact⟨_,rfl⟩
   ·rw[zzf] at h1;obtain⟨a,ea,_⟩:=qg0 hM.ty .s x h1.1;obtain⟨b,eb,_⟩:=qg0 hM.ty .s y h1.2;rw[ea,eb];exact⟨_,rfl⟩
   ·cases h1
  obtain⟨c,hc⟩:=this;refine⟨c&&b,?_⟩;rw[DV.insL,DV.insL,eqL,hc,hb]
 | [],[],_::_,h|[],_::_,_,h|_::_,[],_,h|_::_,_::_,[],h=>by simp[eqT] at h
theorem qpW (hM:Mod d V σ ρ) (hW:σ.wf) {n:Nat} {s:Bool} {H:Heap} {l:List (PV×AS)} {t:TA} (ht:σ.G[n]? = some t) (hs:(s=true∧t = .s)∨(s=false∧((∃m,t = .e m)∨∃k m ts,t = .l k m ts))) (h:qcF σ .i64 [(n,σ.G.length,0),(σ.G.length,n,0)]=some l) :
  ∃m,qbw H s (.d (ρ n))=some m∧qbk d V σ ρ l (some (.d (.i .i64 m),σ.H.ins ρ)):=by
 have hn:=(zzk.1 ht).1
 have hy:=hM.ty n t ht
 have key : ∃m:Nat,qbw H s (.d (ρ n))=some m∧vI (ρ n)=m∧m≤maxLen:=by
  rcases hs with ⟨e1,e2⟩|⟨e1,⟨m,e2⟩|⟨k,mx,ts,e2⟩⟩
  ·subst e1;subst e2
   obtain⟨x,e,hl⟩:=hy;rw[e];exact⟨x.length,rfl,rfl,hl⟩
  ·subst e1;subst e2
   have:XT d 0 (ρ n):=qmG (Nat.zero_le m) hy
   obtain⟨k,hk⟩:=this;cases k with
   |zero=>have e:ρ n = .l (some 4) [] false:=hk;rw[e];exact⟨0,rfl,rfl,Nat.zero_le _⟩
   |succ k=>obtain⟨es,e,hl,_⟩:=hk;rw[e];exact⟨es.length,rfl,rfl,by unfold qa8 at hl;have:maxLen=9223372036854775807:=rfl;omega⟩
  ·subst e1;subst e2
   obtain⟨es,t,e,hl,_⟩:=hy;rw[e];exact⟨es.length,rfl,rfl,hl⟩
 obtain⟨m,h1,h2,h3⟩:=key;have hm:(maxLen:Int)=9223372036854775807:=by decide
 have e1:upn ρ σ.G.length [.i .i64 m] σ.G.length = .i .i64 m:=qfn (i:=0) rfl
 refine⟨m,h1,qcA hM hW h (qow.2 (by omega)) (fun f hf => ?_) (fun f hf => ?_)⟩
 ·rcases List.mem_cons.1 hf with e|hf
  ·rw[e];unfold Fact.ok;simp only;rw[e1,qhd hn,h2];simp[vI]
  ·rw[List.mem_singleton.1 hf];unfold Fact.ok;simp only;rw[e1,qhd hn,h2];simp[vI]
 ·rcases List.mem_cons.1 hf with e|hf
  ·rw[e];exact⟨Nat.lt_succ_of_lt hn,Nat.lt_succ_self _⟩
  ·rw[List.mem_singleton.1 hf];exact⟨Nat.lt_succ_self _,Nat.lt_succ_of_lt hn⟩
theorem qJk (hM:Mod d V σ ρ) (hW:σ.wf) {s:List UInt8} {i:Int} (h0:0≤i) (h1:i<s.length) {l:List (PV×AS)} (h:qcF σ .u8 []=some l) :
  ∃b,s[i.toNat]? = some b∧qbk d V σ ρ l (some (.d (.i .u8 (b.toNat:Int)),σ.H.ins ρ)):=by
 have hi:i.toNat<s.length:=by omega
 refine⟨s[i.toNat],zze hi,qcA hM hW h ?_ (fun f hf=>by cases hf) (fun f hf=>by cases hf)⟩
 have:=s[i.toNat].toNat_lt
 simp[Lit.wf,IntKind.min,IntKind.max,IntKind.signed,IntKind.bits];omega
end
end Go.Sim
end
section
namespace Go.Sim
section
variable {d : Nat} {ρ ρ' : Nat → DV} {V : Nat → List DV → Option (PV × Bool)} {σ : AS}
theorem qo7 (hM:Mod d V σ ρ) (hW:σ.wf) {ts:List TA} {cs:List DV} (hc:HsL d ts cs) {k:K} {e:DV} (he:mkD k cs=some e) {l:List (PV×AS)} {v:DV} {c:Nat}
  (hl:(PV.q v k c,σ.news ts)∈l) (hv:(k=none∧ts.length=1∧v = .tok σ.G.length)∨(∃m,k=some m∧v = .a (qcw σ.G.length ts))) :
  qbk d V σ ρ l (some (.q e k c,σ.H.ins ρ)):=by
 have hM':=qm8 hM hW hc
 have hn:=qiy (σ:=σ) ts
 have hlen:=qnq hc
 have e3:σ.H.ins (upn ρ σ.G.length cs)=σ.H.ins ρ:=congrArg St.H (hW.st _ _ hM.sc hM'.sc (qgL _ _))
 have tk : ∀(ρ1 ρ2:Nat→DV) (us:List TA) (n:Nat),n+us.length≤(σ.news ts).G.length→Agr (σ.news ts).G.length ρ1 ρ2→DV.insL ρ2 (qcw n us)=DV.insL ρ1 (qcw n us):=by
  intro ρ1 ρ2 us;induction us with
  |nil=>intro n _ _;rfl
  |cons u us ih =>
   intro n hn a;rw[zzn] at hn;rw[qcw,DV.insL,DV.insL,ih (n+1) (by omega) a]
   have:ρ2 n=ρ1 n:=a n (by omega)
   show ρ2 n::_=ρ1 n::_
   rw[this]
 refine⟨_,hl,upn ρ σ.G.length cs,⟨qgL _ _,hM',qnQ hW _,rfl,by show σ.G.length≤(σ.news ts).G.length;omega,fun ρ1 ρ2 _ _ a => ?_⟩,?_⟩
 ·rcases hv with ⟨_,h1,e1⟩|⟨m,_,e1⟩
  ·subst e1;show PV.q (ρ2 _) _ _=PV.q (ρ1 _) _ _
   rw[a σ.G.length (by show σ.G.length<(σ.news ts).G.length;omega)]
  ·subst e1;show PV.q (.a (DV.insL ρ2 _)) _ _=PV.q (.a (DV.insL ρ1 _)) _ _
   rw[tk ρ1 ρ2 ts σ.G.length (by omega) a]
 ·show _=some (PV.q (v.ins _) k c,Heap.ins _ σ.H)
  rw[e3];rcases hv with ⟨e0,h1,e1⟩|⟨m,e0,e1⟩
  ·subst e0;subst e1
   match cs,he,hc with
   | [x],he,_ =>
    have hxe:x=e:=by simpa[mkD] using he
    have:upn ρ σ.G.length [x] σ.G.length=x:=qfn (i:=0) rfl
    show _=some (PV.q (upn ρ σ.G.length [x] σ.G.length) none c,_)
    rw[this,hxe]
  ·subst e0;subst e1
   have:DV.insL (upn ρ σ.G.length cs) (qcw σ.G.length ts)=cs:=by
    have:=quL (ρ:=ρ) (xs:=cs) ts σ.G.length 0 (by omega)
    simpa using this
   have he':e = .a cs:=by
    simp only[mkD] at he;split at he
    ·cases he;rfl
    ·cases he
   show _=some (PV.q (.a (DV.insL _ _)) _ _,_)
   rw[this,he']
theorem qKg {n:Int} {m:Nat} (h0:0≤n) (h1:n<m):inR n m=some n.toNat:=by unfold inR;rw[if_pos ⟨h0,h1⟩]
theorem iad {H:Heap} {k k':K} {kd:IntKind} {es:List DV} {t:Bool} {i:Int} {e:DV} (h0:0≤i) (h1:i<es.length) (he:es[i.toNat]? = some e) (hk:K.eq k k'=true):iaddr H k (.d (.l k' es t)) (.d (.i kd i))=some (.q e k 0):=by
 have:k=k':=Keq hk
 subst this;simp only[iaddr,asI,qKg h0 h1,he,hk,if_true]
end
end Go.Sim
end
section
namespace Go.Sim
section
variable {d : Nat} {ρ ρ' : Nat → DV} {V : Nat → List DV → Option (PV × Bool)} {σ : AS}
theorem qz9 (hM:Mod d V σ ρ) (hW:σ.wf) {t:TA} {x:DV} (hx:Hs d t x) {fs:List Fact} {l:List (PV×AS)} (hl:(PV.d (.tok σ.G.length),(σ.news [t]).add fs)∈l) (hf : ∀f∈fs,Fact.ok (upn ρ σ.G.length [x]) f) (hb : ∀f∈fs,f.1<σ.G.length+1∧f.2.1<σ.G.length+1):qbk d V σ ρ l (some (.d x,σ.H.ins ρ)):=by
 have hL:HsL d [t] [x]:=⟨hx,trivial⟩
 have hM':=qm8 hM hW hL
 have hn:(σ.news [t]).G.length=σ.G.length+1:=qiy _
 refine⟨_,hl,upn ρ σ.G.length [x],⟨qgL _ _,qoR hM' hf,qqp (qnQ hW _) (by rw[hn];exact hb),rfl,?_,fun ρ1 ρ2 _ _ a => ?_⟩,?_⟩
 ·show σ.G.length≤(σ.news [t]).G.length
  omega
 ·show PV.d (ρ2 σ.G.length)=PV.d (ρ1 σ.G.length)
  rw[a σ.G.length (by show σ.G.length<(σ.news [t]).G.length;omega)]
 ·show _=some (PV.d (upn ρ σ.G.length [x] σ.G.length),Heap.ins _ σ.H)
  have e1:upn ρ σ.G.length [x] σ.G.length=x:=qfn (i:=0) rfl
  have e3:σ.H.ins (upn ρ σ.G.length [x])=σ.H.ins ρ:=congrArg St.H (hW.st _ _ hM.sc hM'.sc (qgL _ _))
  rw[e1,e3]
theorem qCE {k:K} {m:Nat} {ts:List TA} {es:List DV} {t u:Bool} {i:Nat} (h:Hs d (.l k m ts) (.l k es t)):Hs d (.l k m ts) (.l k (es.take i) u):=by
 obtain⟨es',t',e,hl,hm,he⟩:=h;cases e;exact⟨_,_,rfl,by rw[List.length_take];omega,by rw[List.length_take];omega,fun e hm=>he e (List.mem_of_mem_take hm)⟩
end
end Go.Sim
end
section
namespace Go.Sim
section
variable {d : Nat} {ρ ρ' : Nat → DV}
theorem qy7 {xs:List DV} : ∀(ts:List TA) (n k:Nat),ts.length+k≤xs.length→DV.insL (upn ρ n xs) (qcw (n+k) ts)=(xs.drop k).take ts.length
 | [],n,k,h=>by rw[List.length_nil,List.take_zero];rfl
 |t::ts,n,k,h=>by
  have hk:k<xs.length:=by rw[zzn] at h;omega
  rw[qcw,DV.insL,show n+k+1=n+(k+1) by omega,qy7 ts n (k+1) (by rw[zzn] at h;omega)]
  rw[DV.ins,qfn (zze hk),zzn,←List.getElem_cons_drop hk,List.take_succ_cons]
theorem qvh : ∀{ts us:List TA} {xs ys:List DV},HsL d ts xs→HsL d us ys→HsL d (ts++us) (xs++ys)
 | [],_,[],_,_,h=>h
 |_t::ts,_us,_x::xs,_ys,h1,h2=>⟨h1.1,qvh h1.2 h2⟩
 | [],_,_::_,_,h,_=>h.elim
 | _::_,_,[],_,h,_=>h.elim
theorem qpk : ∀(res:List (K×List TA)) (vs:List DV),qbu d res vs→∃css,HsL d (qcH res) css∧∀(ρ:Nat→DV) (n:Nat) (pre:List DV),PV.insL (upn ρ n (pre++css)) (qcj (n+pre.length) res)=vs.map .d
 | [],[],_=>⟨[],trivial,fun _ _ _=>rfl⟩
 | (k,ts)::res,v::vs,h=>by
  obtain⟨⟨cs,h1,h2⟩,h3⟩:=h;obtain⟨css,h4,h5⟩:=qpk res vs h3;have hl:ts.length=cs.length:=qnq h2
  refine⟨cs++css,qvh h2 h4,fun ρ n pre => ?_⟩
  have e1:PV.insL (upn ρ n (pre++(cs++css))) (qcj (n+pre.length+ts.length) res)=vs.map .d:=by
   have:=h5 ρ n (pre++cs)
   rw[zzp,List.append_assoc,←hl] at this;rwa [show n+pre.length+ts.length=n+(pre.length+ts.length) by omega]
  unfold qcj;rw[PV.insL,e1,zzu]
  congr 1
  have e2:DV.insL (upn ρ n (pre++(cs++css))) (qcw (n+pre.length) ts)=cs:=by
   rw[qy7 ts n pre.length (by rw[zzp,zzp];omega),List.drop_left,hl,List.take_left]
  cases k with
  |none =>
   match cs,ts,h1,hl,e2 with
   | [x],[t],h1,_,e2 =>
    have hx:x=v:=by simpa[mkD] using h1
    have:[(DV.tok (n+pre.length)).ins (upn ρ n (pre++([x]++css)))]=[x]:=e2
    show PV.d _=PV.d v
    rw[←hx];exact congrArg PV.d (List.cons.inj this).1
  |some m =>
   have hv:v = .a cs:=by
    simp only[mkD] at h1;split at h1
    ·cases h1;rfl
    ·cases h1
   show PV.d (.a (DV.insL _ _))=_
   rw[e2,hv]
 | [],_::_,h=>h.elim
 | _::_,[],h=>h.elim
end
end Go.Sim
end
section
namespace Go.Sim
section
variable {d : Nat} {ρ ρ' : Nat → DV} {V : Nat → List DV → Option (PV × Bool)} {σ : AS} {E : Env} {id : Nat} {r : Rand → PV}
def qcU (d:Nat) (V:Nat→List DV→Option (PV×Bool)) (S:List (Nat×Sg)):Prop:=∀f g,qih f S=some g→∀ds,qbu d g.args ds→∃vs own,V f ds=some (qaZ (vs.map .d),own)∧qbu d g.res vs
theorem qtZ {op:BinOp} {k:IntKind} {a b:Int} {v:DV} (h:qb7 op k a b=some v):qaV op (.d (.i k a)) (.d (.i k b))=some v:=by
 cases op<;>first|(simp only[qb7] at h;cases h;done)|(simp only[qaV,if_true];exact h)
theorem qLE {op:BinOp} {a b:List UInt8} {v:DV} (h:qiH op a b=some v):qaV op (.d (.s a)) (.d (.s b))=some v:=h
theorem qi4 {a b:Nat} (h:Nat.blt a b=true):a<b:=by rw[Nat.blt_eq] at h;exact h
theorem qtK {a b:Nat} (h:a<b):Nat.blt a b=true:=by rw[Nat.blt_eq];exact h
mutual
theorem qnK {n:Nat} (a:Agr n ρ ρ') : ∀v:DV,v.bnd n=true→v.ins ρ'=v.ins ρ
 | .tok m,h=>a m (qi4 h)
 | .a cs,h=>by rw[DV.ins,DV.ins,qkY a cs h]
 | .l _ es _,h=>by rw[DV.ins,DV.ins,qkY a es h]
 | .ifc _ v,h=>by rw[DV.ins,DV.ins,qnK a v h]
 | .b _,_ | .i _ _,_ | .s _,_ | .np,_ | .nf,_ | .ni,_ | .nm,_=>rfl
theorem qkY {n:Nat} (a:Agr n ρ ρ') : ∀l:List DV,DV.bndL n l=true→DV.insL ρ' l=DV.insL ρ l
 | [],_=>rfl
 |v::vs,h=>by
  rw[DV.bndL,zzf] at h;rw[DV.insL,DV.insL,qnK a v h.1,qkY a vs h.2]
end
mutual
theorem qhQ {n:Nat} (a:Agr n ρ ρ') : ∀v:PV,v.bnd n=true→v.ins ρ'=v.ins ρ
 | .d v,h=>by rw[PV.ins,PV.ins,qnK a v h]
 | .q v _ _,h=>by rw[PV.ins,PV.ins,qnK a v h]
 | .a cs,h=>by rw[PV.ins,PV.ins,qij a cs h]
 | .t cs,h=>by rw[PV.ins,PV.ins,qij a cs h]
 | .f _ cs,h=>by rw[PV.ins,PV.ins,qij a cs h]
 | .m _ cs,h=>by rw[PV.ins,PV.ins,qij a cs h]
 | .g v,h=>by rw[PV.ins,PV.ins,qhQ a v h]
 | .w _ v,h=>by rw[PV.ins,PV.ins,qhQ a v h]
 | .u,_ | .r ..,_ | .p ..,_ | .h _,_=>rfl
theorem qij {n:Nat} (a:Agr n ρ ρ') : ∀l:List PV,PV.bndL n l=true→PV.insL ρ' l=PV.insL ρ l
 | [],_=>rfl
 |v::vs,h=>by
  rw[PV.bndL,zzf] at h;rw[PV.insL,PV.insL,qhQ a v h.1,qij a vs h.2]
end
theorem qxt : ∀(ts:List TA) (n m:Nat),n+ts.length≤m→DV.bndL m (qcw n ts)=true
 | [],_,_,_=>rfl
 |t::ts,n,m,h=>by
  rw[zzn] at h;rw[qcw,DV.bndL,qxt ts (n+1) m (by omega),Bool.and_true]
  exact qtK (by omega)
theorem qp8 : ∀(res:List (K×List TA)) (vs:List DV),qbu d res vs→∀(n m:Nat),n+(qcH res).length≤m→PV.bndL m (qcj n res)=true
 | [],[],_,_,_,_=>rfl
 | (k,ts)::res,v::vs,hk,n,m,h=>by
  obtain⟨⟨cs,h1,h2⟩,h3⟩:=hk;have hl:=qnq h2
  rw[qcH,zzp] at h;unfold qcj;rw[PV.bndL,qp8 res vs h3 _ m (by omega),Bool.and_true]
  cases k with
  |none =>
   match cs,h1 with
   | [x],_=>exact qtK (by simp at hl;omega)
  |some _=>exact qxt ts n m (by omega)
 | [],_::_,h,_,_,_=>h.elim
 | _::_,[],h,_,_,_=>h.elim
theorem qxa (l:List PV):(qaZ l).ins ρ=qaZ (PV.insL ρ l):=by
 match l with
 | []=>rfl
 | [v]=>rfl
 | _::_::_=>rfl
theorem qCc {l:List PV} {n:Nat} (h:PV.bndL n l=true):(qaZ l).bnd n=true:=by
 match l,h with
 | [],_=>rfl
 | [v],h=>rw[PV.bndL,zzf] at h;exact h.1
 | _::_::_,h=>exact h
theorem qtW (H:Heap) : ∀ds:List DV,qaL H (ds.map .d)=some (ds,[])
 | []=>rfl
 |x::ds=>by simp only[List.map,qaL,pur,qa2];rw[qtW H ds];rfl
theorem qvK : ∀{cs:List (Nat×List DV×PV)} {f:Nat} {ds:List DV} {v:PV},qji cs f ds=some v→(f,ds,v)∈cs
 | [],_,_,_,h=>by cases h
 | (g,es,w)::r,f,ds,v,h=>by
  unfold qji at h;split at h
  ·rename_i e;rw[zzf] at e;cases h;rw[Nat.eq_of_beq_eq_true e.1,qhK _ _ e.2];exact zzr ..
  ·exact zzi _ (qvK h)
theorem qFd (hM:Mod d V σ ρ) (hW:σ.wf) {S:List (Nat×Sg)} (hS:qcU d V S) {f:Nat} {g:Sg} (hg:qih f S=some g) {ds:List DV} (hd : ∀ρ1 ρ2,Sc ρ1→Sc ρ2→Agr σ.G.length ρ1 ρ2→DV.insL ρ2 ds=DV.insL ρ1 ds) {l:List (PV×AS)}
  (h:(match qji σ.cs f ds with
   |some v=>some [(v,σ)]
   |none=>if qif σ.G g.args ds then some [(qaZ (qcj σ.G.length g.res),{ σ.news (qcH g.res) with cs:=(f,ds,qaZ (qcj σ.G.length g.res))::σ.cs })] else none)=some l) :
  ∃v own,V f (DV.insL ρ ds)=some (v,own)∧qbk d V σ ρ l (some (v,σ.H.ins ρ)):=by
 split at h
 ·rename_i v e;cases h;have hc:=qvK e
  obtain⟨own,h1⟩:=hM.cs _ hc;refine⟨_,own,h1,_,List.mem_singleton.2 rfl,ρ,⟨Agr.rfl',hM,hW,rfl,zzt _,fun ρ1 ρ2 s1 s2 a=>(hW.cs ρ1 ρ2 s1 s2 a _ hc).2⟩,rfl⟩
 ·split at h
  ·rename_i e;cases h;obtain⟨vs,own,h1,h2⟩:=hS f g hg _ (qo9 hM.ty e);obtain⟨css,h3,h4⟩:=qpk g.res vs h2;have hM':=qm8 hM hW h3
   have hn:=qiy (σ:=σ) (qcH g.res)
   have e1:PV.insL (upn ρ σ.G.length css) (qcj σ.G.length g.res)=vs.map .d:=by
    have:=h4 ρ σ.G.length []
    simpa using this
   have e2:(qaZ (qcj σ.G.length g.res)).ins (upn ρ σ.G.length css)=qaZ (vs.map .d):=by rw[qxa,e1]
   have ha:Agr σ.G.length ρ (upn ρ σ.G.length css):=qgL _ _
   have e3:σ.H.ins (upn ρ σ.G.length css)=σ.H.ins ρ:=congrArg St.H (hW.st _ _ hM.sc hM'.sc ha)
   have hw:=qnQ hW (qcH g.res)
   have hb : ∀ρ1 ρ2,Agr (σ.news (qcH g.res)).G.length ρ1 ρ2→(qaZ (qcj σ.G.length g.res)).ins ρ2=(qaZ (qcj σ.G.length g.res)).ins ρ1:=by
    intro ρ1 ρ2 a;exact qhQ a _ (qCc (qp8 _ _ h2 _ _ (by omega)))
   refine⟨_,own,h1,_,List.mem_singleton.2 rfl,upn ρ σ.G.length css,⟨ha,⟨hM'.sc,hM'.ty,hM'.fx,hM'.z,fun c hc => ?_⟩,⟨hw.st,fun ρ1 ρ2 s1 s2 a c hc => ?_,hw.fx,hw.z⟩,rfl,by show σ.G.length≤(σ.news (qcH g.res)).G.length;omega,fun ρ1 ρ2 _ _ a=>hb ρ1 ρ2 a⟩,?_⟩
   ·rcases List.mem_cons.1 hc with rfl|hc
    ·refine⟨own,?_⟩;show V f (DV.insL (upn ρ σ.G.length css) ds)=_
     rw[hd _ _ hM.sc hM'.sc ha,h1,e2]
    ·exact hM'.cs c hc
   ·rcases List.mem_cons.1 hc with rfl|hc
    ·exact⟨hd _ _ s1 s2 (a.le (by show σ.G.length≤(σ.news (qcH g.res)).G.length;omega)),hb ρ1 ρ2 a⟩
    ·exact hw.cs ρ1 ρ2 s1 s2 a c hc
   ·rw[e2];exact congrArg (fun x=>some (qaZ (vs.map .d),x)) e3.symm
  ·cases h
end
end Go.Sim
end
section
namespace Go.Sim
section
variable {d : Nat} {ρ ρ' : Nat → DV} {V : Nat → List DV → Option (PV × Bool)} {σ : AS} {E : Env} {id : Nat} {r : Rand → PV} {l : List (PV × AS)}
abbrev qb9 (d:Nat) (V:Nat→List DV→Option (PV×Bool)) (σ:AS) (ρ:Nat→DV) (l:List (PV×AS)) (E:Env) (r:Rand→PV) (id:Nat) (op:IOp):Prop:=qbk d V σ ρ l (qaa E (fun x=>(r x).ins ρ) (σ.H.ins ρ) id op)
theorem qCN {mx:Bool} {k:IntKind} {a b:Int} (ha:(Lit.int k a).wf=true) (hb:(Lit.int k b).wf=true) : ∃n,mm2 mx (.d (.i k a)) (.d (.i k b))=some (.d (.i k n))∧(Lit.int k n).wf=true:=by
 refine⟨(if mx=true then if b>a then b else a else if b<a then b else a),by simp only[mm2,if_true],?_⟩
 split<;>split<;>assumption
theorem qBx (hM:Mod d V σ ρ) (hW:σ.wf) {S:List (Nat×Sg)} {op:BinOp} {x y:Rand} (h:qbQ S r σ (.bin op x y)=some l):qb9 d V σ ρ l E r id (.bin op x y):=by
 simp only[qbQ] at h;simp only[qb9,qaa];split at h
 ·rename_i k a k' b e1 e2;obtain⟨h1,l1,w1⟩:=qfi hM hW e1;obtain⟨h2,l2,w2⟩:=qfi hM hW e2;split at h
  ·rename_i ek;subst ek;split at h
   ·rename_i l' e3;cases h;obtain⟨v,hv,ho⟩:=qCW hM hW (k:=k) l1 l2 e3;rw[h1,h2,qtZ hv];exact ho
   ·obtain⟨v,hv,ho⟩:=qBz hM hW l1 w1 h;rw[h1,h2,qtZ hv];exact ho
  ·cases h
 ·split at h
  ·rename_i a b e1 e2;obtain⟨v,hv,ho⟩:=qEm hM hW e1 e2 h;rw[(qiu hM e1).1,(qiu hM e2).1,qLE hv];exact ho
  ·cases h
theorem qA8 (hM:Mod d V σ ρ) (hW:σ.wf) {S:List (Nat×Sg)} {mx:Bool} {x y:Rand} (h:qbQ S r σ (.minmax mx [x,y])=some l):qb9 d V σ ρ l E r id (.minmax mx [x,y]):=by
 simp only[qbQ] at h;simp only[qb9,qaa,List.map];split at h
 ·rename_i k a k' b e1 e2;obtain⟨h1,l1,w1⟩:=qfi hM hW e1;obtain⟨h2,l2,w2⟩:=qfi hM hW e2;split at h
  ·rename_i ek;subst ek;obtain⟨n,hn,hw⟩:=qCN (mx:=mx) w1 w2;simp only[mmA];rw[h1,h2,hn];exact qcA hM hW h hw (fun f hf=>by cases hf) (fun f hf=>by cases hf)
  ·cases h
 ·cases h
theorem qIF (hM:Mod d V σ ρ) (hW:σ.wf) {S:List (Nat×Sg)} {neg:Bool} {ks:List Nat} {x y:Rand} (h:qbQ S r σ (.eqv neg ks x y)=some l):qb9 d V σ ρ l E r id (.eqv neg ks x y):=by
 simp only[qbQ] at h;simp only[qb9,qaa];split at h
 ·rename_i xs ys e1 e2;split at h
  ·rename_i e3;obtain⟨b,hb⟩:=qy6 hM hW ks xs ys e3;rw[e1,e2];show qbk d V σ ρ l (match eqL ks (DV.insL ρ xs) (DV.insL ρ ys) with|some e=>_|none=>none)
   rw[hb];have no : ∀f∈([]:List Fact),f.1<σ.G.length∧f.2.1<σ.G.length:=fun f hf=>by cases hf
   exact qhO hM hW h _ (fun _ f hf=>by cases hf) (fun _ f hf=>by cases hf) no no
  ·cases h
 ·cases h
theorem qC2 (hM:Mod d V σ ρ) (hW:σ.wf) {S:List (Nat×Sg)} {x:Rand} (h:qbQ S r σ (.un .neg x)=some l):qb9 d V σ ρ l E r id (.un .neg x):=by
 simp only[qbQ] at h;simp only[qb9,qaa];split at h
 ·rename_i k a e1;obtain⟨h1,l1,w1⟩:=qfi hM hW e1;rw[h1];exact qcA hM hW h (qga _ _) (fun f hf=>by cases hf) (fun f hf=>by cases hf)
 ·cases h
theorem qCV (hM:Mod d V σ ρ) (hW:σ.wf) {S:List (Nat×Sg)} {k:IntKind} {x:Rand} (h:qbQ S r σ (.conv k x)=some l):qb9 d V σ ρ l E r id (.conv k x):=by
 simp only[qbQ] at h;simp only[qb9,qaa];split at h
 ·rename_i a e1;obtain⟨h1,l1,w1⟩:=qfi hM hW e1;rw[h1];exact qcA hM hW h (qga _ _) (fun f hf=>by cases hf) (fun f hf=>by cases hf)
 ·cases h
theorem qF9 (hM:Mod d V σ ρ) (hW:σ.wf) {S:List (Nat×Sg)} {s:Bool} {x:Rand} (h:qbQ S r σ (.len s x)=some l):qb9 d V σ ρ l E r id (.len s x):=by
 simp only[qbQ] at h;simp only[qb9,qaa];split at h
 ·rename_i n e1;rw[e1];show qbk d V σ ρ l (match qbw (σ.H.ins ρ) s (.d (ρ n)) with|some n=>_|none=>none)
  split at h
  ·rename_i e2;obtain⟨m,h1,h2⟩:=qpW hM hW (H:=σ.H.ins ρ) e2 (.inl ⟨rfl,rfl⟩) h;rw[h1];exact h2
  ·rename_i m e2;obtain⟨m,h1,h2⟩:=qpW hM hW (H:=σ.H.ins ρ) e2 (.inr ⟨rfl,.inl ⟨_,rfl⟩⟩) h;rw[h1];exact h2
  ·rename_i k mx ts e2;obtain⟨m,h1,h2⟩:=qpW hM hW (H:=σ.H.ins ρ) e2 (.inr ⟨rfl,.inr ⟨_,_,_,rfl⟩⟩) h;rw[h1];exact h2
  ·cases h
 ·cases h
theorem qrj {m:Nat} (n:Nat) (x:DV) (hx:XD n x) (hk : ∀k a,k<n→XD k a→Hs d (.e (match m with|0=>0|_=>2)) a) : ∃es t,x = .l (some 4) es t∧∀e∈es,∃cs,mkD (some 4) cs=some e∧HsL d (xTs m) cs:=by
 cases n with
 |zero=>exact⟨[],false,hx,fun e he=>by cases he⟩
 |succ n =>
  obtain⟨es,e,_,he⟩:=hx;refine⟨es,false,e,fun e hm => ?_⟩
  obtain⟨o,q,s,a,h1,h2,h3,h4,h5⟩:=he e hm;exact⟨[.i .i64 o,.i .i64 q,.s s,a],by rw[h1];rfl,⟨o,rfl,h2⟩,⟨q,rfl,h3⟩,⟨s,rfl,h4⟩,hk n a (Nat.lt_succ_self n) h5,trivial⟩
theorem qzY {m:Nat} {x:DV} (h:XT d m x) : ∃es t,x = .l (some 4) es t∧∀e∈es,∃cs,mkD (some 4) cs=some e∧HsL d (xTs m) cs:=by
 match m,h with
 | 0,h=>obtain⟨n,hn⟩:=h;exact qrj (m:=0) n x hn (fun k a _ ha=>⟨k,ha⟩)
 | 1,h=>exact qrj (m:=1) d x h (fun k a hk ha=>⟨k,hk,ha⟩)
 |m+2,h=>obtain⟨n,hl,hn⟩:=h;exact qrj (m:=m+2) n x hn (fun k a hk ha=>⟨k,by omega,ha⟩)
theorem qFO (hM:Mod d V σ ρ) (hW:σ.wf) {S:List (Nat×Sg)} {k:K} {x i:Rand} (h:qbQ S r σ (.iaddr k x i)=some l):qb9 d V σ ρ l E r id (.iaddr k x i):=by
 simp only[qbQ] at h;simp only[qb9,qaa];split at h
 ·rename_i n kd a e1 e2;obtain⟨h1,l1,w1⟩:=qfi hM hW e2;rw[e1,h1];show qbk d V σ ρ l (opt (iaddr _ k (.d (ρ n)) _) _)
  split at h
  ·rename_i e3;rw[zzf] at e3;have b1:=qb4 hM e3.1
   have b2:=qb4 hM e3.2
   unfold z0 at b1;rw[qfm hM] at b1;have b3:nv ρ (n,0)=vI (ρ n):=by unfold nv;simp
   rw[b3] at b2;have fin : ∀(k':K) (es:List DV) (t:Bool) (ts:List TA),ρ n = .l k' es t→K.eq k k'=true→(∀e∈es,∃cs,mkD k cs=some e∧HsL d ts cs)→(∀cs e,mkD k cs=some e→HsL d ts cs→qbk d V σ ρ l (some (.q e k 0,σ.H.ins ρ)))→qbk d V σ ρ l (opt (iaddr (σ.H.ins ρ) k (.d (ρ n)) (.d (.i kd (nv ρ a)))) (σ.H.ins ρ)):=by
    intro k' es t ts hn hk he hf;rw[hn] at b2⊢;have b4:nv ρ a<es.length:=by simp only[vI] at b2;omega
    have hi:(nv ρ a).toNat<es.length:=by omega
    obtain⟨cs,c1,c2⟩:=he _ (zzs hi);rw[iad (by omega) b4 (zze hi) hk]
    exact hf cs _ c1 c2
   split at h
   ·rename_i k' mx ts e4;obtain⟨es,t,hn,_,_,he⟩:=hM.ty n _ e4;split at h
    ·rename_i hk;have hk':=Keq hk
     subst hk';split at h
     ·split at h
      ·rename_i t1;cases h;exact fin _ es t _ hn hk he fun cs e c1 c2=>qo7 hM hW c2 c1 (List.mem_singleton.2 rfl) (.inl ⟨rfl,rfl,rfl⟩)
      ·cases h
     ·rename_i m;split at h
      ·rename_i hm;cases h;exact fin _ es t _ hn hk he fun cs e c1 c2=>qo7 hM hW c2 c1 (List.mem_singleton.2 rfl) (.inr ⟨m,rfl,rfl⟩)
      ·cases h
    ·cases h
   ·rename_i m e4;obtain⟨es,t,hn,he⟩:=qzY (hM.ty n _ e4);split at h
    ·rename_i hk;have hk':=Keq hk
     subst hk';cases h;exact fin _ es t _ hn hk he fun cs e c1 c2=>qo7 hM hW c2 c1 (List.mem_singleton.2 rfl) (.inr ⟨4,rfl,rfl⟩)
    ·cases h
   ·cases h
  ·cases h
 ·cases h
theorem qJS (hM:Mod d V σ ρ) (hW:σ.wf) {S:List (Nat×Sg)} {x i:Rand} (h:qbQ S r σ (.idxS x i)=some l):qb9 d V σ ρ l E r id (.idxS x i):=by
 simp only[qbQ] at h;simp only[qb9,qaa];have fin : ∀(s:List UInt8) (n:Int) (kd:IntKind),0≤n→n<s.length→qcF σ .u8 []=some l→qbk d V σ ρ l (match PV.d (.s s),asI (.d (.i kd n)) with
   | .d (.s s),some n=>if 0≤n then match s[n.toNat]? with
    |some b=>some (.d (.i .u8 b.toNat),σ.H.ins ρ)
    |none=>none
    else none
   | _,_=>none):=by
  intro s n kd h0 h1 h2;obtain⟨b,hb,ho⟩:=qJk hM hW h0 h1 h2;simp only[asI];rw[if_pos h0,hb];exact ho
 split at h
 ·rename_i n x2 kd a e1 e2;obtain⟨h1,l1,w1⟩:=qfi hM hW e2;obtain⟨g1,g2⟩:=qiu hM e1;rw[g1,h1];split at h
  ·rename_i e3;rw[zzf] at e3;have b1:=qb4 hM e3.1
   have b2:=qb4 hM e3.2
   unfold z0 at b1;rw[qfm hM] at b1;have b3:nv ρ (n,0)=(tv ρ (some n,x2)).length:=by unfold nv;simp only;rw[(g2 n rfl).2];simp[vI]
   exact fin _ _ kd (by omega) (by omega) h
  ·cases h
 ·rename_i s kd a e1 e2;obtain⟨h1,l1,w1⟩:=qfi hM hW e2;obtain⟨g1,g2⟩:=qiu hM e1;rw[g1,h1];split at h
  ·rename_i e3;rw[zzf] at e3;have b1:=qb4 hM e3.1
   have b2:=qb4 hM e3.2
   unfold z0 at b1;rw[qfm hM] at b1 b2;exact fin _ _ kd (by omega) (by show nv ρ a<(s.length:Int);omega) h
  ·cases h
 ·cases h
theorem qCR (hM:Mod d V σ ρ) (hW:σ.wf) {S:List (Nat×Sg)} {k:K} {x i:Rand} (h:qbQ S r σ (.sl k x none (some i) none)=some l):qb9 d V σ ρ l E r id (.sl k x none (some i) none):=by
 simp only[qbQ] at h;simp only[qb9,qaa,Option.map];split at h
 ·rename_i n kd a e1 e2;obtain⟨h1,l1,w1⟩:=qfi hM hW e2;rw[e1,h1];show qbk d V σ ρ l (opt (slA _ k (.d (ρ n)) _ _ _) _)
  split at h
  ·rename_i e3;rw[zzf] at e3;have b1:=qb4 hM e3.1
   have b2:=qb4 hM e3.2
   unfold z0 at b1;rw[qfm hM] at b1;have b3:nv ρ (n,0)=vI (ρ n):=by unfold nv;simp
   rw[b3] at b2;split at h
   ·rename_i k' mx ts e4;have hy:=hM.ty n _ e4
    obtain⟨es,t,hn,hl,_,he⟩:=hy;split at h
    ·rename_i hk;have hk':=Keq hk
     subst hk';cases h;rw[hn] at b2⊢;simp only[vI] at b2;have hh:=hM.ty n _ e4
     rw[hn] at hh;have hs:=qCE (u:=(if (none:Option PV).isSome then true else t&&(nv ρ a).toNat==es.length)) (i:=(nv ρ a).toNat) hh
     have ev:slA (σ.H.ins ρ) k (.d (.l k es t)) none (some (.d (.i kd (nv ρ a)))) none=some (.d (.l k (es.take (nv ρ a).toNat) (if (none:Option PV).isSome then true else t&&(nv ρ a).toNat==es.length))):=by
      simp only[slA,bnd,asI,hk,Bool.true_or,if_true];rw[if_pos (by omega)]
      simp
     rw[ev];have hlen:(es.take (nv ρ a).toNat).length=(nv ρ a).toNat:=by rw[List.length_take];omega
     refine qz9 hM hW hs (List.mem_singleton.2 rfl) (fun f hf => ?_) (fun f hf => ?_)
     ·have e5 : ∀z,nv (upn ρ σ.G.length [.l k (es.take (nv ρ a).toNat) z]) (σ.G.length,0)=nv ρ a:=by
       intro z;have:upn ρ σ.G.length [.l k (es.take (nv ρ a).toNat) z] σ.G.length = .l k (es.take (nv ρ a).toNat) z:=qfn (i:=0) rfl
       show vI (upn ρ σ.G.length [.l k (es.take (nv ρ a).toNat) z] σ.G.length)+0=nv ρ a
       rw[this];simp only[vI];rw[hlen];omega
      rcases List.mem_cons.1 hf with e|hf
      ·rw[e];refine qfV ?_;rw[qnb l1,e5];omega
      ·rw[List.mem_singleton.1 hf];refine qfV ?_;rw[qnb l1,e5];omega
     ·rcases List.mem_cons.1 hf with e|hf
      ·rw[e];exact⟨Nat.lt_succ_of_lt l1,Nat.lt_succ_self _⟩
      ·rw[List.mem_singleton.1 hf];exact⟨Nat.lt_succ_self _,Nat.lt_succ_of_lt l1⟩
    ·cases h
   ·cases h
  ·cases h
 ·cases h
theorem qv8 : ∀{a b:List DV},a.map PV.d=b.map PV.d→a=b
 | [],[],_=>rfl
 |x::a,y::b,h=>by
  rw[zzu,zzu] at h;have h1:=List.cons.inj h
  rw[PV.d.inj h1.1,qv8 h1.2]
 | [],_::_,h=>by cases h
 | _::_,[],h=>by cases h
theorem qEV (hM:Mod d V σ ρ) (hW:σ.wf) {S:List (Nat×Sg)} (hS:qcU d V S) (hE:E.val=V) {f:Nat} {args:List Rand} (hr : ∀ρ1 ρ2,Sc ρ1→Sc ρ2→Agr σ.G.length ρ1 ρ2→∀x∈args,(r x).ins ρ2=(r x).ins ρ1) (h:qbQ S r σ (.call 0 f args)=some l):qb9 d V σ ρ l E r id (.call 0 f args):=by
 simp only[qbQ] at h;simp only[qb9,qaa];split at h
 ·rename_i g e1;split at h
  ·rename_i ds e2;have hm:=qiD e2
   have hi : ∀ρ1:Nat→DV,args.map (fun x=>(r x).ins ρ1)=(DV.insL ρ1 ds).map .d:=by
    intro ρ1;have:PV.insL ρ1 (args.map r)=PV.insL ρ1 (ds.map .d):=by rw[hm]
    rw[qpX,qgT,List.map_map] at this;exact this
   have hd : ∀ρ1 ρ2,Sc ρ1→Sc ρ2→Agr σ.G.length ρ1 ρ2→DV.insL ρ2 ds=DV.insL ρ1 ds:=by
    intro ρ1 ρ2 s1 s2 a;have e3:args.map (fun x=>(r x).ins ρ2)=args.map (fun x=>(r x).ins ρ1):=List.map_congr_left fun x hx=>hr ρ1 ρ2 s1 s2 a x hx
    rw[hi,hi] at e3;exact qv8 e3
   obtain⟨v,own,h1,h2⟩:=qFd hM hW hS e1 hd h;rw[hi,qtW,hE];simp only[h1,List.isEmpty_nil,Bool.true_or,if_true];exact h2
  ·cases h
 ·cases h
theorem qA2 (hM:Mod d V σ ρ) (hW:σ.wf) {S:List (Nat×Sg)} (hS:qcU d V S) (hE:E.val=V) {op:IOp} (hr : ∀ρ1 ρ2,Sc ρ1→Sc ρ2→Agr σ.G.length ρ1 ρ2→∀x∈op.rands,(r x).ins ρ2=(r x).ins ρ1) (h:qbQ S r σ op=some l):qb9 d V σ ρ l E r id op:=by
 have h0:=h
 unfold qbQ at h;split at h
 ·exact qBx hM hW h0
 ·exact qA8 hM hW h0
 ·exact qIF hM hW h0
 ·exact qC2 hM hW h0
 ·exact qCV hM hW h0
 ·exact qF9 hM hW h0
 ·exact qFO hM hW h0
 ·exact qJS hM hW h0
 ·exact qCR hM hW h0
 ·exact qEV hM hW hS hE hr h0
 ·cases h
end
end Go.Sim
end
