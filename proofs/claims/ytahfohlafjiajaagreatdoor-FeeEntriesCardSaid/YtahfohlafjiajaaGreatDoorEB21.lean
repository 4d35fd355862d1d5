/- Part 21 of the proof: CbKs, CbLp, CbKd, CbKr, CbGc, CbKe, CbKq, CbKf, CbKg, CbV13, CbV25T, CbTy, CbSimI, CbTo, CbKh, CbKi, CbKj, CbKk, CbKl, CbWz, CbW1, CbW2, CbW2a, CbW2b, CbW3, CbR1, CbR2, CbRz, CbR3, CbR4, CbRy, CbR5, CbR6, CbR7, CbX1. -/
import Derived.Test.YtahfohlafjiajaaGreatDoorEB3
import Derived.Test.YtahfohlafjiajaaGreatDoorEB2
import Derived.Laws.BitsLemmas
import Derived.Test.YtahfohlafjiajaaGreatDoorEB12
import Derived.Test.YtahfohlafjiajaaGreatDoorEB6
import Derived.Test.YtahfohlafjiajaaGreatDoorEB10
import Derived.Test.YtahfohlafjiajaaGreatDoorEB8
import Derived.Test.YtahfohlafjiajaaGreatDoorEB1
import Derived.Laws.MathBits
section
namespace Go.Sim
inductive Hd {α:Type}:α→Type where
 |h (x:α):Hd x
section
variable {R α β : Type}
def bo (x:Option α) {k:α→Option R} (_:Hd k):Option R:=match x with|some a=>k a|none=>none
def bo2 (x:Option (PV×Heap)) {k:PV→Heap→Option R} (_:Hd k):Option R:=match x with|some (v,H)=>k v H|none=>none
def brn (b:Bool) {x y:Option R} (_:Hd (x,y)):Option R:=match b with|true=>x|false=>y
def chk (p:Prop) [Decidable p] {x:Option R} (_:Hd x):Option R:=if p then x else none
theorem qdv (x y:Option R):brn true (.h (x,y))=x:=rfl
theorem qdt (x y:Option R):brn false (.h (x,y))=y:=rfl
theorem qdu (b:Bool) (x y:Option R):brn (!b) (.h (x,y))=brn b (.h (y,x)):=by cases b<;>rfl
theorem qaM {b:Bool} {x y z:Option R} (h1:b=true→x=z) (h2:b=false→y=z):brn b (.h (x,y))=z:=by cases b;exact h2 rfl;exact h1 rfl
theorem qdy (x:Option R):chk True (.h x)=x:=rfl
theorem qdr (a:α) (k:α→Option R):bo (some a) (.h k)=k a:=rfl
theorem qdo (k:α→Option R):bo none (.h k)=none:=rfl
theorem qc5 (v:PV) (H:Heap) (k:PV→Heap→Option R):bo2 (some (v,H)) (.h k)=k v H:=rfl
theorem qc4 (k:PV→Heap→Option R):bo2 none (.h k)=none:=rfl
theorem qiU (x:Option PV) (H:Heap) (k:PV→Heap→Option R):bo2 (opt x H) (.h k)=bo x (.h fun v=>k v H):=by cases x<;>rfl
theorem qtf (x:Option DV) (H:Heap) (k:PV→Heap→Option R):bo2 (qg2 x H) (.h k)=bo x (.h fun v=>k (.d v) H):=by cases x<;>rfl
abbrev KC (R:Type):=Ex→Fr→Heap→Option R
abbrev KO (R:Type):=Fr→Heap→Option R
noncomputable def kC (E:Env) (base:Nat) (fr:Fr) (H:Heap) {c:PC} {k:KC R} (_:Hd (c,k)):Option R:=match qau E lpI base c ⟨fr,H⟩ with|some (e,s)=>k e s.fr s.H|none=>none
def kO (E:Env) (id:Nat) (fr:Fr) (H:Heap) {ops:List IOper} {k:KO R} (_:Hd (ops,k)):Option R:=match qaS E ops id ⟨fr,H⟩ with|some s=>k s.fr s.H|none=>none
def kD (E:Env) (id:Nat) (fr:Fr) (H:Heap) (bf:List Nat) (acc:List (List Nat×List Nat)) {ops:List IOper} {k:KO R} (_:Hd (ops,k)):Option R:=match qcj E ops bf acc id ⟨fr,H⟩ with|some s=>k s.fr s.H|none=>none
variable {E : Env} {base : Nat} {fr : Fr} {H : Heap} {k : KC R} {j : KO R}
theorem qd4:kC E base fr H (.h (.skip,k))=k .norm fr H:=rfl
theorem qd2:kC E base fr H (.h (.ret,k))=k .ret fr H:=rfl
theorem qdU {id:Nat}:kC E base fr H (.h (.exit id,k))=k (.exit id) fr H:=rfl
noncomputable def sqK (E:Env) (base:Nat) (b:PC) (k:KC R):KC R
 | .norm,fr,H=>kC E base fr H (.h (b,k))
 | .exit id,fr,H=>k (.exit id) fr H
 | .ret,fr,H=>k .ret fr H
def blK (id:Nat) (k:KC R):KC R
 | .exit i,fr,H=>if i=id then k .norm fr H else k (.exit i) fr H
 | .norm,fr,H=>k .norm fr H
 | .ret,fr,H=>k .ret fr H
def rgK (kill:List Nat) (k:KC R):KO R:=fun fr H=>k .norm (fr.drop kill) H
theorem qd3 {a b:PC}:kC E base fr H (.h (.seq a b,k))=kC E base fr H (.h (a,sqK E base b k)):=by
 simp only[kC,qau];cases qau E lpI base a ⟨fr,H⟩ with
 |none=>rfl
 |some x=>obtain⟨e,s⟩:=x;cases e<;>rfl
theorem qdR {id:Nat} {x:PC}:kC E base fr H (.h (.block id x,k))=kC E base fr H (.h (x,blK id k)):=by
 simp only[kC,qau];cases qau E lpI base x ⟨fr,H⟩ with
 |none=>rfl
 |some y =>
  obtain⟨e,s⟩:=y;cases e with
  |norm=>rfl
  |ret=>rfl
  |exit i =>
   by_cases h:i=id
   ·subst h;simp[blK]
   ·simp[blK,h]
theorem qdV {ops:List IOper} {kill:List Nat}:kC E base fr H (.h (.reg ops kill,k))=kO E H.length fr (H++List.replicate (qaw ops) none) (.h (ops,rgK kill k)):=by
 simp only[kC,qau,qeY,kO];cases qaS E ops H.length ⟨fr,H++List.replicate (qaw ops) none⟩<;>rfl
theorem qbh {ops:List IOper} {bf kill:List Nat}:kC E base fr H (.h (.regD ops bf kill,k))=kD E H.length fr (H++List.replicate (qaw ops) none) bf [] (.h (ops,rgK kill k)):=by
 simp only[kC,qau,qgy,kD];cases qcj E ops bf [] H.length ⟨fr,H++List.replicate (qaw ops) none⟩<;>rfl
def Fr.fix:Fr→Nat→Bool→Fr
 | [],_,_=>[]
 | (j,v)::r,t,b=>if j=t then (j,.d (.b b))::r else (j,v)::Fr.fix r t b
theorem qgY : ∀{fr:Fr} {t:Nat} {b:Bool},fr.get t = .d (.b b)→fr.fix t b=fr
 | [],t,b,h=>rfl
 | (j,x)::r,t,b,h=>by
  simp only[Fr.get] at h;simp only[Fr.fix];split
  ·rename_i hj;rw[if_pos hj] at h;rw[h]
  ·rename_i hj;rw[if_neg hj] at h;rw[qgY h]
def tst (v:PV) {x y:Option R} (_:Hd (x,y)):Option R:=match v with | .d (.b true)=>x | .d (.b false)=>y|_=>none
theorem qeC (b:Bool) (x y:Option R):tst (.d (.b b)) (.h (x,y))=brn b (.h (x,y)):=by cases b<;>rfl
theorem qdS {t:Nat} {x y:PC}:kC E base fr H (.h (.cond (.t t) x y,k))=tst (fr.get t) (.h (kC E base (fr.fix t true) H (.h (x,k)),kC E base (fr.fix t false) H (.h (y,k)))):=by
 simp only[kC,qau,rd];cases h:fr.get t with
 |d v =>
  cases v with
  |b b=>cases b with
   |true=>simp only[tst];rw[qgY h]
   |false=>simp only[tst];rw[qgY h]
  | _=>rfl
 | _=>rfl
theorem qdT {b:Bool} {x y:PC}:kC E base fr H (.h (.cond (.c (.b b)) x y,k))=brn b (.h (kC E base fr H (.h (x,k)),kC E base fr H (.h (y,k)))):=by
 cases b<;>rfl
theorem qd9 {id:Nat}:kO E id fr H (.h ([],j))=j fr H:=rfl
def nid (op:IOp) (id:Nat):Nat:=if op.adds=true then id+1 else id
theorem qd7 {d:Nat} {op:IOp} {r:List IOper} {id:Nat}:kO E id fr H (.h (⟨some d,op,none⟩::r,j))=bo2 (qaa E (rd E fr) H id op) (.h fun v H=>kO E (nid op id) (fr.set d v) H (.h (r,j))):=by
 simp only[kO,qaS,bo2];cases qaa E (rd E fr) H id op<;>rfl
theorem qd5 {op:IOp} {r:List IOper} {id:Nat}:kO E id fr H (.h (⟨none,op,none⟩::r,j))=bo2 (qaa E (rd E fr) H id op) (.h fun _ H=>kO E (nid op id) fr H (.h (r,j))):=by
 simp only[kO,qaS,bo2];cases qaa E (rd E fr) H id op<;>rfl
def grd (v:PV) (w:Bool) {x y z:Option R} (_:Hd (x,y,z)):Option R:=match v with | .d (.b b)=>if b=w then x else y | .t []=>z|_=>none
theorem qdN (b:Bool) (x y z:Option R):grd (.d (.b b)) true (.h (x,y,z))=brn b (.h (x,y)):=by cases b<;>rfl
theorem qdO (b:Bool) (x y z:Option R):grd (.d (.b b)) false (.h (x,y,z))=brn b (.h (y,x)):=by cases b<;>rfl
theorem qdP (w:Bool) (x y z:Option R):grd (.t []) w (.h (x,y,z))=z:=rfl
theorem qd8 {d t:Nat} {w:Bool} {op:IOp} {r:List IOper} {id:Nat}:kO E id fr H (.h (⟨some d,op,some (t,w)⟩::r,j)) =
  grd (fr.get t) w (.h (bo2 (qaa E (rd E (fr.fix t w)) H id op) (.h fun v H=>kO E (nid op id) ((fr.fix t w).set d v) H (.h (r,j))),kO E (nid op id) ((fr.fix t (!w)).set d (.t [])) H (.h (r,j)),kO E (nid op id) (fr.set d (.t [])) H (.h (r,j)))):=by
 simp only[kO,qaS];cases h:fr.get t with
 |d v =>
  cases v with
  |b b =>
   by_cases hb:b=w
   ·subst hb;rw[qgY h];simp only[grd,beq_self_eq_true,if_true];cases qaa E (rd E fr) H id op<;>rfl
   ·have e:(b==w)=false:=by simpa using hb
    have e2:b = !w:=by cases b<;>cases w<;>simp_all
    rw[e2] at h;simp only[grd,e,if_neg hb,zzg,if_false];rw[qgY h];rfl
  | _=>rfl
 |t vs=>cases vs<;>rfl
 | _=>rfl
theorem qd6 {t:Nat} {w:Bool} {op:IOp} {r:List IOper} {id:Nat}:kO E id fr H (.h (⟨none,op,some (t,w)⟩::r,j)) =
  grd (fr.get t) w (.h (bo2 (qaa E (rd E (fr.fix t w)) H id op) (.h fun _ H=>kO E (nid op id) (fr.fix t w) H (.h (r,j))),kO E (nid op id) (fr.fix t (!w)) H (.h (r,j)),kO E (nid op id) fr H (.h (r,j)))):=by
 simp only[kO,qaS];cases h:fr.get t with
 |d v =>
  cases v with
  |b b =>
   by_cases hb:b=w
   ·subst hb;rw[qgY h];simp only[grd,beq_self_eq_true,if_true];cases qaa E (rd E fr) H id op<;>rfl
   ·have e:(b==w)=false:=by simpa using hb
    have e2:b = !w:=by cases b<;>cases w<;>simp_all
    rw[e2] at h;simp only[grd,e,if_neg hb,zzg,if_false];rw[qgY h];rfl
  | _=>rfl
 |t vs=>cases vs<;>rfl
 | _=>rfl
variable {ρ : Rand → PV} {id : Nat} {q : PV → Heap → Option R}
theorem qcZ {x:Rand}:bo2 (qaa E ρ H id (.mov x)) (.h q)=q (ρ x) H:=rfl
theorem qc0 {c x y:Rand}:bo2 (qaa E ρ H id (.pick c x y)) (.h q)=tst (ρ c) (.h (q (ρ x) H,q (ρ y) H)):=by
 simp only[qaa];cases ρ c with
 |d v =>
  cases v with
  |b b=>cases b<;>rfl
  | _=>rfl
 | _=>rfl
theorem qcJ {K:Sim.K} {z:DV}:bo2 (qaa E ρ H id (.alloc K z)) (.h q)=q (.p id 0 0) (H.put id (some (.box K (.d z)))):=rfl
theorem qcM {K:Sim.K} {x:Rand}:bo2 (qaa E ρ H id (.box K x)) (.h q)=chk (fits K (ρ x)=true) (.h (q (.p id 0 0) (H.put id (some (.box K (ρ x)))))):=by
 simp only[qaa,chk];split<;>rfl
theorem qcY {K:Sim.K} {x:Rand}:bo2 (qaa E ρ H id (.load K x)) (.h q)=bo (qed H K (ρ x)) (.h fun v=>q v H):=by
 simp only[qaa];exact qiU _ _ _
theorem qc2 {K:Sim.K} {x y:Rand}:bo2 (qaa E ρ H id (.store K x y)) (.h q)=bo (qcD H K (ρ x) (ρ y)) (.h fun H'=>q .u H'):=by
 simp only[qaa];cases qcD H K (ρ x) (ρ y)<;>rfl
theorem qcL {op:BinOp} {x y:Rand}:bo2 (qaa E ρ H id (.bin op x y)) (.h q)=bo (qa1 op (ρ x) (ρ y)) (.h fun v=>q (.d v) H):=by
 simp only[qaa];exact qtf _ _ _
theorem qc3 {op:UnOp} {x:Rand}:bo2 (qaa E ρ H id (.un op x)) (.h q)=bo (unA op (ρ x)) (.h fun v=>q (.d v) H):=by
 simp only[qaa];exact qtf _ _ _
theorem qcS {neg:Bool} {n:List Nat} {x y:Rand}:bo2 (qaa E ρ H id (.eqv neg n x y)) (.h q)=bo (eqA n (ρ x) (ρ y)) (.h fun e=>q (.d (.b (if neg=true then !e else e))) H):=by
 simp only[qaa];cases eqA n (ρ x) (ρ y)<;>rfl
theorem qcU {o:Nat} {x:Rand}:bo2 (qaa E ρ H id (.faddr o x)) (.h q)=bo (qhj o (ρ x)) (.h fun v=>q v H):=by
 simp only[qaa];exact qiU _ _ _
theorem qcV {o:Nat} {K:Sim.K} {x:Rand}:bo2 (qaa E ρ H id (.field o K x)) (.h q)=bo (qi5 o K (ρ x)) (.h fun v=>q v H):=by
 simp only[qaa];exact qiU _ _ _
theorem qcW {K:Sim.K} {x i:Rand}:bo2 (qaa E ρ H id (.iaddr K x i)) (.h q)=bo (iaddr H K (ρ x) (ρ i)) (.h fun v=>q v H):=by
 simp only[qaa];exact qiU _ _ _
theorem qc1 {K:Sim.K} {x:Rand} {lo hi mx:Option Rand}:bo2 (qaa E ρ H id (.sl K x lo hi mx)) (.h q)=bo (slA H K (ρ x) (lo.map ρ) (hi.map ρ) (mx.map ρ)) (.h fun v=>q v H):=by
 simp only[qaa];exact qiU _ _ _
theorem qcX {s:Bool} {x:Rand}:bo2 (qaa E ρ H id (.len s x)) (.h q)=bo (qfF H s (ρ x)) (.h fun n:Nat=>q (.d (.i .i64 (n:Int))) H):=by
 simp only[qaa];cases qfF H s (ρ x)<;>rfl
theorem qcK {K:Sim.K} {b:Nat} {x y:Rand}:bo2 (qaa E ρ H id (.app K b x y)) (.h q)=bo2 (qfO H id K b (ρ x) (ρ y)) (.h q):=rfl
theorem qcN {f:Nat} {as0:List Rand}:bo2 (qaa E ρ H id (.call 0 f as0)) (.h q)=bo (qaL H (as0.map ρ)) (.h fun d=>bo (E.val f d.1) (.h fun r=>q r.1 (if (d.2.isEmpty||r.1.scal)=true then H else frz H d.2))):=by
 simp only[qaa];cases qaL H (as0.map ρ) with
 |none=>rfl
 |some d =>
  simp only[bo];cases E.val f d.1 with
  |none=>rfl
  |some r=>rfl
def qwc (x:PV×Bool) {q:K→List DV→Option R} (_:Hd q):Option R:=match x with|(.d (.l k es _),true)=>q k es|_=>none
theorem qeh {k:K} {es:List DV} {t:Bool} {q:K→List DV→Option R}:qwc (.d (.l k es t),true) (.h q)=q k es:=rfl
theorem qcO {f:Nat} {as0:List Rand}:bo2 (qaa E ρ H id (.call 1 f as0)) (.h q)=bo (qaL H (as0.map ρ)) (.h fun d=>bo (E.val f d.1) (.h fun r=>qwc r (.h fun k es=>q (.r id k 0 es.length false) ((if d.2.isEmpty=true then H else frz H d.2).put id (some (.sl k 0 es)))))):=by
 simp only[qaa];cases qaL H (as0.map ρ) with
 |none=>rfl
 |some d =>
  simp only[bo];cases E.val f d.1 with
  |none=>rfl
  |some r =>
   obtain⟨r,o⟩:=r;cases r with
   |d v=>cases v with
    |l k es t=>cases o<;>rfl
    | _=>rfl
   | _=>rfl
theorem qcP {m f:Nat} {as0:List Rand}:bo2 (qaa E ρ H id (.call (m+2) f as0)) (.h q)=bo2 (E.ref f (as0.map ρ) H) (.h q):=rfl
def qpW (x:PV) (i:Nat) {q:PV→Option R} (_:Hd q):Option R:=match x with | .t vs=>bo vs[i]? (.h q)|_=>none
theorem qdE {vs:List PV} {i:Nat} {q:PV→Option R}:qpW (.t vs) i (.h q)=bo vs[i]? (.h q):=rfl
theorem qcT {x:Rand} {i:Nat}:bo2 (qaa E ρ H id (.ext x i)) (.h q)=qpW (ρ x) i (.h fun v=>q v H):=by
 simp only[qaa,qpW];cases ρ x with
 |t vs=>exact qiU _ _ _
 | _=>rfl
def qsl (x:PV) (lo hi:Option PV) {q:PV→Option R} (_:Hd q):Option R:=match x with | .d (.s s)=>bo (bnd s.length s.length hi) (.h fun h=>bo (bnd 0 h lo) (.h fun l=>q (.d (.s ((s.take h).drop l)))))|_=>none
theorem qcC {s:List UInt8} {lo hi:Option PV} {q:PV→Option R}:qsl (.d (.s s)) lo hi (.h q)=bo (bnd s.length s.length hi) (.h fun h=>bo (bnd 0 h lo) (.h fun l=>q (.d (.s ((s.take h).drop l))))):=rfl
theorem qcp {x:Rand} {lo hi:Option Rand}:bo2 (qaa E ρ H id (.slS x lo hi)) (.h q)=qsl (ρ x) (lo.map ρ) (hi.map ρ) (.h fun v=>q v H):=by
 simp only[qaa,qsl];cases ρ x with
 |d v=>cases v with
  |s s =>
   simp only;cases bnd s.length s.length (hi.map ρ) with
   |none=>rfl
   |some h=>simp only[bo];cases bnd 0 h (lo.map ρ)<;>rfl
  | _=>rfl
 | _=>rfl
def qja (x i:PV) {q:PV→Option R} (_:Hd q):Option R:=match x,i with | .d (.s s),.d (.i _ n)=>chk (0≤n) (.h (bo s[n.toNat]? (.h fun b=>q (.d (.i .u8 b.toNat)))))|_,_=>none
theorem qbX {s:List UInt8} {kk:IntKind} {n:Int} {q:PV→Option R}:qja (.d (.s s)) (.d (.i kk n)) (.h q)=chk (0≤n) (.h (bo s[n.toNat]? (.h fun b=>q (.d (.i .u8 b.toNat))))):=rfl
theorem qyC {x i:Rand} {s:List UInt8} {kk:IntKind} {n:Int} (hx:ρ x = .d (.s s)) (hi:ρ i = .d (.i kk n)):bo2 (qaa E ρ H id (.idxS x i)) (.h q)=chk (0≤n) (.h (bo s[n.toNat]? (.h fun b=>q (.d (.i .u8 b.toNat)) H))):=by
 simp only[qaa,hx,hi,asI,chk];split
 ·cases s[n.toNat]? <;> rfl
 ·rfl
variable {kk : IntKind}
theorem qc7 {d top:Nat} {n:Int} {y:Nat→Option R}:bo (bnd d top (some (.d (.i kk n)))) (.h y)=chk (0≤n∧n≤top) (.h (y n.toNat)):=by
 simp only[bnd,asI,chk];split<;>rfl
theorem qc8 {d top:Nat} {y:Nat→Option R}:bo (bnd d top none) (.h y)=y d:=rfl
theorem qdd {K K':Sim.K} {es:List DV} {t:Bool} {n:Int} {y:PV→Option R} (hK:K.eq K'=true):bo (iaddr H K (.d (.l K' es t)) (.d (.i kk n))) (.h y)=chk (0≤n∧n<es.length) (.h (bo es[n.toNat]? (.h fun e=>y (.q e K 0)))):=by
 simp only[iaddr,asI,inR,chk];by_cases h:0≤n∧n<es.length
 ·rw[if_pos h,if_pos h];simp only
  cases es[n.toNat]? with
  |none=>rfl
  |some e=>simp only[hK,if_true];rfl
 ·rw[if_neg h,if_neg h];rfl
theorem qc6 {x y:List UInt8} {z:DV→Option R}:bo (qa1 .add (.d (.s x)) (.d (.s y))) (.h z)=chk (x.length+y.length<4611686018427387904) (.h (z (.s (x++y)))):=by
 simp only[qa1,qpm,chk];by_cases h:x.length+y.length<4611686018427387904
 ·rw[if_pos h,if_pos (by exact h)];rfl
 ·rw[if_neg h,if_neg (by exact h)];rfl
theorem qbP {x y:Int} {z:DV→Option R}:bo (qa1 .quo (.d (.i kk x)) (.d (.i kk y))) (.h z)=chk (y≠0) (.h (z (.i kk (kk.wrap (x.tdiv y))))):=by
 simp only[qa1,qgi,if_true,chk];by_cases h:y=0<;>simp[h,bo]
theorem qbW {x y:Int} {z:DV→Option R}:bo (qa1 .rem (.d (.i kk x)) (.d (.i kk y))) (.h z)=chk (y≠0) (.h (z (.i kk (x.tmod y)))):=by
 simp only[qa1,qgi,if_true,chk];by_cases h:y=0<;>simp[h,bo]
end
noncomputable def fin (E:Env) (rs:List RV):KC (PV×Bool)
 | .exit _,_,_=>none
 | _,fr,H=>bo (runG E (qar fr) H) (.h fun H=>bo (results fr H rs) (.h fun vs=>purT H (qfU vs)))
theorem qab (T:Tab) {f:Nat} {F:PF} (hF:T.F f=some F) {args:List DV} (ha:args.length=F.nargs):T.val f args=kC T.env 0 (Fr.ofArgs 0 (args.map .d)) [] (.h (F.body,fin T.env F.results)):=by
 rw[qKg T hF];unfold qbV;rw[if_pos (by simpa using ha)]
 simp only[kC,List.length_nil];cases qau T.env lpI 0 F.body ⟨Fr.ofArgs 0 (args.map .d),[]⟩ with
 |none=>rfl
 |some x =>
  obtain⟨e,s⟩:=x;cases e with
  |exit id=>rfl
  |norm =>
   simp only[fin];cases runG T.env (qar s.fr) s.H with
   |none=>rfl
   |some H'=>simp only[bo];cases results s.fr H' F.results<;>rfl
  |ret =>
   simp only[fin];cases runG T.env (qar s.fr) s.H with
   |none=>rfl
   |some H'=>simp only[bo];cases results s.fr H' F.results<;>rfl
end Go.Sim
end
section
namespace Go.Sim
section
variable {R : Type} {E : Env} {base : Nat} {live : List Nat} {body : PC}
noncomputable def lpK (E:Env) (base:Nat) (live:List Nat) (body:PC) (k:KC R):KC R
 | .norm,fr,H=>kC E base fr H (.h (.loop live body,k))
 | .exit id,fr,H=>k (.exit id) fr H
 | .ret,fr,H=>k .ret fr H
theorem qnp {fr:Fr} {H:Heap} {k:KC R}:kC E base fr H (.h (.loop live body,k))=kC E base (gc live base ⟨fr,H⟩).fr (gc live base ⟨fr,H⟩).H (.h (body,lpK E base live body k)):=by
 have h:qau E lpI base (.loop live body) ⟨fr,H⟩=lpI (fun s=>qau E lpI base body (gc live base s)) ⟨fr,H⟩:=rfl
 simp only[kC,h];rw[qCz];cases hb:qau E lpI base body (gc live base ⟨fr,H⟩) with
 |none=>simp only
 |some x =>
  obtain⟨e,s⟩:=x;simp only;cases e with
  |norm=>rfl
  |exit id=>rfl
  |ret=>rfl
def qe5 {α β:Type} (step:Nat→β→α→(β→Option R)→Option R) (done:β→Option R):Nat→β→List α→Option R
 | _,b,[]=>done b
 |i,b,x::r=>step i b x fun b'=>qe5 step done (i+1) b' r
theorem qbY {α β:Type} (ls:List α) (st:Nat→β→St) (inv:Nat→β→Prop) (step:Nat→β→α→(β→Option R)→Option R) (done:β→Option R) {k:KC R}
  (hend : ∀B,B=body→∀b,inv ls.length b→kC E base (st ls.length b).fr (st ls.length b).H (.h (body,lpK E base live B k))=done b)
  (hround : ∀B,B=body→∀i b (h:i<ls.length),inv i b→∀c:β→Option R,(∀b' fr H,inv (i+1) b'→gc live base ⟨fr,H⟩=st (i+1) b'→kC E base fr H (.h (.loop live B,k))=c b')→kC E base (st i b).fr (st i b).H (.h (body,lpK E base live B k))=step i b ls[i] c)
  {fr:Fr} {H:Heap} {b0:β} (h0:gc live base ⟨fr,H⟩=st 0 b0) (hi:inv 0 b0):kC E base fr H (.h (.loop live body,k))=qe5 step done 0 b0 ls:=by
 have key : ∀(n i:Nat) (b:β) (fr:Fr) (H:Heap),i+n=ls.length→inv i b→gc live base ⟨fr,H⟩=st i b→kC E base fr H (.h (.loop live body,k))=qe5 step done i b (ls.drop i):=by
  intro n;induction n with
  |zero =>
   intro i b fr H hn hv hg;have hi:i=ls.length:=by omega
   subst hi;rw[qnp,hg,hend body rfl b hv,List.drop_length];rfl
  |succ n ih =>
   intro i b fr H hn hv hg;have hlt:i<ls.length:=by omega
   rw[qnp,hg,List.drop_eq_getElem_cons hlt];exact hround body rfl i b hlt hv _ fun b' fr' H' hv' hg'=>ih (i+1) b' fr' H' (by omega) hv' hg'
 have:=key ls.length 0 b0 fr H (by omega) hi h0
 simpa using this
theorem qhS {α:Type} (p:α→Bool) (r:Option R) (done:Unit→Option R) (step:Nat→Unit→α→(Unit→Option R)→Option R) (hs : ∀i b x c,step i b x c=if p x=true then r else c ()) : ∀(i:Nat) (ls:List α),qe5 step done i () ls=if ls.any p=true then r else done ()
 |i,[]=>by simp[qe5]
 |i,x::l=>by
  rw[qe5,hs,qhS p r done step hs (i+1) l];cases h:p x<;>simp[h]
theorem ql7 {α:Type} (p:α→Bool) (r:Option R) (done:Unit→Option R) (step:Nat→Unit→α→(Unit→Option R)→Option R) (hs : ∀i b x c,step i b x c=if p x=true then c () else r) : ∀(i:Nat) (ls:List α),qe5 step done i () ls=if ls.all p=true then done () else r
 |i,[]=>by simp[qe5]
 |i,x::l=>by
  rw[qe5,hs,ql7 p r done step hs (i+1) l];cases h:p x<;>simp[h]
end
end Go.Sim
end
section
namespace Go.Sim
section
variable {R : Type} {y : PV → Option R} {H : Heap}
theorem qcb (v:DV):(PV.d v).cells=v.cells.map .d:=by cases v<;>rfl
theorem qsp {α:Type} (l:List α) (c:Nat):(l.drop c).take 1=match l[c]? with|some x=>[x]|none=>[]:=by
 cases h:l[c]? with
 |none=>rw[List.getElem?_eq_none_iff] at h;rw[List.drop_eq_nil_iff.2 h];rfl
 |some x =>
  obtain⟨hc,rfl⟩:=zzk.1 h;rw[List.drop_eq_getElem_cons hc];rfl
theorem qeA (n:Nat) (v:DV) (c:Nat):bo (qgM (some n) (.d v) c none) (.h y)=chk (c<n) (.h (bo v.cells[c]? (.h fun x=>y (.d x)))):=by
 unfold chk;simp only[qgM,K.eq,Bool.and_false,zzg,if_false];change bo (@ite _ (c+1≤n) (Nat.decLe _ _) (mkP none ((List.drop c (PV.d v).cells).take 1)) none) (.h y)=_
 by_cases h:c<n
 ·rw[if_pos h,if_pos (by omega),qsp,qcb,zzj]
  cases v.cells[c]? <;> rfl
 ·rw[if_neg h,if_neg (by omega)];rfl
theorem qHL (n:Nat) (v:DV) (c:Nat) {z:DV→Option R}:bo (qga (some n) v c none) (.h z)=chk (c<n) (.h (bo v.cells[c]? (.h z))):=by
 unfold chk;simp only[qga,K.eq,Bool.and_false,zzg,if_false];change bo (@ite _ (c+1≤n) (Nat.decLe _ _) (mkD none ((List.drop c v.cells).take 1)) none) (.h z)=_
 by_cases h:c<n
 ·rw[if_pos h,if_pos (by omega),qsp]
  cases v.cells[c]? <;> rfl
 ·rw[if_neg h,if_neg (by omega)];rfl
theorem qeb (n:Nat) (v:DV) (c:Nat):bo (qed H none (.q v (some n) c)) (.h y)=chk (c<n) (.h (bo v.cells[c]? (.h fun x=>y (.d x)))):=by
 have h:=qHL (R:=R) n v c (z:=fun x=>y (.d x))
 rw[←h];simp only[qed];cases qga (some n) v c none<;>rfl
theorem qcB (k:K) (v:DV):bo (qed H k (.q v k 0)) (.h y)=y (.d v):=by
 have:K.eq k k=true:=by cases k<;>simp[K.eq]
 simp[qed,qga,this,bo]
theorem qef (x:Option Obj) (H:Heap):Heap.obj (x::H) 0=x:=rfl
theorem qeg (x:Option Obj) (H:Heap) (n:Nat):Heap.obj (x::H) (n+1)=Heap.obj H n:=rfl
theorem qea (k:K) (o i c:Nat):bo (qed H k (.p o i c)) (.h y)=match H.obj o with
  |some (.box kb v)=>chk (i=0) (.h (bo (qgM kb v c k) (.h y)))
  |some (.sl kb _ es)=>bo es[i]? (.h fun e=>bo (qga kb e c k) (.h fun x=>y (.d x)))
  | _=>none:=by
 simp only[qed];cases H.obj o with
 |none=>rfl
 |some x=>cases x with
  |box kb v =>
   simp only;by_cases h:i=0
   ·subst h;simp[chk]
   ·have:(i==0)=false:=by simpa using h
    simp[h,this,bo,chk]
  |sl kb ro es =>
   simp only;cases es[i]? with
   |none=>rfl
   |some e=>simp only[bo];cases qga kb e c k<;>rfl
  | _=>rfl
theorem qcE (k:K) (v:PV):bo (qgM k v 0 k) (.h y)=y v:=by
 have:K.eq k k=true:=by cases k<;>simp[K.eq]
 simp[qgM,this,bo]
theorem qdj (off o i c:Nat):bo (qhj off (.p o i c)) (.h y)=y (.p o i (c+off)):=rfl
theorem qdk (off:Nat) (v:DV) (k:K) (c:Nat):bo (qhj off (.q v k c)) (.h y)=y (.q v k (c+off)):=rfl
variable {z : Nat → Option R}
theorem qde (k:K) (es:List DV) (t:Bool):bo (qfF H false (.d (.l k es t))) (.h z)=z es.length:=rfl
theorem qdg (s:List UInt8):bo (qfF H true (.d (.s s))) (.h z)=z s.length:=rfl
theorem qdf (o:Nat) (k:K) (off len:Nat) (t:Bool):bo (qfF H false (.r o k off len t)) (.h z)=match H.obj o with|some (.sl _ _ es)=>chk (off+len≤es.length) (.h (z len))|_=>none:=by
 simp only[qfF,chk];cases H.obj o with
 |none=>rfl
 |some x=>cases x with
  |sl kb ro es=>simp only[zzg,if_false];split<;>rfl
  | _=>rfl
variable {d : DV → Option R}
section
variable (k : IntKind) (a b : Int)
theorem qcq:bo (qa1 .add (.d (.i k a)) (.d (.i k b))) (.h d)=d (.i k (k.wrap (a+b))):=by simp[qa1,qgi,bo]
theorem qds:bo (qa1 .sub (.d (.i k a)) (.d (.i k b))) (.h d)=d (.i k (k.wrap (a-b))):=by simp[qa1,qgi,bo]
theorem qcs:bo (qa1 .mul (.d (.i k a)) (.d (.i k b))) (.h d)=d (.i k (k.wrap (a*b))):=by simp[qa1,qgi,bo]
theorem qda:bo (qa1 .eql (.d (.i k a)) (.d (.i k b))) (.h d)=d (.b (a==b)):=by simp[qa1,qgi,bo]
theorem qdn:bo (qa1 .neq (.d (.i k a)) (.d (.i k b))) (.h d)=d (.b (a != b)):=by simp[qa1,qgi,bo]
theorem qdi:bo (qa1 .lss (.d (.i k a)) (.d (.i k b))) (.h d)=d (.b (decide (a<b))):=by simp[qa1,qgi,bo]
theorem qdh:bo (qa1 .leq (.d (.i k a)) (.d (.i k b))) (.h d)=d (.b (decide (a≤b))):=by simp[qa1,qgi,bo]
theorem qdc:bo (qa1 .gtr (.d (.i k a)) (.d (.i k b))) (.h d)=d (.b (decide (b<a))):=by simp[qa1,qgi,bo]
theorem qdb:bo (qa1 .geq (.d (.i k a)) (.d (.i k b))) (.h d)=d (.b (decide (b≤a))):=by simp[qa1,qgi,bo]
theorem qdm:bo (unA .neg (.d (.i k a))) (.h d)=d (.i k (k.wrap (-a))):=by simp[unA,bo]
end
theorem qdp (b:Bool):bo (unA .not (.d (.b b))) (.h d)=d (.b (!b)):=rfl
theorem qc9 (a b:List UInt8):bo (qa1 .eql (.d (.s a)) (.d (.s b))) (.h d)=d (.b (a==b)):=rfl
theorem qdl (a b:List UInt8):bo (qa1 .neq (.d (.s a)) (.d (.s b))) (.h d)=d (.b (!(a==b))):=rfl
theorem qcH (n m:Nat):K.eq (some n) (some m)=(n==m):=rfl
theorem qcF (n:Nat):K.eq none (some n)=false:=rfl
theorem qcG (n:Nat):K.eq (some n) none=false:=rfl
theorem qb3 (k:K):K.eq k k=true:=by cases k<;>simp[K.eq]
theorem qdI (j t:Nat) (v:PV) (r:Fr):Fr.get ((j,v)::r) t=if j=t then v else Fr.get r t:=rfl
theorem qdJ (t:Nat):Fr.get [] t = .u:=rfl
theorem qdz (l:List Nat) (j:Nat) (v:PV) (r:Fr):Fr.drop l ((j,v)::r)=if (l.contains j&&Nat.blt j gh)=true then Fr.drop l r else (j,v)::Fr.drop l r:=rfl
theorem qdA (l:List Nat):Fr.drop l []=[]:=rfl
theorem qex (j t:Nat) (x v:PV) (r:Fr):Fr.set ((j,x)::r) t v=if j=t then (t,v)::r else if j<t then (t,v)::(j,x)::r else (j,x)::Fr.set r t v:=rfl
theorem qey (t:Nat) (v:PV):Fr.set [] t v=[(t,v)]:=rfl
theorem qdG (j t:Nat) (v:PV) (r:Fr) (b:Bool):Fr.fix ((j,v)::r) t b=if j=t then (j,.d (.b b))::r else (j,v)::Fr.fix r t b:=rfl
theorem qdH (t:Nat) (b:Bool):Fr.fix [] t b=[]:=rfl
theorem wrI {n:Int} (h : -9223372036854775808≤n) (h':n<9223372036854775808):IntKind.i64.wrap n=n:=by
 rw[IntKind.wrap_i64];omega
theorem qdK (j:Nat) (v:PV) (r:Fr):qar ((j,v)::r)=if Nat.ble gh j=true then v::qar r else qar r:=rfl
theorem qdL:qar []=[]:=rfl
theorem qcc {E:Env} {rs:List RV} {fr:Fr} (h:qar fr=[]):fin E rs .ret fr H=bo (results fr H rs) (.h fun vs=>purT H (qfU vs)):=by
 simp only[fin,h];rfl
theorem qdF {E:Env} {rs:List RV} {fr:Fr} (h:qar fr=[]):fin E rs .norm fr H=bo (results fr H rs) (.h fun vs=>purT H (qfU vs)):=by
 simp only[fin,h];rfl
theorem qct {fr:Fr} {y:List PV→Option R}:bo (results fr H []) (.h y)=y []:=rfl
theorem qcu {fr:Fr} {n:Nat} {r:List RV} {y:List PV→Option R}:bo (results fr H (.t n::r)) (.h y)=bo (results fr H r) (.h fun vs=>y (fr.get n::vs)):=by
 simp only[results];cases results fr H r<;>rfl
theorem qdq {fr:Fr} {n:Nat} {k:K} {r:List RV} {y:List PV→Option R}:bo (results fr H (.c n k::r)) (.h y)=bo (qed H k (fr.get n)) (.h fun v=>bo (results fr H r) (.h fun vs=>y (v::vs))):=by
 simp only[results];cases qed H k (fr.get n) with
 |none=>rfl
 |some v=>simp only[bo];cases results fr H r<;>rfl
theorem qei (v:PV):qfU [v]=v:=rfl
theorem qej (v w:PV) (r:List PV):qfU (v::w::r) = .t (v::w::r):=rfl
theorem qeo (b:Bool):purT H (.d (.b b))=some (.d (.b b),false):=rfl
theorem qep (k:IntKind) (n:Int):purT H (.d (.i k n))=some (.d (.i k n),false):=rfl
theorem qes (s:List UInt8):purT H (.d (.s s))=some (.d (.s s),false):=rfl
theorem qen (cs:List DV):purT H (.d (.a cs))=some (.d (.a cs),false):=rfl
theorem qer (k:K) (es:List DV):purT H (.d (.l k es true))=some (.d (.l k es false),es.isEmpty):=rfl
theorem qeq (k:K) (es:List DV):purT H (.d (.l k es false))=some (.d (.l k es false),false):=rfl
variable {hy : Heap → Option R}
theorem qw4 (kb k:K) (o i c:Nat) (v w:PV) (ho:H.obj o=some (.box kb w)):bo (qcD H k (.p o i c) v) (.h hy)=chk (fits k v=true) (.h (chk (i=0) (.h (if (c==0&&K.eq k kb)=true then hy (H.put o (some (.box kb v))) else chk (c+k.size≤w.cells.length) (.h (bo (mkP kb (putAt w.cells c v.cells)) (.h fun w'=>hy (H.put o (some (.box kb w')))))))))):=by
 simp only[qcD,ho,chk];by_cases hf:fits k v=true
 ·simp only[hf,if_true];by_cases hi:i=0
  ·subst hi;simp only[beq_self_eq_true,if_true];by_cases hc:(c==0&&K.eq k kb)=true
   ·simp only[hc,if_true];rfl
   ·simp only[hc,zzg,if_false];by_cases hs:c+k.size≤w.cells.length
    ·simp only[hs,if_true];cases mkP kb (putAt w.cells c v.cells)<;>rfl
    ·simp only[hs,if_false];rfl
  ·have:(i==0)=false:=by simpa using hi
   simp only[this,hi,zzg,if_false];rfl
 ·simp only[hf,zzg,if_false];rfl
def stK (H:Heap) (k:K) (o i c:Nat) (v:PV) (x:Option Obj) {hy:Heap→Option R} (_:Hd hy):Option R:=match x with
 |some (.box kb w)=>chk (fits k v=true) (.h (chk (i=0) (.h (if (c==0&&K.eq k kb)=true then hy (H.put o (some (.box kb v))) else chk (c+k.size≤w.cells.length) (.h (bo (mkP kb (putAt w.cells c v.cells)) (.h fun w'=>hy (H.put o (some (.box kb w'))))))))))
 | _=>bo (qcD H k (.p o i c) v) (.h hy)
theorem qch (k:K) (o i c:Nat) (v:PV):bo (qcD H k (.p o i c) v) (.h hy)=stK H k o i c v (H.obj o) (.h hy):=by
 unfold stK;split
 ·rename_i kb w ho;exact qw4 kb k o i c v w ho
 ·rfl
theorem qez (kb k:K) (o i c:Nat) (v w:PV):stK H k o i c v (some (.box kb w)) (.h hy)=chk (fits k v=true) (.h (chk (i=0) (.h (if (c==0&&K.eq k kb)=true then hy (H.put o (some (.box kb v))) else chk (c+k.size≤w.cells.length) (.h (bo (mkP kb (putAt w.cells c v.cells)) (.h fun w'=>hy (H.put o (some (.box kb w')))))))))):=rfl
def qlr (E:Env) (H:Heap) (v:PV) (as0:List PV) {q:PV→Heap→Option R} (_:Hd q):Option R:=match v with
 | .f n caps=>match (if caps.isEmpty=true then qag as0 else none) with
  |some ds=>bo (E.val n ds) (.h fun r=>q r.1 H)
  |none=>bo2 (E.ref n (as0++caps) H) (.h q)
 | .m n firsts=>match qag (firsts++as0) with
  |some ds=>bo (E.val n ds) (.h fun r=>q r.1 H)
  |none=>bo2 (E.ref n (firsts++as0) H) (.h q)
 | .h o=>bo2 (E.yld o as0 H) (.h q)
 | _=>none
theorem qcQ {E:Env} {ρ:Rand→PV} {id:Nat} {x:Rand} {as0:List Rand} {q:PV→Heap→Option R}:bo2 (qaa E ρ H id (.callv x as0)) (.h q)=qlr E H (ρ x) (as0.map ρ) (.h q):=by
 simp only[qaa,qlr];cases ρ x with
 |f n caps =>
  simp only;cases (if caps.isEmpty=true then qag (as0.map ρ) else none) with
  |none=>rfl
  |some ds=>simp only;cases E.val n ds<;>rfl
 |m n firsts =>
  simp only;cases qag (firsts++as0.map ρ) with
  |none=>rfl
  |some ds=>simp only;cases E.val n ds<;>rfl
 | _=>rfl
theorem qdw {E:Env} {n:Nat} {as0:List PV} {q:PV→Heap→Option R}:qlr E H (.f n []) as0 (.h q)=match qag as0 with|some ds=>bo (E.val n ds) (.h fun r=>q r.1 H)|none=>bo2 (E.ref n (as0++[]) H) (.h q):=rfl
theorem qdx {E:Env} {n:Nat} {c:PV} {cs:List PV} {as0:List PV} {q:PV→Heap→Option R}:qlr E H (.f n (c::cs)) as0 (.h q)=bo2 (E.ref n (as0++c::cs) H) (.h q):=rfl
theorem qel:qag []=some []:=rfl
theorem qek (v:DV) (r:List PV):qag (.d v::r)=match qag r with|some vs=>some (v::vs)|none=>none:=rfl
theorem qdC (T:Tab) (f:Nat) (ds:List DV):T.env.val f ds=T.val f ds:=rfl
theorem qdB (T:Tab) (f:Nat) (as0:List PV) (H:Heap):T.env.ref f as0 H=T.ref f as0 H:=rfl
theorem qeu:qaL H []=some ([],[]):=rfl
theorem qet (v:DV) (r:List PV):qaL H (.d v::r)=match qaL H r with|some (xs,ps)=>some (v::xs,ps)|none=>none:=by
 simp only[qaL,pur,qbd];cases qaL H r<;>rfl
theorem qee {E:Env} {ρ:Rand→PV} {id f:Nat} {cs:List Rand} {q:PV→Heap→Option R}:bo2 (qaa E ρ H id (.mkf f cs)) (.h q)=q (.f f (cs.map ρ)) H:=rfl
theorem qwk : ∀l:List DV,qag (l.map PV.d)=some l
 | []=>rfl
 |v::l=>by simp[qag,qwk l]
theorem qeB (n m:Nat) (v:DV) (c:Nat):bo (qgM (some n) (.d v) c (some m)) (.h y)=if (c==0&&m==n)=true then y (.d v) else chk (c+m≤n∧((v.cells.drop c).take m).length=m) (.h (y (.d (.a ((v.cells.drop c).take m))))):=by
 by_cases h:(c==0&&m==n)=true
 ·have h':=h
  simp only[zzf,beq_iff_eq] at h';obtain⟨rfl,rfl⟩:=h';rw[qcE];simp
 ·rw[if_neg h];have h':(c==0&&K.eq (some m) (some n))=false:=by simpa[K.eq] using h
  simp only[qgM,h',zzg,if_false,chk];change bo (@ite _ (c+m≤n) (Nat.decLe _ _) (mkP (some m) ((List.drop c (PV.d v).cells).take m)) none) (.h y)=_
  rw[qcb,←List.map_drop,←List.map_take];by_cases h1:c+m≤n
  ·rw[if_pos h1];by_cases h2:((v.cells.drop c).take m).length=m
   ·rw[if_pos ⟨h1,h2⟩];simp only[mkP,zzo,h2,if_true,mkA,qwk];rfl
   ·rw[if_neg (fun h=>h2 h.2)]
    simp only[mkP,zzo,h2,if_false];rfl
  ·rw[if_neg h1,if_neg (fun h=>h1 h.1)];rfl
theorem qec (n m:Nat) (v:DV) (c:Nat):bo (qed H (some m) (.q v (some n) c)) (.h y)=if (c==0&&m==n)=true then y (.d v) else chk (c+m≤n∧((v.cells.drop c).take m).length=m) (.h (y (.d (.a ((v.cells.drop c).take m))))):=by
 by_cases h:(c==0&&m==n)=true
 ·have h':=h
  simp only[zzf,beq_iff_eq] at h';obtain⟨rfl,rfl⟩:=h';rw[qcB];simp
 ·rw[if_neg h];have h':(c==0&&K.eq (some m) (some n))=false:=by simpa[K.eq] using h
  simp only[qed,qga,h',zzg,if_false,chk];change bo (match @ite _ (c+m≤n) (Nat.decLe _ _) (mkD (some m) ((List.drop c v.cells).take m)) none with|some x=>some (PV.d x)|none=>none) (.h y)=_
  by_cases h1:c+m≤n
  ·rw[if_pos h1];by_cases h2:((v.cells.drop c).take m).length=m
   ·rw[if_pos ⟨h1,h2⟩];simp only[mkD,h2,if_true];rfl
   ·rw[if_neg (fun h=>h2 h.2)]
    simp only[mkD,h2,if_false];rfl
  ·rw[if_neg h1,if_neg (fun h=>h1 h.1)];rfl
end
theorem wr1 {i:Nat} (h:(i:Int)+1<9223372036854775808):IntKind.i64.wrap ((i:Int)+1)=(i:Int)+1:=wrI (by omega) h
theorem mxl:maxLen=9223372036854775807:=rfl
end Go.Sim
end
section
namespace Go.Sim
section
variable {R : Type} {E : Env} {fr : Fr} {H : Heap} {bf : List Nat} {acc : List (List Nat × List Nat)} {id : Nat} {j : KO R}
theorem qtM : ∀a:List Nat,qaP a []=true
 | []=>rfl
 |x::r=>by have:=qtM r;unfold qaP at this⊢;simp
theorem qwd (b:Nat) : ∀(acc:List (List Nat×List Nat)) (i:Nat),qaE b i acc [] []=true
 | [],_=>rfl
 |x::r,i=>by simp only[qaE,qwd b r (i+1),qtM,Bool.and_true];simp[qaP]
def rdS:IOp→Bool
 | .mov _ | .pick _ _ _ | .load _ _ | .bin _ _ _ | .eqv _ _ _ _ | .eqb _ _ _ | .isnil _ _ _ | .un _ _ | .conv _ _ | .slS _ _ _ | .sl _ _ _ _ _ | .faddr _ _ | .field _ _ _ | .iaddr _ _ _ | .iaddrA _ _ _ _ | .idxS _ _ | .idxA _ _ _ _ | .len _ _ | .ext _ _ | .nilck _ | .minmax _ _ | .call 0 _ _=>true
 | _=>false
def qhP:Heap→Bool
 | []=>true
 |some (.sl _ _ _)::_=>false
 | _::r=>qhP r
theorem qv1 : ∀{H:Heap} {o:Nat},qhP H=true→∀k ro es,H.obj o≠some (.sl k ro es)
 | [],o,_,k,ro,es,h=>by simp[Heap.obj] at h
 |x::r,0,hn,k,ro,es,h=>by
  have:x=some (.sl k ro es):=h
  subst this;simp[qhP] at hn
 |x::r,o+1,hn,k,ro,es,h=>by
  have hn':qhP r=true:=by
   cases x with
   |none=>exact hn
   |some y=>cases y<;>first|exact hn|(simp[qhP] at hn)
  exact qv1 (H:=r) (o:=o) hn' k ro es h
theorem qum {H:Heap} (hn:qhP H=true) : ∀os:List Nat,frz H os=H
 | []=>rfl
 |o::r=>by
  have h1:qgz H o=H:=by
   unfold qgz;split
   ·rename_i k ro es h;exact absurd h (qv1 hn k ro es)
   ·rfl
  rw[frz,h1,qum hn r]
theorem qhQ {x:Option PV} {H H':Heap} {v:PV} (h:opt x H=some (v,H')):H'=H:=by
 cases x with
 |none=>cases h
 |some y=>cases h;rfl
theorem qv9 {x:Option DV} {H H':Heap} {v:PV} (h:qg2 x H=some (v,H')):H'=H:=by
 cases x with
 |none=>cases h
 |some y=>cases h;rfl
theorem qG4 {ρ:Rand→PV} {op:IOp} (hs:rdS op=true) (hn:qhP H=true) {v:PV} {H':Heap} (h:qaa E ρ H id op=some (v,H')):H'=H:=by
 cases op with
 |call m f as0 =>
  match m with
  | 0 =>
   simp only[qaa] at h;split at h
   ·split at h
    ·simp only[zzb,zzc] at h;rw[←h.2,qum hn];split<;>rfl
    ·cases h
   ·cases h
  |m+1=>simp[rdS] at hs
 |mov x=>cases h;rfl
 |pick c a b=>simp only[qaa] at h;split at h<;>first|(cases h;rfl)|cases h
 |load k x=>exact qhQ h
 |bin op x y=>exact qv9 h
 |eqv neg ks x y=>simp only[qaa] at h;split at h<;>first|(cases h;rfl)|cases h
 |eqb neg x y=>simp only[qaa] at h;split at h<;>first|(cases h;rfl)|cases h
 |isnil neg kd x=>simp only[qaa] at h;split at h<;>first|(cases h;rfl)|cases h
 |un op x=>exact qv9 h
 |conv k x=>simp only[qaa] at h;split at h<;>first|(cases h;rfl)|cases h
 |slS x lo hi=>simp only[qaa] at h; (repeat' split at h)<;>first|(cases h;rfl)|cases h
 |sl k x lo hi mx=>exact qhQ h
 |faddr o x=>exact qhQ h
 |field o k x=>exact qhQ h
 |iaddr k x i=>exact qhQ h
 |iaddrA n k x i=>simp only[qaa] at h; (repeat' split at h)<;>first|exact qhQ h|cases h
 |idxS x i=>simp only[qaa] at h; (repeat' split at h)<;>first|(cases h;rfl)|cases h
 |idxA n k x i=>simp only[qaa] at h; (repeat' split at h)<;>first|exact qhQ h|cases h
 |len s x=>simp only[qaa] at h;split at h<;>first|(cases h;rfl)|cases h
 |ext x i=>simp only[qaa] at h;split at h<;>first|exact qhQ h|cases h
 |nilck x=>simp only[qaa] at h;split at h<;>first|(cases h;rfl)|cases h
 |minmax m as0=>simp only[qaa] at h;split at h<;>first|exact qhQ h|cases h
 | _=>simp[rdS] at hs
theorem qwH {op:IOp} (hs:rdS op=true) (ρ:Rand→PV):op.adds=false∧op.okD ρ=true∧qaI ρ op=[]:=by
 cases op with
 |call m f as0 =>
  match m with
  | 0=>exact⟨rfl,rfl,rfl⟩
  |m+1=>simp[rdS] at hs
 | _=>first|exact⟨rfl,rfl,rfl⟩|simp[rdS] at hs
theorem qtq (H:Heap) : ∀l,chg H H l=[]
 | []=>rfl
 |o::r=>by simp only[chg,Nat.beq_refl,if_true];exact qtq H r
theorem qrR (b:Nat) (t:List Nat) : ∀(acc:List (List Nat×List Nat)) (i:Nat),(∀x∈acc,x.2=[])→qaE b i acc t []=true
 | [],_,_=>rfl
 |x::r,i,h=>by
  simp only[qaE,qrR b t r (i+1) (fun y hy=>h y (zzi _ hy)),h x (zzr ..),Bool.and_true]
  simp[qaP]
def qhr (dst:Option Nat) (fr:Fr) (v:PV):Fr:=match dst with|some t=>fr.set t v|none=>fr
theorem qpT : ∀(ops:List IOper) (bf:List Nat) (acc:List (List Nat×List Nat)) (id:Nat) (fr:Fr) (H:Heap),(ops.all fun o=>rdS o.op)=true→qhP H=true→(∀x∈acc,x.2=[])→qcj E ops bf acc id ⟨fr,H⟩=qaS E ops id ⟨fr,H⟩
 | [],_,_,_,_,_,_,_,_=>rfl
 |o::r,bf,acc,id,fr,H,ho,hn,ha=>by
  simp only[List.all_cons,zzf] at ho;obtain⟨h1,h2,h3⟩:=qwH ho.1 (rd E fr);have hid:(if o.op.adds=true then id+1 else id)=id:=by rw[h1];rfl
  have ha' : ∀(t:List Nat),∀x∈acc++[(t,([]:List Nat))],x.2=[]:=fun t x hx=>by
   rcases List.mem_append.1 hx with h|h
   ·exact ha x h
   ·rw[List.mem_singleton.1 h]
  have step : ∀(v:PV) (H':Heap),qaa E (rd E fr) H id o.op=some (v,H')→∀fr',qcj E r bf.tail (acc++[(writeS E o id ⟨fr,H⟩ ⟨fr',H'⟩++touchS E o ⟨fr,H⟩,writeS E o id ⟨fr,H⟩ ⟨fr',H'⟩)]) id ⟨fr',H'⟩=qaS E r id ⟨fr',H'⟩∧qaE (bf.headD 0) 0 acc (writeS E o id ⟨fr,H⟩ ⟨fr',H'⟩++touchS E o ⟨fr,H⟩) (writeS E o id ⟨fr,H⟩ ⟨fr',H'⟩)=true:=by
   intro v H' he fr'
   have:=qG4 ho.1 hn he
   subst this;have hw:writeS E o id ⟨fr,H'⟩ ⟨fr',H'⟩=[]:=by
    unfold writeS;split
    ·simp[h1,h3,qtq]
    ·rfl
   rw[hw];exact⟨qpT r _ _ id fr' H' ho.2 hn (ha' _),qrR _ _ _ _ ha⟩
  have skip:qaO o fr=false→∀fr',qcj E r bf.tail (acc++[(writeS E o id ⟨fr,H⟩ ⟨fr',H⟩++touchS E o ⟨fr,H⟩,writeS E o id ⟨fr,H⟩ ⟨fr',H⟩)]) id ⟨fr',H⟩=qaS E r id ⟨fr',H⟩∧qaE (bf.headD 0) 0 acc (writeS E o id ⟨fr,H⟩ ⟨fr',H⟩++touchS E o ⟨fr,H⟩) (writeS E o id ⟨fr,H⟩ ⟨fr',H⟩)=true:=by
   intro hr fr';have hw:writeS E o id ⟨fr,H⟩ ⟨fr',H⟩=[]:=by unfold writeS;rw[hr];rfl
   rw[hw];exact⟨qpT r _ _ id fr' H ho.2 hn (ha' _),qrR _ _ _ _ ha⟩
  obtain⟨dst,op,g⟩:=o;simp only at h1 h2 h3 hid;have go:(match (match qaB E (rd E fr) H id op with|some (v,H')=>some (⟨qhr dst fr v,H'⟩:St)|none=>none) with
    |some s'=>if qaE (bf.headD 0) 0 acc (writeS E ⟨dst,op,g⟩ id ⟨fr,H⟩ s'++touchS E ⟨dst,op,g⟩ ⟨fr,H⟩) (writeS E ⟨dst,op,g⟩ id ⟨fr,H⟩ s')=true then qcj E r bf.tail (acc++[(writeS E ⟨dst,op,g⟩ id ⟨fr,H⟩ s'++touchS E ⟨dst,op,g⟩ ⟨fr,H⟩,writeS E ⟨dst,op,g⟩ id ⟨fr,H⟩ s')]) id s' else none
    |none=>none)=match qaa E (rd E fr) H id op with|some (v,H')=>qaS E r id ⟨qhr dst fr v,H'⟩|none=>none:=by
   simp only[qaB,h2,if_true];cases he:qaa E (rd E fr) H id op with
   |none=>rfl
   |some x =>
    obtain⟨v,H'⟩:=x;obtain⟨q1,q2⟩:=step v H' he (qhr dst fr v);simp only[q2,if_true,q1]
  have no:qaO ⟨dst,op,g⟩ fr=false→(if qaE (bf.headD 0) 0 acc (writeS E ⟨dst,op,g⟩ id ⟨fr,H⟩ ⟨qhr dst fr (.t []),H⟩++touchS E ⟨dst,op,g⟩ ⟨fr,H⟩) (writeS E ⟨dst,op,g⟩ id ⟨fr,H⟩ ⟨qhr dst fr (.t []),H⟩)=true then qcj E r bf.tail (acc++[(writeS E ⟨dst,op,g⟩ id ⟨fr,H⟩ ⟨qhr dst fr (.t []),H⟩++touchS E ⟨dst,op,g⟩ ⟨fr,H⟩,writeS E ⟨dst,op,g⟩ id ⟨fr,H⟩ ⟨qhr dst fr (.t []),H⟩)]) id ⟨qhr dst fr (.t []),H⟩ else none)=qaS E r id ⟨qhr dst fr (.t []),H⟩:=by
   intro hr;obtain⟨q1,q2⟩:=skip hr (qhr dst fr (.t []));simp only[q2,if_true,q1]
  simp only[qcj,stepD,qaS,hid];cases g with
  |none=>exact go
  |some g =>
   obtain⟨t,w⟩:=g;simp only;cases hg:fr.get t with
   |d v =>
    cases v with
    |b b =>
     simp only;by_cases hb:(b==w)=true
     ·simp only[hb,if_true];exact go
     ·have hb':(b==w)=false:=by simpa using hb
      simp only[hb',zzg,if_false];exact no (by simp[qaO,hg,hb'])
    | _=>rfl
   |t vs =>
    cases vs with
    |nil=>simp only;exact no (by simp[qaO,hg])
    |cons=>rfl
   | _=>rfl
theorem qkf {base:Nat} {k:KC R} {ops:List IOper} {kill:List Nat} (ho:(ops.all fun o=>rdS o.op)=true) (hn:qhP H=true):kC E base fr H (.h (.regD ops bf kill,k))=kO E H.length fr H (.h (ops,rgK kill k)):=by
 have hz:qaw ops=0:=by
  clear hn
  induction ops with
  |nil=>rfl
  |cons o r ih =>
   simp only[List.all_cons,zzf] at ho;simp only[qaw,(qwH ho.1 (fun _=>.u)).1,ih ho.2];rfl
 simp only[kC,qau,qgy,kO,hz,List.replicate_zero,List.append_nil];rw[qpT ops bf [] H.length fr H ho hn (fun x hx=>by cases hx)]
 cases qaS E ops H.length ⟨fr,H⟩<;>rfl
theorem qdW {base:Nat} {k:KC R} {ops:List IOper} {kill:List Nat} (ho:(ops.all fun o=>rdS o.op)=true):kC E base fr [] (.h (.regD ops bf kill,k))=kO E 0 fr [] (.h (ops,rgK kill k)):=qkf ho rfl
theorem qdX {base:Nat} {k:KC R} {ops:List IOper} {kill:List Nat} {k0:K} {v0:PV} (ho:(ops.all fun o=>rdS o.op)=true):kC E base fr [some (.box k0 v0)] (.h (.regD ops bf kill,k))=kO E 1 fr [some (.box k0 v0)] (.h (ops,rgK kill k)):=qkf ho rfl
theorem qdY {base:Nat} {k:KC R} {ops:List IOper} {kill:List Nat} {k0 k1:K} {v0 v1:PV} (ho:(ops.all fun o=>rdS o.op)=true):kC E base fr [some (.box k0 v0),some (.box k1 v1)] (.h (.regD ops bf kill,k))=kO E 2 fr [some (.box k0 v0),some (.box k1 v1)] (.h (ops,rgK kill k)):=qkf ho rfl
theorem qdZ {base:Nat} {k:KC R} {ops:List IOper} {kill:List Nat} {k0 k1 k2:K} {v0 v1 v2:PV} (ho:(ops.all fun o=>rdS o.op)=true):kC E base fr [some (.box k0 v0),some (.box k1 v1),some (.box k2 v2)] (.h (.regD ops bf kill,k))=kO E 3 fr [some (.box k0 v0),some (.box k1 v1),some (.box k2 v2)] (.h (ops,rgK kill k)):=qkf ho rfl
theorem qd0 {base:Nat} {k:KC R} {ops:List IOper} {kill:List Nat} {k0 k1 k2 k3:K} {v0 v1 v2 v3:PV} (ho:(ops.all fun o=>rdS o.op)=true):kC E base fr [some (.box k0 v0),some (.box k1 v1),some (.box k2 v2),some (.box k3 v3)] (.h (.regD ops bf kill,k))=kO E 4 fr [some (.box k0 v0),some (.box k1 v1),some (.box k2 v2),some (.box k3 v3)] (.h (ops,rgK kill k)):=qkf ho rfl
theorem qd1 {base:Nat} {k:KC R} {ops:List IOper} {kill:List Nat} {k0 k1 k2 k3 k4:K} {v0 v1 v2 v3 v4:PV} (ho:(ops.all fun o=>rdS o.op)=true):kC E base fr [some (.box k0 v0),some (.box k1 v1),some (.box k2 v2),some (.box k3 v3),some (.box k4 v4)] (.h (.regD ops bf kill,k))=kO E 5 fr [some (.box k0 v0),some (.box k1 v1),some (.box k2 v2),some (.box k3 v3),some (.box k4 v4)] (.h (ops,rgK kill k)):=qkf ho rfl
end
end Go.Sim
end
section
namespace Go.Sim
mutual
theorem qks (ρ:Nat→Option Nat) : ∀v:PV,(∀r∈v.refs,ρ r=some r)→v.ren ρ=v
 | .u,_=>rfl
 | .d _,_=>rfl
 | .a cs,h=>by rw[PV.ren,ql6 ρ cs (by simpa[PV.refs] using h)]
 | .t cs,h=>by rw[PV.ren,ql6 ρ cs (by simpa[PV.refs] using h)]
 | .r o k off len t,h=>by rw[PV.ren,h o (by simp[PV.refs])]
 | .p o i c,h=>by rw[PV.ren,h o (by simp[PV.refs])]
 | .q _ _ _,_=>rfl
 | .f n cs,h=>by rw[PV.ren,ql6 ρ cs (by simpa[PV.refs] using h)]
 | .h o,h=>by rw[PV.ren,h o (by simp[PV.refs])]
 | .g v,h=>by rw[PV.ren,qks ρ v (by simpa[PV.refs] using h)]
 | .m n cs,h=>by rw[PV.ren,ql6 ρ cs (by simpa[PV.refs] using h)]
 | .w t v,h=>by rw[PV.ren,qks ρ v (by simpa[PV.refs] using h)]
theorem ql6 (ρ:Nat→Option Nat) : ∀cs:List PV,(∀r∈PV.refsL cs,ρ r=some r)→PV.renL ρ cs=cs
 | [],_=>rfl
 |v::cs,h=>by
  simp only[PV.refsL,List.mem_append] at h;rw[PV.renL,qks ρ v (fun r hr=>h r (.inl hr)),ql6 ρ cs (fun r hr=>h r (.inr hr))]
end
theorem qwa {ρ:Nat→Option Nat} {x:Option Obj} (h : ∀r∈qaj x,ρ r=some r):x.map (·.ren ρ)=x:=by
 cases x with
 |none=>rfl
 |some y =>
  cases y with
  |box k v=>simp only[Option.map,Obj.ren,qks ρ v (by simpa[qaj,Obj.refs] using h)]
  | _=>rfl
theorem qnj {ρ:Nat→Option Nat} : ∀{H:Heap},(∀r∈qad H,ρ r=some r)→H.map (·.map (·.ren ρ))=H
 | [],_=>rfl
 |x::H,h=>by
  simp only[qad,List.mem_append] at h;rw[zzu,qwa (fun r hr=>h r (.inl hr)),qnj (fun r hr=>h r (.inr hr))]
theorem qp3 {ρ:Nat→Option Nat} : ∀{fr:Fr},(∀r∈qae fr,ρ r=some r)→Fr.ren ρ fr=fr
 | [],_=>rfl
 | (j,v)::fr,h=>by
  simp only[qae,List.mem_append] at h;rw[Fr.ren,qks ρ v (fun r hr=>h r (.inl hr)),qp3 (fun r hr=>h r (.inr hr))]
theorem qr7 (H:Heap) (base:Nat) : ∀(n:Nat) (acc todo:List Nat),(∀o∈todo,o<base)→qaf H base n acc todo=acc
 | 0,_,_,_=>rfl
 |n+1,acc,[],_=>rfl
 |n+1,acc,o::todo,h=>by
  rw[qaf,if_pos (h o (zzr ..))];exact qr7 H base n acc todo fun x hx=>h x (zzi _ hx)
def Cl (H:Heap):Prop:=∀r∈qad H,r<H.length
theorem qur (live:List Nat) {H J:Heap} {fr:Fr} (hH:Cl H) (hf : ∀r∈qae (Fr.keep live fr),r<H.length):gc live H.length ⟨fr,H++J⟩=⟨Fr.keep live fr,H⟩:=by
 have ht:(H++J).take H.length=H:=by simp
 have hr:qaf (H++J) H.length 1000 [] (qae (Fr.keep live fr)++qad H)=[]:=qr7 _ _ _ _ _ fun o ho=>by
  rcases List.mem_append.1 ho with h|h
  ·exact hf o h
  ·exact hH o h
 have hp : ∀r,r<H.length→qah H.length [] r=some r:=fun r h=>by simp[qah,h]
 simp only[gc,ht,hr,gcH,List.map_nil,List.append_nil];rw[qp3 (fun r h=>hp r (hf r h)),qnj (fun r h=>hp r (hH r h))]
theorem qlF (live:List Nat) {H:Heap} {fr:Fr} (hH:Cl H) (hf : ∀r∈qae (Fr.keep live fr),r<H.length):gc live H.length ⟨fr,H⟩=⟨Fr.keep live fr,H⟩:=by
 have:=qur live (J:=[]) hH hf
 rwa [List.append_nil] at this
theorem quq {H J:Heap} {v:PV} (hH:Cl H) (hf : ∀r∈v.refs,r<H.length):gcV H.length v (H++J)=(v,H):=by
 have ht:(H++J).take H.length=H:=by simp
 have hr:qaf (H++J) H.length 1000 [] (v.refs++qad H)=[]:=qr7 _ _ _ _ _ fun o ho=>by
  rcases List.mem_append.1 ho with h|h
  ·exact hf o h
  ·exact hH o h
 have hp : ∀r,r<H.length→qah H.length [] r=some r:=fun r h=>by simp[qah,h]
 simp only[gcV,ht,hr,gcH,List.map_nil,List.append_nil];rw[qks _ v (fun r h=>hp r (hf r h)),qnj (fun r h=>hp r (hH r h))]
theorem qj9 {H:Heap} {v:PV} (hH:Cl H) (hf : ∀r∈v.refs,r<H.length):gcV H.length v H=(v,H):=by
 have:=quq (J:=[]) hH hf
 rwa [List.append_nil] at this
theorem qi9 {H:Heap} (hH:Cl H) (J:Heap) (v:DV):gcV H.length (.d v) (H++J)=(.d v,H):=quq hH (by simp[PV.refs])
theorem qnd {H:Heap} (hH:Cl H) (v:DV):gcV H.length (.d v) H=(.d v,H):=qj9 hH (by simp[PV.refs])
noncomputable def qhb (E:Env) (rs:List RV) (base:Nat):KC (PV×Heap)
 | .exit _,_,_=>none
 | _,fr,H=>bo (runG E (qar fr) H) (.h fun H=>bo (results fr H rs) (.h fun vs=>some (gcV base (qfU vs) H)))
theorem qg3 (T:Tab) {f:Nat} {F:PF} (hF:T.F f=some F) {args:List PV} {H:Heap} (ha:args.length=F.nargs):T.ref f args H=kC T.env H.length (Fr.ofArgs 0 args) H (.h (F.body,qhb T.env F.results H.length)):=by
 rw[qHd T hF];unfold qbV;rw[if_pos ha];simp only[kC];cases qau T.env lpI H.length F.body ⟨Fr.ofArgs 0 args,H⟩ with
 |none=>rfl
 |some x =>
  obtain⟨e,s⟩:=x;cases e with
  |exit id=>rfl
  |norm =>
   simp only[qhb];cases runG T.env (qar s.fr) s.H with
   |none=>rfl
   |some H'=>simp only[bo];cases results s.fr H' F.results<;>rfl
  |ret =>
   simp only[qhb];cases runG T.env (qar s.fr) s.H with
   |none=>rfl
   |some H'=>simp only[bo];cases results s.fr H' F.results<;>rfl
section
variable {E : Env} {rs : List RV} {base : Nat} {fr : Fr} {H : Heap}
theorem qgl (h:qar fr=[]):qhb E rs base .ret fr H=bo (results fr H rs) (.h fun vs=>some (gcV base (qfU vs) H)):=by
 simp only[qhb,h];rfl
theorem qzP (h:qar fr=[]):qhb E rs base .norm fr H=bo (results fr H rs) (.h fun vs=>some (gcV base (qfU vs) H)):=by
 simp only[qhb,h];rfl
theorem qev (y x:Option Obj) (H:Heap):Heap.put (y::H) 0 x=x::H:=rfl
theorem qew (y x:Option Obj) (H:Heap) (n:Nat):Heap.put (y::H) (n+1) x=y::Heap.put H n x:=rfl
theorem ql2 (H:Heap) (J:Heap) (x:Option Obj) (i:Nat):Heap.put (H++J) (H.length+i) x=H++Heap.put J i x:=by
 simp[Heap.put]
theorem qnQ (H:Heap) (J:Heap) (x:Option Obj):Heap.put (H++J) H.length x=H++Heap.put J 0 x:=ql2 H J x 0
theorem qlW (H J:Heap) (i:Nat):Heap.obj (H++J) (H.length+i)=Heap.obj J i:=by
 simp[Heap.obj,List.getElem?_append_right]
theorem qkm (H J:Heap):Heap.obj (H++J) H.length=Heap.obj J 0:=qlW H J 0
end
theorem qok:Cl []:=fun r h=>by cases h
theorem qmk (k k':K) (v w:DV):Cl [some (.box k (.d v)),some (.box k' (.d w))]:=fun r h=>by simp[qad,qaj,Obj.refs,PV.refs] at h
end Go.Sim
end
section
namespace Go.Sim
section
variable {R : Type} {E : Env} {ρ : Rand → PV} {H : Heap} {id : Nat} {q : PV → Heap → Option R}
def qpQ (neg:Bool) (x y:PV) {q:PV→Option R} (_:Hd q):Option R:=match x,y with
 | .d (.b a),.d (.b b)=>q (.d (.b (if neg=true then !(a==b) else a==b)))
 | _,_=>none
theorem qdD (neg a b:Bool) {q:PV→Option R}:qpQ neg (.d (.b a)) (.d (.b b)) (.h q)=q (.d (.b (if neg=true then !(a==b) else a==b))):=rfl
theorem qcR {neg:Bool} {x y:Rand}:bo2 (qaa E ρ H id (.eqb neg x y)) (.h q)=qpQ neg (ρ x) (ρ y) (.h fun v=>q v H):=by
 simp only[qaa,qpQ];cases ρ x with
 |d v =>
  cases v with
  |b a =>
   cases ρ y with
   |d w=>cases w<;>rfl
   | _=>rfl
  | _=>rfl
 | _=>rfl
end
end Go.Sim
end
section
namespace Go.Sim
section
variable {R α : Type} {E : Env} {fr : Fr} {H : Heap} {bf : List Nat} {acc : List (List Nat × List Nat)} {id : Nat} {j : KO R}
def nfp (x:α) {k:α→Option R} (_:Hd k):Option R:=k x
theorem qbc (x:α) (k:α→Option R):nfp x (.h k)=k x:=rfl
def qaT (bf:List Nat) (acc:List (List Nat×List Nat)) (W T:List Nat):Bool×List (List Nat×List Nat):=(qaE (bf.headD 0) 0 acc (W++T) W,acc++[(W++T,W)])
noncomputable def qfY (E:Env) (id:Nat) (fr:Fr) (H:Heap) (bf:List Nat) (acc:List (List Nat×List Nat)) (o:IOper) (fr':Fr) (H':Heap) {r:List IOper} {j:KO R} (_:Hd (r,j)):Option R :=
 nfp (qaT bf acc (writeS E o id ⟨fr,H⟩ ⟨fr',H'⟩) (touchS E o ⟨fr,H⟩)) (.h fun w=>chk (w.1=true) (.h (kD E (nid o.op id) fr' H' bf.tail w.2 (.h (r,j)))))
theorem qbj:kD E id fr H bf acc (.h ([],j))=j fr H:=rfl
theorem qkg (o:IOper) (r:List IOper):kD E id fr H bf acc (.h (o::r,j))=match stepD E o id ⟨fr,H⟩ with|some s'=>qfY E id fr H bf acc o s'.fr s'.H (.h (r,j))|none=>none:=by
 simp only[kD,qcj];cases stepD E o id ⟨fr,H⟩ with
 |none=>rfl
 |some s' =>
  obtain⟨f,h⟩:=s';by_cases hp:qaE (bf.headD 0) 0 acc (writeS E o id ⟨fr,H⟩ ⟨f,h⟩++touchS E o ⟨fr,H⟩) (writeS E o id ⟨fr,H⟩ ⟨f,h⟩)=true
  ·simp only[qfY,nfp,qaT,chk,nid,hp,if_true,kD]
  ·simp only[qfY,nfp,qaT,chk,hp,if_false,zzg]
theorem qbb {d:Nat} {op:IOp} {r:List IOper}:kD E id fr H bf acc (.h (⟨some d,op,none⟩::r,j))=bo2 (qaB E (rd E fr) H id op) (.h fun v H'=>qfY E id fr H bf acc ⟨some d,op,none⟩ (fr.set d v) H' (.h (r,j))):=by
 rw[qkg];simp only[stepD,bo2]
 cases qaB E (rd E fr) H id op<;>rfl
theorem qbB {op:IOp} {r:List IOper}:kD E id fr H bf acc (.h (⟨none,op,none⟩::r,j))=bo2 (qaB E (rd E fr) H id op) (.h fun _ H'=>qfY E id fr H bf acc ⟨none,op,none⟩ fr H' (.h (r,j))):=by
 rw[qkg];simp only[stepD,bo2]
 cases qaB E (rd E fr) H id op<;>rfl
theorem qbi {d t:Nat} {w:Bool} {op:IOp} {r:List IOper}:kD E id fr H bf acc (.h (⟨some d,op,some (t,w)⟩::r,j)) =
  grd (fr.get t) w (.h (bo2 (qaB E (rd E (fr.fix t w)) H id op) (.h fun v H'=>qfY E id (fr.fix t w) H bf acc ⟨some d,op,some (t,w)⟩ ((fr.fix t w).set d v) H' (.h (r,j))),qfY E id (fr.fix t (!w)) H bf acc ⟨some d,op,some (t,w)⟩ ((fr.fix t (!w)).set d (.t [])) H (.h (r,j)),qfY E id fr H bf acc ⟨some d,op,some (t,w)⟩ (fr.set d (.t [])) H (.h (r,j)))):=by
 rw[qkg];simp only[stepD]
 cases h:fr.get t with
 |d v =>
  cases v with
  |b b =>
   by_cases hb:b=w
   ·subst hb;rw[qgY h];simp only[grd,beq_self_eq_true,if_true,bo2];cases qaB E (rd E fr) H id op<;>rfl
   ·have e:(b==w)=false:=by simpa using hb
    have e2:b = !w:=by cases b<;>cases w<;>simp_all
    have hf:fr.fix t (!w)=fr:=qgY (by rw[h,e2])
    simp only[grd,e,if_neg hb,zzg,if_false,hf]
  | _=>rfl
 |t vs=>cases vs<;>rfl
 | _=>rfl
theorem qbK {t:Nat} {w:Bool} {op:IOp} {r:List IOper}:kD E id fr H bf acc (.h (⟨none,op,some (t,w)⟩::r,j)) =
  grd (fr.get t) w (.h (bo2 (qaB E (rd E (fr.fix t w)) H id op) (.h fun _ H'=>qfY E id (fr.fix t w) H bf acc ⟨none,op,some (t,w)⟩ (fr.fix t w) H' (.h (r,j))),qfY E id (fr.fix t (!w)) H bf acc ⟨none,op,some (t,w)⟩ (fr.fix t (!w)) H (.h (r,j)),qfY E id fr H bf acc ⟨none,op,some (t,w)⟩ fr H (.h (r,j)))):=by
 rw[qkg];simp only[stepD]
 cases h:fr.get t with
 |d v =>
  cases v with
  |b b =>
   by_cases hb:b=w
   ·subst hb;rw[qgY h];simp only[grd,beq_self_eq_true,if_true,bo2];cases qaB E (rd E fr) H id op<;>rfl
   ·have e:(b==w)=false:=by simpa using hb
    have e2:b = !w:=by cases b<;>cases w<;>simp_all
    have hf:fr.fix t (!w)=fr:=qgY (by rw[h,e2])
    simp only[grd,e,if_neg hb,zzg,if_false,hf]
  | _=>rfl
 |t vs=>cases vs<;>rfl
 | _=>rfl
theorem qa8 {o:IOper} {fr':Fr} {H':Heap} {r:List IOper}:qfY E id fr H bf acc o fr' H' (.h (r,j))=nfp (qaT bf acc (writeS E o id ⟨fr,H⟩ ⟨fr',H'⟩) (touchS E o ⟨fr,H⟩)) (.h fun w=>chk (w.1=true) (.h (kD E (nid o.op id) fr' H' bf.tail w.2 (.h (r,j))))):=rfl
theorem qzK {ρ:Rand→PV} {x:IOp} (h:x.okD ρ=true):qaB E ρ H id x=qaa E ρ H id x:=by simp[qaB,h]
theorem qyF {ρ:Rand→PV} {x:IOp} {k:PV→Heap→Option R} (h:x.okD ρ=true):bo2 (qaB E ρ H id x) (.h k)=bo2 (qaa E ρ H id x) (.h k):=by rw[qzK h]
theorem qba {ρ:Rand→PV} {k:PV→Heap→Option R} {x:Rand}:bo2 (qaB E ρ H id (.mov x)) (.h k)=bo2 (qaa E ρ H id (.mov x)) (.h k):=rfl
theorem qbr {ρ:Rand→PV} {k:PV→Heap→Option R} {cx a b:Rand}:bo2 (qaB E ρ H id (.pick cx a b)) (.h k)=bo2 (qaa E ρ H id (.pick cx a b)) (.h k):=rfl
theorem qbD {ρ:Rand→PV} {k:PV→Heap→Option R} {kx:Sim.K} {z:DV}:bo2 (qaB E ρ H id (.alloc kx z)) (.h k)=bo2 (qaa E ρ H id (.alloc kx z)) (.h k):=rfl
theorem qbE {ρ:Rand→PV} {k:PV→Heap→Option R} {kx:Sim.K} {x:Rand}:bo2 (qaB E ρ H id (.box kx x)) (.h k)=bo2 (qaa E ρ H id (.box kx x)) (.h k):=rfl
theorem qbt {ρ:Rand→PV} {k:PV→Heap→Option R} {z:List DV} {parts:List (Nat×Sim.K×Rand)}:bo2 (qaB E ρ H id (.agg z parts)) (.h k)=bo2 (qaa E ρ H id (.agg z parts)) (.h k):=rfl
theorem qbu {ρ:Rand→PV} {k:PV→Heap→Option R} {kx:Sim.K} {z:DV} {len:Nat} {parts:List (Nat×Rand)}:bo2 (qaB E ρ H id (.bsl kx z len parts)) (.h k)=bo2 (qaa E ρ H id (.bsl kx z len parts)) (.h k):=rfl
theorem qa9 {ρ:Rand→PV} {k:PV→Heap→Option R} {kx:Sim.K} {x:Rand}:bo2 (qaB E ρ H id (.load kx x)) (.h k)=bo2 (qaa E ρ H id (.load kx x)) (.h k):=rfl
theorem qbz {ρ:Rand→PV} {k:PV→Heap→Option R} {kx:Sim.K} {x y:Rand}:bo2 (qaB E ρ H id (.store kx x y)) (.h k)=bo2 (qaa E ρ H id (.store kx x y)) (.h k):=rfl
theorem qbe {ρ:Rand→PV} {k:PV→Heap→Option R} {op:BinOp} {x y:Rand}:bo2 (qaB E ρ H id (.bin op x y)) (.h k)=bo2 (qaa E ρ H id (.bin op x y)) (.h k):=rfl
theorem qbU {ρ:Rand→PV} {k:PV→Heap→Option R} {neg:Bool} {ks:List Nat} {x y:Rand}:bo2 (qaB E ρ H id (.eqv neg ks x y)) (.h k)=bo2 (qaa E ρ H id (.eqv neg ks x y)) (.h k):=rfl
theorem qbT {ρ:Rand→PV} {k:PV→Heap→Option R} {neg:Bool} {x y:Rand}:bo2 (qaB E ρ H id (.eqb neg x y)) (.h k)=bo2 (qaa E ρ H id (.eqb neg x y)) (.h k):=rfl
theorem qfm {ρ:Rand→PV} {k:PV→Heap→Option R} {neg:Bool} {kd:Nat} {x:Rand}:bo2 (qaB E ρ H id (.isnil neg kd x)) (.h k)=bo2 (qaa E ρ H id (.isnil neg kd x)) (.h k):=rfl
theorem qbJ {ρ:Rand→PV} {k:PV→Heap→Option R} {op:UnOp} {x:Rand}:bo2 (qaB E ρ H id (.un op x)) (.h k)=bo2 (qaa E ρ H id (.un op x)) (.h k):=rfl
theorem qbG {ρ:Rand→PV} {k:PV→Heap→Option R} {kx:IntKind} {x:Rand}:bo2 (qaB E ρ H id (.conv kx x)) (.h k)=bo2 (qaa E ρ H id (.conv kx x)) (.h k):=rfl
theorem qfv {ρ:Rand→PV} {k:PV→Heap→Option R} {x:Rand} {lo hi:Option Rand}:bo2 (qaB E ρ H id (.slS x lo hi)) (.h k)=bo2 (qaa E ρ H id (.slS x lo hi)) (.h k):=rfl
theorem qfu {ρ:Rand→PV} {k:PV→Heap→Option R} {kx:Sim.K} {x:Rand} {lo hi mx:Option Rand}:bo2 (qaB E ρ H id (.sl kx x lo hi mx)) (.h k)=bo2 (qaa E ρ H id (.sl kx x lo hi mx)) (.h k):=rfl
theorem qbg {ρ:Rand→PV} {k:PV→Heap→Option R} {off:Nat} {x:Rand}:bo2 (qaB E ρ H id (.faddr off x)) (.h k)=bo2 (qaa E ρ H id (.faddr off x)) (.h k):=rfl
theorem qfi {ρ:Rand→PV} {k:PV→Heap→Option R} {off:Nat} {kx:Sim.K} {x:Rand}:bo2 (qaB E ρ H id (.field off kx x)) (.h k)=bo2 (qaa E ρ H id (.field off kx x)) (.h k):=rfl
theorem qbQ {ρ:Rand→PV} {k:PV→Heap→Option R} {kx:Sim.K} {x i:Rand}:bo2 (qaB E ρ H id (.iaddr kx x i)) (.h k)=bo2 (qaa E ρ H id (.iaddr kx x i)) (.h k):=rfl
theorem qfj {ρ:Rand→PV} {k:PV→Heap→Option R} {len:Nat} {kx:Sim.K} {x i:Rand}:bo2 (qaB E ρ H id (.iaddrA len kx x i)) (.h k)=bo2 (qaa E ρ H id (.iaddrA len kx x i)) (.h k):=rfl
theorem qfl {ρ:Rand→PV} {k:PV→Heap→Option R} {x i:Rand}:bo2 (qaB E ρ H id (.idxS x i)) (.h k)=bo2 (qaa E ρ H id (.idxS x i)) (.h k):=rfl
theorem qfk {ρ:Rand→PV} {k:PV→Heap→Option R} {len:Nat} {kx:Sim.K} {x i:Rand}:bo2 (qaB E ρ H id (.idxA len kx x i)) (.h k)=bo2 (qaa E ρ H id (.idxA len kx x i)) (.h k):=rfl
theorem qbI {ρ:Rand→PV} {k:PV→Heap→Option R} {str:Bool} {x:Rand}:bo2 (qaB E ρ H id (.len str x)) (.h k)=bo2 (qaa E ρ H id (.len str x)) (.h k):=rfl
theorem qbH {ρ:Rand→PV} {k:PV→Heap→Option R} {x:Rand} {i:Nat}:bo2 (qaB E ρ H id (.ext x i)) (.h k)=bo2 (qaa E ρ H id (.ext x i)) (.h k):=rfl
theorem qfo {ρ:Rand→PV} {k:PV→Heap→Option R} {f:Nat} {caps:List Rand}:bo2 (qaB E ρ H id (.mkf f caps)) (.h k)=bo2 (qaa E ρ H id (.mkf f caps)) (.h k):=rfl
theorem qfq {ρ:Rand→PV} {k:PV→Heap→Option R} {f:Nat} {caps:List Rand}:bo2 (qaB E ρ H id (.mkm f caps)) (.h k)=bo2 (qaa E ρ H id (.mkm f caps)) (.h k):=rfl
theorem qft {ρ:Rand→PV} {k:PV→Heap→Option R} {p:Nat} {args:List Rand}:bo2 (qaB E ρ H id (.prim p args)) (.h k)=bo2 (qaa E ρ H id (.prim p args)) (.h k):=rfl
theorem qfs {ρ:Rand→PV} {k:PV→Heap→Option R} {x:Rand}:bo2 (qaB E ρ H id (.nilck x)) (.h k)=bo2 (qaa E ρ H id (.nilck x)) (.h k):=rfl
theorem qfr {ρ:Rand→PV} {k:PV→Heap→Option R} {kx:Sim.K} {bytes:Nat} {z:DV} {len cap:Rand}:bo2 (qaB E ρ H id (.mksl kx bytes z len cap)) (.h k)=bo2 (qaa E ρ H id (.mksl kx bytes z len cap)) (.h k):=rfl
theorem qfn {ρ:Rand→PV} {k:PV→Heap→Option R} {mx:Bool} {args:List Rand}:bo2 (qaB E ρ H id (.minmax mx args)) (.h k)=bo2 (qaa E ρ H id (.minmax mx args)) (.h k):=rfl
theorem qfp {ρ:Rand→PV} {k:PV→Heap→Option R} {t:Nat} {x:Rand}:bo2 (qaB E ρ H id (.mkif t x)) (.h k)=bo2 (qaa E ρ H id (.mkif t x)) (.h k):=rfl
theorem qfw {ρ:Rand→PV} {k:PV→Heap→Option R} {t:Nat} {z:DV} {ok:Bool} {x:Rand}:bo2 (qaB E ρ H id (.tas t z ok x)) (.h k)=bo2 (qaa E ρ H id (.tas t z ok x)) (.h k):=rfl
theorem qby {ρ:Rand→PV} {k:PV→Heap→Option R} {f:Nat} {args:List Rand}:bo2 (qaB E ρ H id (.call 0 f args)) (.h k)=bo2 (qaa E ρ H id (.call 0 f args)) (.h k):=rfl
theorem qbF {ρ:Rand→PV} {k:PV→Heap→Option R} {f:Nat} {args:List Rand}:bo2 (qaB E ρ H id (.call 1 f args)) (.h k)=bo2 (qaa E ρ H id (.call 1 f args)) (.h k):=rfl
end
end Go.Sim
end
section
namespace Go.Sim
theorem qeJ (k:IntKind) (n:Int):fits none (.d (.i k n))=true:=rfl
theorem qeI (b:Bool):fits none (.d (.b b))=true:=rfl
theorem qeK (l:List UInt8):fits none (.d (.s l))=true:=rfl
theorem qbA (k:K) (l:List DV) (t:Bool):fits none (.d (.l k l t))=true:=rfl
theorem qeH (n:Nat) (l:List DV):fits (some n) (.d (.a l))=(l.length==n):=rfl
theorem qeO {H:Heap} {vs:List PV}:purT H (.t vs)=match qaL H vs with|some (xs,_)=>some (.t (xs.map .d),false)|none=>none:=rfl
theorem qeN (j:Nat):((j:Int)<0)=False:=by simp
section
variable {R : Type} {E : Env} {ρ : Rand → PV} {H : Heap} {id : Nat} {q : PV → Heap → Option R}
theorem qrT : ∀z:List DV,qag (z.map .d)=some z
 | []=>rfl
 |x::z=>by simp[qag,qrT z]
theorem qeF {z:List DV}:bo2 (qaa E ρ H id (.agg z [])) (.h q)=q (.d (.a z)) H:=by
 simp only[qaa,List.map_nil,qfg,mkA,qrT];rfl
end
end Go.Sim
end
section
namespace Go.Sim
section
variable {R : Type} {E : Env} {ρ : Rand → PV} {H : Heap} {id : Nat} {q : PV → Heap → Option R} {k : K} {b : Nat}
theorem qe4 (v:DV):pur H (.d v)=some (v,[]):=rfl
theorem qe0:frz H []=H:=rfl
theorem qeS {z:DV}:bo2 (qaa E ρ H id (.bsl k z 0 [])) (.h q)=q (.r id k 0 0 true) (H.put id (some (.sl k 0 []))):=rfl
theorem qeT {z:DV} {r:Rand}:bo2 (qaa E ρ H id (.bsl k z 1 [(0,r)])) (.h q)=chk (fits k (ρ r)=true) (.h (bo (pur H (ρ r)) (.h fun p=>q (.r id k 0 1 true) ((frz H p.2).put id (some (.sl k 0 [p.1])))))):=by
 simp only[qaa,zzu,List.map_nil,qci,chk];by_cases h:fits k (ρ r)=true
 ·simp only[h,if_true,Bool.true_and];cases pur H (ρ r) with
  |none=>simp[bo,bo2]
  |some p=>obtain⟨x,os⟩:=p;simp[bo,bo2]
 ·simp[h,bo2]
def qgT (H:Heap) (id:Nat) (k:K) (bytes:Nat) (x:PV) (ys:List DV):Option (PV×Heap):=qfO H id k bytes x (.d (.l k ys true))
theorem qeQ {x:PV} {k':K} {ys:List DV} {t:Bool}:bo2 (qfO H id k b x (.d (.l k' ys t))) (.h q)=chk ((K.eq k k'||ys.isEmpty)=true) (.h (bo2 (qgT H id k b x ys) (.h q))):=by
 simp only[qfO,qgT,qfy,chk,qb3,Bool.true_or,if_true];by_cases h:(K.eq k k'||ys.isEmpty)=true
 ·simp only[h,if_true]
 ·simp only[h,if_false,zzg];rfl
theorem qeR {x:PV} {o off len:Nat} {k':K} {t:Bool}:bo2 (qfO H id k b x (.r o k' off len t)) (.h q)=match H.obj o with|some (.sl k'' _ es)=>chk ((K.eq k k'&&K.eq k k''&&decide (off+len≤es.length))=true) (.h (bo2 (qgT H id k b x ((es.drop off).take len)) (.h q)))|_=>none:=by
 simp only[qfO,qgT,qfy];cases H.obj o with
 |none=>rfl
 |some y =>
  cases y with
  |sl k'' ro es =>
   simp only[chk];by_cases h:(K.eq k k'&&K.eq k k''&&decide (off+len≤es.length))=true
   ·simp only[h,if_true,qb3,Bool.true_or]
   ·simp only[h,if_false,zzg];rfl
  | _=>rfl
theorem qeP {k':K} {ys:List DV}:bo2 (qgT H id k b (.d (.l k' [] true)) ys) (.h q)=chk (ys.length*b≤2^47) (.h (q (.r id k 0 ys.length false) (H.put id (some (.sl k 0 ys))))):=by
 simp only[qgT,qfO,qfy,qb3,Bool.true_or,if_true,chk,List.length_nil,Nat.zero_add];by_cases h:ys.length*b≤2^47
 ·simp only[h,if_true];rfl
 ·simp only[h,if_false];rfl
theorem qeE {o off len:Nat} {k':K} {t:Bool} {y:DV} {ys:List DV}:bo2 (qgT H id k b (.r o k' off len t) (y::ys)) (.h q)=match H.obj o with
  |some (.sl k'' ro es)=>chk ((K.eq k k'&&K.eq k k''&&decide (off+len≤es.length)&&decide ((len+(ys.length+1))*b≤2^47))=true) (.h (brn t (.h (q (.r id k 0 (len+(ys.length+1)) false) (H.put id (some (.sl k 0 ((es.drop off).take len++y::ys)))),chk (ro≤off+len) (.h (q (.r id k 0 (len+(ys.length+1)) false) ((H.put o none).put id (some (.sl k (ro-off) ((es.drop off).take len++y::ys))))))))))
  | _=>none:=by
 simp only[qgT,qfO,qfy,qb3,Bool.true_or,if_true,zzn];cases H.obj o with
 |none=>rfl
 |some w =>
  cases w with
  |sl k'' ro es =>
   simp only[chk];by_cases h:(K.eq k k'&&K.eq k k''&&decide (off+len≤es.length)&&decide ((len+(ys.length+1))*b≤2^47))=true
   ·simp only[h,if_true];cases t with
    |true=>rfl
    |false =>
     simp only[zzg,if_false,brn];by_cases g:ro≤off+len
     ·simp only[g,if_true];rfl
     ·simp only[g,if_false];rfl
   ·simp only[h,if_false,zzg];rfl
  | _=>rfl
def qrB (t:Nat) (x:PV) (H:Heap) {q:PV→Heap→Option R} (_:Hd q):Option R:=match pur H x with
 |some (v,os)=>q (.d (.ifc t v)) (frz H os)
 |none=>q (.w t x) H
theorem qe1 {t:Nat} {v:DV}:qrB t (.d v) H (.h q)=q (.d (.ifc t v)) H:=rfl
theorem qeU {t:Nat} {x:Rand}:bo2 (qaa E ρ H id (.mkif t x)) (.h q)=qrB t (ρ x) H (.h q):=by
 simp only[qaa,qrB];cases pur H (ρ x) with
 |none=>rfl
 |some p=>rfl
def qsq (t:Nat) (z:DV) (ok:Bool) (x:PV) {q:PV→Option R} (_:Hd q):Option R:=match x with
 | .d (.ifc u v)=>if u=t then q (if ok then .t [.d v,.d (.b true)] else .d v) else if ok then q (.t [.d z,.d (.b false)]) else none
 | .w u v=>if u=t then q (if ok then .t [v,.d (.b true)] else v) else if ok then q (.t [.d z,.d (.b false)]) else none
 | .d .ni=>if ok then q (.t [.d z,.d (.b false)]) else none
 | _=>none
theorem qe6 {t u:Nat} {z v:DV} {ok:Bool} {q:PV→Option R}:qsq t z ok (.d (.ifc u v)) (.h q)=if u=t then q (if ok then .t [.d v,.d (.b true)] else .d v) else if ok then q (.t [.d z,.d (.b false)]) else none:=rfl
theorem qeV {t:Nat} {z:DV} {ok:Bool} {x:Rand}:bo2 (qaa E ρ H id (.tas t z ok x)) (.h q)=qsq t z ok (ρ x) (.h fun v=>q v H):=by
 simp only[qaa,qsq];cases ρ x with
 |d v =>
  cases v with
  |ifc u w=>by_cases h:u=t<;>cases ok<;>simp[h,bo2]
  |ni=>cases ok<;>rfl
  | _=>rfl
 |w u v=>by_cases h:u=t<;>cases ok<;>simp[h,bo2]
 | _=>rfl
theorem qan {z:List DV} {ps:List (Nat×Sim.K×Rand)}:bo2 (qaa E ρ H id (.agg z ps)) (.h q)=bo (qfg (z.map .d) (ps.map fun x=>(x.1,x.2.1,ρ x.2.2))) (.h fun cs=>q (mkA cs) H):=by
 simp only[qaa];cases qfg (z.map .d) (ps.map fun x=>(x.1,x.2.1,ρ x.2.2))<;>rfl
theorem qaq {z:List PV} {y:List PV→Option R}:bo (qfg z []) (.h y)=y z:=rfl
theorem qap {z:List PV} {off:Nat} {v:PV} {k:Sim.K} {r:List (Nat×Sim.K×PV)} {y:List PV→Option R}:bo (qfg z ((off,k,v)::r)) (.h y)=chk ((fits k v&&decide (off+k.size≤z.length))=true) (.h (bo (qfg (putAt z off v.cells) r) (.h y))):=by
 simp only[qfg,chk];split<;>simp_all[bo]
theorem qam {k:IntKind} {n:Int}:PV.cells (.d (.i k n))=[.d (.i k n)]:=rfl
theorem qbM {l:List UInt8}:PV.cells (.d (.s l))=[.d (.s l)]:=rfl
theorem qlt {k:Sim.K} {l:List DV} {t:Bool}:PV.cells (.d (.l k l t))=[.d (.l k l t)]:=rfl
theorem qak:K.size none=1:=rfl
theorem qas (n:Nat):K.size (some n)=n:=rfl
theorem qfh {mx:Bool} {x y:Rand}:bo2 (qaa E ρ H id (.minmax mx [x,y])) (.h q)=bo (mm2 mx (ρ x) (ρ y)) (.h fun v=>q v H):=by
 simp only[qaa,zzu,List.map_nil,mmA];cases mm2 mx (ρ x) (ρ y)<;>rfl
theorem qcr {k:IntKind} {a b:Int} {y:PV→Option R}:bo (mm2 true (.d (.i k a)) (.d (.i k b))) (.h y)=y (.d (.i k (max a b))):=by
 have h:(if b>a then b else a)=max a b:=by rw[Int.max_def];split<;>split<;>omega
 simp only[mm2,if_true,h];rfl
theorem qe2 {t:Nat} {v:DV}:purT H (.d (.ifc t v))=some (.d (.ifc t v),false):=rfl
theorem qe3 {o off len:Nat} {k:K} {t:Bool}:purT H (.r o k off len t)=match H.obj o with
  |some (.sl k' ro es)=>if k'=k∧off+len≤es.length then some (.d (.l k ((es.drop off).take len) false),decide (ro≤off)) else none
  | _=>none:=rfl
theorem qeW {o off len:Nat} {k:K} {t:Bool} {y:Nat→Option R}:bo (qfF H false (.r o k off len t)) (.h y)=match H.obj o with
  |some (.sl _ _ es)=>chk (off+len≤es.length) (.h (y len))
  | _=>none:=by
 simp only[qfF,zzg,if_false];cases H.obj o with
 |none=>rfl
 |some w =>
  cases w with
  |sl k' ro es =>
   simp only[chk];by_cases h:off+len≤es.length
   ·simp only[h,if_true];rfl
   ·simp only[h,if_false];rfl
  | _=>rfl
end
end Go.Sim
end
section
namespace Go.Sim
noncomputable def tabR:PT :=
 (.bin 1063 qjy (.bin 1054 qiD (.bin 1048 F1048 (.bin 1041 F1041 (.bin 1031 qgN .nil .nil) (.bin 1042 F1042 .nil .nil)) (.bin 1052 qjw (.bin 1049 F1049 .nil .nil) (.bin 1053 qkI .nil .nil))) (.bin 1058 qhx (.bin 1056 qjx (.bin 1055 qkJ .nil .nil) (.bin 1057 qff .nil .nil)) (.bin 1061 qiE (.bin 1059 qfK .nil .nil) (.bin 1062 qgv .nil .nil)))) (.bin 1071 qkP (.bin 1067 qkN (.bin 1065 qg6 (.bin 1064 qkL .nil .nil) (.bin 1066 qkM .nil .nil)) (.bin 1069 qkO (.bin 1068 qiF .nil .nil) (.bin 1070 qiG .nil .nil))) (.bin 1075 F1075 (.bin 1073 qiH (.bin 1072 qkQ .nil .nil) (.bin 1074 qhX .nil .nil)) (.bin 1077 F1077 (.bin 1076 qjz .nil .nil) (.bin 1078 qkR .nil .nil)))))
def HR (T:Tab):Prop:=∀n F,tabR.get n=some F→T.F n=some F
end Go.Sim
end
section
namespace Go.Sim
noncomputable def tabT:PT :=
 (.bin 417 qgP (.bin 74 F74 (.bin 47 F47 (.bin 42 F42 (.bin 36 F36 (.bin 35 F35 (.bin 31 F31 .nil .nil) .nil) (.bin 37 F37 .nil .nil)) (.bin 45 F45 (.bin 44 F44 (.bin 43 F43 .nil .nil) .nil) (.bin 46 F46 .nil .nil))) (.bin 57 F57 (.bin 55 F55 (.bin 49 F49 (.bin 48 F48 .nil .nil) .nil) (.bin 56 F56 .nil .nil)) (.bin 68 F68 (.bin 58 F58 .nil .nil) (.bin 73 F73 .nil .nil)))) (.bin 408 qhY (.bin 400 F400 (.bin 387 qgd (.bin 291 qjA (.bin 207 qkS .nil .nil) .nil) (.bin 399 qfM .nil .nil)) (.bin 406 F406 (.bin 405 F405 .nil .nil) (.bin 407 qjB .nil .nil))) (.bin 413 qkU (.bin 411 F411 (.bin 410 F410 (.bin 409 qhZ .nil .nil) .nil) (.bin 412 qkT .nil .nil)) (.bin 415 qgO (.bin 414 qfX .nil .nil) (.bin 416 qjC .nil .nil))))) (.bin 443 qkX (.bin 430 qh0 (.bin 424 F424 (.bin 420 F420 (.bin 419 qmm (.bin 418 qe7 .nil .nil) .nil) (.bin 422 F422 .nil .nil)) (.bin 426 qjD (.bin 425 F425 .nil .nil) (.bin 429 qjE .nil .nil))) (.bin 436 qiJ (.bin 433 qge (.bin 432 qjF (.bin 431 qkV .nil .nil) .nil) (.bin 434 qh1 .nil .nil)) (.bin 439 qhy (.bin 437 qkW .nil .nil) (.bin 441 F441 .nil .nil)))) (.bin 947 F947 (.bin 461 qiK (.bin 450 qkZ (.bin 449 qkY (.bin 446 F446 .nil .nil) .nil) (.bin 460 qjG .nil .nil)) (.bin 916 qeD (.bin 468 qjH .nil .nil) (.bin 946 F946 .nil .nil))) (.bin 996 qjL (.bin 983 qcn (.bin 967 F967 (.bin 966 qfN .nil .nil) .nil) (.bin 984 qgR .nil .nil)) (.bin 998 qh4 (.bin 997 qjM .nil .nil) (.bin 999 qg7 .nil .nil))))))
def HT (T:Tab):Prop:=∀n F,tabT.get n=some F→T.F n=some F
end Go.Sim
end
section
namespace Go.Sim
structure SL (α:Type) where
 l:List α
 t:Bool
structure AWide where
 Hi:Int
 Lo:Int
def AWide.cells (x:AWide):List DV:=[I x.Hi,.i .u64 x.Lo]
def AWide.dv (x:AWide):DV:=.a [I x.Hi,.i .u64 x.Lo]
@[simp] theorem AWide.fits (x:AWide):Sim.fits (K1 2) (.d (AWide.dv x))=true:=rfl
@[simp] theorem AWide.purT (x:AWide) (H:Heap):Sim.purT H (.d (AWide.dv x))=some (.d (AWide.dv x),false):=rfl
@[simp] theorem AWide.clen (x:AWide):(AWide.dv x).cells.length=2:=rfl
@[simp] theorem AWide.aof (x:AWide):DV.a (AWide.cells x)=AWide.dv x:=rfl
@[simp] theorem AWide.ccl (x:AWide):(AWide.cells x).length=2:=rfl
@[simp] theorem AWide.c0 (x:AWide):(AWide.dv x).cells[0]? = some (I x.Hi):=rfl
@[simp] theorem AWide.c1 (x:AWide):(AWide.dv x).cells[1]? = some (.i .u64 x.Lo):=rfl
structure ACurrency where
 Code:List UInt8
 Digits:Int
def ACurrency.cells (x:ACurrency):List DV:=[.s x.Code,I x.Digits]
def ACurrency.dv (x:ACurrency):DV:=.a [.s x.Code,I x.Digits]
@[simp] theorem ACurrency.fits (x:ACurrency):Sim.fits (K1 2) (.d (ACurrency.dv x))=true:=rfl
@[simp] theorem ACurrency.purT (x:ACurrency) (H:Heap):Sim.purT H (.d (ACurrency.dv x))=some (.d (ACurrency.dv x),false):=rfl
@[simp] theorem ACurrency.clen (x:ACurrency):(ACurrency.dv x).cells.length=2:=rfl
@[simp] theorem ACurrency.aof (x:ACurrency):DV.a (ACurrency.cells x)=ACurrency.dv x:=rfl
@[simp] theorem ACurrency.ccl (x:ACurrency):(ACurrency.cells x).length=2:=rfl
@[simp] theorem ACurrency.c0 (x:ACurrency):(ACurrency.dv x).cells[0]? = some (.s x.Code):=rfl
@[simp] theorem ACurrency.c1 (x:ACurrency):(ACurrency.dv x).cells[1]? = some (I x.Digits):=rfl
structure ACalendar where
 Name:List UInt8
 Weekend:SL Int
 Holidays:SL Int
def ACalendar.cells (x:ACalendar):List DV:=[.s x.Name,.l K0 (x.Weekend.l.map I) x.Weekend.t,.l K0 (x.Holidays.l.map I) x.Holidays.t]
def ACalendar.dv (x:ACalendar):DV:=.a [.s x.Name,.l K0 (x.Weekend.l.map I) x.Weekend.t,.l K0 (x.Holidays.l.map I) x.Holidays.t]
@[simp] theorem ACalendar.fits (x:ACalendar):Sim.fits (K1 3) (.d (ACalendar.dv x))=true:=rfl
@[simp] theorem ACalendar.purT (x:ACalendar) (H:Heap):Sim.purT H (.d (ACalendar.dv x))=some (.d (ACalendar.dv x),false):=rfl
@[simp] theorem ACalendar.clen (x:ACalendar):(ACalendar.dv x).cells.length=3:=rfl
@[simp] theorem ACalendar.aof (x:ACalendar):DV.a (ACalendar.cells x)=ACalendar.dv x:=rfl
@[simp] theorem ACalendar.ccl (x:ACalendar):(ACalendar.cells x).length=3:=rfl
@[simp] theorem ACalendar.c0 (x:ACalendar):(ACalendar.dv x).cells[0]? = some (.s x.Name):=rfl
@[simp] theorem ACalendar.c1 (x:ACalendar):(ACalendar.dv x).cells[1]? = some (.l K0 (x.Weekend.l.map I) x.Weekend.t):=rfl
@[simp] theorem ACalendar.c2 (x:ACalendar):(ACalendar.dv x).cells[2]? = some (.l K0 (x.Holidays.l.map I) x.Holidays.t):=rfl
structure AVar where
 Name:List UInt8
 Typ:Int
def AVar.cells (x:AVar):List DV:=[.s x.Name,I x.Typ]
def AVar.dv (x:AVar):DV:=.a [.s x.Name,I x.Typ]
@[simp] theorem AVar.fits (x:AVar):Sim.fits (K1 2) (.d (AVar.dv x))=true:=rfl
@[simp] theorem AVar.purT (x:AVar) (H:Heap):Sim.purT H (.d (AVar.dv x))=some (.d (AVar.dv x),false):=rfl
@[simp] theorem AVar.clen (x:AVar):(AVar.dv x).cells.length=2:=rfl
@[simp] theorem AVar.aof (x:AVar):DV.a (AVar.cells x)=AVar.dv x:=rfl
@[simp] theorem AVar.ccl (x:AVar):(AVar.cells x).length=2:=rfl
@[simp] theorem AVar.c0 (x:AVar):(AVar.dv x).cells[0]? = some (.s x.Name):=rfl
@[simp] theorem AVar.c1 (x:AVar):(AVar.dv x).cells[1]? = some (I x.Typ):=rfl
structure ATier where
 From:Int
 Ppm:Int
def ATier.cells (x:ATier):List DV:=[I x.From,I x.Ppm]
def ATier.dv (x:ATier):DV:=.a [I x.From,I x.Ppm]
@[simp] theorem ATier.fits (x:ATier):Sim.fits (K1 2) (.d (ATier.dv x))=true:=rfl
@[simp] theorem ATier.purT (x:ATier) (H:Heap):Sim.purT H (.d (ATier.dv x))=some (.d (ATier.dv x),false):=rfl
@[simp] theorem ATier.clen (x:ATier):(ATier.dv x).cells.length=2:=rfl
@[simp] theorem ATier.aof (x:ATier):DV.a (ATier.cells x)=ATier.dv x:=rfl
@[simp] theorem ATier.ccl (x:ATier):(ATier.cells x).length=2:=rfl
@[simp] theorem ATier.c0 (x:ATier):(ATier.dv x).cells[0]? = some (I x.From):=rfl
@[simp] theorem ATier.c1 (x:ATier):(ATier.dv x).cells[1]? = some (I x.Ppm):=rfl
structure AInterest where
 Tiers:SL ATier
 Marginal:Bool
 Basis:Int
 Mode:Int
 Keep:Bool
def AInterest.cells (x:AInterest):List DV:=[.l (K1 2) (x.Tiers.l.map ATier.dv) x.Tiers.t,.b x.Marginal,I x.Basis,I x.Mode,.b x.Keep]
def AInterest.dv (x:AInterest):DV:=.a [.l (K1 2) (x.Tiers.l.map ATier.dv) x.Tiers.t,.b x.Marginal,I x.Basis,I x.Mode,.b x.Keep]
@[simp] theorem AInterest.fits (x:AInterest):Sim.fits (K1 5) (.d (AInterest.dv x))=true:=rfl
@[simp] theorem AInterest.purT (x:AInterest) (H:Heap):Sim.purT H (.d (AInterest.dv x))=some (.d (AInterest.dv x),false):=rfl
@[simp] theorem AInterest.clen (x:AInterest):(AInterest.dv x).cells.length=5:=rfl
@[simp] theorem AInterest.aof (x:AInterest):DV.a (AInterest.cells x)=AInterest.dv x:=rfl
@[simp] theorem AInterest.ccl (x:AInterest):(AInterest.cells x).length=5:=rfl
@[simp] theorem AInterest.c0 (x:AInterest):(AInterest.dv x).cells[0]? = some (.l (K1 2) (x.Tiers.l.map ATier.dv) x.Tiers.t):=rfl
@[simp] theorem AInterest.c1 (x:AInterest):(AInterest.dv x).cells[1]? = some (.b x.Marginal):=rfl
@[simp] theorem AInterest.c2 (x:AInterest):(AInterest.dv x).cells[2]? = some (I x.Basis):=rfl
@[simp] theorem AInterest.c3 (x:AInterest):(AInterest.dv x).cells[3]? = some (I x.Mode):=rfl
@[simp] theorem AInterest.c4 (x:AInterest):(AInterest.dv x).cells[4]? = some (.b x.Keep):=rfl
structure AExpr where
 (Op N:Int)
 S:List UInt8
 Args:SL DV
def AExpr.cells (x:AExpr):List DV:=[I x.Op,I x.N,.s x.S,.l (K1 4) x.Args.l x.Args.t]
def AExpr.dv (x:AExpr):DV:=.a [I x.Op,I x.N,.s x.S,.l (K1 4) x.Args.l x.Args.t]
@[simp] theorem AExpr.fits (x:AExpr):Sim.fits (K1 4) (.d (AExpr.dv x))=true:=rfl
@[simp] theorem AExpr.purT (x:AExpr) (H:Heap):Sim.purT H (.d (AExpr.dv x))=some (.d (AExpr.dv x),false):=rfl
@[simp] theorem AExpr.clen (x:AExpr):(AExpr.dv x).cells.length=4:=rfl
@[simp] theorem AExpr.aof (x:AExpr):DV.a (AExpr.cells x)=AExpr.dv x:=rfl
@[simp] theorem AExpr.ccl (x:AExpr):(AExpr.cells x).length=4:=rfl
@[simp] theorem AExpr.c0 (x:AExpr):(AExpr.dv x).cells[0]? = some (I x.Op):=rfl
@[simp] theorem AExpr.c1 (x:AExpr):(AExpr.dv x).cells[1]? = some (I x.N):=rfl
@[simp] theorem AExpr.c2 (x:AExpr):(AExpr.dv x).cells[2]? = some (.s x.S):=rfl
@[simp] theorem AExpr.c3 (x:AExpr):(AExpr.dv x).cells[3]? = some (.l (K1 4) x.Args.l x.Args.t):=rfl
structure AFee where
 Name:List UInt8
 Event:Int
 When:AExpr
 Amount:AExpr
def AFee.cells (x:AFee):List DV:=[.s x.Name,I x.Event,I x.When.Op,I x.When.N,.s x.When.S,.l (K1 4) x.When.Args.l x.When.Args.t,I x.Amount.Op,I x.Amount.N,.s x.Amount.S,.l (K1 4) x.Amount.Args.l x.Amount.Args.t]
def AFee.dv (x:AFee):DV:=.a [.s x.Name,I x.Event,I x.When.Op,I x.When.N,.s x.When.S,.l (K1 4) x.When.Args.l x.When.Args.t,I x.Amount.Op,I x.Amount.N,.s x.Amount.S,.l (K1 4) x.Amount.Args.l x.Amount.Args.t]
@[simp] theorem AFee.fits (x:AFee):Sim.fits (K1 10) (.d (AFee.dv x))=true:=rfl
@[simp] theorem AFee.purT (x:AFee) (H:Heap):Sim.purT H (.d (AFee.dv x))=some (.d (AFee.dv x),false):=rfl
@[simp] theorem AFee.clen (x:AFee):(AFee.dv x).cells.length=10:=rfl
@[simp] theorem AFee.aof (x:AFee):DV.a (AFee.cells x)=AFee.dv x:=rfl
@[simp] theorem AFee.ccl (x:AFee):(AFee.cells x).length=10:=rfl
@[simp] theorem AFee.n2_4 (x:AFee):((AFee.dv x).cells.drop 2).take 4=AExpr.cells x.When:=rfl
@[simp] theorem AFee.n6_4 (x:AFee):((AFee.dv x).cells.drop 6).take 4=AExpr.cells x.Amount:=rfl
@[simp] theorem AFee.c0 (x:AFee):(AFee.dv x).cells[0]? = some (.s x.Name):=rfl
@[simp] theorem AFee.c1 (x:AFee):(AFee.dv x).cells[1]? = some (I x.Event):=rfl
@[simp] theorem AFee.c2 (x:AFee):(AFee.dv x).cells[2]? = some (I x.When.Op):=rfl
@[simp] theorem AFee.c3 (x:AFee):(AFee.dv x).cells[3]? = some (I x.When.N):=rfl
@[simp] theorem AFee.c4 (x:AFee):(AFee.dv x).cells[4]? = some (.s x.When.S):=rfl
@[simp] theorem AFee.c5 (x:AFee):(AFee.dv x).cells[5]? = some (.l (K1 4) x.When.Args.l x.When.Args.t):=rfl
@[simp] theorem AFee.c6 (x:AFee):(AFee.dv x).cells[6]? = some (I x.Amount.Op):=rfl
@[simp] theorem AFee.c7 (x:AFee):(AFee.dv x).cells[7]? = some (I x.Amount.N):=rfl
@[simp] theorem AFee.c8 (x:AFee):(AFee.dv x).cells[8]? = some (.s x.Amount.S):=rfl
@[simp] theorem AFee.c9 (x:AFee):(AFee.dv x).cells[9]? = some (.l (K1 4) x.Amount.Args.l x.Amount.Args.t):=rfl
structure ARule where
 Name:List UInt8
 Window:Int
 Amount:AExpr
def ARule.cells (x:ARule):List DV:=[.s x.Name,I x.Window,I x.Amount.Op,I x.Amount.N,.s x.Amount.S,.l (K1 4) x.Amount.Args.l x.Amount.Args.t]
def ARule.dv (x:ARule):DV:=.a [.s x.Name,I x.Window,I x.Amount.Op,I x.Amount.N,.s x.Amount.S,.l (K1 4) x.Amount.Args.l x.Amount.Args.t]
@[simp] theorem ARule.fits (x:ARule):Sim.fits (K1 6) (.d (ARule.dv x))=true:=rfl
@[simp] theorem ARule.purT (x:ARule) (H:Heap):Sim.purT H (.d (ARule.dv x))=some (.d (ARule.dv x),false):=rfl
@[simp] theorem ARule.clen (x:ARule):(ARule.dv x).cells.length=6:=rfl
@[simp] theorem ARule.aof (x:ARule):DV.a (ARule.cells x)=ARule.dv x:=rfl
@[simp] theorem ARule.ccl (x:ARule):(ARule.cells x).length=6:=rfl
@[simp] theorem ARule.n2_4 (x:ARule):((ARule.dv x).cells.drop 2).take 4=AExpr.cells x.Amount:=rfl
@[simp] theorem ARule.c0 (x:ARule):(ARule.dv x).cells[0]? = some (.s x.Name):=rfl
@[simp] theorem ARule.c1 (x:ARule):(ARule.dv x).cells[1]? = some (I x.Window):=rfl
@[simp] theorem ARule.c2 (x:ARule):(ARule.dv x).cells[2]? = some (I x.Amount.Op):=rfl
@[simp] theorem ARule.c3 (x:ARule):(ARule.dv x).cells[3]? = some (I x.Amount.N):=rfl
@[simp] theorem ARule.c4 (x:ARule):(ARule.dv x).cells[4]? = some (.s x.Amount.S):=rfl
@[simp] theorem ARule.c5 (x:ARule):(ARule.dv x).cells[5]? = some (.l (K1 4) x.Amount.Args.l x.Amount.Args.t):=rfl
structure AProduct where
 Name:List UInt8
 Currency:List UInt8
 Calendar:List UInt8
 From:Int
 Every:Int
 Overdraft:Int
 TaxPpm:Int
 Credit:AInterest
 Debit:AInterest
 Fees:SL AFee
 Rules:SL ARule
def AProduct.cells (x:AProduct):List DV:=[.s x.Name,.s x.Currency,.s x.Calendar,I x.From,I x.Every,I x.Overdraft,I x.TaxPpm,.l (K1 2) (x.Credit.Tiers.l.map ATier.dv) x.Credit.Tiers.t,.b x.Credit.Marginal,I x.Credit.Basis,I x.Credit.Mode,.b x.Credit.Keep,.l (K1 2) (x.Debit.Tiers.l.map ATier.dv) x.Debit.Tiers.t,.b x.Debit.Marginal,I x.Debit.Basis,I x.Debit.Mode,.b x.Debit.Keep,.l (K1 10) (x.Fees.l.map AFee.dv) x.Fees.t,.l (K1 6) (x.Rules.l.map ARule.dv) x.Rules.t]
def AProduct.dv (x:AProduct):DV:=.a [.s x.Name,.s x.Currency,.s x.Calendar,I x.From,I x.Every,I x.Overdraft,I x.TaxPpm,.l (K1 2) (x.Credit.Tiers.l.map ATier.dv) x.Credit.Tiers.t,.b x.Credit.Marginal,I x.Credit.Basis,I x.Credit.Mode,.b x.Credit.Keep,.l (K1 2) (x.Debit.Tiers.l.map ATier.dv) x.Debit.Tiers.t,.b x.Debit.Marginal,I x.Debit.Basis,I x.Debit.Mode,.b x.Debit.Keep,.l (K1 10) (x.Fees.l.map AFee.dv) x.Fees.t,.l (K1 6) (x.Rules.l.map ARule.dv) x.Rules.t]
@[simp] theorem AProduct.fits (x:AProduct):Sim.fits (K1 19) (.d (AProduct.dv x))=true:=rfl
@[simp] theorem AProduct.purT (x:AProduct) (H:Heap):Sim.purT H (.d (AProduct.dv x))=some (.d (AProduct.dv x),false):=rfl
@[simp] theorem AProduct.clen (x:AProduct):(AProduct.dv x).cells.length=19:=rfl
@[simp] theorem AProduct.aof (x:AProduct):DV.a (AProduct.cells x)=AProduct.dv x:=rfl
@[simp] theorem AProduct.ccl (x:AProduct):(AProduct.cells x).length=19:=rfl
@[simp] theorem AProduct.n7_5 (x:AProduct):((AProduct.dv x).cells.drop 7).take 5=AInterest.cells x.Credit:=rfl
@[simp] theorem AProduct.n12_5 (x:AProduct):((AProduct.dv x).cells.drop 12).take 5=AInterest.cells x.Debit:=rfl
@[simp] theorem AProduct.c0 (x:AProduct):(AProduct.dv x).cells[0]? = some (.s x.Name):=rfl
@[simp] theorem AProduct.c1 (x:AProduct):(AProduct.dv x).cells[1]? = some (.s x.Currency):=rfl
@[simp] theorem AProduct.c2 (x:AProduct):(AProduct.dv x).cells[2]? = some (.s x.Calendar):=rfl
@[simp] theorem AProduct.c3 (x:AProduct):(AProduct.dv x).cells[3]? = some (I x.From):=rfl
@[simp] theorem AProduct.c4 (x:AProduct):(AProduct.dv x).cells[4]? = some (I x.Every):=rfl
@[simp] theorem AProduct.c5 (x:AProduct):(AProduct.dv x).cells[5]? = some (I x.Overdraft):=rfl
@[simp] theorem AProduct.c6 (x:AProduct):(AProduct.dv x).cells[6]? = some (I x.TaxPpm):=rfl
@[simp] theorem AProduct.c7 (x:AProduct):(AProduct.dv x).cells[7]? = some (.l (K1 2) (x.Credit.Tiers.l.map ATier.dv) x.Credit.Tiers.t):=rfl
@[simp] theorem AProduct.c8 (x:AProduct):(AProduct.dv x).cells[8]? = some (.b x.Credit.Marginal):=rfl
@[simp] theorem AProduct.c9 (x:AProduct):(AProduct.dv x).cells[9]? = some (I x.Credit.Basis):=rfl
@[simp] theorem AProduct.c10 (x:AProduct):(AProduct.dv x).cells[10]? = some (I x.Credit.Mode):=rfl
@[simp] theorem AProduct.c11 (x:AProduct):(AProduct.dv x).cells[11]? = some (.b x.Credit.Keep):=rfl
@[simp] theorem AProduct.c12 (x:AProduct):(AProduct.dv x).cells[12]? = some (.l (K1 2) (x.Debit.Tiers.l.map ATier.dv) x.Debit.Tiers.t):=rfl
@[simp] theorem AProduct.c13 (x:AProduct):(AProduct.dv x).cells[13]? = some (.b x.Debit.Marginal):=rfl
@[simp] theorem AProduct.c14 (x:AProduct):(AProduct.dv x).cells[14]? = some (I x.Debit.Basis):=rfl
@[simp] theorem AProduct.c15 (x:AProduct):(AProduct.dv x).cells[15]? = some (I x.Debit.Mode):=rfl
@[simp] theorem AProduct.c16 (x:AProduct):(AProduct.dv x).cells[16]? = some (.b x.Debit.Keep):=rfl
@[simp] theorem AProduct.c17 (x:AProduct):(AProduct.dv x).cells[17]? = some (.l (K1 10) (x.Fees.l.map AFee.dv) x.Fees.t):=rfl
@[simp] theorem AProduct.c18 (x:AProduct):(AProduct.dv x).cells[18]? = some (.l (K1 6) (x.Rules.l.map ARule.dv) x.Rules.t):=rfl
structure AGl where
 Id:Int
 Parent:Int
 Kind:Int
 Name:List UInt8
def AGl.cells (x:AGl):List DV:=[I x.Id,I x.Parent,I x.Kind,.s x.Name]
def AGl.dv (x:AGl):DV:=.a [I x.Id,I x.Parent,I x.Kind,.s x.Name]
@[simp] theorem AGl.fits (x:AGl):Sim.fits (K1 4) (.d (AGl.dv x))=true:=rfl
@[simp] theorem AGl.purT (x:AGl) (H:Heap):Sim.purT H (.d (AGl.dv x))=some (.d (AGl.dv x),false):=rfl
@[simp] theorem AGl.clen (x:AGl):(AGl.dv x).cells.length=4:=rfl
@[simp] theorem AGl.aof (x:AGl):DV.a (AGl.cells x)=AGl.dv x:=rfl
@[simp] theorem AGl.ccl (x:AGl):(AGl.cells x).length=4:=rfl
@[simp] theorem AGl.c0 (x:AGl):(AGl.dv x).cells[0]? = some (I x.Id):=rfl
@[simp] theorem AGl.c1 (x:AGl):(AGl.dv x).cells[1]? = some (I x.Parent):=rfl
@[simp] theorem AGl.c2 (x:AGl):(AGl.dv x).cells[2]? = some (I x.Kind):=rfl
@[simp] theorem AGl.c3 (x:AGl):(AGl.dv x).cells[3]? = some (.s x.Name):=rfl
structure ALeg where
 Account:Int
 Amount:Int
 Currency:List UInt8
def ALeg.cells (x:ALeg):List DV:=[I x.Account,I x.Amount,.s x.Currency]
def ALeg.dv (x:ALeg):DV:=.a [I x.Account,I x.Amount,.s x.Currency]
@[simp] theorem ALeg.fits (x:ALeg):Sim.fits (K1 3) (.d (ALeg.dv x))=true:=rfl
@[simp] theorem ALeg.purT (x:ALeg) (H:Heap):Sim.purT H (.d (ALeg.dv x))=some (.d (ALeg.dv x),false):=rfl
@[simp] theorem ALeg.clen (x:ALeg):(ALeg.dv x).cells.length=3:=rfl
@[simp] theorem ALeg.aof (x:ALeg):DV.a (ALeg.cells x)=ALeg.dv x:=rfl
@[simp] theorem ALeg.ccl (x:ALeg):(ALeg.cells x).length=3:=rfl
@[simp] theorem ALeg.c0 (x:ALeg):(ALeg.dv x).cells[0]? = some (I x.Account):=rfl
@[simp] theorem ALeg.c1 (x:ALeg):(ALeg.dv x).cells[1]? = some (I x.Amount):=rfl
@[simp] theorem ALeg.c2 (x:ALeg):(ALeg.dv x).cells[2]? = some (.s x.Currency):=rfl
structure AEntry where
 Id:Int
 Booked:Int
 Value:Int
 Kind:Int
 Auth:Int
 Period:Int
 Key:List UInt8
 Text:List UInt8
 Legs:SL ALeg
 Chain:Int
def AEntry.cells (x:AEntry):List DV:=[I x.Id,I x.Booked,I x.Value,I x.Kind,I x.Auth,I x.Period,.s x.Key,.s x.Text,.l (K1 3) (x.Legs.l.map ALeg.dv) x.Legs.t,.i .u64 x.Chain]
def AEntry.dv (x:AEntry):DV:=.a [I x.Id,I x.Booked,I x.Value,I x.Kind,I x.Auth,I x.Period,.s x.Key,.s x.Text,.l (K1 3) (x.Legs.l.map ALeg.dv) x.Legs.t,.i .u64 x.Chain]
@[simp] theorem AEntry.fits (x:AEntry):Sim.fits (K1 10) (.d (AEntry.dv x))=true:=rfl
@[simp] theorem AEntry.purT (x:AEntry) (H:Heap):Sim.purT H (.d (AEntry.dv x))=some (.d (AEntry.dv x),false):=rfl
@[simp] theorem AEntry.clen (x:AEntry):(AEntry.dv x).cells.length=10:=rfl
@[simp] theorem AEntry.aof (x:AEntry):DV.a (AEntry.cells x)=AEntry.dv x:=rfl
@[simp] theorem AEntry.ccl (x:AEntry):(AEntry.cells x).length=10:=rfl
@[simp] theorem AEntry.c0 (x:AEntry):(AEntry.dv x).cells[0]? = some (I x.Id):=rfl
@[simp] theorem AEntry.c1 (x:AEntry):(AEntry.dv x).cells[1]? = some (I x.Booked):=rfl
@[simp] theorem AEntry.c2 (x:AEntry):(AEntry.dv x).cells[2]? = some (I x.Value):=rfl
@[simp] theorem AEntry.c3 (x:AEntry):(AEntry.dv x).cells[3]? = some (I x.Kind):=rfl
@[simp] theorem AEntry.c4 (x:AEntry):(AEntry.dv x).cells[4]? = some (I x.Auth):=rfl
@[simp] theorem AEntry.c5 (x:AEntry):(AEntry.dv x).cells[5]? = some (I x.Period):=rfl
@[simp] theorem AEntry.c6 (x:AEntry):(AEntry.dv x).cells[6]? = some (.s x.Key):=rfl
@[simp] theorem AEntry.c7 (x:AEntry):(AEntry.dv x).cells[7]? = some (.s x.Text):=rfl
@[simp] theorem AEntry.c8 (x:AEntry):(AEntry.dv x).cells[8]? = some (.l (K1 3) (x.Legs.l.map ALeg.dv) x.Legs.t):=rfl
@[simp] theorem AEntry.c9 (x:AEntry):(AEntry.dv x).cells[9]? = some (.i .u64 x.Chain):=rfl
structure AHold where
 Id:Int
 Account:Int
 Amount:Int
 From:Int
 To:Int
 Key:List UInt8
def AHold.cells (x:AHold):List DV:=[I x.Id,I x.Account,I x.Amount,I x.From,I x.To,.s x.Key]
def AHold.dv (x:AHold):DV:=.a [I x.Id,I x.Account,I x.Amount,I x.From,I x.To,.s x.Key]
@[simp] theorem AHold.fits (x:AHold):Sim.fits (K1 6) (.d (AHold.dv x))=true:=rfl
@[simp] theorem AHold.purT (x:AHold) (H:Heap):Sim.purT H (.d (AHold.dv x))=some (.d (AHold.dv x),false):=rfl
@[simp] theorem AHold.clen (x:AHold):(AHold.dv x).cells.length=6:=rfl
@[simp] theorem AHold.aof (x:AHold):DV.a (AHold.cells x)=AHold.dv x:=rfl
@[simp] theorem AHold.ccl (x:AHold):(AHold.cells x).length=6:=rfl
@[simp] theorem AHold.c0 (x:AHold):(AHold.dv x).cells[0]? = some (I x.Id):=rfl
@[simp] theorem AHold.c1 (x:AHold):(AHold.dv x).cells[1]? = some (I x.Account):=rfl
@[simp] theorem AHold.c2 (x:AHold):(AHold.dv x).cells[2]? = some (I x.Amount):=rfl
@[simp] theorem AHold.c3 (x:AHold):(AHold.dv x).cells[3]? = some (I x.From):=rfl
@[simp] theorem AHold.c4 (x:AHold):(AHold.dv x).cells[4]? = some (I x.To):=rfl
@[simp] theorem AHold.c5 (x:AHold):(AHold.dv x).cells[5]? = some (.s x.Key):=rfl
structure ABlock where
 Id:Int
 Account:Int
 Kind:Int
 Amount:Int
 From:Int
 To:Int
 Source:List UInt8
def ABlock.cells (x:ABlock):List DV:=[I x.Id,I x.Account,I x.Kind,I x.Amount,I x.From,I x.To,.s x.Source]
def ABlock.dv (x:ABlock):DV:=.a [I x.Id,I x.Account,I x.Kind,I x.Amount,I x.From,I x.To,.s x.Source]
@[simp] theorem ABlock.fits (x:ABlock):Sim.fits (K1 7) (.d (ABlock.dv x))=true:=rfl
@[simp] theorem ABlock.purT (x:ABlock) (H:Heap):Sim.purT H (.d (ABlock.dv x))=some (.d (ABlock.dv x),false):=rfl
@[simp] theorem ABlock.clen (x:ABlock):(ABlock.dv x).cells.length=7:=rfl
@[simp] theorem ABlock.aof (x:ABlock):DV.a (ABlock.cells x)=ABlock.dv x:=rfl
@[simp] theorem ABlock.ccl (x:ABlock):(ABlock.cells x).length=7:=rfl
@[simp] theorem ABlock.c0 (x:ABlock):(ABlock.dv x).cells[0]? = some (I x.Id):=rfl
@[simp] theorem ABlock.c1 (x:ABlock):(ABlock.dv x).cells[1]? = some (I x.Account):=rfl
@[simp] theorem ABlock.c2 (x:ABlock):(ABlock.dv x).cells[2]? = some (I x.Kind):=rfl
@[simp] theorem ABlock.c3 (x:ABlock):(ABlock.dv x).cells[3]? = some (I x.Amount):=rfl
@[simp] theorem ABlock.c4 (x:ABlock):(ABlock.dv x).cells[4]? = some (I x.From):=rfl
@[simp] theorem ABlock.c5 (x:ABlock):(ABlock.dv x).cells[5]? = some (I x.To):=rfl
@[simp] theorem ABlock.c6 (x:ABlock):(ABlock.dv x).cells[6]? = some (.s x.Source):=rfl
structure AAccount where
 Id:Int
 Opened:Int
 Closed:Int
 Extra:Int
 Owner:List UInt8
 Product:List UInt8
 Number:List UInt8
def AAccount.cells (x:AAccount):List DV:=[I x.Id,I x.Opened,I x.Closed,I x.Extra,.s x.Owner,.s x.Product,.s x.Number]
def AAccount.dv (x:AAccount):DV:=.a [I x.Id,I x.Opened,I x.Closed,I x.Extra,.s x.Owner,.s x.Product,.s x.Number]
@[simp] theorem AAccount.fits (x:AAccount):Sim.fits (K1 7) (.d (AAccount.dv x))=true:=rfl
@[simp] theorem AAccount.purT (x:AAccount) (H:Heap):Sim.purT H (.d (AAccount.dv x))=some (.d (AAccount.dv x),false):=rfl
@[simp] theorem AAccount.clen (x:AAccount):(AAccount.dv x).cells.length=7:=rfl
@[simp] theorem AAccount.aof (x:AAccount):DV.a (AAccount.cells x)=AAccount.dv x:=rfl
@[simp] theorem AAccount.ccl (x:AAccount):(AAccount.cells x).length=7:=rfl
@[simp] theorem AAccount.c0 (x:AAccount):(AAccount.dv x).cells[0]? = some (I x.Id):=rfl
@[simp] theorem AAccount.c1 (x:AAccount):(AAccount.dv x).cells[1]? = some (I x.Opened):=rfl
@[simp] theorem AAccount.c2 (x:AAccount):(AAccount.dv x).cells[2]? = some (I x.Closed):=rfl
@[simp] theorem AAccount.c3 (x:AAccount):(AAccount.dv x).cells[3]? = some (I x.Extra):=rfl
@[simp] theorem AAccount.c4 (x:AAccount):(AAccount.dv x).cells[4]? = some (.s x.Owner):=rfl
@[simp] theorem AAccount.c5 (x:AAccount):(AAccount.dv x).cells[5]? = some (.s x.Product):=rfl
@[simp] theorem AAccount.c6 (x:AAccount):(AAccount.dv x).cells[6]? = some (.s x.Number):=rfl
structure APlan where
 Cash:Int
 Deposits:Int
 InterestPaid:Int
 InterestEarned:Int
 FeeEarned:Int
 Tax:Int
 Clearing:Int
 Loans:Int
 LoanInterest:Int
 Penalty:Int
 Provision:Int
 ProvisionCost:Int
 Loss:Int
 Recovery:Int
def APlan.cells (x:APlan):List DV:=[I x.Cash,I x.Deposits,I x.InterestPaid,I x.InterestEarned,I x.FeeEarned,I x.Tax,I x.Clearing,I x.Loans,I x.LoanInterest,I x.Penalty,I x.Provision,I x.ProvisionCost,I x.Loss,I x.Recovery]
def APlan.dv (x:APlan):DV:=.a [I x.Cash,I x.Deposits,I x.InterestPaid,I x.InterestEarned,I x.FeeEarned,I x.Tax,I x.Clearing,I x.Loans,I x.LoanInterest,I x.Penalty,I x.Provision,I x.ProvisionCost,I x.Loss,I x.Recovery]
@[simp] theorem APlan.fits (x:APlan):Sim.fits (K1 14) (.d (APlan.dv x))=true:=rfl
@[simp] theorem APlan.purT (x:APlan) (H:Heap):Sim.purT H (.d (APlan.dv x))=some (.d (APlan.dv x),false):=rfl
@[simp] theorem APlan.clen (x:APlan):(APlan.dv x).cells.length=14:=rfl
@[simp] theorem APlan.aof (x:APlan):DV.a (APlan.cells x)=APlan.dv x:=rfl
@[simp] theorem APlan.ccl (x:APlan):(APlan.cells x).length=14:=rfl
@[simp] theorem APlan.c0 (x:APlan):(APlan.dv x).cells[0]? = some (I x.Cash):=rfl
@[simp] theorem APlan.c1 (x:APlan):(APlan.dv x).cells[1]? = some (I x.Deposits):=rfl
@[simp] theorem APlan.c2 (x:APlan):(APlan.dv x).cells[2]? = some (I x.InterestPaid):=rfl
@[simp] theorem APlan.c3 (x:APlan):(APlan.dv x).cells[3]? = some (I x.InterestEarned):=rfl
@[simp] theorem APlan.c4 (x:APlan):(APlan.dv x).cells[4]? = some (I x.FeeEarned):=rfl
@[simp] theorem APlan.c5 (x:APlan):(APlan.dv x).cells[5]? = some (I x.Tax):=rfl
@[simp] theorem APlan.c6 (x:APlan):(APlan.dv x).cells[6]? = some (I x.Clearing):=rfl
@[simp] theorem APlan.c7 (x:APlan):(APlan.dv x).cells[7]? = some (I x.Loans):=rfl
@[simp] theorem APlan.c8 (x:APlan):(APlan.dv x).cells[8]? = some (I x.LoanInterest):=rfl
@[simp] theorem APlan.c9 (x:APlan):(APlan.dv x).cells[9]? = some (I x.Penalty):=rfl
@[simp] theorem APlan.c10 (x:APlan):(APlan.dv x).cells[10]? = some (I x.Provision):=rfl
@[simp] theorem APlan.c11 (x:APlan):(APlan.dv x).cells[11]? = some (I x.ProvisionCost):=rfl
@[simp] theorem APlan.c12 (x:APlan):(APlan.dv x).cells[12]? = some (I x.Loss):=rfl
@[simp] theorem APlan.c13 (x:APlan):(APlan.dv x).cells[13]? = some (I x.Recovery):=rfl
structure ABooks where
 Currencies:SL ACurrency
 Calendars:SL ACalendar
 Chart:SL AGl
 Plan:APlan
 Products:SL AProduct
 Accounts:SL AAccount
 Journal:SL AEntry
 Holds:SL AHold
 Blocks:SL ABlock
def ABooks.cells (x:ABooks):List DV:=[.l (K1 2) (x.Currencies.l.map ACurrency.dv) x.Currencies.t,.l (K1 3) (x.Calendars.l.map ACalendar.dv) x.Calendars.t,.l (K1 4) (x.Chart.l.map AGl.dv) x.Chart.t,I x.Plan.Cash,I x.Plan.Deposits,I x.Plan.InterestPaid,I x.Plan.InterestEarned,I x.Plan.FeeEarned,I x.Plan.Tax,I x.Plan.Clearing,I x.Plan.Loans,I x.Plan.LoanInterest,I x.Plan.Penalty,I x.Plan.Provision,I x.Plan.ProvisionCost,I x.Plan.Loss,I x.Plan.Recovery,.l (K1 19) (x.Products.l.map AProduct.dv) x.Products.t,.l (K1 7) (x.Accounts.l.map AAccount.dv) x.Accounts.t,.l (K1 10) (x.Journal.l.map AEntry.dv) x.Journal.t,.l (K1 6) (x.Holds.l.map AHold.dv) x.Holds.t,.l (K1 7) (x.Blocks.l.map ABlock.dv) x.Blocks.t]
def ABooks.dv (x:ABooks):DV:=.a [.l (K1 2) (x.Currencies.l.map ACurrency.dv) x.Currencies.t,.l (K1 3) (x.Calendars.l.map ACalendar.dv) x.Calendars.t,.l (K1 4) (x.Chart.l.map AGl.dv) x.Chart.t,I x.Plan.Cash,I x.Plan.Deposits,I x.Plan.InterestPaid,I x.Plan.InterestEarned,I x.Plan.FeeEarned,I x.Plan.Tax,I x.Plan.Clearing,I x.Plan.Loans,I x.Plan.LoanInterest,I x.Plan.Penalty,I x.Plan.Provision,I x.Plan.ProvisionCost,I x.Plan.Loss,I x.Plan.Recovery,.l (K1 19) (x.Products.l.map AProduct.dv) x.Products.t,.l (K1 7) (x.Accounts.l.map AAccount.dv) x.Accounts.t,.l (K1 10) (x.Journal.l.map AEntry.dv) x.Journal.t,.l (K1 6) (x.Holds.l.map AHold.dv) x.Holds.t,.l (K1 7) (x.Blocks.l.map ABlock.dv) x.Blocks.t]
@[simp] theorem ABooks.fits (x:ABooks):Sim.fits (K1 22) (.d (ABooks.dv x))=true:=rfl
@[simp] theorem ABooks.purT (x:ABooks) (H:Heap):Sim.purT H (.d (ABooks.dv x))=some (.d (ABooks.dv x),false):=rfl
@[simp] theorem ABooks.clen (x:ABooks):(ABooks.dv x).cells.length=22:=rfl
@[simp] theorem ABooks.aof (x:ABooks):DV.a (ABooks.cells x)=ABooks.dv x:=rfl
@[simp] theorem ABooks.ccl (x:ABooks):(ABooks.cells x).length=22:=rfl
@[simp] theorem ABooks.n3_14 (x:ABooks):((ABooks.dv x).cells.drop 3).take 14=APlan.cells x.Plan:=rfl
@[simp] theorem ABooks.c0 (x:ABooks):(ABooks.dv x).cells[0]? = some (.l (K1 2) (x.Currencies.l.map ACurrency.dv) x.Currencies.t):=rfl
@[simp] theorem ABooks.c1 (x:ABooks):(ABooks.dv x).cells[1]? = some (.l (K1 3) (x.Calendars.l.map ACalendar.dv) x.Calendars.t):=rfl
@[simp] theorem ABooks.c2 (x:ABooks):(ABooks.dv x).cells[2]? = some (.l (K1 4) (x.Chart.l.map AGl.dv) x.Chart.t):=rfl
@[simp] theorem ABooks.c3 (x:ABooks):(ABooks.dv x).cells[3]? = some (I x.Plan.Cash):=rfl
@[simp] theorem ABooks.c4 (x:ABooks):(ABooks.dv x).cells[4]? = some (I x.Plan.Deposits):=rfl
@[simp] theorem ABooks.c5 (x:ABooks):(ABooks.dv x).cells[5]? = some (I x.Plan.InterestPaid):=rfl
@[simp] theorem ABooks.c6 (x:ABooks):(ABooks.dv x).cells[6]? = some (I x.Plan.InterestEarned):=rfl
@[simp] theorem ABooks.c7 (x:ABooks):(ABooks.dv x).cells[7]? = some (I x.Plan.FeeEarned):=rfl
@[simp] theorem ABooks.c8 (x:ABooks):(ABooks.dv x).cells[8]? = some (I x.Plan.Tax):=rfl
@[simp] theorem ABooks.c9 (x:ABooks):(ABooks.dv x).cells[9]? = some (I x.Plan.Clearing):=rfl
@[simp] theorem ABooks.c10 (x:ABooks):(ABooks.dv x).cells[10]? = some (I x.Plan.Loans):=rfl
@[simp] theorem ABooks.c11 (x:ABooks):(ABooks.dv x).cells[11]? = some (I x.Plan.LoanInterest):=rfl
@[simp] theorem ABooks.c12 (x:ABooks):(ABooks.dv x).cells[12]? = some (I x.Plan.Penalty):=rfl
@[simp] theorem ABooks.c13 (x:ABooks):(ABooks.dv x).cells[13]? = some (I x.Plan.Provision):=rfl
@[simp] theorem ABooks.c14 (x:ABooks):(ABooks.dv x).cells[14]? = some (I x.Plan.ProvisionCost):=rfl
@[simp] theorem ABooks.c15 (x:ABooks):(ABooks.dv x).cells[15]? = some (I x.Plan.Loss):=rfl
@[simp] theorem ABooks.c16 (x:ABooks):(ABooks.dv x).cells[16]? = some (I x.Plan.Recovery):=rfl
@[simp] theorem ABooks.c17 (x:ABooks):(ABooks.dv x).cells[17]? = some (.l (K1 19) (x.Products.l.map AProduct.dv) x.Products.t):=rfl
@[simp] theorem ABooks.c18 (x:ABooks):(ABooks.dv x).cells[18]? = some (.l (K1 7) (x.Accounts.l.map AAccount.dv) x.Accounts.t):=rfl
@[simp] theorem ABooks.c19 (x:ABooks):(ABooks.dv x).cells[19]? = some (.l (K1 10) (x.Journal.l.map AEntry.dv) x.Journal.t):=rfl
@[simp] theorem ABooks.c20 (x:ABooks):(ABooks.dv x).cells[20]? = some (.l (K1 6) (x.Holds.l.map AHold.dv) x.Holds.t):=rfl
@[simp] theorem ABooks.c21 (x:ABooks):(ABooks.dv x).cells[21]? = some (.l (K1 7) (x.Blocks.l.map ABlock.dv) x.Blocks.t):=rfl
structure ACharge where
 Name:List UInt8
 Amount:Int
def ACharge.cells (x:ACharge):List DV:=[.s x.Name,I x.Amount]
def ACharge.dv (x:ACharge):DV:=.a [.s x.Name,I x.Amount]
@[simp] theorem ACharge.fits (x:ACharge):Sim.fits (K1 2) (.d (ACharge.dv x))=true:=rfl
@[simp] theorem ACharge.purT (x:ACharge) (H:Heap):Sim.purT H (.d (ACharge.dv x))=some (.d (ACharge.dv x),false):=rfl
@[simp] theorem ACharge.clen (x:ACharge):(ACharge.dv x).cells.length=2:=rfl
@[simp] theorem ACharge.aof (x:ACharge):DV.a (ACharge.cells x)=ACharge.dv x:=rfl
@[simp] theorem ACharge.ccl (x:ACharge):(ACharge.cells x).length=2:=rfl
@[simp] theorem ACharge.c0 (x:ACharge):(ACharge.dv x).cells[0]? = some (.s x.Name):=rfl
@[simp] theorem ACharge.c1 (x:ACharge):(ACharge.dv x).cells[1]? = some (I x.Amount):=rfl
structure AValue where
 Typ:Int
 N:Int
def AValue.cells (x:AValue):List DV:=[I x.Typ,I x.N]
def AValue.dv (x:AValue):DV:=.a [I x.Typ,I x.N]
@[simp] theorem AValue.fits (x:AValue):Sim.fits (K1 2) (.d (AValue.dv x))=true:=rfl
@[simp] theorem AValue.purT (x:AValue) (H:Heap):Sim.purT H (.d (AValue.dv x))=some (.d (AValue.dv x),false):=rfl
@[simp] theorem AValue.clen (x:AValue):(AValue.dv x).cells.length=2:=rfl
@[simp] theorem AValue.aof (x:AValue):DV.a (AValue.cells x)=AValue.dv x:=rfl
@[simp] theorem AValue.ccl (x:AValue):(AValue.cells x).length=2:=rfl
@[simp] theorem AValue.c0 (x:AValue):(AValue.dv x).cells[0]? = some (I x.Typ):=rfl
@[simp] theorem AValue.c1 (x:AValue):(AValue.dv x).cells[1]? = some (I x.N):=rfl
end Go.Sim
end
section
namespace Go.Sim
theorem qgD {t:Ty} {ts:List Ty} {xs:List DV} (h:qaA (t::ts) xs) : ∃x r,xs=x::r∧Has t x∧qaA ts r:=by
 cases xs with
 |nil=>simp[qaA] at h
 |cons x r=>rw[qaA] at h;exact⟨x,r,rfl,h.1,h.2⟩
theorem qcy {xs:List DV} (h:qaA [] xs):xs=[]:=by
 cases xs with
 |nil=>rfl
 |cons x r=>simp[qaA] at h
theorem qkc {k:IntKind} {x:DV} (h:Has (.i k) x) : ∃n,x = .i k n∧(Lit.int k n).wf=true:=by rw[Has] at h;exact h
theorem qz8 {x:DV} (h:Has .b x) : ∃c,x = .b c:=by rw[Has] at h;exact h
theorem qz9 {x:DV} (h:Has .s x) : ∃l,x = .s l∧l.length≤maxLen:=by rw[Has] at h;exact h
theorem qry {n:Nat} {xs:List DV} {e:DV} (h:mkD (some n) xs=some e):e = .a xs:=by
 simp only[mkD] at h;split at h
 ·cases h;rfl
 ·cases h
theorem qCM {xs:List DV} {e:DV} (h:mkD none xs=some e):xs=[e]:=by
 simp only[mkD] at h;split at h
 ·cases h;rfl
 ·cases h
end Go.Sim
end
section
namespace Go.Sim
def inK (k:IntKind) (n:Int):Prop:=(Lit.int k n).wf=true
theorem qnx {α:Type} {f:α→DV} {p:α→Prop} : ∀{es:List DV},(∀e∈es,∃a,e=f a∧p a)→∃l:List α,es=l.map f∧∀a∈l,p a
 | [],_=>⟨[],rfl,fun a h=>by cases h⟩
 |e::es,h=>by
  obtain⟨a,ha,hp⟩:=h e (zzr ..);obtain⟨l,hl,hq⟩:=qnx (fun x hx=>h x (zzi _ hx))
  refine⟨a::l,by rw[ha,hl];rfl,fun b hb => ?_⟩
  rcases List.mem_cons.1 hb with rfl|hb
  ·exact hp
  ·exact hq b hb
theorem qxe {α:Type} {f:α→DV} {p q:α→Prop} {n b:Nat} {ts:List Ty} {x:DV} (h:Has (.l (some n) b ts) x) (hf : ∀cs,qaA ts cs→∃a,DV.a cs=f a∧p a∧q a) : ∃s:SL α,x = .l (some n) (s.l.map f) s.t∧(s.l.length≤maxLen∧∀a∈s.l,p a)∧s.t=false∧s.l.length*b≤qb4∧∀a∈s.l,q a:=by
 rw[Has] at h;obtain⟨es,rfl,h1,hb,h2⟩:=h;obtain⟨l,rfl,hp⟩:=qnx (f:=f) (p:=fun a=>p a∧q a) (es:=es) fun e he=>by
  obtain⟨cs,h3,h4⟩:=h2 e he;obtain⟨a,ha,hp⟩:=hf cs h4;exact⟨a,by rw[qry h3];exact ha,hp⟩
 exact⟨⟨l,false⟩,rfl,⟨by simpa using h1,fun a ha=>(hp a ha).1⟩,rfl,by simpa using hb,fun a ha=>(hp a ha).2⟩
theorem qHU {α:Type} {f:α→DV} {p:α→Prop} {t:Ty} {b:Nat} {x:DV} (h:Has (.l none b [t]) x) (hf : ∀y,Has t y→∃a,y=f a∧p a) : ∃s:SL α,x = .l none (s.l.map f) s.t∧(s.l.length≤maxLen∧∀a∈s.l,p a)∧s.t=false∧s.l.length*b≤qb4:=by
 rw[Has] at h;obtain⟨es,rfl,h1,hb,h2⟩:=h;obtain⟨l,rfl,hp⟩:=qnx (f:=f) (p:=p) (es:=es) fun e he=>by
  obtain⟨cs,h3,h4⟩:=h2 e he;obtain⟨y,r,rfl,h5,h6⟩:=qgD h4;obtain rfl:=qcy h6;simp only[mkD,zzb] at h3;subst h3;exact hf y h5
 exact⟨⟨l,false⟩,rfl,⟨by simpa using h1,hp⟩,rfl,by simpa using hb⟩
theorem qHV {x:DV} (h:Has .e x) : ∃s:SL DV,x = .l (K1 4) s.l s.t∧XL (.l (K1 4) s.l s.t):=by
 rw[Has] at h;cases h with
 |mk es h1 h2 h3=>exact⟨⟨es,false⟩,rfl,.mk es h1 h2 h3⟩
theorem qay {k:IntKind} {ts:List Ty} {xs:List DV} (g:qaA (.i k::ts) xs) : ∃n r,xs = .i k n::r∧inK k n∧qaA ts r:=by
 obtain⟨_,r,rfl,h0,h⟩:=qgD g;obtain⟨n,rfl,p⟩:=qkc h0;exact⟨n,r,rfl,p,h⟩
theorem qcz {ts:List Ty} {xs:List DV} (g:qaA (.s::ts) xs) : ∃n r,xs = .s n::r∧n.length≤maxLen∧qaA ts r:=by
 obtain⟨_,r,rfl,h0,h⟩:=qgD g;obtain⟨n,rfl,p⟩:=qz9 h0;exact⟨n,r,rfl,p,h⟩
theorem qkb {ts:List Ty} {xs:List DV} (g:qaA (.b::ts) xs) : ∃n r,xs = .b n::r∧True∧qaA ts r:=by
 obtain⟨_,r,rfl,h0,h⟩:=qgD g;obtain⟨n,rfl⟩:=qz8 h0;exact⟨n,r,rfl,trivial,h⟩
theorem qqe {ts:List Ty} {xs:List DV} (g:qaA (.e::ts) xs) : ∃(s:SL DV) (r:List DV),xs = .l (K1 4) s.l s.t::r∧XL (.l (K1 4) s.l s.t)∧qaA ts r:=by
 obtain⟨_,r,rfl,h0,h⟩:=qgD g;obtain⟨n,rfl,p⟩:=qHV h0;exact⟨n,r,rfl,p,h⟩
theorem quG {b:Nat} {ts:List Ty} {xs:List DV} (g:qaA (.l none b [.i .i64]::ts) xs) : ∃(s:SL Int) (r:List DV),xs = .l none (s.l.map I) s.t::r∧(s.l.length≤maxLen∧∀y∈s.l,inK .i64 y)∧(s.t=false∧s.l.length*b≤qb4)∧qaA ts r:=by
 obtain⟨_,r,rfl,h0,h⟩:=qgD g;obtain⟨n,rfl,p,q⟩:=qHU (f:=I) (p:=fun y=>inK .i64 y) h0 fun y hy=>qkc hy
 exact⟨n,r,rfl,p,q,h⟩
theorem qf5 {α:Type} {f:α→DV} {p q:α→Prop} {n b:Nat} {us ts:List Ty} {xs:List DV} (hf : ∀cs,qaA us cs→∃a,DV.a cs=f a∧p a∧q a) (g:qaA (.l (some n) b us::ts) xs) : ∃(s:SL α) (r:List DV),xs = .l (some n) (s.l.map f) s.t::r∧(s.l.length≤maxLen∧∀a∈s.l,p a)∧(s.t=false∧s.l.length*b≤qb4∧∀a∈s.l,q a)∧qaA ts r:=by
 obtain⟨_,r,rfl,h0,h⟩:=qgD g;obtain⟨n,rfl,p,q⟩:=qxe h0 hf;exact⟨n,r,rfl,p,q,h⟩
def AWide.ok (x:AWide):Prop:=inK .i64 x.Hi∧inK .u64 x.Lo
def AWide.fit (_:AWide):Prop:=True
def AWide.ty:List Ty:=[.i .i64,.i .u64]
theorem AWide.ofB (cs:List DV) (h:qaA AWide.ty cs) : ∃x:AWide,DV.a cs=x.dv∧x.ok∧x.fit:=by
 obtain⟨a0,_,rfl,p0,h⟩:=qay h;obtain⟨a1,_,rfl,p1,h⟩:=qay h;obtain rfl:=qcy h;exact⟨⟨a0,a1⟩,rfl,⟨p0,p1⟩,trivial⟩
theorem AWide.of (cs:List DV) (h:qaA AWide.ty cs) : ∃x:AWide,DV.a cs=x.dv∧x.ok:=let ⟨x,a,b,_⟩:=AWide.ofB cs h; ⟨x,a,b⟩
def ACurrency.ok (x:ACurrency):Prop:=x.Code.length≤maxLen∧inK .i64 x.Digits
def ACurrency.fit (_:ACurrency):Prop:=True
def ACurrency.ty:List Ty:=[.s,.i .i64]
theorem ACurrency.ofB (cs:List DV) (h:qaA ACurrency.ty cs) : ∃x:ACurrency,DV.a cs=x.dv∧x.ok∧x.fit:=by
 obtain⟨a0,_,rfl,p0,h⟩:=qcz h;obtain⟨a1,_,rfl,p1,h⟩:=qay h;obtain rfl:=qcy h;exact⟨⟨a0,a1⟩,rfl,⟨p0,p1⟩,trivial⟩
theorem ACurrency.of (cs:List DV) (h:qaA ACurrency.ty cs) : ∃x:ACurrency,DV.a cs=x.dv∧x.ok:=let ⟨x,a,b,_⟩:=ACurrency.ofB cs h; ⟨x,a,b⟩
def ACalendar.ok (x:ACalendar):Prop:=x.Name.length≤maxLen∧(x.Weekend.l.length≤maxLen∧∀y∈x.Weekend.l,inK .i64 y)∧(x.Holidays.l.length≤maxLen∧∀y∈x.Holidays.l,inK .i64 y)
def ACalendar.fit (x:ACalendar):Prop:=(x.Weekend.t=false∧x.Weekend.l.length*8≤qb4)∧(x.Holidays.t=false∧x.Holidays.l.length*8≤qb4)
def ACalendar.ty:List Ty:=[.s,.l none 8 [.i .i64],.l none 8 [.i .i64]]
theorem ACalendar.ofB (cs:List DV) (h:qaA ACalendar.ty cs) : ∃x:ACalendar,DV.a cs=x.dv∧x.ok∧x.fit:=by
 obtain⟨a0,_,rfl,p0,h⟩:=qcz h;obtain⟨a1,_,rfl,p1,q1,h⟩:=quG h;obtain⟨a2,_,rfl,p2,q2,h⟩:=quG h;obtain rfl:=qcy h;exact⟨⟨a0,a1,a2⟩,rfl,⟨p0,p1,p2⟩,⟨q1,q2⟩⟩
theorem ACalendar.of (cs:List DV) (h:qaA ACalendar.ty cs) : ∃x:ACalendar,DV.a cs=x.dv∧x.ok:=let ⟨x,a,b,_⟩:=ACalendar.ofB cs h; ⟨x,a,b⟩
def AVar.ok (x:AVar):Prop:=x.Name.length≤maxLen∧inK .i64 x.Typ
def AVar.fit (_:AVar):Prop:=True
def AVar.ty:List Ty:=[.s,.i .i64]
theorem AVar.ofB (cs:List DV) (h:qaA AVar.ty cs) : ∃x:AVar,DV.a cs=x.dv∧x.ok∧x.fit:=by
 obtain⟨a0,_,rfl,p0,h⟩:=qcz h;obtain⟨a1,_,rfl,p1,h⟩:=qay h;obtain rfl:=qcy h;exact⟨⟨a0,a1⟩,rfl,⟨p0,p1⟩,trivial⟩
theorem AVar.of (cs:List DV) (h:qaA AVar.ty cs) : ∃x:AVar,DV.a cs=x.dv∧x.ok:=let ⟨x,a,b,_⟩:=AVar.ofB cs h; ⟨x,a,b⟩
def ATier.ok (x:ATier):Prop:=inK .i64 x.From∧inK .i64 x.Ppm
def ATier.fit (_:ATier):Prop:=True
def ATier.ty:List Ty:=[.i .i64,.i .i64]
theorem ATier.ofB (cs:List DV) (h:qaA ATier.ty cs) : ∃x:ATier,DV.a cs=x.dv∧x.ok∧x.fit:=by
 obtain⟨a0,_,rfl,p0,h⟩:=qay h;obtain⟨a1,_,rfl,p1,h⟩:=qay h;obtain rfl:=qcy h;exact⟨⟨a0,a1⟩,rfl,⟨p0,p1⟩,trivial⟩
theorem ATier.of (cs:List DV) (h:qaA ATier.ty cs) : ∃x:ATier,DV.a cs=x.dv∧x.ok:=let ⟨x,a,b,_⟩:=ATier.ofB cs h; ⟨x,a,b⟩
def AInterest.ok (x:AInterest):Prop:=(x.Tiers.l.length≤maxLen∧∀y∈x.Tiers.l,y.ok)∧inK .i64 x.Basis∧inK .i64 x.Mode
def AInterest.fit (x:AInterest):Prop:=(x.Tiers.t=false∧x.Tiers.l.length*16≤qb4∧∀y∈x.Tiers.l,y.fit)
def AInterest.ty:List Ty:=[.l (K1 2) 16 ATier.ty,.b,.i .i64,.i .i64,.b]
theorem AInterest.ofB (cs:List DV) (h:qaA AInterest.ty cs) : ∃x:AInterest,DV.a cs=x.dv∧x.ok∧x.fit:=by
 obtain⟨a0,_,rfl,p0,q0,h⟩:=qf5 ATier.ofB h;obtain⟨a1,_,rfl,-,h⟩:=qkb h;obtain⟨a2,_,rfl,p2,h⟩:=qay h;obtain⟨a3,_,rfl,p3,h⟩:=qay h;obtain⟨a4,_,rfl,-,h⟩:=qkb h;obtain rfl:=qcy h;exact⟨⟨a0,a1,a2,a3,a4⟩,rfl,⟨p0,p2,p3⟩,q0⟩
theorem AInterest.of (cs:List DV) (h:qaA AInterest.ty cs) : ∃x:AInterest,DV.a cs=x.dv∧x.ok:=let ⟨x,a,b,_⟩:=AInterest.ofB cs h; ⟨x,a,b⟩
def AExpr.ok (x:AExpr):Prop:=inK .i64 x.Op∧inK .i64 x.N∧x.S.length≤maxLen∧XL (.l (K1 4) x.Args.l x.Args.t)
def AFee.ok (x:AFee):Prop:=x.Name.length≤maxLen∧inK .i64 x.Event∧x.When.ok∧x.Amount.ok
def AFee.fit (_:AFee):Prop:=True
def AFee.ty:List Ty:=[.s,.i .i64,.i .i64,.i .i64,.s,.e,.i .i64,.i .i64,.s,.e]
theorem AFee.ofB (cs:List DV) (h:qaA AFee.ty cs) : ∃x:AFee,DV.a cs=x.dv∧x.ok∧x.fit:=by
 obtain⟨a0,_,rfl,p0,h⟩:=qcz h;obtain⟨a1,_,rfl,p1,h⟩:=qay h;obtain⟨a2,_,rfl,p2,h⟩:=qay h;obtain⟨a3,_,rfl,p3,h⟩:=qay h;obtain⟨a4,_,rfl,p4,h⟩:=qcz h;obtain⟨a5,_,rfl,p5,h⟩:=qqe h;obtain⟨a6,_,rfl,p6,h⟩:=qay h;obtain⟨a7,_,rfl,p7,h⟩:=qay h;obtain⟨a8,_,rfl,p8,h⟩:=qcz h;obtain⟨a9,_,rfl,p9,h⟩:=qqe h;obtain rfl:=qcy h;exact⟨⟨a0,a1,⟨a2,a3,a4,a5⟩,⟨a6,a7,a8,a9⟩⟩,rfl,⟨p0,p1,⟨p2,p3,p4,p5⟩,⟨p6,p7,p8,p9⟩⟩,trivial⟩
theorem AFee.of (cs:List DV) (h:qaA AFee.ty cs) : ∃x:AFee,DV.a cs=x.dv∧x.ok:=let ⟨x,a,b,_⟩:=AFee.ofB cs h; ⟨x,a,b⟩
def ARule.ok (x:ARule):Prop:=x.Name.length≤maxLen∧inK .i64 x.Window∧x.Amount.ok
def ARule.fit (_:ARule):Prop:=True
def ARule.ty:List Ty:=[.s,.i .i64,.i .i64,.i .i64,.s,.e]
theorem ARule.ofB (cs:List DV) (h:qaA ARule.ty cs) : ∃x:ARule,DV.a cs=x.dv∧x.ok∧x.fit:=by
 obtain⟨a0,_,rfl,p0,h⟩:=qcz h;obtain⟨a1,_,rfl,p1,h⟩:=qay h;obtain⟨a2,_,rfl,p2,h⟩:=qay h;obtain⟨a3,_,rfl,p3,h⟩:=qay h;obtain⟨a4,_,rfl,p4,h⟩:=qcz h;obtain⟨a5,_,rfl,p5,h⟩:=qqe h;obtain rfl:=qcy h;exact⟨⟨a0,a1,⟨a2,a3,a4,a5⟩⟩,rfl,⟨p0,p1,⟨p2,p3,p4,p5⟩⟩,trivial⟩
theorem ARule.of (cs:List DV) (h:qaA ARule.ty cs) : ∃x:ARule,DV.a cs=x.dv∧x.ok:=let ⟨x,a,b,_⟩:=ARule.ofB cs h; ⟨x,a,b⟩
def AProduct.ok (x:AProduct):Prop:=x.Name.length≤maxLen∧x.Currency.length≤maxLen∧x.Calendar.length≤maxLen∧inK .i64 x.From∧inK .i64 x.Every∧inK .i64 x.Overdraft∧inK .i64 x.TaxPpm∧x.Credit.ok∧x.Debit.ok∧(x.Fees.l.length≤maxLen∧∀y∈x.Fees.l,y.ok)∧(x.Rules.l.length≤maxLen∧∀y∈x.Rules.l,y.ok)
def AProduct.fit (x:AProduct):Prop:=x.Credit.fit∧x.Debit.fit∧(x.Fees.t=false∧x.Fees.l.length*136≤qb4∧∀y∈x.Fees.l,y.fit)∧(x.Rules.t=false∧x.Rules.l.length*80≤qb4∧∀y∈x.Rules.l,y.fit)
def AProduct.ty:List Ty:=[.s,.s,.s,.i .i64,.i .i64,.i .i64,.i .i64,.l (K1 2) 16 ATier.ty,.b,.i .i64,.i .i64,.b,.l (K1 2) 16 ATier.ty,.b,.i .i64,.i .i64,.b,.l (K1 10) 136 AFee.ty,.l (K1 6) 80 ARule.ty]
theorem AProduct.ofB (cs:List DV) (h:qaA AProduct.ty cs) : ∃x:AProduct,DV.a cs=x.dv∧x.ok∧x.fit:=by
 obtain⟨a0,_,rfl,p0,h⟩:=qcz h;obtain⟨a1,_,rfl,p1,h⟩:=qcz h;obtain⟨a2,_,rfl,p2,h⟩:=qcz h;obtain⟨a3,_,rfl,p3,h⟩:=qay h;obtain⟨a4,_,rfl,p4,h⟩:=qay h;obtain⟨a5,_,rfl,p5,h⟩:=qay h;obtain⟨a6,_,rfl,p6,h⟩:=qay h;obtain⟨a7,_,rfl,p7,q7,h⟩:=qf5 ATier.ofB h;obtain⟨a8,_,rfl,-,h⟩:=qkb h;obtain⟨a9,_,rfl,p9,h⟩:=qay h;obtain⟨a10,_,rfl,p10,h⟩:=qay h;obtain⟨a11,_,rfl,-,h⟩:=qkb h;obtain⟨a12,_,rfl,p12,q12,h⟩:=qf5 ATier.ofB h;obtain⟨a13,_,rfl,-,h⟩:=qkb h;obtain⟨a14,_,rfl,p14,h⟩:=qay h;obtain⟨a15,_,rfl,p15,h⟩:=qay h;obtain⟨a16,_,rfl,-,h⟩:=qkb h;obtain⟨a17,_,rfl,p17,q17,h⟩:=qf5 AFee.ofB h;obtain⟨a18,_,rfl,p18,q18,h⟩:=qf5 ARule.ofB h;obtain rfl:=qcy h;exact⟨⟨a0,a1,a2,a3,a4,a5,a6,⟨a7,a8,a9,a10,a11⟩,⟨a12,a13,a14,a15,a16⟩,a17,a18⟩,rfl,⟨p0,p1,p2,p3,p4,p5,p6,⟨p7,p9,p10⟩,⟨p12,p14,p15⟩,p17,p18⟩,⟨q7,q12,q17,q18⟩⟩
theorem AProduct.of (cs:List DV) (h:qaA AProduct.ty cs) : ∃x:AProduct,DV.a cs=x.dv∧x.ok:=let ⟨x,a,b,_⟩:=AProduct.ofB cs h; ⟨x,a,b⟩
def AGl.ok (x:AGl):Prop:=inK .i64 x.Id∧inK .i64 x.Parent∧inK .i64 x.Kind∧x.Name.length≤maxLen
def AGl.fit (_:AGl):Prop:=True
def AGl.ty:List Ty:=[.i .i64,.i .i64,.i .i64,.s]
theorem AGl.ofB (cs:List DV) (h:qaA AGl.ty cs) : ∃x:AGl,DV.a cs=x.dv∧x.ok∧x.fit:=by
 obtain⟨a0,_,rfl,p0,h⟩:=qay h;obtain⟨a1,_,rfl,p1,h⟩:=qay h;obtain⟨a2,_,rfl,p2,h⟩:=qay h;obtain⟨a3,_,rfl,p3,h⟩:=qcz h;obtain rfl:=qcy h;exact⟨⟨a0,a1,a2,a3⟩,rfl,⟨p0,p1,p2,p3⟩,trivial⟩
theorem AGl.of (cs:List DV) (h:qaA AGl.ty cs) : ∃x:AGl,DV.a cs=x.dv∧x.ok:=let ⟨x,a,b,_⟩:=AGl.ofB cs h; ⟨x,a,b⟩
def ALeg.ok (x:ALeg):Prop:=inK .i64 x.Account∧inK .i64 x.Amount∧x.Currency.length≤maxLen
def ALeg.fit (_:ALeg):Prop:=True
def ALeg.ty:List Ty:=[.i .i64,.i .i64,.s]
theorem ALeg.ofB (cs:List DV) (h:qaA ALeg.ty cs) : ∃x:ALeg,DV.a cs=x.dv∧x.ok∧x.fit:=by
 obtain⟨a0,_,rfl,p0,h⟩:=qay h;obtain⟨a1,_,rfl,p1,h⟩:=qay h;obtain⟨a2,_,rfl,p2,h⟩:=qcz h;obtain rfl:=qcy h;exact⟨⟨a0,a1,a2⟩,rfl,⟨p0,p1,p2⟩,trivial⟩
theorem ALeg.of (cs:List DV) (h:qaA ALeg.ty cs) : ∃x:ALeg,DV.a cs=x.dv∧x.ok:=let ⟨x,a,b,_⟩:=ALeg.ofB cs h; ⟨x,a,b⟩
def AEntry.ok (x:AEntry):Prop:=inK .i64 x.Id∧inK .i64 x.Booked∧inK .i64 x.Value∧inK .i64 x.Kind∧inK .i64 x.Auth∧inK .i64 x.Period∧x.Key.length≤maxLen∧x.Text.length≤maxLen∧(x.Legs.l.length≤maxLen∧∀y∈x.Legs.l,y.ok)∧inK .u64 x.Chain
def AEntry.fit (x:AEntry):Prop:=(x.Legs.t=false∧x.Legs.l.length*32≤qb4∧∀y∈x.Legs.l,y.fit)
def AEntry.ty:List Ty:=[.i .i64,.i .i64,.i .i64,.i .i64,.i .i64,.i .i64,.s,.s,.l (K1 3) 32 ALeg.ty,.i .u64]
theorem AEntry.ofB (cs:List DV) (h:qaA AEntry.ty cs) : ∃x:AEntry,DV.a cs=x.dv∧x.ok∧x.fit:=by
 obtain⟨a0,_,rfl,p0,h⟩:=qay h;obtain⟨a1,_,rfl,p1,h⟩:=qay h;obtain⟨a2,_,rfl,p2,h⟩:=qay h;obtain⟨a3,_,rfl,p3,h⟩:=qay h;obtain⟨a4,_,rfl,p4,h⟩:=qay h;obtain⟨a5,_,rfl,p5,h⟩:=qay h;obtain⟨a6,_,rfl,p6,h⟩:=qcz h;obtain⟨a7,_,rfl,p7,h⟩:=qcz h;obtain⟨a8,_,rfl,p8,q8,h⟩:=qf5 ALeg.ofB h;obtain⟨a9,_,rfl,p9,h⟩:=qay h;obtain rfl:=qcy h;exact⟨⟨a0,a1,a2,a3,a4,a5,a6,a7,a8,a9⟩,rfl,⟨p0,p1,p2,p3,p4,p5,p6,p7,p8,p9⟩,q8⟩
theorem AEntry.of (cs:List DV) (h:qaA AEntry.ty cs) : ∃x:AEntry,DV.a cs=x.dv∧x.ok:=let ⟨x,a,b,_⟩:=AEntry.ofB cs h; ⟨x,a,b⟩
def AHold.ok (x:AHold):Prop:=inK .i64 x.Id∧inK .i64 x.Account∧inK .i64 x.Amount∧inK .i64 x.From∧inK .i64 x.To∧x.Key.length≤maxLen
def AHold.fit (_:AHold):Prop:=True
def AHold.ty:List Ty:=[.i .i64,.i .i64,.i .i64,.i .i64,.i .i64,.s]
theorem AHold.ofB (cs:List DV) (h:qaA AHold.ty cs) : ∃x:AHold,DV.a cs=x.dv∧x.ok∧x.fit:=by
 obtain⟨a0,_,rfl,p0,h⟩:=qay h;obtain⟨a1,_,rfl,p1,h⟩:=qay h;obtain⟨a2,_,rfl,p2,h⟩:=qay h;obtain⟨a3,_,rfl,p3,h⟩:=qay h;obtain⟨a4,_,rfl,p4,h⟩:=qay h;obtain⟨a5,_,rfl,p5,h⟩:=qcz h;obtain rfl:=qcy h;exact⟨⟨a0,a1,a2,a3,a4,a5⟩,rfl,⟨p0,p1,p2,p3,p4,p5⟩,trivial⟩
theorem AHold.of (cs:List DV) (h:qaA AHold.ty cs) : ∃x:AHold,DV.a cs=x.dv∧x.ok:=let ⟨x,a,b,_⟩:=AHold.ofB cs h; ⟨x,a,b⟩
def ABlock.ok (x:ABlock):Prop:=inK .i64 x.Id∧inK .i64 x.Account∧inK .i64 x.Kind∧inK .i64 x.Amount∧inK .i64 x.From∧inK .i64 x.To∧x.Source.length≤maxLen
def ABlock.fit (_:ABlock):Prop:=True
def ABlock.ty:List Ty:=[.i .i64,.i .i64,.i .i64,.i .i64,.i .i64,.i .i64,.s]
theorem ABlock.ofB (cs:List DV) (h:qaA ABlock.ty cs) : ∃x:ABlock,DV.a cs=x.dv∧x.ok∧x.fit:=by
 obtain⟨a0,_,rfl,p0,h⟩:=qay h;obtain⟨a1,_,rfl,p1,h⟩:=qay h;obtain⟨a2,_,rfl,p2,h⟩:=qay h;obtain⟨a3,_,rfl,p3,h⟩:=qay h;obtain⟨a4,_,rfl,p4,h⟩:=qay h;obtain⟨a5,_,rfl,p5,h⟩:=qay h;obtain⟨a6,_,rfl,p6,h⟩:=qcz h;obtain rfl:=qcy h;exact⟨⟨a0,a1,a2,a3,a4,a5,a6⟩,rfl,⟨p0,p1,p2,p3,p4,p5,p6⟩,trivial⟩
theorem ABlock.of (cs:List DV) (h:qaA ABlock.ty cs) : ∃x:ABlock,DV.a cs=x.dv∧x.ok:=let ⟨x,a,b,_⟩:=ABlock.ofB cs h; ⟨x,a,b⟩
def AAccount.ok (x:AAccount):Prop:=inK .i64 x.Id∧inK .i64 x.Opened∧inK .i64 x.Closed∧inK .i64 x.Extra∧x.Owner.length≤maxLen∧x.Product.length≤maxLen∧x.Number.length≤maxLen
def AAccount.fit (_:AAccount):Prop:=True
def AAccount.ty:List Ty:=[.i .i64,.i .i64,.i .i64,.i .i64,.s,.s,.s]
theorem AAccount.ofB (cs:List DV) (h:qaA AAccount.ty cs) : ∃x:AAccount,DV.a cs=x.dv∧x.ok∧x.fit:=by
 obtain⟨a0,_,rfl,p0,h⟩:=qay h;obtain⟨a1,_,rfl,p1,h⟩:=qay h;obtain⟨a2,_,rfl,p2,h⟩:=qay h;obtain⟨a3,_,rfl,p3,h⟩:=qay h;obtain⟨a4,_,rfl,p4,h⟩:=qcz h;obtain⟨a5,_,rfl,p5,h⟩:=qcz h;obtain⟨a6,_,rfl,p6,h⟩:=qcz h;obtain rfl:=qcy h;exact⟨⟨a0,a1,a2,a3,a4,a5,a6⟩,rfl,⟨p0,p1,p2,p3,p4,p5,p6⟩,trivial⟩
theorem AAccount.of (cs:List DV) (h:qaA AAccount.ty cs) : ∃x:AAccount,DV.a cs=x.dv∧x.ok:=let ⟨x,a,b,_⟩:=AAccount.ofB cs h; ⟨x,a,b⟩
def APlan.ok (x:APlan):Prop:=inK .i64 x.Cash∧inK .i64 x.Deposits∧inK .i64 x.InterestPaid∧inK .i64 x.InterestEarned∧inK .i64 x.FeeEarned∧inK .i64 x.Tax∧inK .i64 x.Clearing∧inK .i64 x.Loans∧inK .i64 x.LoanInterest∧inK .i64 x.Penalty∧inK .i64 x.Provision∧inK .i64 x.ProvisionCost∧inK .i64 x.Loss∧inK .i64 x.Recovery
def APlan.fit (_:APlan):Prop:=True
def APlan.ty:List Ty:=[.i .i64,.i .i64,.i .i64,.i .i64,.i .i64,.i .i64,.i .i64,.i .i64,.i .i64,.i .i64,.i .i64,.i .i64,.i .i64,.i .i64]
theorem APlan.ofB (cs:List DV) (h:qaA APlan.ty cs) : ∃x:APlan,DV.a cs=x.dv∧x.ok∧x.fit:=by
 obtain⟨a0,_,rfl,p0,h⟩:=qay h;obtain⟨a1,_,rfl,p1,h⟩:=qay h;obtain⟨a2,_,rfl,p2,h⟩:=qay h;obtain⟨a3,_,rfl,p3,h⟩:=qay h;obtain⟨a4,_,rfl,p4,h⟩:=qay h;obtain⟨a5,_,rfl,p5,h⟩:=qay h;obtain⟨a6,_,rfl,p6,h⟩:=qay h;obtain⟨a7,_,rfl,p7,h⟩:=qay h;obtain⟨a8,_,rfl,p8,h⟩:=qay h;obtain⟨a9,_,rfl,p9,h⟩:=qay h;obtain⟨a10,_,rfl,p10,h⟩:=qay h;obtain⟨a11,_,rfl,p11,h⟩:=qay h;obtain⟨a12,_,rfl,p12,h⟩:=qay h;obtain⟨a13,_,rfl,p13,h⟩:=qay h;obtain rfl:=qcy h;exact⟨⟨a0,a1,a2,a3,a4,a5,a6,a7,a8,a9,a10,a11,a12,a13⟩,rfl,⟨p0,p1,p2,p3,p4,p5,p6,p7,p8,p9,p10,p11,p12,p13⟩,trivial⟩
theorem APlan.of (cs:List DV) (h:qaA APlan.ty cs) : ∃x:APlan,DV.a cs=x.dv∧x.ok:=let ⟨x,a,b,_⟩:=APlan.ofB cs h; ⟨x,a,b⟩
def ABooks.ok (x:ABooks):Prop:=(x.Currencies.l.length≤maxLen∧∀y∈x.Currencies.l,y.ok)∧(x.Calendars.l.length≤maxLen∧∀y∈x.Calendars.l,y.ok)∧(x.Chart.l.length≤maxLen∧∀y∈x.Chart.l,y.ok)∧x.Plan.ok∧(x.Products.l.length≤maxLen∧∀y∈x.Products.l,y.ok)∧(x.Accounts.l.length≤maxLen∧∀y∈x.Accounts.l,y.ok)∧(x.Journal.l.length≤maxLen∧∀y∈x.Journal.l,y.ok)∧(x.Holds.l.length≤maxLen∧∀y∈x.Holds.l,y.ok)∧(x.Blocks.l.length≤maxLen∧∀y∈x.Blocks.l,y.ok)
def ABooks.fit (x:ABooks):Prop:=(x.Currencies.t=false∧x.Currencies.l.length*24≤qb4∧∀y∈x.Currencies.l,y.fit)∧(x.Calendars.t=false∧x.Calendars.l.length*64≤qb4∧∀y∈x.Calendars.l,y.fit)∧(x.Chart.t=false∧x.Chart.l.length*40≤qb4∧∀y∈x.Chart.l,y.fit)∧(x.Products.t=false∧x.Products.l.length*240≤qb4∧∀y∈x.Products.l,y.fit)∧(x.Accounts.t=false∧x.Accounts.l.length*80≤qb4∧∀y∈x.Accounts.l,y.fit)∧(x.Journal.t=false∧x.Journal.l.length*112≤qb4∧∀y∈x.Journal.l,y.fit)∧(x.Holds.t=false∧x.Holds.l.length*56≤qb4∧∀y∈x.Holds.l,y.fit)∧(x.Blocks.t=false∧x.Blocks.l.length*64≤qb4∧∀y∈x.Blocks.l,y.fit)
def ABooks.ty:List Ty:=[.l (K1 2) 24 ACurrency.ty,.l (K1 3) 64 ACalendar.ty,.l (K1 4) 40 AGl.ty,.i .i64,.i .i64,.i .i64,.i .i64,.i .i64,.i .i64,.i .i64,.i .i64,.i .i64,.i .i64,.i .i64,.i .i64,.i .i64,.i .i64,.l (K1 19) 240 AProduct.ty,.l (K1 7) 80 AAccount.ty,.l (K1 10) 112 AEntry.ty,.l (K1 6) 56 AHold.ty,.l (K1 7) 64 ABlock.ty]
theorem ABooks.ofB (cs:List DV) (h:qaA ABooks.ty cs) : ∃x:ABooks,DV.a cs=x.dv∧x.ok∧x.fit:=by
 obtain⟨a0,_,rfl,p0,q0,h⟩:=qf5 ACurrency.ofB h;obtain⟨a1,_,rfl,p1,q1,h⟩:=qf5 ACalendar.ofB h;obtain⟨a2,_,rfl,p2,q2,h⟩:=qf5 AGl.ofB h;obtain⟨a3,_,rfl,p3,h⟩:=qay h;obtain⟨a4,_,rfl,p4,h⟩:=qay h;obtain⟨a5,_,rfl,p5,h⟩:=qay h;obtain⟨a6,_,rfl,p6,h⟩:=qay h;obtain⟨a7,_,rfl,p7,h⟩:=qay h;obtain⟨a8,_,rfl,p8,h⟩:=qay h;obtain⟨a9,_,rfl,p9,h⟩:=qay h;obtain⟨a10,_,rfl,p10,h⟩:=qay h;obtain⟨a11,_,rfl,p11,h⟩:=qay h;obtain⟨a12,_,rfl,p12,h⟩:=qay h;obtain⟨a13,_,rfl,p13,h⟩:=qay h;obtain⟨a14,_,rfl,p14,h⟩:=qay h;obtain⟨a15,_,rfl,p15,h⟩:=qay h;obtain⟨a16,_,rfl,p16,h⟩:=qay h;obtain⟨a17,_,rfl,p17,q17,h⟩:=qf5 AProduct.ofB h;obtain⟨a18,_,rfl,p18,q18,h⟩:=qf5 AAccount.ofB h;obtain⟨a19,_,rfl,p19,q19,h⟩:=qf5 AEntry.ofB h;obtain⟨a20,_,rfl,p20,q20,h⟩:=qf5 AHold.ofB h;obtain⟨a21,_,rfl,p21,q21,h⟩:=qf5 ABlock.ofB h;obtain rfl:=qcy h;exact⟨⟨a0,a1,a2,⟨a3,a4,a5,a6,a7,a8,a9,a10,a11,a12,a13,a14,a15,a16⟩,a17,a18,a19,a20,a21⟩,rfl,⟨p0,p1,p2,⟨p3,p4,p5,p6,p7,p8,p9,p10,p11,p12,p13,p14,p15,p16⟩,p17,p18,p19,p20,p21⟩,⟨q0,q1,q2,q17,q18,q19,q20,q21⟩⟩
theorem ABooks.of (cs:List DV) (h:qaA ABooks.ty cs) : ∃x:ABooks,DV.a cs=x.dv∧x.ok:=let ⟨x,a,b,_⟩:=ABooks.ofB cs h; ⟨x,a,b⟩
def ACharge.ok (x:ACharge):Prop:=x.Name.length≤maxLen∧inK .i64 x.Amount
def ACharge.fit (_:ACharge):Prop:=True
def ACharge.ty:List Ty:=[.s,.i .i64]
theorem ACharge.ofB (cs:List DV) (h:qaA ACharge.ty cs) : ∃x:ACharge,DV.a cs=x.dv∧x.ok∧x.fit:=by
 obtain⟨a0,_,rfl,p0,h⟩:=qcz h;obtain⟨a1,_,rfl,p1,h⟩:=qay h;obtain rfl:=qcy h;exact⟨⟨a0,a1⟩,rfl,⟨p0,p1⟩,trivial⟩
theorem ACharge.of (cs:List DV) (h:qaA ACharge.ty cs) : ∃x:ACharge,DV.a cs=x.dv∧x.ok:=let ⟨x,a,b,_⟩:=ACharge.ofB cs h; ⟨x,a,b⟩
def AValue.ok (x:AValue):Prop:=inK .i64 x.Typ∧inK .i64 x.N
def AValue.fit (_:AValue):Prop:=True
def AValue.ty:List Ty:=[.i .i64,.i .i64]
theorem AValue.ofB (cs:List DV) (h:qaA AValue.ty cs) : ∃x:AValue,DV.a cs=x.dv∧x.ok∧x.fit:=by
 obtain⟨a0,_,rfl,p0,h⟩:=qay h;obtain⟨a1,_,rfl,p1,h⟩:=qay h;obtain rfl:=qcy h;exact⟨⟨a0,a1⟩,rfl,⟨p0,p1⟩,trivial⟩
theorem AValue.of (cs:List DV) (h:qaA AValue.ty cs) : ∃x:AValue,DV.a cs=x.dv∧x.ok:=let ⟨x,a,b,_⟩:=AValue.ofB cs h; ⟨x,a,b⟩
end Go.Sim
end
section
namespace Go.Sim
theorem qAn (T:Tab) {f:Nat} {F:PF} (hF:T.F f=some F) (Y:Nat→List PV→Heap→Option (PV×Heap)) {args:List PV} {H:Heap} (ha:args.length=F.nargs):T.it Y f args H=kC (T.envY Y) H.length (Fr.ofArgs 0 args) H (.h (F.body,qhb (T.envY Y) F.results H.length)):=by
 rw[quP T hF];unfold qbV;rw[if_pos ha];simp only[kC];cases qau (T.envY Y) lpI H.length F.body ⟨Fr.ofArgs 0 args,H⟩ with
 |none=>rfl
 |some x =>
  obtain⟨e,s⟩:=x;cases e with
  |exit id=>rfl
  |norm =>
   simp only[qhb];cases runG (T.envY Y) (qar s.fr) s.H with
   |none=>rfl
   |some H'=>simp only[bo];cases results s.fr H' F.results<;>rfl
  |ret =>
   simp only[qhb];cases runG (T.envY Y) (qar s.fr) s.H with
   |none=>rfl
   |some H'=>simp only[bo];cases results s.fr H' F.results<;>rfl
section
variable {R : Type} {E : Env} {base : Nat} {fr : Fr} {H : Heap} {k : KC R}
noncomputable def qiv (E:Env) (a x:PC) (fr:Fr) (o:Nat) (ps:List Nat):Nat→List PV→Heap→Option (PV×Heap):=qf7 (fun b s=>qau E lpI b a s) (fun b s=>qau E lpI b x s) fr o ps E.yld
def qkt (k:KC R) (fr:Fr) (g o:Nat) (H:Heap):Option R:=match H.obj o with
 |some (.lp 0 none)=>k .norm (fr.set g (.g (.h (o+1)))) (H.put o none)
 |some (.lp 1 (some e))=>k e (fr.set g (.g (.h (o+1)))) (H.put o none)
 | _=>none
noncomputable def rngS (E:Env) (fr:Fr) (H:Heap) (a x:PC) (live ps:List Nat) (g:Nat) (v w:PV) {k:KC R} (_:Hd k):Option R:=match v,w with
 | .f n caps,.u=>bo (E.it (qiv E a x (Fr.only live fr) H.length ps) n (.h H.length::caps) (H++[some (.lp 0 none),some .df])) (.h fun p=>qkt k fr g H.length p.2)
 | _,_=>none
theorem qsd {a x:PC} {live ps:List Nat} {g n:Nat} {caps:List PV}:rngS E fr H a x live ps g (.f n caps) .u (.h k)=bo (E.it (qiv E a x (Fr.only live fr) H.length ps) n (.h H.length::caps) (H++[some (.lp 0 none),some .df])) (.h fun p=>qkt k fr g H.length p.2):=rfl
theorem qql {f:Rand} {g:Nat} {ps live:List Nat} {a x:PC}:kC E base fr H (.h (.rng f g ps live a x,k))=rngS E fr H a x live ps g (rd E fr f) (fr.get g) (.h k):=by
 simp only[kC,qau,rngS,qiv];cases rd E fr f with
 |f n caps =>
  cases fr.get g with
  |u =>
   simp only;cases E.it (qf7 (fun b s=>qau E lpI b a s) (fun b s=>qau E lpI b x s) (Fr.only live fr) H.length ps E.yld) n (.h H.length::caps) (H++[some (.lp 0 none),some .df]) with
   |none=>rfl
   |some p =>
    obtain⟨v,H'⟩:=p;simp only[bo,qkt];cases hh:H'.obj H.length with
    |none=>rfl
    |some y =>
     cases y with
     |lp st j=>match st,j with
      | 0,none=>rfl
      | 0,some _=>rfl
      | 1,none=>rfl
      | 1,some e=>rfl
      | (n+2),_=>rfl
     | _=>rfl
  | _=>rfl
 | _=>rfl
theorem qsc {a x:PC} {o:Nat} {ps:List Nat} {args:List PV} (hl:args.length=ps.length) (ho:H.obj o=some (.lp 0 none)):qiv E a x fr o ps o args H =
  kC E H.length (qgt fr ps args) H (.h (a,fun e fr1 H1=>match e with
   | .norm=>match H1.obj o with
    |some (.lp 0 none)=>kC E H.length fr1 (H1.put o (some (.lp 2 none))) (.h (x,fun e2 _ H2=>match H2.obj o with
     |some (.lp 2 none)=>some (gcV H.length (.d (.b (isN e2))) (H2.put o (some (if isN e2 then .lp 0 none else .lp 1 (some e2)))))
     | _=>none))
    | _=>none
   | _=>none)):=by
 simp only[qiv,qf7,if_pos hl,if_true,ho,kC];cases qau E lpI H.length a ⟨qgt fr ps args,H⟩ with
 |none=>rfl
 |some p =>
  obtain⟨e,s1⟩:=p;cases e with
  |norm =>
   simp only;cases hh:s1.H.obj o with
   |none=>rfl
   |some y =>
    cases y with
    |lp st j=>match st,j with
     | 0,none =>
      simp only;cases qau E lpI H.length x ⟨s1.fr,s1.H.put o (some (.lp 2 none))⟩ with
      |none=>rfl
      |some q=>rfl
     | 0,some _=>rfl
     | (n+1),_=>rfl
    | _=>rfl
  | _=>rfl
theorem qzG (T:Tab) (Y:Nat→List PV→Heap→Option (PV×Heap)):(T.envY Y).yld=Y:=rfl
theorem qpM (T:Tab) (Y:Nat→List PV→Heap→Option (PV×Heap)):T.env.it Y=T.it Y:=rfl
theorem qyL {o:Nat} {as0:List PV} {q:PV→Heap→Option R}:qlr E H (.h o) as0 (.h q)=bo2 (E.yld o as0 H) (.h q):=rfl
end
theorem qr6 (H:Heap) (m:Nat) : ∀(n:Nat) (todo:List Nat),(∀r∈todo,r≤m)→qaf H m n [m] todo=[m]
 | 0,_,_=>rfl
 |n+1,[],_=>rfl
 |n+1,o::todo,h=>by
  rw[qaf];have h1:=h o (zzr ..)
  by_cases g:o<m
  ·rw[if_pos g];exact qr6 H m n todo fun r hr=>h r (zzi _ hr)
  ·have:o=m:=by omega
   subst this;rw[if_neg g,if_pos (by simp)]
   exact qr6 H o n todo fun r hr=>h r (zzi _ hr)
theorem qwJ (H:Heap) (m:Nat) (hm:qaj (H.obj m)=[]) : ∀(fs low:List Nat) (n:Nat),fs.length<n→(∀r∈fs,r≤m)→(∀r∈low,r≤m)→m∈fs→qaf H m n [] (fs++low)=[m]
 | [],_,_,_,_,_,h=>by cases h
 |o::fs,low,0,hn,_,_,_=>absurd hn (zzm _)
 |o::fs,low,n+1,hn,h1,h2,h=>by
  rw[List.cons_append,qaf];have ho:=h1 o (zzr ..)
  by_cases g:o<m
  ·rw[if_pos g];refine qwJ H m hm fs low n (by simp at hn;omega) (fun r hr=>h1 r (zzi _ hr)) h2 ?_
   rcases List.mem_cons.1 h with h|h
   ·omega
   ·exact h
  ·have:o=m:=by omega
   subst this;rw[if_neg g,if_neg (by simp),hm,List.nil_append,List.nil_append]
   exact qr6 H o n _ fun r hr=>by
    rcases List.mem_append.1 hr with hr|hr
    ·exact h1 r (zzi _ hr)
    ·exact h2 r hr
theorem qp6 (live:List Nat) {H J:Heap} {y:Option Obj} {fr:Fr} (hH:Cl H) (hy:qaj y=[]) (hn:(qae (Fr.keep live fr)).length<1000) (hf : ∀r∈qae (Fr.keep live fr),r≤H.length) (hmem:H.length∈qae (Fr.keep live fr)):gc live H.length ⟨fr,H++y::J⟩=⟨Fr.keep live fr,H++[y]⟩:=by
 have ht:(H++y::J).take H.length=H:=by simp
 have hobj:(H++y::J).obj H.length=y:=qkm H (y::J)
 have hr:qaf (H++y::J) H.length 1000 [] (qae (Fr.keep live fr)++qad H)=[H.length]:=qwJ _ _ (by rw[hobj];exact hy) _ _ _ hn hf (fun r hr=>Nat.le_of_lt (hH r hr)) hmem
 have hp : ∀r,r≤H.length→qah H.length [H.length] r=some r:=fun r h=>by
  by_cases g:r<H.length
  ·simp[qah,g]
  ·have:r=H.length:=by omega
   subst this;simp[qah,zzd]
 simp only[gc,ht,hr,gcH,zzu,List.map_nil,hobj];rw[qp3 (fun r h=>hp r (hf r h)),qnj (fun r h=>hp r (Nat.le_of_lt (hH r h))),qwa (fun r h=>by rw[hy] at h;cases h)]
end Go.Sim
end
section
namespace Go.Sim
section
variable {R : Type} {E : Env} {ρ : Rand → PV} {H : Heap} {id : Nat} {q : PV → Heap → Option R} {base : Nat}
theorem qiV {K K':Sim.K} {o off len:Nat} {t:Bool} {kk:IntKind} {n:Int} {y:PV→Option R}:bo (iaddr H K (.r o K' off len t) (.d (.i kk n))) (.h y)=chk (0≤n∧n<len) (.h (match H.obj o with|some (.sl K2 _ es)=>chk ((K.eq K'&&K.eq K2&&decide (off+len≤es.length))=true) (.h (y (.p o (off+n.toNat) 0)))|_=>none)):=by
 simp only[iaddr,asI,inR,chk];by_cases h:0≤n∧n<len
 ·rw[if_pos h,if_pos h];cases H.obj o with
  |none=>rfl
  |some x =>
   cases x with
   |sl k2 ro es=>simp only;split<;>rfl
   | _=>rfl
 ·rw[if_neg h,if_neg h];simp only;rfl
theorem qyB {len:Nat} {k:Sim.K} {x i:Rand}:bo2 (qaa E ρ H id (.iaddrA len k x i)) (.h q)=bo (asI (ρ i)) (.h fun (n:Int)=>chk (0≤n∧n<len) (.h (bo (qhj (n.toNat*k.size) (ρ x)) (.h fun v=>q v H)))):=by
 simp only[qaa];cases asI (ρ i) with
 |none=>rfl
 |some n =>
  simp only[bo,inR,chk];by_cases h:0≤n∧n<len
  ·rw[if_pos h,if_pos h];simp only
   cases qhj (n.toNat*k.size) (ρ x)<;>rfl
  ·rw[if_neg h,if_neg h];rfl
theorem qpn {kk:IntKind} {n:Int} {y:Int→Option R}:bo (asI (.d (.i kk n))) (.h y)=y n:=rfl
theorem qtc {k:Sim.K} {b:Nat} {z:DV} {len cap:Rand}:bo2 (qaa E ρ H id (.mksl k b z len cap)) (.h q)=bo (asI (ρ len)) (.h fun (n:Int)=>bo (asI (ρ cap)) (.h fun (c:Int)=>chk (0≤n∧n≤c∧c*b≤2^47) (.h (q (.r id k 0 n.toNat false) (H.put id (some (.sl k 0 (List.replicate n.toNat z)))))))):=by
 simp only[qaa];cases asI (ρ len) with
 |none=>rfl
 |some n =>
  cases asI (ρ cap) with
  |none=>rfl
  |some c=>simp only[bo,chk];split<;>rfl
theorem qie {k:Sim.K} {z:DV} {len:Nat} {ps:List (Nat×Rand)}:bo2 (qaa E ρ H id (.bsl k z len ps)) (.h q)=bo (qci H k (List.replicate len z) (ps.map fun x=>(x.1,ρ x.2))) (.h fun p=>q (.r id k 0 len true) ((frz H p.2).put id (some (.sl k 0 p.1)))):=by
 simp only[qaa];cases qci H k (List.replicate len z) (ps.map fun x=>(x.1,ρ x.2))<;>rfl
theorem qih {k:Sim.K} {es:List DV} {y:List DV×List Nat→Option R}:bo (qci H k es []) (.h y)=y (es,[]):=rfl
theorem qig {k:Sim.K} {es:List DV} {j:Nat} {v:DV} {r:List (Nat×PV)} {y:List DV×List Nat→Option R}:bo (qci H k es ((j,.d v)::r)) (.h y)=chk ((fits k (.d v)&&decide (j<es.length))=true) (.h (bo (qci H k (es.set j v) r) (.h y))):=by
 simp only[qci,chk];by_cases h:(fits k (.d v)&&decide (j<es.length))=true
 ·simp only[h,if_true,pur,qbd];cases qci H k (es.set j v) r with
  |none=>rfl
  |some p=>simp[bo]
 ·simp only[h,if_false,zzg];rfl
theorem qpo {k:IntKind} {a b:Int} {y:PV→Option R}:bo (mm2 false (.d (.i k a)) (.d (.i k b))) (.h y)=y (.d (.i k (min a b))):=by
 have h:(if b<a then b else a)=min a b:=by rw[Int.min_def];split<;>split<;>omega
 simp only[mm2,if_true,zzg,if_false,h];rfl
theorem qgo {σ:Type} {live:List Nat} {body:PC} {k:KC R} (st:σ→St) (f:Nat→σ) (n:Nat) {r:Option R}
  (hend : ∀B,B=body→kC E base (st (f n)).fr (st (f n)).H (.h (body,lpK E base live B k))=r)
  (hround : ∀B,B=body→∀i,i<n→∀c,(∀fr H,gc live base ⟨fr,H⟩=st (f (i+1))→kC E base fr H (.h (.loop live B,k))=c)→kC E base (st (f i)).fr (st (f i)).H (.h (body,lpK E base live B k))=c)
  {fr:Fr} {H:Heap} (h0:gc live base ⟨fr,H⟩=st (f 0)):kC E base fr H (.h (.loop live body,k))=r:=by
 rw[qbY (List.replicate n ()) (fun i (_:Unit)=>st (f i)) (fun _ _=>True) (fun _ _ _ c=>c ()) (fun _=>r) ?_ ?_ h0 trivial]
 ·have : ∀(i:Nat) (l:List Unit),qe5 (fun _ _ _ c=>c ()) (fun _=>r) i () l=r:=by
   intro i l;induction l generalizing i with
   |nil=>rfl
   |cons x l ih=>exact ih (i+1)
  exact this _ _
 ·intro B hB _ _;simpa using hend B hB
 ·intro B hB i _ hi _ c hc;exact hround B hB i (by simpa using hi) (c ()) fun fr H hg=>hc () fr H trivial hg
end
end Go.Sim
end
section
namespace Go.Sim
theorem qil (o off len:Nat) (k:K) (t:Bool):fits none (.r o k off len t)=true:=rfl
theorem qp1 (f:Nat) (cs:List PV):fits none (.f f cs)=true:=rfl
section
variable {R : Type} {H : Heap}
def stM (H:Heap) (k:K) (o i c:Nat) (v:PV) (x:Option Obj) {hy:Heap→Option R} (_:Hd hy):Option R:=match x with
 |some (.box kb w)=>chk (fits k v=true) (.h (chk (i=0) (.h (if (c==0&&K.eq k kb)=true then hy (H.put o (some (.box kb v))) else chk (c+k.size≤w.cells.length) (.h (bo (mkP kb (putAt w.cells c v.cells)) (.h fun w'=>hy (H.put o (some (.box kb w'))))))))))
 |some (.sl kb ro es)=>chk (fits k v=true) (.h (bo es[i]? (.h fun e=>chk (ro≤i) (.h (bo (pur H v) (.h fun p=>chk (p.2.contains o=false) (.h (if (c==0&&K.eq k kb)=true then hy ((frz H p.2).put o (some (.sl kb ro (es.set i p.1)))) else chk (c+k.size≤e.cells.length) (.h (bo (mkD kb (putAt e.cells c p.1.cells)) (.h fun e'=>hy ((frz H p.2).put o (some (.sl kb ro (es.set i e')))))))))))))))
 | _=>none
theorem qn2 (k:K) (o i c:Nat) (v:PV) {hy:Heap→Option R}:bo (qcD H k (.p o i c) v) (.h hy)=stM H k o i c v (H.obj o) (.h hy):=by
 unfold stM;split
 ·rename_i kb w ho;exact qw4 kb k o i c v w ho
 ·rename_i kb ro es ho;simp only[qcD,ho,chk];by_cases hf:fits k v=true
  ·simp only[hf,if_true];cases es[i]? with
   |none=>rfl
   |some e =>
    simp only[bo];by_cases hr:ro≤i
    ·simp only[hr,if_true];cases pur H v with
     |none=>rfl
     |some p =>
      obtain⟨x,os⟩:=p;simp only;cases hc:os.contains o with
      |true=>simp
      |false =>
       simp only[zzg,if_false,if_true];by_cases hk:(c==0&&K.eq k kb)=true
       ·simp only[hk,if_true]
       ·simp only[hk,if_false,zzg];by_cases hs:c+k.size≤e.cells.length
        ·simp only[hs,if_true];cases mkD kb (putAt e.cells c x.cells)<;>rfl
        ·simp only[hs,if_false]
    ·simp only[hr,if_false]
  ·simp only[hf,zzg,if_false];rfl
 ·rename_i h1 h2;simp only[qcD];cases hx:H.obj o with
  |none=>by_cases hf:fits k v=true<;>simp[hf,bo]
  |some y =>
   cases y with
   |box kb w=>exact absurd hx (h1 kb w)
   |sl kb ro es=>exact absurd hx (h2 kb ro es)
   | _=>by_cases hf:fits k v=true<;>simp[hf,bo]
theorem qw3 (kb k:K) (o i c:Nat) (v w:PV) {hy:Heap→Option R}:stM H k o i c v (some (.box kb w)) (.h hy)=chk (fits k v=true) (.h (chk (i=0) (.h (if (c==0&&K.eq k kb)=true then hy (H.put o (some (.box kb v))) else chk (c+k.size≤w.cells.length) (.h (bo (mkP kb (putAt w.cells c v.cells)) (.h fun w'=>hy (H.put o (some (.box kb w')))))))))):=rfl
theorem qn1 (kb k:K) (o i c ro:Nat) (v:PV) (es:List DV) {hy:Heap→Option R}:stM H k o i c v (some (.sl kb ro es)) (.h hy)=chk (fits k v=true) (.h (bo es[i]? (.h fun e=>chk (ro≤i) (.h (bo (pur H v) (.h fun p=>chk (p.2.contains o=false) (.h (if (c==0&&K.eq k kb)=true then hy ((frz H p.2).put o (some (.sl kb ro (es.set i p.1)))) else chk (c+k.size≤e.cells.length) (.h (bo (mkD kb (putAt e.cells c p.1.cells)) (.h fun e'=>hy ((frz H p.2).put o (some (.sl kb ro (es.set i e'))))))))))))))):=rfl
theorem qjr (k:K) (v:DV) {z:DV→Option R}:bo (qga k v 0 k) (.h z)=z v:=by
 have:K.eq k k=true:=by cases k<;>simp[K.eq]
 simp[qga,this,bo]
end
end Go.Sim
end
section
namespace Go.Sim
section
variable {R : Type} {E : Env} {fr : Fr} {H : Heap} {bf : List Nat} {acc : List (List Nat × List Nat)} {id : Nat} {j : KO R}
def qjZ (b:Nat):Nat→Nat→Bool
 | _,0=>true
 |i,n+1=>b.testBit i&&qjZ b (i+1) n
theorem qwe (b:Nat) (t w:List Nat) : ∀(acc:List (List Nat×List Nat)) (i:Nat),qjZ b i acc.length=true→qaE b i acc t w=true
 | [],_,_=>rfl
 |x::r,i,h=>by
  simp only[zzn,qjZ,zzf] at h;simp only[qaE,h.1,Bool.true_or,Bool.true_and];exact qwe b t w r (i+1) h.2
theorem qAP {d:Nat} {z:Rand}:kD E id fr H bf acc (.h ([⟨some d,.mov z,none⟩],j))=j (fr.set d (rd E fr z)) H:=by
 rw[qkg];simp only[stepD,qaB,IOp.okD,if_true,qaa];have hw:writeS E ⟨some d,.mov z,none⟩ id ⟨fr,H⟩ ⟨fr.set d (rd E fr z),H⟩=[]:=by simp[writeS,qaO,IOp.adds,IOp.okD,qaI,qax,chg]
 have ht:touchS E ⟨some d,.mov z,none⟩ ⟨fr,H⟩=[]:=by simp[touchS,qaO,IOp.okD,qax]
 simp only[qfY,nfp,qaT,chk,hw,ht,List.nil_append,qwd,if_true];rfl
theorem quW {d d2:Nat} {k:K} {b:Nat} {x y z:Rand} (h:qjZ (bf.headD 0) 0 acc.length=true):kD E id fr H bf acc (.h ([⟨some d,.app k b x y,none⟩,⟨some d2,.mov z,none⟩],j))=bo2 (qaa E (rd E fr) H id (.app k b x y)) (.h fun v H'=>chk (H'.length=H.length) (.h (j ((fr.set d v).set d2 (rd E (fr.set d v) z)) H'))):=by
 rw[qkg];simp only[stepD,qaB,IOp.okD,zzg,if_false,IOp.barr,if_true];cases qaa E (rd E fr) H id (.app k b x y) with
 |none=>rfl
 |some p =>
  obtain⟨v,H'⟩:=p;simp only[bo2,chk];by_cases hl:H'.length=H.length
  ·have hb:Nat.beq H'.length H.length=true:=by rw[hl];exact Nat.beq_refl _
   rw[if_pos hl];simp only[hb,if_true,qfY,nfp,qaT,chk,qwe _ _ _ _ _ h];rw[qAP]
  ·have hb:Nat.beq H'.length H.length=false:=by
    cases h2:Nat.beq H'.length H.length with
    |false=>rfl
    |true=>exact absurd (Nat.eq_of_beq_eq_true h2) hl
   rw[if_neg hl];simp only[hb,if_false,zzg]
def qpu (E:Env) (H:Heap) (v:PV) (ds:Option (List DV)) {x:Option R} {q:PV→Heap→Option R} (_:Hd (x,q)):Option R:=match v,ds with
 | .f n [],some ds=>bo (E.val n ds) (.h fun r=>q r.1 H)
 | _,_=>x
theorem qtC {ρ:Rand→PV} {q:PV→Heap→Option R} {x:Rand} {as0:List Rand}:bo2 (qaB E ρ H id (.callv x as0)) (.h q)=qpu E H (ρ x) (qag (as0.map ρ)) (.h (bo2 (qaB E ρ H id (.callv x as0)) (.h q),q)):=by
 unfold qpu;split
 ·rename_i n ds hx hd;have hk:IOp.okD ρ (.callv x as0)=true:=by simp[IOp.okD,hx,hd]
  rw[qyF hk];simp only[qaa,hx,List.isEmpty_nil,if_true,hd];cases E.val n ds<;>rfl
 ·rfl
theorem qtr {n:Nat} {ds:List DV} {x:Option R} {q:PV→Heap→Option R}:qpu E H (.f n []) (some ds) (.h (x,q))=bo (E.val n ds) (.h fun r=>q r.1 H):=rfl
end
end Go.Sim
end
section
namespace Go.Sim
section
variable {R : Type} {E : Env} {ρ : Rand → PV} {H : Heap} {id : Nat} {q : PV → Heap → Option R} {base : Nat}
def qfP (k:IntKind) (x:PV) {q:PV→Option R} (_:Hd q):Option R:=match x with | .d (.i _ n)=>q (.d (.i k (k.wrap n)))|_=>none
theorem qaW {k kk:IntKind} {n:Int} {q:PV→Option R}:qfP k (.d (.i kk n)) (.h q)=q (.d (.i k (k.wrap n))):=rfl
theorem qaF {k:IntKind} {x:Rand}:bo2 (qaa E ρ H id (.conv k x)) (.h q)=qfP k (ρ x) (.h fun v=>q v H):=by
 simp only[qaa,qfP];cases ρ x with
 |d v=>cases v<;>rfl
 | _=>rfl
theorem wrU {n:Int} (h:0≤n) (h':n<18446744073709551616):IntKind.u64.wrap n=n:=by
 have e:IntKind.u64.wrap n=n%18446744073709551616:=by
  unfold IntKind.wrap;simp[IntKind.bits,IntKind.signed]
 rw[e];omega
theorem qbN {σ:Type} {live:List Nat} {body:PC} {k:KC R} (st:σ→St) (inv:σ→Prop) (μ:σ→Nat) {r:Option R}
  (hround : ∀B,B=body→∀s,inv s→(∀s',inv s'→μ s'<μ s→∀fr H,gc live base ⟨fr,H⟩=st s'→kC E base fr H (.h (.loop live B,k))=r)→kC E base (st s).fr (st s).H (.h (body,lpK E base live B k))=r)
  (s:σ) (hs:inv s) {fr:Fr} {H:Heap} (h0:gc live base ⟨fr,H⟩=st s):kC E base fr H (.h (.loop live body,k))=r:=by
 have key : ∀(n:Nat) (s:σ),μ s<n→inv s→∀fr H,gc live base ⟨fr,H⟩=st s→kC E base fr H (.h (.loop live body,k))=r:=by
  intro n;induction n with
  |zero=>intro s h;exact absurd h (zzm _)
  |succ n ih =>
   intro s hn hv fr H hg;rw[qnp,hg];exact hround body rfl s hv fun s' hv' hm fr' H' hg'=>ih s' (by omega) hv' fr' H' hg'
 exact key (μ s+1) s (Nat.lt_succ_self _) hs fr H h0
end
end Go.Sim
end
section
namespace Go.Sim
set_option maxRecDepth 10000
def Wd (z:Int):AWide:=⟨z/18446744073709551616,z%18446744073709551616⟩
theorem qfJ (z:Int) : ∃a,Wd z=a∧a.Hi=z/18446744073709551616∧a.Lo=z%18446744073709551616:=⟨_,rfl,rfl,rfl⟩
theorem wd0 {A B z:Int} (h1:A=z/18446744073709551616) (h2:B=z%18446744073709551616):DV.a [I A,.i .u64 B]=(Wd z).dv:=by subst h1;subst h2;rfl
structure ASz where
 h:Int
 l:Int
def ASz.cells (x:ASz):List DV:=[.i .u64 x.h,.i .u64 x.l]
def ASz.dv (x:ASz):DV:=.a [.i .u64 x.h,.i .u64 x.l]
@[simp] theorem ASz.fits (x:ASz):Sim.fits (K1 2) (.d (ASz.dv x))=true:=rfl
@[simp] theorem ASz.purT (x:ASz) (H:Heap):Sim.purT H (.d (ASz.dv x))=some (.d (ASz.dv x),false):=rfl
@[simp] theorem ASz.clen (x:ASz):(ASz.dv x).cells.length=2:=rfl
@[simp] theorem ASz.aof (x:ASz):DV.a (ASz.cells x)=ASz.dv x:=rfl
@[simp] theorem ASz.ccl (x:ASz):(ASz.cells x).length=2:=rfl
@[simp] theorem ASz.c0 (x:ASz):(ASz.dv x).cells[0]? = some (.i .u64 x.h):=rfl
@[simp] theorem ASz.c1 (x:ASz):(ASz.dv x).cells[1]? = some (.i .u64 x.l):=rfl
def Sz (z:Int):ASz:=⟨z/18446744073709551616,z%18446744073709551616⟩
theorem qgc (z:Int) : ∃a,Sz z=a∧a.h=z/18446744073709551616∧a.l=z%18446744073709551616:=⟨_,rfl,rfl,rfl⟩
theorem sz0 {A B z:Int} (h1:A=z/18446744073709551616) (h2:B=z%18446744073709551616):DV.a [.i .u64 A,.i .u64 B]=(Sz z).dv:=by subst h1;subst h2;rfl
theorem wU (n:Int):IntKind.u64.wrap n=n%18446744073709551616:=IntKind.wrap_u64 n
theorem wI (n:Int):IntKind.i64.wrap n=(n+9223372036854775808)%18446744073709551616-9223372036854775808:=IntKind.wrap_i64 n
def aI (n:Int):Int:=if n<0 then -n else n
theorem qe8 {n:Int} (h:n<0):aI n = -n:=if_pos h
theorem qgS {n:Int} (h : ¬n<0):aI n=n:=if_neg h
def ngW (z:Int):Int:=if z = -170141183460469231731687303715884105728 then z else -z
theorem qaz {α R:Type} {x:Option α} {v:α} {d:α→Option R} (h:x=some v):bo x (.h d)=d v:=by rw[h];rfl
theorem qlS (a b:Int):qa1 .mul (.d (.i .u64 a)) (.d (.i .u64 b))=some (.i .u64 (a*b%18446744073709551616)):=by
 rw[←wU];rfl
theorem qmP (a b:Int):qa1 .add (.d (.i .u64 a)) (.d (.i .u64 b))=some (.i .u64 ((a+b)%18446744073709551616)):=by
 rw[←wU];rfl
theorem qHN (a b:Int):qa1 .sub (.d (.i .u64 a)) (.d (.i .u64 b))=some (.i .u64 ((a-b)%18446744073709551616)):=by
 rw[←wU];rfl
theorem qlk (a:Int) (h0:0≤a) (h1:a<18446744073709551616):qa1 .and (.d (.i .u64 a)) (.d (.i .u64 4294967295))=some (.i .u64 (a%4294967296)):=by
 rw[←Go.and_low32 a h0 h1];rfl
theorem ql9 (a:Int) (s:Nat) (h:s≤64):qa1 .shl (.d (.i .u64 a)) (.d (.i .u64 (s:Int)))=some (.i .u64 (a*2^s%18446744073709551616)):=by
 rw[←wU];show (if (s:Int)<0 then none else some (DV.i .u64 (IntKind.u64.wrap (a*2^min (Int.toNat (s:Int)) 64))))=_
 rw[if_neg (by omega),Int.toNat_natCast,Nat.min_eq_left h]
theorem qma (a:Int) (s:Nat) (h:s≤64):qa1 .shr (.d (.i .u64 a)) (.d (.i .u64 (s:Int)))=some (.i .u64 (a/2^s)):=by
 show (if (s:Int)<0 then none else some (DV.i .u64 (a.fdiv (2^min (Int.toNat (s:Int)) 64))))=_
 rw[if_neg (by omega),Int.toNat_natCast,Nat.min_eq_left h,Int.fdiv_eq_ediv_of_nonneg _ (Int.le_of_lt (Int.pow_pos (by decide)))]
theorem qiw (a:Int):qa1 .shr (.d (.i .u64 a)) (.d (.i .u64 32))=some (.i .u64 (a/4294967296)):=qma a 32 (by omega)
theorem qkC {n:Int} (h0:0≤n) (h1:n<18446744073709551616):unA .xor (.d (.i .u64 n))=some (.i .u64 (18446744073709551615-n)):=by
 obtain⟨m,rfl⟩:=Int.eq_ofNat_of_zero_le h0;show some (DV.i .u64 (IntKind.u64.wrap (BitVec.ofInt 64 18446744073709551615 ^^^ BitVec.ofInt 64 (m:Int)).toNat))=_
 have e:BitVec.ofInt 64 18446744073709551615=BitVec.allOnes 64:=by decide
 rw[e,BitVec.allOnes_xor,BitVec.toNat_not,BitVec.ofInt_natCast,BitVec.toNat_ofNat,wU];congr 2
 omega
theorem qKw {n:Int} (h0 : -9223372036854775808≤n) (h1:n<9223372036854775808):unA .xor (.d (I n))=some (I (-1-n)):=by
 show some (DV.i .i64 (IntKind.i64.wrap (BitVec.ofInt 64 (-1) ^^^ BitVec.ofInt 64 n).toNat))=_
 have e:BitVec.ofInt 64 (-1)=BitVec.allOnes 64:=by decide
 rw[e,BitVec.allOnes_xor,BitVec.toNat_not,BitVec.toNat_ofInt,wI];refine congrArg (fun z=>some (DV.i .i64 z)) ?_
 omega
theorem qlT {a b c d:Int} (h1:a≤c) (h2:b≤d) (h3:0≤b) (h4:0≤c):a*b≤c*d:=Int.le_trans (Int.mul_le_mul_of_nonneg_right h1 h3) (Int.mul_le_mul_of_nonneg_left h2 h4)
structure Dig (v u x q r:Int):Prop where
 v0:9223372036854775808≤v
 v1:v<18446744073709551616
 u0:0≤u
 u1:u<v
 x0:0≤x
 x1:x<4294967296
 e:q*(v/4294967296)+r=u
 r0:0≤r
 q0:(u*4294967296+x)/v≤q
 q1:q≤4294967297
theorem qgW {v u x:Int} (h0:9223372036854775808≤v) (u0:0≤u) (u1:u<v) (x0:0≤x) (x1:x<4294967296):0≤(u*4294967296+x)/v∧(u*4294967296+x)/v<4294967296∧(u*4294967296+x)/v*v≤u*4294967296+x∧u*4294967296+x<(u*4294967296+x)/v*v+v:=by
 have hv:0<v:=by omega
 refine⟨Int.ediv_nonneg (by omega) (by omega),?_,?_,?_⟩
 ·apply Int.ediv_lt_of_lt_mul hv;omega
 ·exact Int.ediv_mul_le _ (by omega)
 ·exact Int.lt_ediv_add_one_mul_self _ hv |> fun h=>by rw[Int.add_mul,Int.one_mul] at h;exact h
theorem qzq {v u x:Int} (h0:9223372036854775808≤v) (h1:v<18446744073709551616) (u0:0≤u) (u1:u<v) (x0:0≤x) (x1:x<4294967296):Dig v u x (u/(v/4294967296)) (u-u/(v/4294967296)*(v/4294967296))∧u-u/(v/4294967296)*(v/4294967296)<4294967296:=by
 obtain⟨n1,n2,n3,n4⟩:=qgW h0 u0 u1 x0 x1;obtain⟨w,hw⟩ : ∃w,w=v/4294967296:=⟨_,rfl⟩;have w0:2147483648≤w:=by omega
 have w1:w<4294967296:=by omega
 have a1:u/w*w≤u:=Int.ediv_mul_le _ (by omega)
 have a2:u<u/w*w+w:=by
  have h:=Int.lt_ediv_add_one_mul_self u (b:=w) (by omega)
  rw[Int.add_mul,Int.one_mul] at h;exact h
 rw[←hw];refine⟨⟨h0,h1,u0,u1,x0,x1,by rw[←hw];omega,by omega,?_,?_⟩,by omega⟩
 ·apply Int.le_ediv_of_mul_le (by omega)
  generalize (u*4294967296+x)/v=Q at *
  have b1:Q*(w*4294967296)≤Q*v:=Int.mul_le_mul_of_nonneg_left (by omega) n1
  rw[←Int.mul_assoc] at b1;omega
 ·have:u/w<4294967298:=by
   apply Int.ediv_lt_of_lt_mul (by omega)
   omega
  omega
theorem qtJ {v u x q r:Int} (h:Dig v u x q r) (hc:4294967296≤q∨4294967296*r+x<q*(v%4294967296)):Dig v u x (q-1) (r+v/4294967296):=by
 obtain⟨v0,v1,u0,u1,x0,x1,e,r0,q0,q1⟩:=h;obtain⟨n1,n2,n3,n4⟩:=qgW v0 u0 u1 x0 x1;refine⟨v0,v1,u0,u1,x0,x1,by rw[Int.sub_mul,Int.one_mul];omega,by omega,?_,by omega⟩
 generalize (u*4294967296+x)/v=Q at *
 rcases hc with hc|hc
 ·omega
 ·have hne:Q≠q:=by
   intro hq;subst hq;have ev:Q*v=Q*(v/4294967296)*4294967296+Q*(v%4294967296):=by
    have:v=v/4294967296*4294967296+v%4294967296:=by omega
    conv=>lhs;rw[this]
    rw[Int.mul_add,Int.mul_assoc]
   omega
  omega
theorem qpG {v u x q r:Int} (h:Dig v u x q r) (hc:q*(v%4294967296)≤4294967296*r+x):q=(u*4294967296+x)/v:=by
 obtain⟨v0,v1,u0,u1,x0,x1,e,r0,q0,q1⟩:=h;refine Int.le_antisymm ?_ q0;apply Int.le_ediv_of_mul_le (by omega)
 have ev:q*v=q*(v/4294967296)*4294967296+q*(v%4294967296):=by
  have:v=v/4294967296*4294967296+v%4294967296:=by omega
  conv=>lhs;rw[this]
  rw[Int.mul_add,Int.mul_assoc]
 omega
theorem qtH {v u x q r:Int} (h:Dig v u x q r) (hr:4294967296≤r) (hq:q≤4294967296):q=(u*4294967296+x)/v:=by
 apply qpG h
 have q0:0≤q:=Int.le_trans (qgW h.v0 h.u0 h.u1 h.x0 h.x1).1 h.q0
 have:q*(v%4294967296)≤4294967296*4294967295:=qlT hq (by omega) (by omega) (by omega)
 have:=h.x0
 omega
theorem qtK {v u x q r:Int} (h:Dig v u x q r) (hq:q<4294967296):0≤q*(v%4294967296)∧q*(v%4294967296)<18446744073709551616:=by
 have q0:0≤q:=Int.le_trans (qgW h.v0 h.u0 h.u1 h.x0 h.x1).1 h.q0
 have:q*(v%4294967296)≤4294967295*4294967295:=qlT (by omega) (by omega) (by omega) (by omega)
 exact⟨Int.mul_nonneg q0 (by omega),by omega⟩
theorem qzr {v U u a b Q w:Int} (h0:9223372036854775808≤v) (hU:0≤U) (hu:u=U/18446744073709551616) (h1:u<v) (ha:a=U%18446744073709551616/4294967296) (hb:b=U%18446744073709551616%4294967296) (hQ:Q=(u*4294967296+a)/v) (hw:w=u*4294967296+a-Q*v) :
  0≤w∧w<v∧Q*4294967296+(w*4294967296+b)/v=U/v∧w*4294967296+b-(w*4294967296+b)/v*v=U%v:=by
 have hv:0<v:=by omega
 obtain⟨n1,n2,n3,n4⟩:=qgW (v:=v) (u:=u) (x:=a) h0 (by omega) h1 (by omega) (by omega)
 rw[←hQ] at n1 n2 n3 n4;have w0:0≤w:=by omega
 have w1:w<v:=by omega
 have eU:U=w*4294967296+b+Q*4294967296*v:=by
  have:U=(u*4294967296+a)*4294967296+b:=by omega
  rw[Int.mul_right_comm];omega
 refine⟨w0,w1,?_,?_⟩
 ·have:U/v=(w*4294967296+b)/v+Q*4294967296:=by rw[eU,Int.add_mul_ediv_right _ _ (by omega:v≠0)]
  omega
 ·have e:=Int.mul_ediv_add_emod (w*4294967296+b) v
  have e2:U%v=(w*4294967296+b)%v:=by rw[eU,Int.add_mul_emod_self_right]
  rw[e2];rw[Int.mul_comm] at e;omega
theorem qr3 (a b:Int) (h0:0≤a) (h1:a<18446744073709551616) (hb:0<b):qa1 .quo (.d (.i .u64 a)) (.d (.i .u64 b))=some (.i .u64 (a/b)):=by
 show (if b=0 then none else some (DV.i .u64 (IntKind.u64.wrap (a.tdiv b))))=_
 rw[if_neg (by omega),Int.tdiv_eq_ediv_of_nonneg h0,wU]
 have:0≤a/b:=Int.ediv_nonneg h0 (by omega)
 have:a/b≤a:=Int.ediv_le_self b h0
 congr 2
 omega
theorem qsb (a b:Int) (h0:0≤a) (hb:0<b):qa1 .rem (.d (.i .u64 a)) (.d (.i .u64 b))=some (.i .u64 (a%b)):=by
 show (if b=0 then none else some (DV.i .u64 (a.tmod b)))=_
 rw[if_neg (by omega),Int.tmod_eq_emod_of_nonneg h0]
theorem orU (x y:Int) (i:Nat) (x0:0≤x) (x1:x<18446744073709551616) (hx:x%2^i=0) (y0:0≤y) (hy:y<2^i) (hi:i≤64):qa1 .or (.d (.i .u64 x)) (.d (.i .u64 y))=some (.i .u64 (x+y)):=by
 have hp:(2:Int)^i≤2^64:=by exact_mod_cast Nat.pow_le_pow_right (by decide:0<2) hi
 have e64:(2:Int)^64=18446744073709551616:=by decide
 rw[←Go.bits_join .u64 64 (by decide) (fun n a b=>wrU a (by rw[←e64];exact b)) i x y x0 hx (by rw[e64];exact x1) y0 hy (by omega)]
 rfl
theorem qtI {v u x:Int} (h0:9223372036854775808≤v) (h1:v<18446744073709551616) (u0:0≤u) (u1:u<v) (x0:0≤x) (x1:x<4294967296) : ∃q r,Dig v u x q r∧r<4294967296∧qa1 .quo (.d (.i .u64 u)) (.d (.i .u64 (v/4294967296)))=some (.i .u64 q)∧IntKind.u64.wrap (q*(v/4294967296))=q*(v/4294967296)∧IntKind.u64.wrap (u-q*(v/4294967296))=r:=by
 obtain⟨d,hr⟩:=qzq h0 h1 u0 u1 x0 x1;have e:=d.e
 have r0:=d.r0
 have q0:0≤u/(v/4294967296):=Int.ediv_nonneg u0 (by omega)
 have m0:0≤u/(v/4294967296)*(v/4294967296):=Int.mul_nonneg q0 (by omega)
 exact⟨_,_,d,hr,qr3 u _ u0 (by omega) (by omega),wrU m0 (by omega),wrU (by omega) (by omega)⟩
theorem qHB {hi lo y:Int} {s:Nat} (hs:s≤63) (h0:0≤hi) (l0:0≤lo) (l1:lo<18446744073709551616) (hy:hi<y) (hv:y*2^s<18446744073709551616) :
  ∃A L c,hi*2^s%18446744073709551616=A∧lo/2^(64-s)=L∧lo*2^s%18446744073709551616=c∧0≤A∧A%2^s=0∧0≤L∧L<2^s∧A+L<y*2^s∧(hi*18446744073709551616+lo)*2^s=(A+L)*18446744073709551616+c∧0≤c∧c<18446744073709551616:=by
 refine⟨_,_,_,rfl,rfl,rfl,?_⟩;have hp:(0:Int)<2^s:=Int.pow_pos (by decide)
 have hr:(0:Int)<2^(64-s):=Int.pow_pos (by decide)
 have hm:(2:Int)^(64-s)*2^s=18446744073709551616:=by
  rw[←Int.pow_add,show 64-s+s=64 by omega];decide
 generalize (2:Int)^s=P at *
 generalize (2:Int)^(64-s)=R at *
 have a0:0≤hi*P:=Int.mul_nonneg h0 (by omega)
 have a1:(hi+1)*P≤y*P:=Int.mul_le_mul_of_nonneg_right (by omega) (by omega)
 rw[Int.add_mul,Int.one_mul] at a1;have eA:hi*P%18446744073709551616=hi*P:=Int.emod_eq_of_lt a0 (by omega)
 have L0:0≤lo/R:=Int.ediv_nonneg l0 (by omega)
 have L1:lo/R<P:=by
  apply Int.ediv_lt_of_lt_mul hr
  rw[Int.mul_comm,hm];exact l1
 have eL:lo*P/18446744073709551616=lo/R:=by
  rw[←hm,Int.mul_ediv_mul_of_pos_left _ _ hp]
 rw[eA];refine⟨a0,Int.mul_emod_left _ _,L0,L1,by omega,?_,by omega,by omega⟩
 have e2:lo*P=lo/R*18446744073709551616+lo*P%18446744073709551616:=by
  rw[←eL];omega
 rw[Int.add_mul,Int.mul_right_comm];omega
theorem qyt (a:Int) (h0:0≤a) (h1:a<18446744073709551616):qa1 .and (.d (.i .u64 a)) (.d (.i .u64 1))=some (.i .u64 (a%2)):=by
 have e64:(2:Int)^64=18446744073709551616:=by decide
 have e:=Go.bits_mask .u64 64 (by decide) (fun n a b=>wrU a (by rw[←e64];exact b)) 1 (by omega) a h0 (by rw[e64];exact h1)
 have e2:Go.bits .and .u64 a 1=a%2:=e
 rw[←e2];rfl
theorem qni {x n:Int} (h0:0≤x) (h:2≤n):x/n≤x/2:=by
 apply Int.le_ediv_of_mul_le (by omega)
 have q0:0≤x/n:=Int.ediv_nonneg h0 (by omega)
 exact Int.le_trans (Int.mul_le_mul_of_nonneg_left h q0) (Int.ediv_mul_le x (by omega))
theorem qzs {s n:Int} (h0:0≤s) (hn:0<n):s/18446744073709551616/n=s/n/18446744073709551616∧(s/18446744073709551616%n*18446744073709551616+s%18446744073709551616)/n=s/n%18446744073709551616∧(s/18446744073709551616%n*18446744073709551616+s%18446744073709551616)%n=s%n:=by
 have e:=Int.mul_ediv_add_emod (s/18446744073709551616) n
 have hs:s=s/18446744073709551616*18446744073709551616+s%18446744073709551616:=by omega
 have r0:=Int.emod_nonneg (s/18446744073709551616) (b:=n) (by omega)
 have r1:=Int.emod_lt_of_pos (s/18446744073709551616) hn
 have l0:0≤s%18446744073709551616:=by omega
 have l1:s%18446744073709551616<18446744073709551616:=by omega
 have hh:0≤s/18446744073709551616:=by omega
 generalize s/18446744073709551616=h at *
 generalize s%18446744073709551616=l at *
 have q0:0≤h/n:=Int.ediv_nonneg hh (by omega)
 generalize h/n=q at *
 generalize h%n=ρ at *
 have e2:s=ρ*18446744073709551616+l+q*18446744073709551616*n:=by
  rw[Int.mul_right_comm,Int.mul_comm q n];omega
 have t0:0≤(ρ*18446744073709551616+l)/n:=Int.ediv_nonneg (by omega) (by omega)
 have t1:(ρ*18446744073709551616+l)/n<18446744073709551616:=by
  apply Int.ediv_lt_of_lt_mul hn
  omega
 have d:s/n=(ρ*18446744073709551616+l)/n+q*18446744073709551616:=by rw[e2,Int.add_mul_ediv_right _ _ (by omega:n≠0)]
 have m:s%n=(ρ*18446744073709551616+l)%n:=by rw[e2,Int.add_mul_emod_self_right]
 refine⟨by omega,by omega,m.symm⟩
theorem qrJ {m n:Int} (hn:0<n) (h:m%n≠0):(-m)/n = -(m/n+1)∧(-m)%n=n-m%n:=by
 have e:=Int.mul_ediv_add_emod m n
 have r0:=Int.emod_nonneg m (b:=n) (by omega)
 have r1:=Int.emod_lt_of_pos m hn
 generalize m/n=q at *
 generalize m%n=ρ at *
 have e2 : -m=n-ρ + -(q+1)*n:=by
  rw[Int.neg_mul,Int.add_mul,Int.one_mul,Int.mul_comm q n];omega
 rw[e2,Int.add_mul_ediv_right _ _ (by omega:n≠0),Int.add_mul_emod_self_right,Int.ediv_eq_zero_of_lt (by omega) (by omega),Int.emod_eq_of_lt (by omega) (by omega)]
 omega
theorem qrI {m n:Int} (hn:0<n) (h:m%n=0):(-m)/n = -(m/n)∧(-m)%n=0:=by
 have e:=Int.mul_ediv_add_emod m n
 generalize m/n=q at *
 have e2 : -m=0 + -q*n:=by
  rw[Int.neg_mul,Int.mul_comm q n];omega
 rw[e2,Int.add_mul_ediv_right _ _ (by omega:n≠0),Int.add_mul_emod_self_right]
 simp
end Go.Sim
end
section
open Go.Sim
attribute [local simp ↓] qd4 qd2 qdU qd3 qdR qdV qdS qdT sqK blK lpK qd9 qd7 qd5 qd8 qd6 qdN qdP qeC qdv qdt qdu qdy qcZ qc0 qcJ qcM qcY qc2 qcL qc3 qcS qcU qcV qcW qc1 qcX qcK qcN qcO qcP qcT qdr qdo qc5 qc4 qdd qc6 qbP qbW qc7 qc8 qeb qcB qea qeA qcE qdj qdk qde qdg qdf qcq qds qcs qda qdn qdi qdh qdc qdb qdm qdp qc9 qdl qdO qcp qcC qdE qeh qcc qdF qct qcu qdq qch qez qcQ qdw qdx qee qeB qec qdW qdX qdY qdZ qd0 qd1 qcR qdD qeF qeS qeT qeQ qeR qeP qeE qeW qeU qe1 qeV qe6 qfh qcr
attribute [local simp] qb3 qef qeg qdI qdJ qdz qdA qex qey qdG qdH rd IOp.adds qaw gh nid rgK rdS qdK qdL qei qej qeo qep qes qen qer qeq qcH qcF qcG qel qek qdC qdB qeu qet qev qew qeJ qeI qeK qbA qeN qeH qeO qe4 qe0 qe3 qe2
section
namespace Go.Sim
attribute [local simp ↓] qbh qbj qbb qbB qbi qbK qa8 qba qbr qbD qbE qbt qbu qa9 qbz qbe qbU qbT qfm qbJ qbG qfv qfu qbg qfi qbQ qfj qfl qfk qbI qbH qfo qfq qft qfs qfr qfn qfp qfw qby qbF
attribute [local simp] qbc qaT writeS touchS qax qaI chg qaZ qaO qaE qaP PV.refs PV.refsL IOp.okD IOp.barr qbo Nat.testBit
set_option maxRecDepth 10000
set_option maxHeartbeats 4000000
section
variable {R : Type} {E : Env} {ρ : Rand → PV} {H : Heap} {id : Nat} {q : PV → Heap → Option R}
theorem qlo {p:Nat} {xs:List Rand}:bo2 (qaa E ρ H id (.prim p xs)) (.h q)=bo (qgK p (xs.map ρ)) (.h fun v=>q v H):=by
 simp only[qaa];exact qiU _ _ _
end
theorem qiy (T:Tab) (hT:HT T) (n:Int) (h0 : -9223372036854775808≤n) (h1:n<9223372036854775808):T.val 44 [I n]=some (.d (Wd n).dv,false):=by
 have e:(⟨n.fdiv (2^63),IntKind.u64.wrap n⟩:AWide)=Wd n:=by
  have:n.fdiv (2^63)=n/9223372036854775808:=Int.fdiv_eq_ediv_of_nonneg _ (by decide)
  rw[this,wU,Wd];congr 1
  omega
 rw[qab T (hT 44 F44 rfl) rfl,←e];simp[F44,Fr.ofArgs,qa1,qnZ,↓qaF,qfP,IntKind.bits];rfl
theorem qxV (T:Tab) (hT:HT T) (n:Int) (h0 : -9223372036854775808≤n) (h1:n<9223372036854775808):T.val 48 [I n]=some (.d (.i .u64 (aI n)),false):=by
 rw[qab T (hT 48 F48 rfl) rfl];by_cases h:n<0
 ·have e:IntKind.u64.wrap (0-IntKind.u64.wrap n)=aI n:=by rw[wU,wU,qe8 h];omega
  simp[F48,Fr.ofArgs,↓qaF,qfP,h];try (rw[←e];simp)
 ·have e:IntKind.u64.wrap n=aI n:=by rw[wU,qgS h];omega
  simp[F48,Fr.ofArgs,↓qaF,qfP,h,e]
theorem pr0 {x y c:Int} (h1:0≤x) (h2:0≤y) (h3:0≤c) (h4:c≤1):qgK 0 [.d (.i .u64 x),.d (.i .u64 y),.d (.i .u64 c)]=some (.t [.d (.i .u64 ((x+y+c)%18446744073709551616)),.d (.i .u64 ((x+y+c)/18446744073709551616))]):=by
 simp only[qgK];rw[if_pos ⟨h1,h2,h3,h4⟩]
theorem pr1 {x y:Int} (h1:0≤x) (h2:0≤y) (h2':y<18446744073709551616):qgK 1 [.d (.i .u64 x),.d (.i .u64 y),.d (.i .u64 0)]=some (.t [.d (.i .u64 ((x+18446744073709551616-y-0)%18446744073709551616)),.d (.i .u64 (if x<y+0 then 1 else 0))]):=by
 simp only[qgK];rw[if_pos ⟨h1,h2,h2',by omega,by omega⟩]
theorem qp0 {A B z:Int} {r:Option (PV×Bool)} (h:some (PV.d (Wd z).dv,false)=r) (h1:A=z/18446744073709551616) (h2:B=z%18446744073709551616):some (PV.d (.a [I A,.i .u64 B]),false)=r:=by rw[wd0 h1 h2];exact h
theorem qsy (T:Tab) (hT:HT T) (z:Int) (h0 : -170141183460469231731687303715884105728≤z) (h1:z<170141183460469231731687303715884105728):T.val 49 [(Wd z).dv]=some (.d (Wd (ngW z)).dv,false):=by
 obtain⟨a,ea,a1,a2⟩:=qfJ z;obtain⟨r,hr⟩ : ∃r:Option (PV×Bool),some (.d (Wd (ngW z)).dv,false)=r:=⟨_,rfl⟩;rw[qab T (hT 49 F49 rfl) rfl,ea,hr];have x1:=qkC (n:=a.Lo) (by omega) (by omega)
 have x2:=qKw (n:=a.Hi) (by omega) (by omega)
 have h5:=pr0 (x:=18446744073709551615-a.Lo) (y:=1) (c:=0) (by omega) (by omega) (by omega) (by omega)
 simp[F49,Fr.ofArgs,↓qaF,qfP,↓qlo,↓qaz x1,↓qaz x2,h5,↓qan,↓qaq,↓qap,putAt,mkA,qak,qam];refine qp0 hr ?_ ?_
 ·simp only[wU,wI];unfold ngW;split<;>omega
 ·unfold ngW;split<;>omega
def qgb (z:Int):PV×Bool:=if -170141183460469231731687303715884105728≤z∧z<170141183460469231731687303715884105728 then (.t [.d (Wd z).dv,.d (I 0)],false) else (.t [.d (.a [I 0,.i .u64 0]),.d (I 6)],false)
theorem qw8 {z A B:Int} {r:Option (PV×Bool)} (h:some (qgb z)=r) (h0 : -170141183460469231731687303715884105728≤z∧z<170141183460469231731687303715884105728) (h1:A=z/18446744073709551616) (h2:B=z%18446744073709551616):some (PV.t [.d (.a [I A,.i .u64 B]),.d (I 0)],false)=r:=by
 rw[←h,qgb,if_pos h0,wd0 h1 h2]
theorem qw9 {z:Int} {r:Option (PV×Bool)} (h:some (qgb z)=r) (h0 : ¬(-170141183460469231731687303715884105728≤z∧z<170141183460469231731687303715884105728)):some (PV.t [.d (.a [I 0,.i .u64 0]),.d (I 6)],false)=r:=by
 rw[←h,qgb,if_neg h0]
theorem qxI (T:Tab) (hT:HT T) (x y:Int) (x0 : -170141183460469231731687303715884105728≤x) (x1:x<170141183460469231731687303715884105728) (y0 : -170141183460469231731687303715884105728≤y) (y1:y<170141183460469231731687303715884105728):T.val 31 [(Wd x).dv,(Wd y).dv]=some (qgb (x+y)):=by
 obtain⟨a,ea,a1,a2⟩:=qfJ x;obtain⟨b,eb,b1,b2⟩:=qfJ y;obtain⟨r,hr⟩ : ∃r,some (qgb (x+y))=r:=⟨_,rfl⟩;rw[qab T (hT 31 F31 rfl) rfl,ea,eb,hr];have h5:=pr0 (x:=a.Lo) (y:=b.Lo) (c:=0) (by omega) (by omega) (by omega) (by omega)
 simp[F31,Fr.ofArgs,↓qaF,qfP,↓qlo,h5];repeat' (refine qaM (fun h => ?_) (fun h => ?_)<;>(try simp at h)<;>(try simp[h,↓qan,↓qaq,↓qap,putAt,mkA,qag,qak,qam]))
 all_goals
  simp only[wI] at *
  first|exact qw8 hr (by omega) (by omega) (by omega)|exact qw9 hr (by omega)
theorem qxR (T:Tab) (hT:HT T) (x y:Int) (x0 : -170141183460469231731687303715884105728≤x) (x1:x<170141183460469231731687303715884105728) (y0 : -170141183460469231731687303715884105728≤y) (y1:y<170141183460469231731687303715884105728):T.val 42 [(Wd x).dv,(Wd y).dv]=some (qgb (x-y)):=by
 obtain⟨a,ea,a1,a2⟩:=qfJ x;obtain⟨b,eb,b1,b2⟩:=qfJ y;obtain⟨r,hr⟩ : ∃r,some (qgb (x-y))=r:=⟨_,rfl⟩;rw[qab T (hT 42 F42 rfl) rfl,ea,eb,hr];have h5:=pr1 (x:=a.Lo) (y:=b.Lo) (by omega) (by omega) (by omega)
 obtain⟨c,hc⟩ : ∃c:Int,(if a.Lo<b.Lo+0 then 1 else 0)=c:=⟨_,rfl⟩
 rw[hc] at h5;have hc2:(c=1∧a.Lo<b.Lo)∨(c=0∧¬a.Lo<b.Lo):=by
  by_cases h:a.Lo<b.Lo
  ·rw[if_pos (by omega)] at hc;omega
  ·rw[if_neg (by omega)] at hc;omega
 clear hc
 simp[F42,Fr.ofArgs,↓qaF,qfP,↓qlo,h5];repeat' (refine qaM (fun h => ?_) (fun h => ?_)<;>(try simp at h)<;>(try simp[h,↓qan,↓qaq,↓qap,putAt,mkA,qag,qak,qam]))
 all_goals
  simp only[wI] at *
  first|exact qw8 hr (by omega) (by omega) (by omega)|exact qw9 hr (by omega)
theorem qpN (a b:AWide):eqA [1,1] (.d a.dv) (.d b.dv)=some (a.Hi==b.Hi&&(a.Lo==b.Lo&&true)):=by simp[eqA,eqL,eqK,AWide.dv]
def qfD (z:Int):PV×Bool:=if -9223372036854775808≤z∧z<9223372036854775808 then (.t [.d (I z),.d (.b true)],false) else (.t [.d (I 0),.d (.b false)],false)
theorem qsw (T:Tab) (hT:HT T) (z:Int) (h0 : -170141183460469231731687303715884105728≤z) (h1:z<170141183460469231731687303715884105728):T.val 46 [(Wd z).dv]=some (qfD z):=by
 obtain⟨a,ea,a1,a2⟩:=qfJ z;obtain⟨r,hr⟩ : ∃r,some (qfD z)=r:=⟨_,rfl⟩;obtain⟨n,hn⟩ : ∃n,IntKind.i64.wrap a.Lo=n:=⟨_,rfl⟩;have hn2:=hn
 rw[wI] at hn2;obtain⟨b,eb,b1,b2⟩:=qfJ n;have e44:=qiy T hT n (by omega) (by omega)
 rw[eb] at e44;rw[qab T (hT 46 F46 rfl) rfl,ea,hr];by_cases hz : -9223372036854775808≤z∧z<9223372036854775808
 ·have c1:b.Hi=a.Hi:=by omega
  have c2:b.Lo=a.Lo:=by omega
  have c3:n=z:=by omega
  have e:=qpN b a
  rw[c1,c2] at e;simp only[beq_self_eq_true,Bool.true_and] at e;simp[F46,Fr.ofArgs,↓qaF,qfP,hn,e44,e];rw[←hr,qfD,if_pos hz,c3]
 ·have e:eqA [1,1] (.d b.dv) (.d a.dv)=some false:=by
   rw[qpN];have : ¬(b.Hi=a.Hi∧b.Lo=a.Lo):=by omega
   simp only[Bool.and_true];congr 1
   simpa using this
  simp[F46,Fr.ofArgs,↓qaF,qfP,hn,e44,e];rw[←hr,qfD,if_neg hz]
theorem qsx (T:Tab) (hT:HT T) (x y:Int) (hx0:0≤x) (hx:x<18446744073709551616) (hy0:0≤y) (hy:y<18446744073709551616):T.val 47 [.i .u64 x,.i .u64 y]=some (.t [.d (.i .u64 (x*y/18446744073709551616)),.d (.i .u64 (x*y%18446744073709551616))],false):=by
 obtain⟨r,hr⟩ : ∃r:Option (PV×Bool),some (.t [.d (.i .u64 (x*y/18446744073709551616)),.d (.i .u64 (x*y%18446744073709551616))],false)=r:=⟨_,rfl⟩;have hm:=Go.mul64_arith x y hx0 hx hy0 hy
 have e1:=qlk x hx0 hx
 have e2:=qiw x
 have e3:=qlk y hy0 hy
 have e4:=qiw y
 have e5:=qlS (x%4294967296) (y%4294967296)
 have e6:=qlS (x/4294967296) (y%4294967296)
 generalize hw0:x%4294967296*(y%4294967296)%18446744073709551616=w0 at *
 generalize hp:x/4294967296*(y%4294967296)%18446744073709551616=p at *
 have e7:=qiw w0
 have e8:=qmP p (w0/4294967296)
 generalize ht:(p+w0/4294967296)%18446744073709551616=t at *
 have e9:=qlk t (by omega) (by omega)
 have e10:=qiw t
 have e11:=qlS (x%4294967296) (y/4294967296)
 generalize hq:x%4294967296*(y/4294967296)%18446744073709551616=u at *
 have e12:=qmP (t%4294967296) u
 generalize hw1:(t%4294967296+u)%18446744073709551616=w1 at *
 have e13:=qlS (x/4294967296) (y/4294967296)
 generalize hs:x/4294967296*(y/4294967296)%18446744073709551616=s at *
 have e14:=qmP s (t/4294967296)
 have e15:=qiw w1
 have e16:=qmP ((s+t/4294967296)%18446744073709551616) (w1/4294967296)
 rw[hm] at e16;generalize hv:(s+t/4294967296)%18446744073709551616=v at *
 have e17:=qlS x y
 generalize x%4294967296=xl at *
 generalize x/4294967296=xh at *
 generalize y%4294967296=yl at *
 generalize y/4294967296=yh at *
 generalize w0/4294967296=wh at *
 generalize t%4294967296=tl at *
 generalize t/4294967296=th at *
 generalize w1/4294967296=w1h at *
 generalize x*y/18446744073709551616=hi at *
 generalize x*y%18446744073709551616=lo at *
 rw[qab T (hT 47 F47 rfl) rfl,hr];simp[-qcs,-qcq,F47,Fr.ofArgs,↓qaz e1,↓qaz e2,↓qaz e3,↓qaz e4,↓qaz e5,↓qaz e6,↓qaz e7,↓qaz e8,↓qaz e9,↓qaz e10,↓qaz e11,↓qaz e12,↓qaz e13,↓qaz e14,↓qaz e15,↓qaz e16,↓qaz e17];exact hr
theorem qnH (a b:Int):a*b=if (a<0)=(b<0) then aI a*aI b else -(aI a*aI b):=by
 unfold aI;by_cases h:a<0<;>by_cases h':b<0<;>simp[h,h',Int.neg_mul,Int.mul_neg]
theorem qIT (T:Tab) (hT:HT T) (a b:Int) (a0 : -9223372036854775808≤a) (a1:a<9223372036854775808) (b0 : -9223372036854775808≤b) (b1:b<9223372036854775808):T.val 37 [I a,I b]=some (.d (Wd (a*b)).dv,false):=by
 have ha:0≤aI a∧aI a≤9223372036854775808:=by unfold aI;split<;>omega
 have hb:0≤aI b∧aI b≤9223372036854775808:=by unfold aI;split<;>omega
 have p0:0≤aI a*aI b:=Int.mul_nonneg ha.1 hb.1
 have p1:aI a*aI b≤9223372036854775808*9223372036854775808:=qlT ha.2 hb.2 hb.1 (by omega)
 have e1:=qxV T hT a a0 a1
 have e2:=qxV T hT b b0 b1
 have e3:=qsx T hT (aI a) (aI b) ha.1 (by omega) hb.1 (by omega)
 have hm:=qnH a b
 generalize aI a*aI b=P at *
 have e4:=qsy T hT P (by omega) (by omega)
 have w1:IntKind.i64.wrap (P/18446744073709551616)=P/18446744073709551616:=wrI (by omega) (by omega)
 have e5:DV.a [I (P/18446744073709551616),.i .u64 (P%18446744073709551616)]=(Wd P).dv:=wd0 rfl rfl
 have ng:ngW P = -P:=by unfold ngW;rw[if_neg (by omega)]
 rw[ng] at e4;obtain⟨r,hr⟩ : ∃r:Option (PV×Bool),some (.d (Wd (a*b)).dv,false)=r:=⟨_,rfl⟩;generalize aI a=A at *
 generalize aI b=B at *
 generalize P/18446744073709551616=hi at *
 generalize P%18446744073709551616=lo at *
 rw[qab T (hT 37 F37 rfl) rfl,hr];by_cases h:(a<0)=(b<0)
 ·rw[if_pos h] at hm;have hd:decide (a<0)=decide (b<0):=by simp only[h]
  simp[F37,Fr.ofArgs,↓qaF,qfP,e1,e2,e3,w1,↓qan,↓qaq,↓qap,putAt,mkA,qak,qam,hd,e5];rw[←hr,hm]
 ·rw[if_neg h] at hm;have hd:decide (a<0) = !decide (b<0):=by
   by_cases h1:a<0<;>by_cases h2:b<0<;>simp_all
  simp[F37,Fr.ofArgs,↓qaF,qfP,e1,e2,e3,w1,↓qan,↓qaq,↓qap,putAt,mkA,qak,qam,hd,e5,e4];rw[←hr,hm]
end Go.Sim
end
section
namespace Go.Sim
set_option maxRecDepth 10000
set_option maxHeartbeats 4000000
section
variable {R : Type} {E : Env} {ρ : Rand → PV} {H : Heap} {id : Nat} {q : PV → Heap → Option R} {x i : Rand}
theorem qbw:bo2 (qaa E ρ H id (.idxS x i)) (.h q)=qja (ρ x) (ρ i) (.h fun v=>q v H):=by
 cases hx:ρ x with
 |d v =>
  cases v with
  |s s =>
   cases hi:ρ i with
   |d w =>
    cases w with
    |i kk n=>rw[qyC hx hi];rfl
    | _=>simp[qaa,hx,hi,asI,qja,bo2]
   | _=>simp[qaa,hx,hi,asI,qja,bo2]
  | _=>simp[qaa,hx,qja,bo2]
 | _=>simp[qaa,hx,qja,bo2]
end
def qrr:List UInt8:=[0,1,2,2,3,3,3,3,4,4,4,4,4,4,4,4,5,5,5,5,5,5,5,5,5,5,5,5,5,5,5,5,6,6,6,6,6,6,6,6,6,6,6,6,6,6,6,6,6,6,6,6,6,6,6,6,6,6,6,6,6,6,6,6,7,7,7,7,7,7,7,7,7,7,7,7,7,7,7,7,7,7,7,7,7,7,7,7,7,7,7,7,7,7,7,7,7,7,7,7,7,7,7,7,7,7,7,7,7,7,7,7,7,7,7,7,7,7,7,7,7,7,7,7,7,7,7,7,8,8,8,8,8,8,8,8,8,8,8,8,8,8,8,8,8,8,8,8,8,8,8,8,8,8,8,8,8,8,8,8,8,8,8,8,8,8,8,8,8,8,8,8,8,8,8,8,8,8,8,8,8,8,8,8,8,8,8,8,8,8,8,8,8,8,8,8,8,8,8,8,8,8,8,8,8,8,8,8,8,8,8,8,8,8,8,8,8,8,8,8,8,8,8,8,8,8,8,8,8,8,8,8,8,8,8,8,8,8,8,8,8,8,8,8,8,8,8,8,8,8,8,8,8,8,8,8]
set_option maxRecDepth 100000 in
theorem qBm (i:Nat) (h:i<256):qrr[i]? = some (UInt8.ofNat (Go.bitLen i)):=by
 have all : ∀j:Fin 256,qrr[j.val]? = some (UInt8.ofNat (Go.bitLen j.val)):=by decide +kernel
 exact all ⟨i,h⟩
theorem qim {R:Type} (m:Nat) (hm:m<256) {d:PV→Option R}:qja (.d (.s qrr)) (.d (.i .u8 (m:Int))) (.h d)=d (.d (.i .u8 (Go.bitLen m:Nat))):=by
 have h8:=Go.bitLen_le8 m hm
 rw[qbX];simp only[chk,Int.toNat_natCast,qBm m hm,bo];rw[if_pos (by omega)]
 have:(UInt8.ofNat (Go.bitLen m)).toNat=Go.bitLen m:=by
  rw[UInt8.toNat_ofNat'];omega
 rw[this]
theorem qjd {x b:Nat} (h:2^b≤x):Go.bitLen x=b+Go.bitLen (x/2^b):=by
 apply Go.bitLen_shift
 have:=Nat.div_pos h (Nat.two_pow_pos b)
 omega
theorem qJy (T:Tab) (hT:HT T) (x:Nat) (hx:x<18446744073709551616):T.val 74 [.i .u64 (x:Int)]=some (.d (I (Go.bitLen x:Nat)),false):=by
 rw[qab T (hT 74 F74 rfl) rfl];obtain⟨a,ea⟩ : ∃a,a=if 4294967296≤x then x/4294967296 else x:=⟨_,rfl⟩
 obtain⟨b,eb⟩ : ∃b,b=if 65536≤a then a/65536 else a:=⟨_,rfl⟩
 obtain⟨c,ec⟩ : ∃c,c=if 256≤b then b/256 else b:=⟨_,rfl⟩
 have ha:a<4294967296:=by rw[ea];split<;>omega
 have hb:b<65536:=by rw[eb];split<;>omega
 have hc:c<256:=by rw[ec];split<;>omega
 have w : ∀n:Int,0≤n→n≤100→IntKind.i64.wrap n=n:=fun n h h'=>wrI (by omega) (by omega)
 have w8:IntKind.u8.wrap (c:Int)=(c:Int):=by rw[IntKind.wrap_u8];omega
 have h8:=Go.bitLen_le8 c hc
 have wc:IntKind.i64.wrap ((Go.bitLen c:Nat):Int)=((Go.bitLen c:Nat):Int):=wrI (by omega) (by omega)
 obtain⟨r,hr⟩ : ∃r:Option (PV×Bool),some (.d (I (Go.bitLen x:Nat)),false)=r:=⟨_,rfl⟩;have s1:=qiw (x:Int)
 have s2:=qma (a:Int) 16 (by omega)
 have s3:=qma (b:Int) 8 (by omega)
 rw[show ((16:Nat):Int)=16 from rfl] at s2
 rw[show ((8:Nat):Int)=8 from rfl] at s3
 have wk1:IntKind.i64.wrap 8=8:=by decide
 have wk2:IntKind.i64.wrap 16=16:=by decide
 have wk3:IntKind.i64.wrap 24=24:=by decide
 have wk4:IntKind.i64.wrap 32=32:=by decide
 have wk5:IntKind.i64.wrap 40=40:=by decide
 have wk6:IntKind.i64.wrap 48=48:=by decide
 have wk7:IntKind.i64.wrap 56=56:=by decide
 rw[hr];have key : ∀z:Int,z=(Go.bitLen x:Nat)→some (PV.d (I z),false)=r:=fun z hz=>by rw[hz];exact hr
 by_cases h1:4294967296≤x
 ·rw[if_pos h1] at ea;have g1:(4294967296:Int)≤(x:Int):=by omega
  rw[show (x:Int)/4294967296=(a:Int) by omega] at s1
  have l1:=qjd (x:=x) (b:=32) h1
  rw[show x/2^32=a by rw[ea]] at l1
  by_cases h2:65536≤a
  ·rw[if_pos h2] at eb;have g2:(65536:Int)≤(a:Int):=by omega
   rw[show (a:Int)/2^16=(b:Int) by rw[eb];norm_cast] at s2
   have l2:=qjd (x:=a) (b:=16) h2
   rw[show a/2^16=b by rw[eb]] at l2
   by_cases h3:256≤b
   ·rw[if_pos h3] at ec;have g3:(256:Int)≤(b:Int):=by omega
    rw[show (b:Int)/2^8=(c:Int) by rw[ec];norm_cast] at s3
    have l3:=qjd (x:=b) (b:=8) h3
    rw[show b/2^8=c by rw[ec]] at l3
    simp[F74,Fr.ofArgs,↓qbw,↓qaF,↓qaW,g1,g2,g3,↓qaz s1,↓qaz s2,↓qaz s3,w8];have wz:IntKind.i64.wrap (56+((Go.bitLen c:Nat):Int))=56+((Go.bitLen c:Nat):Int):=wrI (by omega) (by omega)
    refine (qim c hc).trans ?_;simp[↓qaF,↓qaW,wc,wk6,wk7,wz];exact key _ (by omega)
   ·rw[if_neg h3] at ec;have g3 : ¬(256:Int)≤(b:Int):=by omega
    subst ec;simp[F74,Fr.ofArgs,↓qbw,↓qaF,↓qaW,g1,g2,g3,↓qaz s1,↓qaz s2,w8];have wz:IntKind.i64.wrap (48+((Go.bitLen c:Nat):Int))=48+((Go.bitLen c:Nat):Int):=wrI (by omega) (by omega)
    refine (qim c hc).trans ?_;simp[↓qaF,↓qaW,wc,wk6,wz];exact key _ (by omega)
  ·rw[if_neg h2] at eb;have g2 : ¬(65536:Int)≤(a:Int):=by omega
   subst eb;by_cases h3:256≤b
   ·rw[if_pos h3] at ec;have g3:(256:Int)≤(b:Int):=by omega
    rw[show (b:Int)/2^8=(c:Int) by rw[ec];norm_cast] at s3
    have l3:=qjd (x:=b) (b:=8) h3
    rw[show b/2^8=c by rw[ec]] at l3
    simp[F74,Fr.ofArgs,↓qbw,↓qaF,↓qaW,g1,g2,g3,↓qaz s1,↓qaz s3,w8];have wz:IntKind.i64.wrap (40+((Go.bitLen c:Nat):Int))=40+((Go.bitLen c:Nat):Int):=wrI (by omega) (by omega)
    refine (qim c hc).trans ?_;simp[↓qaF,↓qaW,wc,wk5,wz];exact key _ (by omega)
   ·rw[if_neg h3] at ec;have g3 : ¬(256:Int)≤(b:Int):=by omega
    subst ec;simp[F74,Fr.ofArgs,↓qbw,↓qaF,↓qaW,g1,g2,g3,↓qaz s1,w8];have wz:IntKind.i64.wrap (32+((Go.bitLen c:Nat):Int))=32+((Go.bitLen c:Nat):Int):=wrI (by omega) (by omega)
    refine (qim c hc).trans ?_;simp[↓qaF,↓qaW,wc,wz];exact key _ (by omega)
 ·rw[if_neg h1] at ea;have g1 : ¬(4294967296:Int)≤(x:Int):=by omega
  subst ea;by_cases h2:65536≤a
  ·rw[if_pos h2] at eb;have g2:(65536:Int)≤(a:Int):=by omega
   rw[show (a:Int)/2^16=(b:Int) by rw[eb];norm_cast] at s2
   have l2:=qjd (x:=a) (b:=16) h2
   rw[show a/2^16=b by rw[eb]] at l2
   by_cases h3:256≤b
   ·rw[if_pos h3] at ec;have g3:(256:Int)≤(b:Int):=by omega
    rw[show (b:Int)/2^8=(c:Int) by rw[ec];norm_cast] at s3
    have l3:=qjd (x:=b) (b:=8) h3
    rw[show b/2^8=c by rw[ec]] at l3
    simp[F74,Fr.ofArgs,↓qbw,↓qaF,↓qaW,g1,g2,g3,↓qaz s2,↓qaz s3,w8];have wz:IntKind.i64.wrap (24+((Go.bitLen c:Nat):Int))=24+((Go.bitLen c:Nat):Int):=wrI (by omega) (by omega)
    refine (qim c hc).trans ?_;simp[↓qaF,↓qaW,wc,wk2,wk3,wz];exact key _ (by omega)
   ·rw[if_neg h3] at ec;have g3 : ¬(256:Int)≤(b:Int):=by omega
    subst ec;simp[F74,Fr.ofArgs,↓qbw,↓qaF,↓qaW,g1,g2,g3,↓qaz s2,w8];have wz:IntKind.i64.wrap (16+((Go.bitLen c:Nat):Int))=16+((Go.bitLen c:Nat):Int):=wrI (by omega) (by omega)
    refine (qim c hc).trans ?_;simp[↓qaF,↓qaW,wc,wk2,wz];exact key _ (by omega)
  ·rw[if_neg h2] at eb;have g2 : ¬(65536:Int)≤(a:Int):=by omega
   subst eb;by_cases h3:256≤b
   ·rw[if_pos h3] at ec;have g3:(256:Int)≤(b:Int):=by omega
    rw[show (b:Int)/2^8=(c:Int) by rw[ec];norm_cast] at s3
    have l3:=qjd (x:=b) (b:=8) h3
    rw[show b/2^8=c by rw[ec]] at l3
    simp[F74,Fr.ofArgs,↓qbw,↓qaF,↓qaW,g1,g2,g3,↓qaz s3,w8];have wz:IntKind.i64.wrap (8+((Go.bitLen c:Nat):Int))=8+((Go.bitLen c:Nat):Int):=wrI (by omega) (by omega)
    refine (qim c hc).trans ?_;simp[↓qaF,↓qaW,wc,wk1,wz];exact key _ (by omega)
   ·rw[if_neg h3] at ec;have g3 : ¬(256:Int)≤(b:Int):=by omega
    subst ec;simp[F74,Fr.ofArgs,↓qbw,↓qaF,↓qaW,g1,g2,g3,w8];refine (qim c hc).trans ?_;simp[↓qaF,↓qaW,wc];exact key _ (by omega)
theorem qrs {x:Nat} (hx:x<18446744073709551616):Go.bitLen x≤64:=by
 unfold Go.bitLen;split
 ·omega
 ·rename_i h;have:=(Nat.log2_lt h).2 (show x<2^64 from hx)
  omega
theorem qJx (T:Tab) (hT:HT T) (x:Nat) (hx:x<18446744073709551616):T.val 73 [.i .u64 (x:Int)]=some (.d (I ((64-Go.bitLen x:Nat):Int)),false):=by
 have e:=qJy T hT x hx
 have hl:=qrs hx
 have w:IntKind.i64.wrap (64-((Go.bitLen x:Nat):Int))=((64-Go.bitLen x:Nat):Int):=by rw[wrI (by omega) (by omega)];omega
 rw[qab T (hT 73 F73 rfl) rfl];simp[F73,Fr.ofArgs,e,w]
theorem qCB {y:Nat} (h0:0<y) (h1:y<18446744073709551616):9223372036854775808≤y*2^(64-Go.bitLen y)∧y*2^(64-Go.bitLen y)<18446744073709551616:=by
 obtain⟨b1,b2⟩:=Go.bitLen_spec y;have b2:=b2 (by omega)
 have hl:=qrs h1
 have hp:0<Go.bitLen y:=by
  unfold Go.bitLen;rw[if_neg (by omega)]
  omega
 constructor
 ·have:2^(Go.bitLen y-1)*2^(64-Go.bitLen y)≤y*2^(64-Go.bitLen y):=zzh _ b2
  rw[←Nat.pow_add,show Go.bitLen y-1+(64-Go.bitLen y)=63 by omega] at this
  exact this
 ·have:y*2^(64-Go.bitLen y)<2^Go.bitLen y*2^(64-Go.bitLen y):=Nat.mul_lt_mul_of_pos_right b1 (Nat.two_pow_pos _)
  rw[←Nat.pow_add,show Go.bitLen y+(64-Go.bitLen y)=64 by omega] at this
  exact this
end Go.Sim
end
section
namespace Go.Sim
attribute [local simp] gc Fr.keep qaf qae qad PV.refs PV.refsL qah gcH qaj Obj.refs PV.ren PV.renL Obj.ren Heap.obj Fr.ren gh zzd
set_option maxRecDepth 10000
set_option maxHeartbeats 4000000
section
variable {E : Env} {k : KC (PV × Bool)} {fr : Fr} {H : Heap} {r : Option (PV × Bool)}
theorem qCf (v s u x a14:Int)
  (he1 : ∀rh,k (.exit 0) [(78,.d (.b false)),(16,.d (.i .u64 rh)),(15,.d (.i .u64 ((u*4294967296+x)/v))),(14,.d (.i .u64 a14)),(13,.d (.i .u64 x)),(11,.d (.i .u64 u)),(10,.d (.i .u64 (v%4294967296))),(9,.d (.i .u64 (v/4294967296))),(8,.d (.i .u64 s)),(2,.d (.i .u64 v))] []=r)
  (he2 : ∀rh,k (.exit 0) [(85,.d (.b true)),(78,.d (.b true)),(16,.d (.i .u64 rh)),(15,.d (.i .u64 ((u*4294967296+x)/v))),(14,.d (.i .u64 a14)),(13,.d (.i .u64 x)),(11,.d (.i .u64 u)),(10,.d (.i .u64 (v%4294967296))),(9,.d (.i .u64 (v/4294967296))),(8,.d (.i .u64 s)),(2,.d (.i .u64 v))] []=r)
  (q0 r0:Int) (hq:Dig v u x q0 r0) (hr:r0<4294967296)
  (h0:gc [2,8,9,10,11,13,14,15,16] 0 ⟨fr,H⟩=⟨[(16,.d (.i .u64 r0)),(15,.d (.i .u64 q0)),(14,.d (.i .u64 a14)),(13,.d (.i .u64 x)),(11,.d (.i .u64 u)),(10,.d (.i .u64 (v%4294967296))),(9,.d (.i .u64 (v/4294967296))),(8,.d (.i .u64 s)),(2,.d (.i .u64 v))],[]⟩) :
  kC E 0 fr H (.h (.loop [2,8,9,10,11,13,14,15,16] qjT,k))=r:=by
 refine qbN (fun p:Int×Int=>⟨[(16,.d (.i .u64 p.2)),(15,.d (.i .u64 p.1)),(14,.d (.i .u64 a14)),(13,.d (.i .u64 x)),(11,.d (.i .u64 u)),(10,.d (.i .u64 (v%4294967296))),(9,.d (.i .u64 (v/4294967296))),(8,.d (.i .u64 s)),(2,.d (.i .u64 v))],[]⟩) (fun p=>Dig v u x p.1 p.2∧p.2<4294967296) (fun p=>(4294967296-p.2).toNat) ?_ (q0,r0) ⟨hq,hr⟩ h0
 rintro B-⟨q,rh⟩ ⟨hd,hlt⟩ hx;simp only at hd hlt hx⊢;have hx':=fun (s':Int×Int)=>hx s'
 clear hx
 have hq0:0≤q:=Int.le_trans (qgW hd.v0 hd.u0 hd.u1 hd.x0 hd.x1).1 hd.q0
 have hr0:=hd.r0
 have hv0:=hd.v0
 have hv1:=hd.v1
 have hx0:=hd.x0
 have hx1:=hd.x1
 have hq1:=hd.q1
 have more:(4294967296≤q∨4294967296*rh+x<q*(v%4294967296))→(4294967296≤rh+v/4294967296→q-1=(u*4294967296+x)/v)∧Dig v u x (q-1) (rh+v/4294967296)∧IntKind.u64.wrap (q-1)=q-1∧IntKind.u64.wrap (rh+v/4294967296)=rh+v/4294967296:=by
  intro hc;have hm:=qtJ hd hc
  have hp:0≤q-1:=Int.le_trans (qgW hd.v0 hd.u0 hd.u1 hd.x0 hd.x1).1 hm.q0
  exact⟨fun h=>qtH hm h (by omega),hm,wrU hp (by omega),wrU (by omega) (by omega)⟩
 by_cases c1:4294967296≤q
 ·obtain⟨m1,m2,m3,m4⟩:=more (.inl c1);by_cases c2:4294967296≤rh+v/4294967296
  ·have:=m1 c2
   simp[c1,m3,m4,c2];rw[this];exact he2 _
  ·simp[c1,m3,m4,c2];refine hx' (q-1,rh+v/4294967296) ⟨m2,by omega⟩ (by simp only;omega) _ _ ?_
   simp
 ·obtain⟨d1,d2⟩:=qtK hd (by omega)
  have w1:IntKind.u64.wrap (q*(v%4294967296))=q*(v%4294967296):=wrU d1 d2
  have w2:IntKind.u64.wrap (4294967296*rh)=4294967296*rh:=wrU (by omega) (by omega)
  have w3:IntKind.u64.wrap (4294967296*rh+x)=4294967296*rh+x:=wrU (by omega) (by omega)
  by_cases c3:4294967296*rh+x<q*(v%4294967296)
  ·obtain⟨m1,m2,m3,m4⟩:=more (.inr c3);by_cases c2:4294967296≤rh+v/4294967296
   ·have:=m1 c2
    simp[c1,w1,w2,w3,c3,m3,m4,c2];rw[this];exact he2 _
   ·simp[c1,w1,w2,w3,c3,m3,m4,c2];refine hx' (q-1,rh+v/4294967296) ⟨m2,by omega⟩ (by simp only;omega) _ _ ?_
    simp
  ·have:=qpG hd (by omega)
   simp[c1,w1,w2,w3,c3];rw[this];exact he1 _
theorem qCg (v s u x a15:Int)
  (he1 : ∀rh,k (.exit 2) [(113,.d (.b false)),(18,.d (.i .u64 ((u*4294967296+x)/v))),(17,.d (.i .u64 u)),(16,.d (.i .u64 rh)),(15,.d (.i .u64 a15)),(14,.d (.i .u64 x)),(10,.d (.i .u64 (v%4294967296))),(9,.d (.i .u64 (v/4294967296))),(8,.d (.i .u64 s)),(2,.d (.i .u64 v))] []=r)
  (he2 : ∀rh,k (.exit 2) [(120,.d (.b true)),(113,.d (.b true)),(18,.d (.i .u64 ((u*4294967296+x)/v))),(17,.d (.i .u64 u)),(16,.d (.i .u64 rh)),(15,.d (.i .u64 a15)),(14,.d (.i .u64 x)),(10,.d (.i .u64 (v%4294967296))),(9,.d (.i .u64 (v/4294967296))),(8,.d (.i .u64 s)),(2,.d (.i .u64 v))] []=r)
  (q0 r0:Int) (hq:Dig v u x q0 r0) (hr:r0<4294967296)
  (h0:gc [2,8,9,10,14,15,16,17,18] 0 ⟨fr,H⟩=⟨[(18,.d (.i .u64 q0)),(17,.d (.i .u64 u)),(16,.d (.i .u64 r0)),(15,.d (.i .u64 a15)),(14,.d (.i .u64 x)),(10,.d (.i .u64 (v%4294967296))),(9,.d (.i .u64 (v/4294967296))),(8,.d (.i .u64 s)),(2,.d (.i .u64 v))],[]⟩) :
  kC E 0 fr H (.h (.loop [2,8,9,10,14,15,16,17,18] qjU,k))=r:=by
 refine qbN (fun p:Int×Int=>⟨[(18,.d (.i .u64 p.1)),(17,.d (.i .u64 u)),(16,.d (.i .u64 p.2)),(15,.d (.i .u64 a15)),(14,.d (.i .u64 x)),(10,.d (.i .u64 (v%4294967296))),(9,.d (.i .u64 (v/4294967296))),(8,.d (.i .u64 s)),(2,.d (.i .u64 v))],[]⟩) (fun p=>Dig v u x p.1 p.2∧p.2<4294967296) (fun p=>(4294967296-p.2).toNat) ?_ (q0,r0) ⟨hq,hr⟩ h0
 rintro B-⟨q,rh⟩ ⟨hd,hlt⟩ hx;simp only at hd hlt hx⊢;have hx':=fun (s':Int×Int)=>hx s'
 clear hx
 have hq0:0≤q:=Int.le_trans (qgW hd.v0 hd.u0 hd.u1 hd.x0 hd.x1).1 hd.q0
 have hr0:=hd.r0
 have hv0:=hd.v0
 have hv1:=hd.v1
 have hx0:=hd.x0
 have hx1:=hd.x1
 have hq1:=hd.q1
 have more:(4294967296≤q∨4294967296*rh+x<q*(v%4294967296))→(4294967296≤rh+v/4294967296→q-1=(u*4294967296+x)/v)∧Dig v u x (q-1) (rh+v/4294967296)∧IntKind.u64.wrap (q-1)=q-1∧IntKind.u64.wrap (rh+v/4294967296)=rh+v/4294967296:=by
  intro hc;have hm:=qtJ hd hc
  have hp:0≤q-1:=Int.le_trans (qgW hd.v0 hd.u0 hd.u1 hd.x0 hd.x1).1 hm.q0
  exact⟨fun h=>qtH hm h (by omega),hm,wrU hp (by omega),wrU (by omega) (by omega)⟩
 by_cases c1:4294967296≤q
 ·obtain⟨m1,m2,m3,m4⟩:=more (.inl c1);by_cases c2:4294967296≤rh+v/4294967296
  ·have:=m1 c2
   simp[c1,m3,m4,c2];rw[this];exact he2 _
  ·simp[c1,m3,m4,c2];refine hx' (q-1,rh+v/4294967296) ⟨m2,by omega⟩ (by simp only;omega) _ _ ?_
   simp
 ·obtain⟨d1,d2⟩:=qtK hd (by omega)
  have w1:IntKind.u64.wrap (q*(v%4294967296))=q*(v%4294967296):=wrU d1 d2
  have w2:IntKind.u64.wrap (4294967296*rh)=4294967296*rh:=wrU (by omega) (by omega)
  have w3:IntKind.u64.wrap (4294967296*rh+x)=4294967296*rh+x:=wrU (by omega) (by omega)
  by_cases c3:4294967296*rh+x<q*(v%4294967296)
  ·obtain⟨m1,m2,m3,m4⟩:=more (.inr c3);by_cases c2:4294967296≤rh+v/4294967296
   ·have:=m1 c2
    simp[c1,w1,w2,w3,c3,m3,m4,c2];rw[this];exact he2 _
   ·simp[c1,w1,w2,w3,c3,m3,m4,c2];refine hx' (q-1,rh+v/4294967296) ⟨m2,by omega⟩ (by simp only;omega) _ _ ?_
    simp
  ·have:=qpG hd (by omega)
   simp[c1,w1,w2,w3,c3];rw[this];exact he1 _
end
end Go.Sim
end
section
namespace Go.Sim
attribute [local simp] gc Fr.keep qaf qae qad PV.refs PV.refsL qah gcH qaj Obj.refs PV.ren PV.renL Obj.ren Heap.obj Fr.ren gh zzd
set_option maxRecDepth 10000
set_option maxHeartbeats 4000000
theorem qac {x y:Int} (h : ¬x=y):(x==y)=false:=by simpa using h
theorem qJu (T:Tab) (hT:HT T) (hi lo y:Int) (h0:0≤hi) (l0:0≤lo) (l1:lo<18446744073709551616) (hy:hi<y) (y1:y<18446744073709551616):T.val 68 [.i .u64 hi,.i .u64 lo,.i .u64 y]=some (.t [.d (.i .u64 ((hi*18446744073709551616+lo)/y)),.d (.i .u64 ((hi*18446744073709551616+lo)%y))],false):=by
 obtain⟨r,hr⟩ : ∃r:Option (PV×Bool),some (.t [.d (.i .u64 ((hi*18446744073709551616+lo)/y)),.d (.i .u64 ((hi*18446744073709551616+lo)%y))],false)=r:=⟨_,rfl⟩;rw[qab T (hT 68 F68 rfl) rfl,hr];have g1 : ¬y=0:=by omega
 have g1b:=qac g1
 have g2 : ¬y≤hi:=by omega
 by_cases hz:hi=0
 ·subst hz;have e1:=qr3 lo y l0 l1 (by omega)
  have e2:=qsb lo y l0 (by omega)
  rw[show (0:Int)*18446744073709551616+lo=lo by omega] at hr
  generalize lo/y=Q at *
  generalize lo%y=Z at *
  simp[-qbP,-qbW,F68,Fr.ofArgs,g1b,g2,↓qbh,↓qbj,↓qbb,↓qa8,qbc,↓qba,↓qbe,qaT,writeS,touchS,qax,qaI,chg,qaO,qaE,qaP,IOp.okD,Nat.testBit,↓qaz e1,↓qaz e2];exact hr
 ·obtain⟨Y,rfl⟩:=Int.eq_ofNat_of_zero_le (show 0≤y by omega)
  have hl:=qrs (x:=Y) (by omega)
  obtain⟨t1,t2⟩:=qCB (y:=Y) (by omega) (by omega)
  obtain⟨s,es⟩ : ∃s,64-Go.bitLen Y=s:=⟨_,rfl⟩;have e73:=qJx T hT Y (by omega)
  have hpos:0<Go.bitLen Y:=by
   unfold Go.bitLen;rw[if_neg (by omega)]
   omega
  rw[es] at t1 t2 e73;have hs:s≤63:=by omega
  obtain⟨mm,hmm⟩ : ∃mm,Y*2^s=mm:=⟨_,rfl⟩;rw[hmm] at t1 t2;have hmc:((mm:Nat):Int)=(Y:Int)*2^s:=by rw[←hmm];push_cast;rfl
  have t1':(9223372036854775808:Int)≤(Y:Int)*2^s:=by rw[←hmc];omega
  have t2':(Y:Int)*2^s<18446744073709551616:=by rw[←hmc];omega
  clear hmc hmm
  obtain⟨A,L,c,eA,eL,ec,A0,A1,L0,L1,u1,eU,c0,c1⟩:=qHB (hi:=hi) (lo:=lo) (y:=(Y:Int)) hs h0 l0 l1 hy t2';have b1:=ql9 (Y:Int) s (by omega)
  have b2:=ql9 hi s (by omega)
  have b3:=qma lo (64-s) (by omega)
  have b4:=ql9 lo s (by omega)
  rw[show (Y:Int)*2^s%18446744073709551616=(Y:Int)*2^s from Int.emod_eq_of_lt (by omega) t2'] at b1
  rw[eA] at b2;rw[eL] at b3;rw[ec] at b4;have b5:=orU A L s A0 (by omega) A1 L0 L1 (by omega)
  have b6:=qHN 64 (s:Int)
  rw[show (64-(s:Int))%18446744073709551616=((64-s:Nat):Int) by omega] at b6
  have hq:(hi*18446744073709551616+lo)*2^s/((Y:Int)*2^s)=(hi*18446744073709551616+lo)/(Y:Int):=Int.mul_ediv_mul_of_pos_left _ _ (Int.pow_pos (by decide))
  have hm:(hi*18446744073709551616+lo)*2^s%((Y:Int)*2^s)=(hi*18446744073709551616+lo)%(Y:Int)*2^s:=by
   rw[Int.mul_comm _ (2^s),Int.mul_comm _ (2^s),Int.mul_emod_mul_of_pos _ _ (Int.pow_pos (by decide)),Int.mul_comm]
  have hm2:(hi*18446744073709551616+lo)*2^s%((Y:Int)*2^s)/2^s=(hi*18446744073709551616+lo)%(Y:Int):=by
   rw[hm,Int.mul_ediv_cancel _ (by have:(0:Int)<2^s:=Int.pow_pos (by decide);omega)]
  rw[←hq,←hm2] at hr;rw[eU] at hr;have b7 : ∀R:Int,qa1 .shr (.d (.i .u64 R)) (.d (.i .u64 (s:Int)))=some (.i .u64 (R/2^s)):=fun R=>qma R s (by omega)
  generalize (2:Int)^s=P at *
  generalize hv:(Y:Int)*P=v at *
  obtain⟨u,hu⟩ : ∃u,u=A+L:=⟨_,rfl⟩;rw[←hu] at b5 u1 hr;have hU:0≤u*18446744073709551616+c:=by omega
  have hu0:0≤u:=by omega
  obtain⟨a,ea⟩ : ∃a,a=c/4294967296:=⟨_,rfl⟩;obtain⟨b,eb⟩ : ∃b,b=c%4294967296:=⟨_,rfl⟩;have b8:=qiw v
  have b9:=qlk v (by omega) t2'
  have b10:=qiw c
  have b11:=qlk c c0 c1
  rw[←ea] at b10;rw[←eb] at b11;obtain⟨Q,eQ⟩ : ∃Q,Q=(u*4294967296+a)/v:=⟨_,rfl⟩;obtain⟨w,ew⟩ : ∃w,w=u*4294967296+a-Q*v:=⟨_,rfl⟩;obtain⟨w0,w1,z1,z2⟩:=qzr (v:=v) (U:=u*18446744073709551616+c) (u:=u) (a:=a) (b:=b) (Q:=Q) (w:=w) t1' hU (by omega) u1 (by omega) (by omega) eQ ew
  rw[←z1,←z2] at hr;obtain⟨q1,r1,d1,d2,d3,d4,d5⟩:=qtI (v:=v) (u:=u) (x:=a) t1' t2' hu0 u1 (by omega) (by omega)
  obtain⟨q2,r2,f1,f2,f3,f4,f5⟩:=qtI (v:=v) (u:=w) (x:=b) t1' t2' w0 w1 (by omega) (by omega)
  obtain⟨n1,n2,-,-⟩:=qgW (v:=v) (u:=u) (x:=a) t1' hu0 u1 (by omega) (by omega)
  obtain⟨m1,m2,-,-⟩:=qgW (v:=v) (u:=w) (x:=b) t1' w0 w1 (by omega) (by omega)
  obtain⟨Q2,eQ2⟩ : ∃Q2,Q2=(w*4294967296+b)/v:=⟨_,rfl⟩;rw[←eQ] at n1 n2;rw[←eQ2] at m1 m2 hr z1 z2;have k1:IntKind.u64.wrap (IntKind.u64.wrap (IntKind.u64.wrap (u*4294967296)+a)-IntKind.u64.wrap (Q*v))=w:=by
   simp only[wU];generalize Q*v=m at *
   omega
  have k2:IntKind.u64.wrap (IntKind.u64.wrap (Q*4294967296)+Q2)=Q*4294967296+Q2:=by simp only[wU];omega
  have rm0:0≤w*4294967296+b-Q2*v∧w*4294967296+b-Q2*v<v:=by
   rw[z2];exact⟨Int.emod_nonneg _ (by omega),Int.emod_lt_of_pos _ (by omega)⟩
  have k3:IntKind.u64.wrap (IntKind.u64.wrap (IntKind.u64.wrap (w*4294967296)+b)-IntKind.u64.wrap (Q2*v))=w*4294967296+b-Q2*v:=by
   simp only[wU];generalize Q2*v=m at *
   omega
  have k4:=b7 (w*4294967296+b-Q2*v)
  have ws:IntKind.u64.wrap (s:Int)=(s:Int):=wrU (by omega) (by omega)
  generalize w*4294967296+b-Q2*v=Z at *
  generalize Z/P=Z2 at *
  generalize Q*4294967296+Q2=Qt at *
  have lp0:=fun k he1 he2 fr H => @qCf T.env k fr H r v (s:Int) u a b he1 he2 q1 r1 d1 d2
  have lp1:=fun k he1 he2 fr H => @qCg T.env k fr H r v (s:Int) w b Q he1 he2 q2 r2 f1 f2
  rw[←eQ] at lp0;rw[←eQ2] at lp1;simp[-qbP,-qbW,F68,Fr.ofArgs,g1b,g2,qac hz,e73,↓qaF,↓qaW,ws,↓qaz b1,↓qaz b2,↓qaz b3,↓qaz b4,↓qaz b5,↓qaz b6,↓qaz b8,↓qaz b9,↓qaz b10,↓qaz b11,↓qaz d3,d4,d5];refine lp0 _ (fun rh => ?_) (fun rh => ?_) _ _ (by simp)
  ·simp[-qbP,k1,↓qaz f3,f4,f5];refine lp1 _ (fun rh => ?_) (fun rh => ?_) _ _ (by simp)
   ·simp[k2,k3,↓qaz k4];exact hr
   ·simp[k2,k3,↓qaz k4];exact hr
  ·simp[-qbP,k1,↓qaz f3,f4,f5];refine lp1 _ (fun rh => ?_) (fun rh => ?_) _ _ (by simp)
   ·simp[k2,k3,↓qaz k4];exact hr
   ·simp[k2,k3,↓qaz k4];exact hr
end Go.Sim
end
section
namespace Go.Sim
attribute [local simp ↓] qbh qbj qbb qbB qbi qbK qa8 qba qbr qbD qbE qbt qbu qa9 qbz qbe qbU qbT qfm qbJ qbG qfv qfu qbg qfi qbQ qfj qfl qfk qbI qbH qfo qfq qft qfs qfr qfn qfp qfw qby qbF
attribute [local simp] qbc qaT writeS touchS qax qaI chg qaZ qaO qaE qaP PV.refs PV.refsL IOp.okD IOp.barr qbo Nat.testBit
set_option maxRecDepth 10000
set_option maxHeartbeats 4000000
theorem qt0 {A B z:Int} {r:Option (PV×Bool)} (h:some (PV.d (Sz z).dv,false)=r) (h1:A=z/18446744073709551616) (h2:B=z%18446744073709551616):some (PV.d (.a [.i .u64 A,.i .u64 B]),false)=r:=by rw[sz0 h1 h2];exact h
theorem qJn (T:Tab) (hT:HT T) (z:Int) (h0 : -170141183460469231731687303715884105728≤z) (h1:z<170141183460469231731687303715884105728):T.val 55 [(Wd z).dv]=some (.d (Sz (aI z)).dv,false):=by
 obtain⟨a,ea,a1,a2⟩:=qfJ z;obtain⟨b,eb,b1,b2⟩:=qfJ (ngW z);obtain⟨r,hr⟩ : ∃r:Option (PV×Bool),some (.d (Sz (aI z)).dv,false)=r:=⟨_,rfl⟩;have e49:=qsy T hT z h0 h1
 rw[ea,eb] at e49;rw[qab T (hT 55 F55 rfl) rfl,ea,hr];by_cases h:z<0
 ·have g:a.Hi<0:=by omega
  simp[F55,Fr.ofArgs,g,e49,↓qaF,↓qaW,↓qan,↓qaq,↓qap,putAt,mkA,qak,qam];refine qt0 hr ?_ ?_
  ·rw[wU,qe8 h,b1];unfold ngW;split<;>omega
  ·rw[qe8 h,b2];unfold ngW;split<;>omega
 ·have g : ¬a.Hi<0:=by omega
  simp[F55,Fr.ofArgs,g,↓qaF,↓qaW,↓qan,↓qaq,↓qap,putAt,mkA,qak,qam];refine qt0 hr ?_ ?_
  ·rw[wU,qgS h,a1];omega
  ·rw[qgS h,a2]
theorem qJo (T:Tab) (hT:HT T) (s n:Int) (h0:0≤s) (h1:s<340282366920938463463374607431768211456) (n0:0<n) (n1:n<18446744073709551616):T.val 56 [(Sz s).dv,.i .u64 n]=some (.t [.d (Sz (s/n)).dv,.d (.i .u64 (s%n))],false):=by
 obtain⟨a,ea,a1,a2⟩:=qgc s;obtain⟨r,hr⟩ : ∃r:Option (PV×Bool),some (.t [.d (Sz (s/n)).dv,.d (.i .u64 (s%n))],false)=r:=⟨_,rfl⟩;obtain⟨d1,d2,d3⟩:=qzs (s:=s) (n:=n) h0 n0;rw[←a1,←a2] at d2 d3;rw[←a1] at d1;have e1:=qsb a.h n (by omega) n0
 have e2:=qr3 a.h n (by omega) (by omega) n0
 have r0:=Int.emod_nonneg a.h (b:=n) (by omega)
 have r1:=Int.emod_lt_of_pos a.h n0
 have e3:=qJu T hT (a.h%n) a.l n r0 (by omega) (by omega) r1 n1
 rw[d2,d3] at e3;have e4:DV.a [.i .u64 (a.h/n),.i .u64 (s/n%18446744073709551616)]=(Sz (s/n)).dv:=sz0 d1 rfl
 generalize s/n%18446744073709551616=q at *
 generalize s%n=m at *
 generalize Sz (s/n)=z at *
 generalize a.h%n=y at *
 generalize a.h/n=x at *
 rw[qab T (hT 56 F56 rfl) rfl,ea,hr];simp[-qbP,-qbW,F56,Fr.ofArgs,↓qaz e1,↓qaz e2,e3,↓qan,↓qaq,↓qap,putAt,mkA,qak,qam,e4];exact hr
theorem qJp (T:Tab) (hT:HT T) (s:Int) (h0:0≤s) (h1:s+1<340282366920938463463374607431768211456) : ∃b,T.val 57 [(Sz s).dv,.i .u64 1,.i .u64 1]=some (.t [.d (Sz (s+1)).dv,.d (.b b)],false):=by
 obtain⟨a,ea,a1,a2⟩:=qgc s;have e1:=qsx T hT a.l 1 (by omega) (by omega) (by omega) (by omega)
 rw[Int.mul_one,show a.l/18446744073709551616=0 by omega,show a.l%18446744073709551616=a.l by omega] at e1
 have e2:=qsx T hT a.h 1 (by omega) (by omega) (by omega) (by omega)
 rw[Int.mul_one,show a.h/18446744073709551616=0 by omega,show a.h%18446744073709551616=a.h by omega] at e2
 have p1:=pr0 (x:=a.l) (y:=1) (c:=0) (by omega) (by omega) (by omega) (by omega)
 obtain⟨c,hc⟩ : ∃c,(a.l+1+0)/18446744073709551616=c:=⟨_,rfl⟩;obtain⟨m,hm⟩ : ∃m,(a.l+1+0)%18446744073709551616=m:=⟨_,rfl⟩;rw[hc,hm] at p1;have wc:IntKind.u64.wrap c=c:=wrU (by omega) (by omega)
 have p2:=pr0 (x:=a.h) (y:=c) (c:=0) (by omega) (by omega) (by omega) (by omega)
 obtain⟨c2,hc2⟩ : ∃c2,(a.h+c+0)/18446744073709551616=c2:=⟨_,rfl⟩;obtain⟨m2,hm2⟩ : ∃m2,(a.h+c+0)%18446744073709551616=m2:=⟨_,rfl⟩;rw[hc2,hm2] at p2;have e4:DV.a [.i .u64 m2,.i .u64 m]=(Sz (s+1)).dv:=sz0 (by omega) (by omega)
 have hc3:c2=0:=by omega
 subst hc3;refine⟨true,?_⟩;obtain⟨r,hr⟩ : ∃r:Option (PV×Bool),some (.t [.d (Sz (s+1)).dv,.d (.b true)],false)=r:=⟨_,rfl⟩;rw[qab T (hT 57 F57 rfl) rfl,ea,hr];generalize Sz (s+1)=z at *
 simp[F57,Fr.ofArgs,e1,e2,↓qlo,p1,p2,wc,↓qan,↓qaq,↓qap,putAt,mkA,qak,qam,e4];exact hr
theorem qsz (T:Tab) (hT:HT T) (s:Int) (m:Bool) (h0:0≤s) (h1:if m=true then s≤170141183460469231731687303715884105728 else s<170141183460469231731687303715884105728):T.val 58 [(Sz s).dv,.b m]=some (.t [.d (Wd (if m=true then -s else s)).dv,.d (I 0)],false):=by
 obtain⟨a,ea,a1,a2⟩:=qgc s;cases m with
 |false =>
  simp only[zzg,if_false] at h1⊢;have g1 : ¬9223372036854775808<a.h:=by omega
  have g2 : ¬a.h=9223372036854775808:=by omega
  have g3:(a.h==9223372036854775808)=false:=by simpa using g2
  have w:IntKind.i64.wrap a.h=a.h:=wrI (by omega) (by omega)
  have e4:DV.a [I a.h,.i .u64 a.l]=(Wd s).dv:=wd0 a1 a2
  obtain⟨r,hr⟩ : ∃r:Option (PV×Bool),some (.t [.d (Wd s).dv,.d (I 0)],false)=r:=⟨_,rfl⟩;rw[qab T (hT 58 F58 rfl) rfl,ea,hr];generalize Wd s=z at *
  simp[F58,Fr.ofArgs,g1,g3,↓qaF,↓qaW,w,↓qan,↓qaq,↓qap,putAt,mkA,qak,qam,e4];exact hr
 |true =>
  simp only[if_true] at h1⊢;have g1 : ¬9223372036854775808<a.h:=by omega
  obtain⟨z,hz⟩ : ∃z,z=if s=170141183460469231731687303715884105728 then -170141183460469231731687303715884105728 else s:=⟨_,rfl⟩
  have z0 : -170141183460469231731687303715884105728≤z∧z<170141183460469231731687303715884105728:=by rw[hz];split<;>omega
  have zn:ngW z = -s:=by
   unfold ngW;rw[hz];by_cases c:s=170141183460469231731687303715884105728
   ·rw[if_pos c,if_pos rfl];omega
   ·rw[if_neg c,if_neg (by omega)]
  have e49:=qsy T hT z z0.1 z0.2
  rw[zn] at e49;obtain⟨w,hw⟩ : ∃w,IntKind.i64.wrap a.h=w:=⟨_,rfl⟩;have hw2:=hw
  rw[wI] at hw2;have e4:DV.a [I w,.i .u64 a.l]=(Wd z).dv:=by
   by_cases c:s=170141183460469231731687303715884105728
   ·rw[if_pos c] at hz;exact wd0 (by omega) (by omega)
   ·rw[if_neg c] at hz;exact wd0 (by omega) (by omega)
  obtain⟨r,hr⟩ : ∃r:Option (PV×Bool),some (.t [.d (Wd (-s)).dv,.d (I 0)],false)=r:=⟨_,rfl⟩;rw[qab T (hT 58 F58 rfl) rfl,ea,hr];by_cases c:a.h=9223372036854775808
  ·have g2:(a.h==9223372036854775808)=true:=by simpa using c
   have g3:a.l=0:=by omega
   have g4 : ¬0<a.l:=by omega
   generalize Wd (-s)=z1 at *
   generalize Wd z=z2 at *
   simp[F58,Fr.ofArgs,g1,g2,g4,↓qaF,↓qaW,hw,↓qan,↓qaq,↓qap,putAt,mkA,qak,qam,e4,e49];exact hr
  ·have g2:(a.h==9223372036854775808)=false:=by simpa using c
   generalize Wd (-s)=z1 at *
   generalize Wd z=z2 at *
   simp[F58,Fr.ofArgs,g1,g2,↓qaF,↓qaW,hw,↓qan,↓qaq,↓qap,putAt,mkA,qak,qam,e4,e49];exact hr
theorem qtV (b:ASz) (h : ¬(b.h=0∧b.l=0)):eqA [1,1] (.d b.dv) (.d (.a [.i .u64 0,.i .u64 0]))=some false:=by
 have:eqA [1,1] (.d b.dv) (.d (.a [.i .u64 0,.i .u64 0]))=some (b.h==0&&(b.l==0&&true)):=by simp[eqA,eqL,eqK,ASz.dv]
 rw[this];simp only[Bool.and_true];congr 1
 simpa using h
theorem qI8 (T:Tab) (hT:HT T) (z n:Int) (h0 : -170141183460469231731687303715884105728≤z) (h1:z<170141183460469231731687303715884105728) (n0:0<n) (n1:n<9223372036854775808):T.val 43 [(Wd z).dv,I n]=some (.t [.d (Wd (z/n)).dv,.d (I (z%n)),.d (I 0)],false):=by
 obtain⟨a,ea,a1,a2⟩:=qfJ z;have s0:0≤aI z∧aI z≤170141183460469231731687303715884105728:=by unfold aI;split<;>omega
 have e55:=qJn T hT z h0 h1
 have e56:=qJo T hT (aI z) n s0.1 (by omega) n0 (by omega)
 rw[ea] at e55;have wn:IntKind.u64.wrap n=n:=wrU (by omega) (by omega)
 have gn : ¬n<1:=by omega
 have q0:0≤aI z/n:=Int.ediv_nonneg s0.1 (by omega)
 have q1:aI z/n≤aI z:=Int.ediv_le_self n s0.1
 have m0:=Int.emod_nonneg (aI z) (b:=n) (by omega)
 have m1:=Int.emod_lt_of_pos (aI z) n0
 obtain⟨r,hr⟩ : ∃r:Option (PV×Bool),some (.t [.d (Wd (z/n)).dv,.d (I (z%n)),.d (I 0)],false)=r:=⟨_,rfl⟩;rw[qab T (hT 43 F43 rfl) rfl,ea,hr];by_cases hz:z<0
 ·have g:a.Hi<0:=by omega
  by_cases hm:aI z%n=0
  ·have hp:0<aI z/n:=by
    have:=qe8 hz
    have e:=Int.mul_ediv_add_emod (aI z) n
    by_cases c:aI z/n=0
    ·rw[c] at e;omega
    ·omega
   obtain⟨d1,d2⟩:=qrI n0 hm;rw[qe8 hz,Int.neg_neg] at d1 d2;rw[d1,d2] at hr;rw[←qe8 hz] at hr;have e58:=qsz T hT (aI z/n) true q0 (by rw[if_pos rfl];omega)
   rw[if_pos rfl] at e58;obtain⟨b,eb,b1,b2⟩:=qgc (aI z/n);rw[eb] at e58 e56;have ez:=qtV b (by omega)
   rw[hm] at e56;generalize Sz (aI z)=s1 at *
   generalize Wd (-(aI z/n))=s2 at *
   have w0:IntKind.i64.wrap 0=0:=rfl
   simp[F43,Fr.ofArgs,e55,e56,gn,g,wn,↓qaF,↓qaW,↓qan,↓qaq,mkA,ez,e58,w0];exact hr
  ·obtain⟨d1,d2⟩:=qrJ n0 hm;rw[qe8 hz,Int.neg_neg] at d1 d2;rw[←qe8 hz] at d1 d2;rw[d1,d2] at hr;obtain⟨bb,e57⟩:=qJp T hT (aI z/n) q0 (by omega)
   have e58:=qsz T hT (aI z/n+1) true (by omega) (by
    rw[if_pos rfl];by_cases c:n=1
    ·subst c;exact absurd (Int.emod_one _) hm
    ·have:aI z/n≤aI z/2:=qni s0.1 (by omega)
     omega)
   rw[if_pos rfl] at e58;obtain⟨b,eb,b1,b2⟩:=qgc (aI z/n+1);rw[eb] at e58 e57;have ez:=qtV b (by omega)
   have gm:0<aI z%n:=by omega
   have w1:IntKind.u64.wrap (n-aI z%n)=n-aI z%n:=wrU (by omega) (by omega)
   have w2:IntKind.i64.wrap (n-aI z%n)=n-aI z%n:=wrI (by omega) (by omega)
   generalize Sz (aI z)=s1 at *
   generalize Sz (aI z/n)=s3 at *
   generalize Wd (-(aI z/n+1))=s2 at *
   generalize aI z%n=m at *
   simp[F43,Fr.ofArgs,e55,e56,e57,gn,g,gm,wn,w1,w2,↓qaF,↓qaW,↓qan,↓qaq,mkA,ez,e58];exact hr
 ·have g : ¬a.Hi<0:=by omega
  rw[qgS hz] at *
  have e58:=qsz T hT (z/n) false q0 (by simp only[zzg,if_false];omega)
  simp only[zzg,if_false] at e58;have w2:IntKind.i64.wrap (z%n)=z%n:=wrI (by omega) (by omega)
  generalize Sz z=s1 at *
  generalize Sz (z/n)=s3 at *
  generalize Wd (z/n)=s2 at *
  generalize z%n=m at *
  simp[F43,Fr.ofArgs,e55,e56,gn,g,wn,w2,↓qaF,↓qaW,e58];exact hr
def qdQ (q ρ n:Int):Int:=if n-ρ<ρ then 1 else if ρ<n-ρ then 0 else q%2
theorem qJh (T:Tab) (hT:HT T) (z ρ n:Int) (r0:0≤ρ) (r1:ρ<n) (n1:n<9223372036854775808):T.val 45 [(Wd z).dv,I ρ,I n,I 6]=some (.d (I (qdQ z ρ n)),false):=by
 obtain⟨a,ea,a1,a2⟩:=qfJ z;obtain⟨r,hr⟩ : ∃r:Option (PV×Bool),some (.d (I (qdQ z ρ n)),false)=r:=⟨_,rfl⟩;rw[qab T (hT 45 F45 rfl) rfl,ea,hr];have w:IntKind.i64.wrap (n-ρ)=n-ρ:=wrI (by omega) (by omega)
 by_cases c1:n-ρ<ρ
 ·rw[qdQ,if_pos c1] at hr;simp[F45,Fr.ofArgs,w,c1];exact hr
 ·by_cases c2:ρ<n-ρ
  ·rw[qdQ,if_neg c1,if_pos c2] at hr;simp[F45,Fr.ofArgs,w,c1,c2];exact hr
  ·rw[qdQ,if_neg c1,if_neg c2] at hr;have e1:=qyt a.Lo (by omega) (by omega)
   have w2:IntKind.i64.wrap (a.Lo%2)=a.Lo%2:=wrI (by omega) (by omega)
   rw[show z%2=a.Lo%2 by omega] at hr
   generalize a.Lo%2=y at *
   simp[F45,Fr.ofArgs,w,c1,c2,↓qaz e1,↓qaF,↓qaW,w2];exact hr
theorem qIS (T:Tab) (hT:HT T):T.val 35 [I 6]=some (.d (.b true),false):=by
 rw[qab T (hT 35 F35 rfl) rfl];simp[F35,Fr.ofArgs]
def qb1 (z n:Int):Int:=z/n+qdQ (z/n) (z%n) n
def qfG (x:Int):PV×Bool:=if -9223372036854775808≤x∧x<9223372036854775808 then (.t [.d (I x),.d (I 0)],false) else (.t [.d (I 0),.d (I 6)],false)
theorem qsv (T:Tab) (hT:HT T) (z n:Int) (h0 : -170141183460469231731687303715884105728≤z) (h1:z<170141183460469231731687303715884105728) (n0:0<n) (n1:n<9223372036854775808):T.val 36 [(Wd z).dv,I n,I 6]=some (qfG (qb1 z n)):=by
 have e43:=qI8 T hT z n h0 h1 n0 n1
 have m0:=Int.emod_nonneg z (b:=n) (by omega)
 have m1:=Int.emod_lt_of_pos z n0
 have e45:=qJh T hT (z/n) (z%n) n m0 m1 n1
 have e35:=qIS T hT
 have hh:0≤qdQ (z/n) (z%n) n∧qdQ (z/n) (z%n) n≤1:=by unfold qdQ;split<;>(try split)<;>omega
 have e44:=qiy T hT (qdQ (z/n) (z%n) n) (by omega) (by omega)
 have gn : ¬n<1:=by omega
 have em:=Int.mul_ediv_add_emod z n
 have b1 : -170141183460469231731687303715884105728≤z/n:=Int.le_ediv_of_mul_le n0 (by omega)
 have b2:z/n<170141183460469231731687303715884105728:=Int.ediv_lt_of_lt_mul n0 (by omega)
 have b3:0<z%n→z/n+1<170141183460469231731687303715884105728:=by
  intro hp;by_cases c:n=1
  ·subst c;simp at hp
  ·by_cases hz:0≤z
   ·have:z/n≤z/2:=qni hz (by omega)
    omega
   ·have:z/n<0:=Int.ediv_neg_of_neg_of_pos (by omega) n0
    omega
 obtain⟨r,hr⟩ : ∃r,some (qfG (qb1 z n))=r:=⟨_,rfl⟩;rw[qab T (hT 36 F36 rfl) rfl,hr];by_cases hm:0<z%n
 ·have e31:=qxI T hT (z/n) (qdQ (z/n) (z%n) n) b1 b2 (by omega) (by omega)
  rw[qgb,if_pos ⟨by omega,by have:=b3 hm;omega⟩] at e31
  have e46:=qsw T hT (z/n+qdQ (z/n) (z%n) n) (by omega) (by have:=b3 hm;omega)
  obtain⟨a,ea⟩ : ∃a,Wd z=a:=⟨_,rfl⟩;obtain⟨b,eb⟩ : ∃a,Wd (z/n)=a:=⟨_,rfl⟩;obtain⟨c,ec⟩ : ∃a,Wd (z/n+qdQ (z/n) (z%n) n)=a:=⟨_,rfl⟩;obtain⟨d,ed⟩ : ∃a,Wd (qdQ (z/n) (z%n) n)=a:=⟨_,rfl⟩;rw[ea] at e43⊢;rw[eb] at e43 e45 e31;rw[ec] at e31 e46;rw[ed] at e44 e31;rw[qfG,qb1] at hr;generalize z/n+qdQ (z/n) (z%n) n=v at *
  rw[qfD] at e46;by_cases hv : -9223372036854775808≤v∧v<9223372036854775808
  ·rw[if_pos hv] at hr e46;generalize qdQ (z/n) (z%n) n=k at *
   generalize z%n=m at *
   simp[F36,Fr.ofArgs,gn,e35,e43,hm,e45,e44,e31,e46];exact hr
  ·rw[if_neg hv] at hr e46;generalize qdQ (z/n) (z%n) n=k at *
   generalize z%n=m at *
   simp[F36,Fr.ofArgs,gn,e35,e43,hm,e45,e44,e31,e46];exact hr
 ·have hm0:z%n=0:=by omega
  have hh0:qdQ (z/n) (z%n) n=0:=by rw[hm0,qdQ,if_neg (by omega),if_pos (by omega)]
  have e46:=qsw T hT (z/n) b1 b2
  rw[qfG,qb1,hh0,Int.add_zero] at hr;rw[hm0] at e43;obtain⟨a,ea⟩ : ∃a,Wd z=a:=⟨_,rfl⟩;obtain⟨b,eb⟩ : ∃a,Wd (z/n)=a:=⟨_,rfl⟩;rw[ea] at e43⊢;rw[eb] at e43 e46;rw[qfD] at e46;by_cases hv : -9223372036854775808≤z/n∧z/n<9223372036854775808
  ·rw[if_pos hv] at hr e46;generalize z/n=v at *
   simp[F36,Fr.ofArgs,gn,e35,e43,e46];exact hr
  ·rw[if_neg hv] at hr e46;generalize z/n=v at *
   simp[F36,Fr.ofArgs,gn,e35,e43,e46];exact hr
end Go.Sim
end
section
namespace Go.Sim
attribute [local simp ↓] qbh qbj qbb qbB qbi qbK qa8 qba qbr qbD qbE qbt qbu qa9 qbz qbe qbJ qbG qbg qbI qbH qby qbF qaF qaW qan qaq qap
attribute [local simp] qbc qaT writeS touchS qax qaI chg qaZ qaO qaE qaP PV.refs PV.refsL IOp.okD IOp.barr qbo Nat.testBit putAt mkA qag qak qas qam Fr.ofArgs
set_option maxRecDepth 10000
set_option maxHeartbeats 4000000
theorem qgu (T:Tab) (hR:HR T) (n:Int) (h0 : -9223372036854775808≤n) (h1:n<9223372036854775808):T.val 1052 [I n]=some (.d (Wd n).dv,false):=by
 obtain⟨r,hr⟩ : ∃r:Option (PV×Bool),some (.d (Wd n).dv,false)=r:=⟨_,rfl⟩;rw[qab T (hR 1052 qjw rfl) rfl,hr];by_cases h:n<0
 ·simp[qjw,h];exact qp0 hr (by omega) (by rw[wU])
 ·simp[qjw,h];exact qp0 hr (by omega) (by rw[wU])
theorem qpZ {A B z:Int} {b:Bool} {r:Option (PV×Bool)} (h:some (PV.t [.d (.b b),.d (Sz z).dv],false)=r) (h1:A=z/18446744073709551616) (h2:B=z%18446744073709551616):some (PV.t [.d (.b b),.d (.a [.i .u64 A,.i .u64 B])],false)=r:=by rw[sz0 h1 h2];exact h
theorem qky (T:Tab) (hR:HR T) (z:Int) (h0 : -170141183460469231731687303715884105728≤z) (h1:z<170141183460469231731687303715884105728):T.val 1061 [(Wd z).dv]=some (.t [.d (.b (decide (z<0))),.d (Sz (aI z)).dv],false):=by
 obtain⟨a,ea,a1,a2⟩:=qfJ z;obtain⟨r,hr⟩ : ∃r:Option (PV×Bool),some (.t [.d (.b (decide (z<0))),.d (Sz (aI z)).dv],false)=r:=⟨_,rfl⟩;rw[qab T (hR 1061 qiE rfl) rfl,ea,hr];have e1:=qkC (n:=a.Lo) (by omega) (by omega)
 have e2:=qkC (n:=IntKind.u64.wrap a.Hi) (by rw[wU];omega) (by rw[wU];omega)
 by_cases h:z<0
 ·have g : ¬0≤a.Hi:=by omega
  rw[decide_eq_true h] at hr;by_cases g0:a.Lo=0
  ·have e3:IntKind.u64.wrap (18446744073709551615-a.Lo+1)=0:=by rw[wU];omega
   simp[qiE,g,↓qaz e1,↓qaz e2,e3];refine qpZ hr ?_ ?_
   ·simp only[wU,qe8 h];omega
   ·simp only[qe8 h];omega
  ·have e3:(IntKind.u64.wrap (18446744073709551615-a.Lo+1)==0)=false:=by rw[wU];exact beq_eq_false_iff_ne.2 (by omega)
   simp[qiE,g,↓qaz e1,↓qaz e2,e3];refine qpZ hr ?_ ?_
   ·simp only[wU,qe8 h];omega
   ·simp only[wU,qe8 h];omega
 ·have g:0≤a.Hi:=by omega
  rw[decide_eq_false h] at hr;simp[qiE,g];refine qpZ hr ?_ ?_
  ·rw[wU,qgS h];omega
  ·rw[qgS h,a2]
theorem qmc (T:Tab) (hR:HR T) (x y:Int) (x0:0≤x) (x1:x<340282366920938463463374607431768211456) (y0:0≤y) (y1:y<340282366920938463463374607431768211456):T.val 1067 [(Sz x).dv,(Sz y).dv]=some (.t [.d (Sz ((x+y)%340282366920938463463374607431768211456)).dv,.d (.b (decide (x+y<340282366920938463463374607431768211456)))],false):=by
 obtain⟨a,ea,a1,a2⟩:=qgc x;obtain⟨b,eb,b1,b2⟩:=qgc y;rw[qab T (hR 1067 qkN rfl) rfl,ea,eb];have l:IntKind.u64.wrap (a.l+b.l)=(a.l+b.l)%18446744073709551616:=wU _
 have h:IntKind.u64.wrap (a.h+b.h)=(a.h+b.h)%18446744073709551616:=wU _
 by_cases g0:(a.l+b.l)%18446744073709551616<a.l<;>by_cases g1:a.h≤(a.h+b.h)%18446744073709551616<;>simp[qkN,l,h,g0,g1]
 all_goals refine⟨sz0 ?_ ?_,?_⟩<;>(try simp only[wU])<;>omega
theorem qxG (T:Tab) (hR:HR T) (x:Int) (x0:0≤x) (x1:x<340282366920938463463374607431768211456):T.val 1078 [(Sz x).dv]=some (.t [.d (Sz ((x+x)%340282366920938463463374607431768211456)).dv,.d (.b (decide (x+x<340282366920938463463374607431768211456)))],false):=by
 have e:=qmc T hR x x x0 x1 x0 x1
 rw[qab T (hR 1078 qkR rfl) rfl];simp[qkR,e]
theorem qxF (T:Tab) (hR:HR T) (x y:Int) (x1:x<340282366920938463463374607431768211456) (y0:0≤y) (h:y≤x):T.val 1069 [(Sz x).dv,(Sz y).dv]=some (.d (Sz (x-y)).dv,false):=by
 obtain⟨a,ea,a1,a2⟩:=qgc x;obtain⟨b,eb,b1,b2⟩:=qgc y;rw[qab T (hR 1069 qkO rfl) rfl,ea,eb];by_cases g0:a.l<b.l<;>simp[qkO,g0]
 all_goals refine sz0 ?_ ?_<;>(try simp only[wU])<;>omega
theorem qIt (T:Tab) (hR:HR T) (x y:Int):T.val 1068 [(Sz x).dv,(Sz y).dv]=some (.d (.b (decide (x<y))),false):=by
 obtain⟨a,ea,a1,a2⟩:=qgc x;obtain⟨b,eb,b1,b2⟩:=qgc y;rw[qab T (hR 1068 qiF rfl) rfl,ea,eb];rcases Int.lt_trichotomy a.h b.h with g|g|g
 ·simp[qiF,g];omega
 ·simp[qiF,g];omega
 ·have g0 : ¬a.h<b.h:=by omega
  have g1:(a.h==b.h)=false:=beq_eq_false_iff_ne.2 (by omega)
  simp[qiF,g0,g1];omega
theorem qmd (T:Tab) (hR:HR T) (x:Int) (n:Bool) (x0:0≤x) (x1:x<170141183460469231731687303715884105728):T.val 1070 [.b n,(Sz x).dv]=some (.t [.d (Wd (if n=true then -x else x)).dv,.d (.b true)],false):=by
 obtain⟨a,ea,a1,a2⟩:=qgc x;rw[qab T (hR 1070 qiG rfl) rfl,ea];have e1:=qkC (n:=a.l) (by omega) (by omega)
 have e2:=qkC (n:=a.h) (by omega) (by omega)
 have g:a.h<9223372036854775808:=by omega
 cases n
 ·simp[qiG,g];refine wd0 ?_ ?_<;>(try simp only[wI])<;>omega
 ·by_cases g0:a.l=0
  ·have e3:IntKind.u64.wrap (18446744073709551615-a.l+1)=0:=by rw[wU];omega
   simp[qiG,g,↓qaz e1,↓qaz e2,e3];refine wd0 ?_ ?_<;>(try simp only[wU,wI])<;>omega
  ·have e3:(IntKind.u64.wrap (18446744073709551615-a.l+1)==0)=false:=by rw[wU];exact beq_eq_false_iff_ne.2 (by omega)
   simp[qiG,g,↓qaz e1,↓qaz e2,e3];refine wd0 ?_ ?_<;>(try simp only[wU,wI])<;>omega
end Go.Sim
end
section
namespace Go.Sim
attribute [local simp ↓] qbh qbj qbb qbB qbi qbK qa8 qba qbr qbD qbE qbt qbu qa9 qbz qbe qbJ qbG qbg qbI qbH qby qbF qaF qaW qan qaq qap
attribute [local simp] qbc qaT writeS touchS qax qaI chg qaZ qaO qaE qaP PV.refs PV.refsL IOp.okD IOp.barr qbo Nat.testBit putAt mkA qag qak qas qam Fr.ofArgs
set_option maxRecDepth 10000
set_option maxHeartbeats 4000000
def sgn (n:Bool) (a:Int):Int:=if n=true then -a else a
theorem qxA (T:Tab) (hR:HR T) (a b:Int) (m n:Bool) (a0:0≤a) (a1:a≤170141183460469231731687303715884105728) (b0:0≤b) (b1:b≤170141183460469231731687303715884105728)
  (h0 : -170141183460469231731687303715884105728<sgn m a+sgn n b) (h1:sgn m a+sgn n b<170141183460469231731687303715884105728) :
  T.val 1062 [.b m,(Sz a).dv,.b n,(Sz b).dv]=some (.t [.d (Wd (sgn m a+sgn n b)).dv,.d (I 0)],false):=by
 have e1:=fun h=>qmc T hR a b a0 (by omega) b0 h
 have e2:=qIt T hR a b
 have e3:=qmd T hR
 have q1 : ∀x y:Int,-(x+y) = -x + -y:=by omega
 have q2 : ∀x y:Int,-(x-y) = -x+y:=by omega
 have q3 : ∀x y:Int,-(x-y)=y + -x:=by omega
 have q4 : ∀x y:Int,x-y = -y+x:=by omega
 rw[qab T (hR 1062 qgv rfl) rfl];by_cases g:a<b
 ·have e4:=qxF T hR b a (by omega) a0 (by omega)
  rw[decide_eq_true g] at e2;cases m<;>cases n<;>simp[sgn] at h0 h1⊢
  ·have e1:=e1 (by omega);rw[Int.emod_eq_of_lt (by omega) (by omega),decide_eq_true (by omega)] at e1
   have e5:=e3 (a+b) false (by omega) (by omega);simp at e5;simp[qgv,e1,e5]
  ·have e5:=e3 (b-a) true (by omega) (by omega);simp only[if_true,q3] at e5;simp[qgv,e2,e4,e5]
  ·have e5:=e3 (b-a) false (by omega) (by omega);simp only[zzg,if_false] at e5;rw[q4] at e5;rw[q4] at e4;simp[qgv,e2,e4,e5]
  ·have e1:=e1 (by omega);rw[Int.emod_eq_of_lt (by omega) (by omega),decide_eq_true (by omega)] at e1
   have e5:=e3 (a+b) true (by omega) (by omega);simp only[if_true,q1] at e5;simp[qgv,e1,e5]
 ·have e4:=qxF T hR a b (by omega) b0 (by omega)
  rw[decide_eq_false g] at e2;cases m<;>cases n<;>simp[sgn] at h0 h1⊢
  ·have e1:=e1 (by omega);rw[Int.emod_eq_of_lt (by omega) (by omega),decide_eq_true (by omega)] at e1
   have e5:=e3 (a+b) false (by omega) (by omega);simp at e5;simp[qgv,e1,e5]
  ·have e5:=e3 (a-b) false (by omega) (by omega);simp only[zzg,if_false] at e5;rw[Int.sub_eq_add_neg] at e4 e5;simp[qgv,e2,e4,e5]
  ·have e5:=e3 (a-b) true (by omega) (by omega);simp only[if_true,q2] at e5;simp[qgv,e2,e4,e5]
  ·have e1:=e1 (by omega);rw[Int.emod_eq_of_lt (by omega) (by omega),decide_eq_true (by omega)] at e1
   have e5:=e3 (a+b) true (by omega) (by omega);simp only[if_true,q1] at e5;simp[qgv,e1,e5]
theorem qhU (z:Int):sgn (decide (z<0)) (aI z)=z:=by unfold sgn aI;by_cases h:z<0<;>simp[h]
theorem qsk (z:Int):sgn (!decide (z<0)) (aI z) = -z:=by unfold sgn aI;by_cases h:z<0<;>simp[h]
theorem qxw (T:Tab) (hR:HR T) (x y:Int) (x0 : -170141183460469231731687303715884105728≤x) (x1:x<170141183460469231731687303715884105728) (y0 : -170141183460469231731687303715884105728≤y) (y1:y<170141183460469231731687303715884105728)
  (h0 : -170141183460469231731687303715884105728<x+y) (h1:x+y<170141183460469231731687303715884105728):T.val 1053 [(Wd x).dv,(Wd y).dv]=some (.t [.d (Wd (x+y)).dv,.d (I 0)],false):=by
 have e1:=qky T hR x x0 x1
 have e2:=qky T hR y y0 y1
 have e3:=qxA T hR (aI x) (aI y) (decide (x<0)) (decide (y<0)) (by unfold aI;split<;>omega) (by unfold aI;split<;>omega) (by unfold aI;split<;>omega) (by unfold aI;split<;>omega) (by rw[qhU,qhU];exact h0) (by rw[qhU,qhU];exact h1)
 rw[qhU,qhU] at e3;rw[qab T (hR 1053 qkI rfl) rfl];simp[qkI,e1,e2,e3]
theorem qsu (T:Tab) (hR:HR T) (x y:Int) (x0 : -170141183460469231731687303715884105728≤x) (x1:x<170141183460469231731687303715884105728) (y0 : -170141183460469231731687303715884105728≤y) (y1:y<170141183460469231731687303715884105728)
  (h0 : -170141183460469231731687303715884105728<x-y) (h1:x-y<170141183460469231731687303715884105728):T.val 1055 [(Wd x).dv,(Wd y).dv]=some (.t [.d (Wd (x-y)).dv,.d (I 0)],false):=by
 have e1:=qky T hR x x0 x1
 have e2:=qky T hR y y0 y1
 have q:x + -y=x-y:=rfl
 have e3:=qxA T hR (aI x) (aI y) (decide (x<0)) (!decide (y<0)) (by unfold aI;split<;>omega) (by unfold aI;split<;>omega) (by unfold aI;split<;>omega) (by unfold aI;split<;>omega) (by rw[qhU,qsk];exact h0) (by rw[qhU,qsk];exact h1)
 rw[qhU,qsk,q] at e3;rw[qab T (hR 1055 qkJ rfl) rfl];simp[qkJ,e1,e2,e3]
end Go.Sim
end
end
section
namespace Go.Sim
theorem qbC (v:Int) (h0:0≤v) (h1:v<18446744073709551616):qa1 .and (.d (.i .u64 v)) (.d (.i .u64 9223372036854775808))=some (.i .u64 (if 9223372036854775808≤v then 9223372036854775808 else 0)):=by
 obtain⟨k,rfl⟩:=Int.eq_ofNat_of_zero_le h0;show some (DV.i .u64 (IntKind.u64.wrap (BitVec.ofInt 64 (k:Int) &&& BitVec.ofInt 64 9223372036854775808).toNat))=_
 have e:BitVec.ofInt 64 9223372036854775808=BitVec.ofNat 64 (2^63):=by decide
 have e2:k &&& 2^63=if 2^63≤k then 2^63 else 0:=by
  apply Nat.eq_of_testBit_eq
  intro i;rw[Nat.testBit_and,Nat.testBit_two_pow];by_cases hi:63=i
  ·subst hi;have e3:k.testBit 63=decide (2^63≤k):=by
    rw[Nat.testBit_eq_decide_div_mod_eq];exact decide_eq_decide.2 (by omega)
   rw[e3];by_cases h:2^63≤k
   ·rw[if_pos h,Nat.testBit_two_pow];simp[h]
   ·rw[if_neg h];simp[h]
  ·by_cases h:2^63≤k
   ·rw[if_pos h,Nat.testBit_two_pow];simp[hi]
   ·rw[if_neg h];simp[hi]
 rw[e,BitVec.ofInt_natCast,BitVec.toNat_and,BitVec.toNat_ofNat,BitVec.toNat_ofNat,Nat.mod_eq_of_lt (by omega),Nat.mod_eq_of_lt (by decide),e2,wU]
 by_cases h:9223372036854775808≤(k:Int)
 ·rw[if_pos h,if_pos (by omega)];rfl
 ·rw[if_neg h,if_neg (by omega)];rfl
structure Tms (m n:Int) (s:Nat) (v o w P Q:Int):Prop where
 s1:s≤64
 w0:0≤w
 w1:w<P
 o0:0≤o
 e:o*P+m*w=m*n
 v:v=w*Q
 pq:P*Q=18446744073709551616
 p0:0<P
 q0:0<Q
 pp:P=2^(64-s)
theorem Tms.step {m n:Int} {s:Nat} {v o w P Q:Int} (h:Tms m n s v o w P Q) (hs:s<64) (m0:0≤m) (m1:m<18446744073709551616) (n0:0≤n) (n1:n<18446744073709551616) :
  0≤v∧v<18446744073709551616∧o+o<340282366920938463463374607431768211456∧(9223372036854775808≤v→o+o+m<340282366920938463463374607431768211456) ∧
  ∃w' P',Tms m n (s+1) (v*2^1%18446744073709551616) (if 9223372036854775808≤v then o+o+m else o+o) w' P' (Q*2):=by
 obtain⟨s1,w0,w1,o0,e,hv,pq,p0,q0,pp⟩:=h;obtain⟨p,hp,hp0,hpp⟩ : ∃p,P=p*2∧0<p∧p=2^(64-(s+1)):=by
  refine⟨2^(64-(s+1)),?_,Int.pow_pos (by decide),rfl⟩
  rw[pp,←Int.pow_succ];congr 1;omega
 subst hp;have mn:m*n<340282366920938463463374607431768211456:=by
  have:=Int.mul_le_mul (show m≤18446744073709551615 by omega) (show n≤18446744073709551615 by omega) n0 (by omega)
  omega
 have mw:0≤m*w:=Int.mul_nonneg m0 w0
 have v0:0≤v:=by rw[hv];exact Int.mul_nonneg w0 (by omega)
 have pq':p*Q*2=18446744073709551616:=by rw[←pq];ac_rfl
 have v1:v<18446744073709551616:=by
  rw[hv,←pq];exact Int.mul_lt_mul_of_pos_right w1 q0
 have oo:o+o≤(o+o)*p:=by
  have:=Int.mul_le_mul_of_nonneg_left (show 1≤p by omega) (show 0≤o+o by omega);omega
 have e1:(o+o)*p=o*(p*2):=by rw[←Int.two_mul];ac_rfl
 have bit:9223372036854775808≤v↔p≤w:=by
  have hh:(9223372036854775808:Int)=p*Q:=by omega
  rw[hv,hh];exact⟨fun g=>Int.not_lt.1 fun g'=>absurd (Int.mul_lt_mul_of_pos_right g' q0) (by omega),fun g=>Int.mul_le_mul_of_nonneg_right g (by omega)⟩
 have hd:v*2^1=w*(Q*2):=by rw[hv];ac_rfl
 refine⟨v0,v1,by omega,?_,?_⟩
 ·intro hb;have hw:=bit.1 hb
  have:=Int.mul_le_mul_of_nonneg_left hw m0
  have e2:(o+o+m)*p=o*(p*2)+m*p:=by rw[Int.add_mul,e1]
  have:=Int.mul_le_mul_of_nonneg_left (show 1≤p by omega) (show 0≤o+o+m by omega)
  omega
 ·by_cases hb:9223372036854775808≤v
  ·have hw:=bit.1 hb
   refine⟨w-p,p,⟨by omega,by omega,by omega,by rw[if_pos hb];omega,?_,?_,by rw[←pq];ac_rfl,hp0,by omega,hpp⟩⟩
   ·rw[if_pos hb,Int.add_mul,e1,Int.mul_sub];omega
   ·rw[hd,Int.sub_mul];have:p*(Q*2)=18446744073709551616:=by rw[←pq];ac_rfl
    have a:w*(Q*2)=v*2:=by rw[hv];ac_rfl
    omega
  ·have hw : ¬p≤w:=fun h=>hb (bit.2 h)
   refine⟨w,p,⟨by omega,w0,by omega,by rw[if_neg hb];omega,?_,?_,by rw[←pq];ac_rfl,hp0,by omega,hpp⟩⟩
   ·rw[if_neg hb,e1];exact e
   ·rw[hd];have a:w*(Q*2)=v*2:=by rw[hv];ac_rfl
    omega
end Go.Sim
end
section
open Go.Sim
attribute [local simp ↓] qd4 qd2 qdU qd3 qdR qdV qdS qdT sqK blK lpK qd9 qd7 qd5 qd8 qd6 qdN qdP qeC qdv qdt qdu qdy qcZ qc0 qcJ qcM qcY qc2 qcL qc3 qcS qcU qcV qcW qc1 qcX qcK qcN qcO qcP qcT qdr qdo qc5 qc4 qdd qc6 qbP qbW qc7 qc8 qeb qcB qea qeA qcE qdj qdk qde qdg qdf qcq qds qcs qda qdn qdi qdh qdc qdb qdm qdp qc9 qdl qdO qcp qcC qdE qeh qcc qdF qct qcu qdq qch qez qcQ qdw qdx qee qeB qec qdW qdX qdY qdZ qd0 qd1 qcR qdD qeF qeS qeT qeQ qeR qeP qeE qeW qeU qe1 qeV qe6 qfh qcr
attribute [local simp] qb3 qef qeg qdI qdJ qdz qdA qex qey qdG qdH rd IOp.adds qaw gh nid rgK rdS qdK qdL qei qej qeo qep qes qen qer qeq qcH qcF qcG qel qek qdC qdB qeu qet qev qew qeJ qeI qeK qbA qeN qeH qeO qe4 qe0 qe3 qe2
section
namespace Go.Sim
attribute [local simp ↓] qbh qbj qbb qbB qbi qbK qa8 qba qbr qbD qbE qbt qbu qa9 qbz qbe qbJ qbG qbg qbI qbH qby qbF qaF qaW qan qaq qap
attribute [local simp] qbc qaT writeS touchS qax qaI chg qaZ qaO qaE qaP PV.refs PV.refsL IOp.okD IOp.barr qbo Nat.testBit putAt mkA qag qak qas qam Fr.ofArgs
set_option maxRecDepth 10000
set_option maxHeartbeats 4000000
theorem qIz (T:Tab) (hR:HR T) (m n:Int) (m0:0≤m) (m1:m<18446744073709551616) (n0:0≤n) (n1:n<18446744073709551616):T.val 1075 [(Sz m).dv,.i .u64 n]=some (.t [.d (Sz (m*n)).dv,.d (.b true)],false):=by
 rw[qab T (hR 1075 F1075 rfl) rfl];have hz:DV.a [.i .u64 0,.i .u64 0]=(Sz 0).dv:=rfl
 have hst:Tms m n 0 n 0 n 18446744073709551616 1:=⟨by omega,n0,n1,by omega,by omega,by omega,by omega,by omega,by omega,by decide⟩
 simp[F1075];refine qbN (fun p:Nat×Int×Int=>⟨[(8,.d (I p.1)),(7,.d (.b true)),(6,.p 0 0 0),(4,.p 1 0 0),(2,.p 2 0 0),(1,.d (.i .u64 p.2.1))],[some (.box (K1 2) (.d (Sz p.2.2).dv)),some (.box (K1 2) (.d (Sz 0).dv)),some (.box (K1 2) (.d (Sz m).dv))]⟩) (fun p=>∃w P Q,Tms m n p.1 p.2.1 p.2.2 w P Q) (fun p=>64-p.1) ?_ (0,n,0) ⟨_,_,_,hst⟩ ?_
 ·rintro B-⟨s,v,o⟩ ⟨w,P,Q,ht⟩ hx;simp only at ht hx⊢;have hx':=fun (s':Nat×Int×Int)=>hx s'
  clear hx
  by_cases c:s<64
  ·obtain⟨v0,v1,b1,b2,w',P',ht'⟩:=ht.step c m0 m1 n0 n1;have o0:=ht.o0
   have e1:=qmc T hR o o o0 (by omega) o0 (by omega)
   rw[Int.emod_eq_of_lt (by omega) (by omega),decide_eq_true (by omega)] at e1
   have e2:=qbC v v0 v1
   have e3:qa1 .shl (.d (.i .u64 v)) (.d (.i .u64 1))=some (.i .u64 (v*2^1%18446744073709551616)):=ql9 v 1 (by omega)
   generalize v*2^1%18446744073709551616=u at e3 ht';have c':(s:Int)<64:=by omega
   have w1:IntKind.i64.wrap ((s:Int)+1)=((s+1:Nat):Int):=by rw[wI];omega
   by_cases hb:9223372036854775808≤v
   ·have b2:=b2 hb
    have e4:=qmc T hR (o+o) m (by omega) (by omega) m0 (by omega)
    rw[Int.emod_eq_of_lt (by omega) (by omega),decide_eq_true (by omega)] at e4
    rw[if_pos hb] at e2 ht';simp[c',e1,e4,↓qaz e2,↓qaz e3,w1];exact hx' (s+1,u,o+o+m) ⟨_,_,_,ht'⟩ (by simp only;omega) _ _ (by simp[gc,Fr.keep,qaf,qae,qad,PV.refs,qah,gcH,qaj,Obj.refs,PV.ren,Obj.ren,Heap.obj,Fr.ren,gh,zzd])
   ·rw[if_neg hb] at e2 ht';simp[c',e1,↓qaz e2,↓qaz e3,w1];exact hx' (s+1,u,o+o) ⟨_,_,_,ht'⟩ (by simp only;omega) _ _ (by simp[gc,Fr.keep,qaf,qae,qad,PV.refs,qah,gcH,qaj,Obj.refs,PV.ren,Obj.ren,Heap.obj,Fr.ren,gh,zzd])
  ·have h64:s=64:=by have:=ht.s1;omega
   subst h64;obtain⟨s1,w0,w1,o0,e,hv,pq,p0,q0,pp⟩:=ht;have pp:P=1:=pp
   subst pp;have hw:w=0:=by omega
   subst hw;have ho:o=m*n:=by omega
   simp[ho]
 ·simp[gc,Fr.keep,qaf,qae,qad,PV.refs,qah,gcH,qaj,Obj.refs,PV.ren,Obj.ren,Heap.obj,Fr.ren,gh,zzd,hz]
end Go.Sim
end
section
namespace Go.Sim
attribute [local simp ↓] qbh qbj qbb qbB qbi qbK qa8 qba qbr qbD qbE qbt qbu qa9 qbz qbe qbJ qbG qbU qbT qbg qbI qbH qby qbF qaF qaW qan qaq qap
attribute [local simp] qbc qaT writeS touchS qax qaI chg qaZ qaO qaE qaP PV.refs PV.refsL IOp.okD IOp.barr qbo Nat.testBit putAt mkA qag qak qas qam Fr.ofArgs
set_option maxRecDepth 10000
set_option maxHeartbeats 4000000
theorem qmL {n:Int} (h0 : -9223372036854775808≤n) (h1:n<9223372036854775808):0≤aI n∧aI n≤9223372036854775808:=by unfold aI;split<;>omega
theorem qIA (T:Tab) (hR:HR T) (n:Int) (h0 : -9223372036854775808≤n) (h1:n<9223372036854775808):T.val 1076 [I n]=some (.d (.i .u64 (aI n)),false):=by
 have e1:=qkC (n:=IntKind.u64.wrap n) (by rw[wU];omega) (by rw[wU];omega)
 rw[qab T (hR 1076 qjz rfl) rfl];by_cases h:n<0
 ·simp[qjz,h,↓qaz e1];rw[qe8 h];simp only[wU];omega
 ·simp[qjz,h];rw[qgS h];simp only[wU];omega
theorem qHA (a n:Int):sgn (!(decide (a<0)==decide (n<0))) (aI a*aI n)=a*n:=by
 rw[qnH a n];by_cases h:a<0<;>by_cases g:n<0<;>simp[sgn,h,g]
theorem qIu (T:Tab) (hR:HR T) (a n:Int) (a0 : -9223372036854775808≤a) (a1:a<9223372036854775808) (h0 : -9223372036854775808≤n) (h1:n<9223372036854775808):T.val 1071 [(Wd a).dv,I n]=some (.t [.d (Wd (a*n)).dv,.d (I 0)],false):=by
 obtain⟨p0,p1⟩:=qmL a0 a1;obtain⟨q0,q1⟩:=qmL h0 h1;have hm:=Int.mul_le_mul p1 q1 q0 (by omega)
 have hm0:=Int.mul_nonneg p0 q0
 have e1:=qky T hR a (by omega) (by omega)
 have e2:=qIA T hR n h0 h1
 have e3:=qIz T hR (aI a) (aI n) p0 (by omega) q0 (by omega)
 have e4:=qmd T hR (aI a*aI n) (!(decide (a<0)==decide (n<0))) hm0 (by omega)
 rw[show (if (!(decide (a<0)==decide (n<0)))=true then -(aI a*aI n) else aI a*aI n)=a*n from qHA a n] at e4
 rw[qab T (hR 1071 qkP rfl) rfl];simp[qkP,e1,e2,e3,e4]
theorem qIr (T:Tab) (hR:HR T) (a n:Int) (a0 : -9223372036854775808≤a) (a1:a<9223372036854775808) (h0 : -9223372036854775808≤n) (h1:n<9223372036854775808):T.val 1064 [I a,I n]=some (.d (Wd (a*n)).dv,false):=by
 have e1:=qgu T hR a a0 a1
 have e2:=qIu T hR a n a0 a1 h0 h1
 rw[qab T (hR 1064 qkL rfl) rfl];simp[qkL,e1,e2]
theorem qxB (T:Tab) (hR:HR T) (z:Int) (h0 : -170141183460469231731687303715884105728≤z) (h1:z<170141183460469231731687303715884105728):T.val 1063 [(Wd z).dv]=some (qfD z):=by
 obtain⟨a,ea,a1,a2⟩:=qfJ z;have e1:=qgu T hR (IntKind.i64.wrap a.Lo) (by rw[wI];omega) (by rw[wI];omega)
 obtain⟨b,eb,b1,b2⟩:=qfJ (IntKind.i64.wrap a.Lo);rw[eb] at e1;have e2:=qpN b a
 rw[qab T (hR 1063 qjy rfl) rfl,ea];rw[wI] at b1 b2;by_cases h : -9223372036854775808≤z∧z<9223372036854775808
 ·have e3:(b.Hi==a.Hi&&(b.Lo==a.Lo&&true))=true:=by simp;omega
  rw[e3] at e2;rw[qfD,if_pos h];simp[qjy,e1,↓qaz e2];rw[wI];omega
 ·have e3:(b.Hi==a.Hi&&(b.Lo==a.Lo&&true))=false:=by simp;omega
  rw[e3] at e2;rw[qfD,if_neg h];simp[qjy,e1,↓qaz e2]
end Go.Sim
end
end
section
namespace Go.Sim
structure Quo (M n:Int) (s:Nat) (v q r w P Q:Int):Prop where
 s1:s≤128
 w0:0≤w
 w1:w<P
 q0:0≤q
 r0:0≤r
 r1:r<n
 e:(q*n+r)*P+w=M
 v:v=w*Q
 pq:P*Q=340282366920938463463374607431768211456
 p0:0<P
 z0:0<Q
 pp:P=2^(128-s)
theorem Quo.step {M n:Int} {s:Nat} {v q r w P Q:Int} (h:Quo M n s v q r w P Q) (hs:s<128) (M1:M<340282366920938463463374607431768211456) (n1:n<9223372036854775808) :
  0≤v∧v<340282366920938463463374607431768211456∧q+q<340282366920938463463374607431768211455 ∧
  ∃b w' P',b=(if 9223372036854775808≤v/18446744073709551616 then 1 else 0) ∧
   Quo M n (s+1) ((v+v)%340282366920938463463374607431768211456) (if n≤r*2+b then q+q+1 else q+q) (if n≤r*2+b then r*2+b-n else r*2+b) w' P' (Q*2):=by
 obtain⟨s1,w0,w1,q0,r0,r1,e,hv,pq,p0,z0,pp⟩:=h;obtain⟨p,hp,hp0,hpp⟩ : ∃p,P=p*2∧0<p∧p=2^(128-(s+1)):=by
  refine⟨2^(128-(s+1)),?_,Int.pow_pos (by decide),rfl⟩
  rw[pp,←Int.pow_succ];congr 1;omega
 subst hp;have pq':p*Q*2=340282366920938463463374607431768211456:=by rw[←pq];ac_rfl
 have v0:0≤v:=by rw[hv];exact Int.mul_nonneg w0 (by omega)
 have v1:v<340282366920938463463374607431768211456:=by
  rw[hv,←pq];exact Int.mul_lt_mul_of_pos_right w1 z0
 have bit:9223372036854775808≤v/18446744073709551616↔p≤w:=by
  have hh:(170141183460469231731687303715884105728:Int)=p*Q:=by omega
  have:9223372036854775808≤v/18446744073709551616↔170141183460469231731687303715884105728≤v:=by omega
  rw[this,hv,hh];exact⟨fun g=>Int.not_lt.1 fun g'=>absurd (Int.mul_lt_mul_of_pos_right g' z0) (by omega),fun g=>Int.mul_le_mul_of_nonneg_right g (by omega)⟩
 have qn:q≤q*n:=by have:=Int.mul_le_mul_of_nonneg_left (show 1≤n by omega) q0;omega
 have qq:q+q<340282366920938463463374607431768211455:=by
  have h1:(q*n+r)*2≤(q*n+r)*(p*2):=Int.mul_le_mul_of_nonneg_left (by omega) (by omega)
  omega
 have e1:(q*n+r)*(p*2)=(q*n*2+r*2)*p:=by rw[←Int.add_mul];ac_rfl
 have hd:v+v=w*(Q*2):=by rw[hv,←Int.two_mul];ac_rfl
 have hpq:p*(Q*2)=340282366920938463463374607431768211456:=by rw[←pq];ac_rfl
 refine⟨v0,v1,qq,_,(if p≤w then w-p else w),p,rfl,?_⟩
 have e2:(q*n*2+(r*2+if 9223372036854775808≤v/18446744073709551616 then 1 else 0))*p+(if p≤w then w-p else w)=M:=by
  by_cases hw:p≤w
  ·rw[if_pos hw,if_pos (bit.2 hw),←Int.add_assoc,Int.add_mul,←e1];omega
  ·rw[if_neg hw,if_neg (fun h=>hw (bit.1 h)),Int.add_zero,←e1];exact e
 have e3:(v+v)%340282366920938463463374607431768211456=(if p≤w then w-p else w)*(Q*2):=by
  by_cases hw:p≤w
  ·rw[if_pos hw,hd,Int.sub_mul,hpq];rw[←hd];omega
  ·rw[if_neg hw,hd];have:w*(Q*2)<p*(Q*2):=Int.mul_lt_mul_of_pos_right (by omega) (by omega)
   rw[hpq] at this;exact Int.emod_eq_of_lt (by rw[←hd];omega) this
 have b0:0≤(if 9223372036854775808≤v/18446744073709551616 then (1:Int) else 0)∧(if 9223372036854775808≤v/18446744073709551616 then (1:Int) else 0)≤1:=by split<;>omega
 generalize (if 9223372036854775808≤v/18446744073709551616 then (1:Int) else 0)=b at *
 generalize hw':(if p≤w then w-p else w)=w' at *
 have w0':0≤w':=by rw[←hw'];split<;>omega
 have w1':w'<p:=by rw[←hw'];split<;>omega
 refine⟨by omega,w0',w1',by split<;>omega,by split<;>omega,by split<;>omega,?_,e3,hpq,hp0,by omega,hpp⟩
 rw[←e2];congr 2
 split
 ·rw[Int.add_mul,Int.add_mul];omega
 ·rw[Int.add_mul];omega
theorem Quo.done {M n:Int} {v q r w P Q:Int} (h:Quo M n 128 v q r w P Q):q=M/n∧r=M%n:=by
 obtain⟨s1,w0,w1,q0,r0,r1,e,hv,pq,p0,z0,pp⟩:=h;have pp:P=1:=pp
 subst pp;have hn:n≠0:=by omega
 have e:n*q+r=M:=by rw[Int.mul_comm];omega
 have:=Int.emod_add_mul_ediv M n
 constructor
 ·rw[←e,Int.add_comm,Int.add_mul_ediv_left _ _ hn,Int.ediv_eq_zero_of_lt r0 r1,Int.zero_add]
 ·rw[←e,Int.add_comm,Int.add_mul_emod_self_left,Int.emod_eq_of_lt r0 r1]
end Go.Sim
end
section
open Go.Sim
attribute [local simp ↓] qd4 qd2 qdU qd3 qdR qdV qdS qdT sqK blK lpK qd9 qd7 qd5 qd8 qd6 qdN qdP qeC qdv qdt qdu qdy qcZ qc0 qcJ qcM qcY qc2 qcL qc3 qcS qcU qcV qcW qc1 qcX qcK qcN qcO qcP qcT qdr qdo qc5 qc4 qdd qc6 qbP qbW qc7 qc8 qeb qcB qea qeA qcE qdj qdk qde qdg qdf qcq qds qcs qda qdn qdi qdh qdc qdb qdm qdp qc9 qdl qdO qcp qcC qdE qeh qcc qdF qct qcu qdq qch qez qcQ qdw qdx qee qeB qec qdW qdX qdY qdZ qd0 qd1 qcR qdD qeF qeS qeT qeQ qeR qeP qeE qeW qeU qe1 qeV qe6 qfh qcr
attribute [local simp] qb3 qef qeg qdI qdJ qdz qdA qex qey qdG qdH rd IOp.adds qaw gh nid rgK rdS qdK qdL qei qej qeo qep qes qen qer qeq qcH qcF qcG qel qek qdC qdB qeu qet qev qew qeJ qeI qeK qbA qeN qeH qeO qe4 qe0 qe3 qe2
section
namespace Go.Sim
attribute [local simp ↓] qbh qbj qbb qbB qbi qbK qa8 qba qbr qbD qbE qbt qbu qa9 qbz qbe qbJ qbG qbg qbI qbH qby qbF qaF qaW qan qaq qap
attribute [local simp] qbc qaT writeS touchS qax qaI chg qaZ qaO qaE qaP PV.refs PV.refsL IOp.okD IOp.barr qbo Nat.testBit putAt mkA qag qak qas qam Fr.ofArgs
set_option maxRecDepth 10000
set_option maxHeartbeats 4000000
theorem qIB (T:Tab) (hR:HR T) (M n:Int) (M0:0≤M) (M1:M<340282366920938463463374607431768211456) (n0:0<n) (n1:n<9223372036854775808):T.val 1077 [(Sz M).dv,.i .u64 n]=some (.t [.d (Sz (M/n)).dv,.d (.i .u64 (M%n))],false):=by
 rw[qab T (hR 1077 F1077 rfl) rfl];have hz:DV.a [.i .u64 0,.i .u64 0]=(Sz 0).dv:=rfl
 have hst:Quo M n 0 M 0 0 M 340282366920938463463374607431768211456 1:=⟨by omega,M0,M1,by omega,by omega,n0,by omega,by omega,by omega,by omega,by omega,by decide⟩
 simp[F1077];refine qbN (fun p:Nat×Int×Int×Int=>⟨[(8,.d (I p.1)),(7,.d (.i .u64 p.2.2.2)),(6,.p 0 0 0),(4,.p 1 0 0),(2,.p 2 0 0),(1,.d (.i .u64 n))],[some (.box (K1 2) (.d (Sz p.2.2.1).dv)),some (.box (K1 2) (.d (Sz 0).dv)),some (.box (K1 2) (.d (Sz p.2.1).dv))]⟩) (fun p=>∃w P Q,Quo M n p.1 p.2.1 p.2.2.1 p.2.2.2 w P Q) (fun p=>128-p.1) ?_ (0,M,0,0) ⟨_,_,_,hst⟩ ?_
 ·rintro B-⟨s,v,q,r⟩ ⟨w,P,Q,ht⟩ hx;simp only at ht hx⊢;have hx':=fun (s':Nat×Int×Int×Int)=>hx s'
  clear hx
  by_cases c:s<128
  ·obtain⟨v0,v1,b1,b,w',P',hb,ht'⟩:=ht.step c M1 n1;have q0:=ht.q0
   have r0:=ht.r0
   have r1:=ht.r1
   have e0:=qxG T hR v v0 v1
   have e1:=qxG T hR q q0 (by omega)
   rw[Int.emod_eq_of_lt (by omega) (by omega),decide_eq_true (by omega)] at e1
   obtain⟨a,ea,a1,a2⟩:=qgc v;have e2:=qbC a.h (by omega) (by omega)
   have e3:qa1 .shl (.d (.i .u64 r)) (.d (.i .u64 1))=some (.i .u64 (r*2^1%18446744073709551616)):=ql9 r 1 (by omega)
   rw[show r*2^1%18446744073709551616=r*2 by omega] at e3
   have c':(s:Int)<128:=by omega
   have w1:IntKind.i64.wrap ((s:Int)+1)=((s+1:Nat):Int):=by rw[wI];omega
   generalize (v+v)%340282366920938463463374607431768211456=u at e0 ht';generalize decide (v+v<340282366920938463463374607431768211456)=z at e0;obtain⟨d,ed,d1,d2⟩:=qgc (q+q);rw[ed] at e1;have hq:DV.a [.i .u64 d.h,.i .u64 (IntKind.u64.wrap (d.l+1))]=(Sz (q+q+1)).dv:=sz0 (by omega) (by rw[wU];omega)
   rw[←a1] at hb;rw[ea] at e0⊢;have hcl:(PV.d d.dv).cells=[.d (.i .u64 d.h),.d (.i .u64 d.l)]:=rfl
   have hmk : ∀x:Int,mkP (K1 2) [.d (.i .u64 d.h),.d (.i .u64 x)]=some (.d (.a [.i .u64 d.h,.i .u64 x])):=fun _=>rfl
   have w3:IntKind.u64.wrap (r*2+1)=r*2+1:=wrU (by omega) (by omega)
   by_cases h1:9223372036854775808≤a.h
   ·rw[if_pos h1] at hb e2;subst hb;by_cases h2:n≤r*2+1
    ·rw[if_pos h2,if_pos h2] at ht';have w4:IntKind.u64.wrap (r*2+1-n)=r*2+1-n:=wrU (by omega) (by omega)
     simp[c',e0,e1,↓qaz e2,↓qaz e3,w1,w3,h2,w4,hcl,hmk,hq];exact hx' (s+1,u,q+q+1,r*2+1-n) ⟨_,_,_,ht'⟩ (by simp only;omega) _ _ (by simp[gc,Fr.keep,qaf,qae,qad,PV.refs,qah,gcH,qaj,Obj.refs,PV.ren,Obj.ren,Heap.obj,Fr.ren,gh,zzd])
    ·rw[if_neg h2,if_neg h2] at ht';simp[c',e0,e1,↓qaz e2,↓qaz e3,w1,w3,h2];rw[←ed];exact hx' (s+1,u,q+q,r*2+1) ⟨_,_,_,ht'⟩ (by simp only;omega) _ _ (by simp[gc,Fr.keep,qaf,qae,qad,PV.refs,qah,gcH,qaj,Obj.refs,PV.ren,Obj.ren,Heap.obj,Fr.ren,gh,zzd])
   ·rw[if_neg h1] at hb e2;subst hb;rw[Int.add_zero] at ht';by_cases h2:n≤r*2
    ·rw[if_pos h2,if_pos h2] at ht';have w4:IntKind.u64.wrap (r*2-n)=r*2-n:=wrU (by omega) (by omega)
     simp[c',e0,e1,↓qaz e2,↓qaz e3,w1,h2,w4,hcl,hmk,hq];exact hx' (s+1,u,q+q+1,r*2-n) ⟨_,_,_,ht'⟩ (by simp only;omega) _ _ (by simp[gc,Fr.keep,qaf,qae,qad,PV.refs,qah,gcH,qaj,Obj.refs,PV.ren,Obj.ren,Heap.obj,Fr.ren,gh,zzd])
    ·rw[if_neg h2,if_neg h2] at ht';simp[c',e0,e1,↓qaz e2,↓qaz e3,w1,h2];rw[←ed];exact hx' (s+1,u,q+q,r*2) ⟨_,_,_,ht'⟩ (by simp only;omega) _ _ (by simp[gc,Fr.keep,qaf,qae,qad,PV.refs,qah,gcH,qaj,Obj.refs,PV.ren,Obj.ren,Heap.obj,Fr.ren,gh,zzd])
  ·have h64:s=128:=by have:=ht.s1;omega
   subst h64;obtain⟨d1,d2⟩:=ht.done;subst d1;subst d2
   simp
 ·simp[gc,Fr.keep,qaf,qae,qad,PV.refs,qah,gcH,qaj,Obj.refs,PV.ren,Obj.ren,Heap.obj,Fr.ren,gh,zzd,hz]
end Go.Sim
end
section
namespace Go.Sim
attribute [local simp ↓] qbh qbj qbb qbB qbi qbK qa8 qba qbr qbD qbE qbt qbu qa9 qbz qbe qbJ qbG qbU qbT qbg qbI qbH qby qbF qaF qaW qan qaq qap
attribute [local simp] qbc qaT writeS touchS qax qaI chg qaZ qaO qaE qaP PV.refs PV.refsL IOp.okD IOp.barr qbo Nat.testBit putAt mkA qag qak qas qam Fr.ofArgs
set_option maxRecDepth 10000
set_option maxHeartbeats 4000000
theorem qIw (T:Tab) (hR:HR T) (z n:Int) (h0 : -170141183460469231731687303715884105728<z) (h1:z<170141183460469231731687303715884105728) (n0:0<n) (n1:n<9223372036854775808):T.val 1073 [(Wd z).dv,I n]=some (.t [.d (Wd (z/n)).dv,.d (I (z%n)),.d (I 0)],false):=by
 have a0:0≤aI z:=by unfold aI;split<;>omega
 have a1:aI z<170141183460469231731687303715884105728:=by unfold aI;split<;>omega
 have e1:=qky T hR z (by omega) h1
 have e2:=qIB T hR (aI z) n a0 (by omega) n0 n1
 have w1:IntKind.u64.wrap n=n:=wrU (by omega) (by omega)
 have c1 : ¬n<1:=by omega
 have r0:=Int.emod_nonneg (aI z) (b:=n) (by omega)
 have r1:=Int.emod_lt_of_pos (aI z) n0
 have q0:0≤aI z/n:=Int.ediv_nonneg a0 (by omega)
 have q1:aI z/n≤aI z:=Int.ediv_le_self n a0
 have hw : ∀x:Int,0≤x→x<9223372036854775808→IntKind.i64.wrap x=x:=fun x _ _=>by rw[wI];omega
 have h1s:DV.a [.i .u64 0,.i .u64 1]=(Sz 1).dv:=rfl
 rw[qab T (hR 1073 qiH rfl) rfl];by_cases h:z<0
 ·have ha:=qe8 h
  have hz:z = - aI z:=by omega
  rw[decide_eq_true h] at e1;by_cases g:aI z%n=0
  ·obtain⟨d1,d2⟩:=qrI n0 g;rw[←hz] at d1 d2;have e3:=qmd T hR (aI z/n) true q0 (by omega)
   rw[if_pos rfl,←d1] at e3;simp[qiH,c1,e1,w1,e2,g,e3,d2,hw 0 (by omega) (by omega)]
  ·obtain⟨d1,d2⟩:=qrJ n0 g;rw[←hz] at d1 d2;have n2:2≤n:=by
    rcases (show n=1∨2≤n by omega) with rfl|h
    ·rw[Int.emod_one] at g;exact absurd rfl g
    ·exact h
   have hh:=qni a0 n2
   have e4:=qmc T hR (aI z/n) 1 q0 (by omega) (by omega) (by omega)
   rw[Int.emod_eq_of_lt (by omega) (by omega),decide_eq_true (by omega)] at e4
   have e3:=qmd T hR (aI z/n+1) true (by omega) (by omega)
   rw[if_pos rfl,←d1] at e3;have g0:0<aI z%n:=by omega
   have w2:IntKind.u64.wrap (n-aI z%n)=n-aI z%n:=wrU (by omega) (by omega)
   have w3:=hw (n-aI z%n) (by omega) (by omega)
   simp[qiH,c1,e1,w1,e2,g0,h1s,e4,w2,w3,e3,d2]
 ·have ha:=qgS h
  rw[decide_eq_false h] at e1;have e3:=qmd T hR (aI z/n) false q0 (by omega)
  rw[if_neg (by decide)] at e3
  rw[ha] at e1 e2 e3 r0 r1;simp[qiH,c1,e1,w1,e2,e3,hw (z%n) r0 (by omega)]
theorem qIv (T:Tab) (hR:HR T) (m:Int) (h:1≤m∧m≤6):T.val 1072 [I m]=some (.d (.b true),false):=by
 rw[qab T (hR 1072 qkQ rfl) rfl];simp[qkQ,h.1,h.2]
end Go.Sim
end
section
namespace Go.Sim
attribute [local simp ↓] qbh qbj qbb qbB qbi qbK qa8 qba qbr qbD qbE qbt qbu qa9 qbz qbe qbJ qbG qbU qbT qbg qbI qbH qby qbF qaF qaW qan qaq qap
attribute [local simp] qbc qaT writeS touchS qax qaI chg qaZ qaO qaE qaP PV.refs PV.refsL IOp.okD IOp.barr qbo Nat.testBit putAt mkA qag qak qas qam Fr.ofArgs
set_option maxRecDepth 10000
set_option maxHeartbeats 4000000
theorem qIy (T:Tab) (hR:HR T) (g o:Bool) (r n:Int) (r0:0≤r) (r1:r<n) (n1:n<9223372036854775808):T.val 1074 [.b g,.b o,I r,I n,I 6]=some (.d (.b (decide (n-r<r∨r=n-r∧o=true))),false):=by
 have w:IntKind.i64.wrap (n-r)=n-r:=wrI (by omega) (by omega)
 rw[qab T (hR 1074 qhX rfl) rfl];by_cases h:r=n-r
 ·have h2 : ¬n-r<r:=by omega
  have h3:(r==n-r)=true:=beq_iff_eq.2 h
  have e:decide (n-r<r∨r=n-r∧o=true)=o:=by
   cases o
   ·exact decide_eq_false fun g=>g.elim h2 fun k=>by cases k.2
   ·exact decide_eq_true (.inr ⟨h,rfl⟩)
  rw[e];simp[qhX,w,h3,bne]
 ·have h3:(r==n-r)=false:=beq_eq_false_iff_ne.2 h
  have e:decide (n-r<r∨r=n-r∧o=true)=decide (n-r<r):=decide_eq_decide.2 ⟨fun g=>g.elim id fun k=>absurd k.1 h,.inl⟩
  rw[e];simp[qhX,w,h3,bne]
theorem qIx (T:Tab) (hR:HR T) (g o:Bool) (r n:Int):T.val 1074 [.b g,.b o,I r,I n,I 1]=some (.d (.b g),false):=by
 rw[qab T (hR 1074 qhX rfl) rfl];simp[qhX]
theorem qG3 {z n:Int} (h0 : -170141183460469231731687303715884105728<z) (h1:z<170141183460469231731687303715884105728) (n0:0<n) : -170141183460469231731687303715884105728<z/n∧z/n<170141183460469231731687303715884105728∧(0<z%n→z/n+1<170141183460469231731687303715884105728):=by
 rcases (show n=1∨2≤n by omega) with rfl|h
 ·rw[Int.ediv_one,Int.emod_one];omega
 ·by_cases hz:0≤z
  ·have:=qni hz h
   have:=Int.ediv_nonneg hz (show 0≤n by omega)
   omega
  ·have h2:z≤z/n:=by
    rw[Int.le_ediv_iff_mul_le n0]
    have:=Int.mul_le_mul_of_nonneg_left (show 1≤n by omega) (show 0≤-z by omega)
    rw[Int.neg_mul,Int.neg_mul] at this;omega
   have:=Int.ediv_neg_of_neg_of_pos (show z<0 by omega) n0
   omega
theorem qxC (T:Tab) (hR:HR T) (z n m:Int) (u:Bool) (h0 : -170141183460469231731687303715884105728<z) (h1:z<170141183460469231731687303715884105728) (n0:0<n) (n1:n<9223372036854775808) (hm:1≤m∧m≤6)
  (hu:T.val 1074 [.b (decide (z<0)),.b ((z/n)%2==1),I (z%n),I n,I m]=some (.d (.b u),false)):T.val 1065 [(Wd z).dv,I n,I m]=some (qfG (z/n+if 0<z%n∧u=true then 1 else 0)):=by
 have e0:=qIw T hR z n h0 h1 n0 n1
 have e1:=qIv T hR m hm
 have e2:=qgu T hR 1 (by decide) (by decide)
 have c1 : ¬n<1:=by omega
 obtain⟨q0,q1,q2⟩:=qG3 h0 h1 n0;have eI : ∀x:Int,-170141183460469231731687303715884105728<x→x<170141183460469231731687303715884105728→T.val 1063 [(Wd x).dv]=some (qfD x):=fun x a b=>qxB T hR x (by omega) b
 have e5:=fun h=>qxw T hR (z/n) 1 (by omega) (by omega) (by omega) (by omega) (by omega) h
 obtain⟨a,ea,a1,a2⟩:=qfJ z;obtain⟨b,eb,b1,b2⟩:=qfJ (z/n);have e3:=qsb b.Lo 2 (by omega) (by omega)
 rw[show (z/n)%2=b.Lo%2 by omega,show decide (z<0)=decide (a.Hi<0) from decide_eq_decide.2 (by omega)] at hu
 rw[qab T (hR 1065 qg6 rfl) rfl,ea];rw[ea,eb] at e0;rw[eb] at e5;by_cases g:0<z%n
 ·have e5:=e5 (q2 g)
  cases u
  ·have e6:=eI (z/n) q0 q1
   rw[eb,qfD] at e6;rw[if_neg (by simp),Int.add_zero,qfG]
   generalize z/n=q at *
   generalize z%n=r at *
   by_cases k : -9223372036854775808≤q∧q<9223372036854775808
   ·rw[if_pos k] at e6⊢;simp[-qbW,-qbP,qg6,c1,e1,e0,g,↓qaz e3,hu,e6]
   ·rw[if_neg k] at e6⊢;simp[-qbW,-qbP,qg6,c1,e1,e0,g,↓qaz e3,hu,e6]
  ·have e6:=eI (z/n+1) (by omega) (q2 g)
   rw[qfD] at e6;rw[if_pos ⟨g,rfl⟩,qfG];generalize hq:z/n+1=q at *
   generalize z%n=r at *
   by_cases k : -9223372036854775808≤q∧q<9223372036854775808
   ·rw[if_pos k] at e6⊢;simp[-qbW,-qbP,qg6,c1,e1,e0,g,↓qaz e3,hu,e2,e5,e6]
   ·rw[if_neg k] at e6⊢;simp[-qbW,-qbP,qg6,c1,e1,e0,g,↓qaz e3,hu,e2,e5,e6]
 ·have e6:=eI (z/n) q0 q1
  rw[eb,qfD] at e6;rw[if_neg (fun h=>g h.1),Int.add_zero,qfG]
  generalize z/n=q at *
  generalize z%n=r at *
  by_cases k : -9223372036854775808≤q∧q<9223372036854775808
  ·rw[if_pos k] at e6⊢;simp[-qbW,-qbP,qg6,c1,e1,e0,g,e6]
  ·rw[if_neg k] at e6⊢;simp[-qbW,-qbP,qg6,c1,e1,e0,g,e6]
end Go.Sim
end
section
namespace Go.Sim
attribute [local simp ↓] qbh qbj qbb qbB qbi qbK qa8 qba qbr qbD qbE qbt qbu qa9 qbz qbe qbU qbT qfm qbJ qbG qfv qfu qbg qfi qbQ qfj qfl qfk qbI qbH qfo qfq qft qfs qfr qfn qfp qfw qby qbF
attribute [local simp] qbc qaT writeS touchS qax qaI chg qaZ qaO qaE qaP PV.refs PV.refsL IOp.okD IOp.barr qbo Nat.testBit
set_option maxRecDepth 10000
set_option maxHeartbeats 4000000
def qbZ (x:Int):Int×Int:=if -9223372036854775808≤x∧x<9223372036854775808 then (x,0) else (0,6)
def two (p:Int×Int):PV×Bool:=(.t [.d (I p.1),.d (I p.2)],false)
theorem qrH (x:Int):qfG x=two (qbZ x):=by unfold qfG qbZ;split<;>rfl
theorem qog (T:Tab) (hT:HT T) (z:Int) (h0 : -170141183460469231731687303715884105728≤z) (h1:z<170141183460469231731687303715884105728):T.val 997 [(Wd z).dv,I 0]=some (two (qbZ z)):=by
 have e:=qsw T hT z h0 h1
 rw[qfD] at e;obtain⟨a,ea⟩ : ∃a,Wd z=a:=⟨_,rfl⟩;rw[ea] at e⊢;rw[qab T (hT 997 qjM rfl) rfl];by_cases h : -9223372036854775808≤z∧z<9223372036854775808
 ·rw[if_pos h] at e;rw[qbZ,if_pos h];simp[qjM,Fr.ofArgs,e,two]
 ·rw[if_neg h] at e;rw[qbZ,if_neg h];simp[qjM,Fr.ofArgs,e,two]
theorem qKc (T:Tab) (hT:HT T) (b:Bool):T.val 996 [.b b]=some (.d (I (if b=true then 1 else 0)),false):=by
 rw[qab T (hT 996 qjL rfl) rfl];cases b with
 |true=>simp[qjL,Fr.ofArgs]
 |false=>simp[qjL,Fr.ofArgs]
def okV (v:AValue):Bool :=
 if v.Typ=1 then true
 else if v.Typ=2 then decide (-1000000000000≤v.N)&&decide (v.N≤1000000000000)
 else if v.Typ=3 then decide (-1000000000≤v.N)&&decide (v.N≤1000000000)
 else if v.Typ=4 then decide (0≤v.N)&&decide (v.N≤73048)
 else if v.Typ=5 then decide (v.N=0)||decide (v.N=1)
 else false
theorem qsC (T:Tab) (hT:HT T) (v:AValue):T.val 966 [v.dv]=some (.d (.b (okV v)),false):=by
 rw[qab T (hT 966 qfN rfl) rfl];unfold okV;by_cases h1:v.Typ=1
 ·simp[qfN,Fr.ofArgs,h1]
 ·have g1:=qac h1
  by_cases h2:v.Typ=2
  ·by_cases c : -1000000000000≤v.N
   ·simp[qfN,Fr.ofArgs,h2,c]
   ·simp[qfN,Fr.ofArgs,h2,c]
  ·have g2:=qac h2
   by_cases h3:v.Typ=3
   ·by_cases c : -1000000000≤v.N
    ·simp[qfN,Fr.ofArgs,h3,c]
    ·simp[qfN,Fr.ofArgs,h3,c]
   ·have g3:=qac h3
    by_cases h4:v.Typ=4
    ·by_cases c:0≤v.N
     ·simp[qfN,Fr.ofArgs,h4,c]
     ·simp[qfN,Fr.ofArgs,h4,c]
    ·have g4:=qac h4
     by_cases h5:v.Typ=5
     ·by_cases c:v.N=0
      ·simp[qfN,Fr.ofArgs,h5,c]
      ·have g:=qac c
       by_cases d:v.N=1
       ·simp[qfN,Fr.ofArgs,h5,d]
       ·have g':=qac d
        simp[qfN,Fr.ofArgs,h5,c,g,d,g']
     ·have g5:=qac h5
      simp[qfN,Fr.ofArgs,h1,h2,h3,h4,h5,g1,g2,g3,g4,g5]
def AValue.i (v:AValue):Prop:=-9223372036854775808≤v.N∧v.N<9223372036854775808
theorem qvO {x y:Int} (x0 : -9223372036854775808≤x) (x1:x<9223372036854775808) (y0 : -9223372036854775808≤y) (y1:y<9223372036854775808) : -170141183460469231731687303715884105728≤x*y∧x*y<170141183460469231731687303715884105728:=by
 have ha:0≤aI x∧aI x≤9223372036854775808:=by unfold aI;split<;>omega
 have hb:0≤aI y∧aI y≤9223372036854775808:=by unfold aI;split<;>omega
 have p0:0≤aI x*aI y:=Int.mul_nonneg ha.1 hb.1
 have p1:aI x*aI y≤9223372036854775808*9223372036854775808:=qlT ha.2 hb.2 hb.1 (by omega)
 rw[qnH x y];generalize aI x*aI y=P at *
 split<;>omega
def qis (a b:AValue):Int×Int:=if a.Typ=b.Typ∨a.Typ=1∨b.Typ=1 then qbZ (a.N*b.N) else qbZ (qb1 (a.N*b.N) 1000000)
theorem qKd (T:Tab) (hT:HT T) (a b:AValue) (ha:a.i) (hb:b.i):T.val 998 [a.dv,b.dv]=some (two (qis a b)):=by
 have e37:=qIT T hT a.N b.N ha.1 ha.2 hb.1 hb.2
 obtain⟨m0,m1⟩:=qvO ha.1 ha.2 hb.1 hb.2;unfold qis;generalize a.N*b.N=P at *
 have e36:=qsv T hT P 1000000 m0 m1 (by omega) (by omega)
 have e997:=qog T hT P m0 m1
 rw[qrH] at e36;generalize Wd P=w at *
 generalize qbZ (qb1 P 1000000)=p at *
 generalize qbZ P=p2 at *
 unfold two at *
 rw[qab T (hT 998 qh4 rfl) rfl];by_cases h1:a.Typ=b.Typ
 ·rw[if_pos (.inl h1)];simp[qh4,Fr.ofArgs,bne,e37,e997,h1]
 ·have g1:=qac h1
  by_cases h2:a.Typ=1
  ·rw[if_pos (.inr (.inl h2))];rw[h2] at h1 g1;simp[qh4,Fr.ofArgs,bne,e37,e997,h2,g1]
  ·have g2:=qac h2
   by_cases h3:b.Typ=1
   ·rw[if_pos (.inr (.inr h3))];simp[qh4,Fr.ofArgs,bne,e37,e997,h3,g2]
   ·have g3:=qac h3
    rw[if_neg (fun h=>by rcases h with h|h|h<;>first|exact h1 h|exact h2 h|exact h3 h)]
    simp[qh4,Fr.ofArgs,bne,e37,e36,g1,g2,g3]
def qhq (a b:AValue):Int×Int :=
 if a.Typ=b.Typ then (if a.N = -9223372036854775808∧b.N = -1 then (0,6) else (IntKind.i64.wrap (a.N.tdiv b.N),0))
 else if b.N = -9223372036854775808 then (0,0)
 else if b.N<0 then qbZ (qb1 (IntKind.i64.wrap (-a.N)) (-b.N)) else qbZ (qb1 a.N b.N)
theorem qKe (T:Tab) (hT:HT T) (a b:AValue) (ha:a.i) (hb:b.i) (h0:b.N≠0):T.val 999 [a.dv,b.dv]=some (two (qhq a b)):=by
 unfold AValue.i at ha hb;unfold qhq;rw[qab T (hT 999 qg7 rfl) rfl];by_cases h1:a.Typ=b.Typ
 ·rw[if_pos h1];by_cases h2:a.N = -9223372036854775808
  ·by_cases h3:b.N = -1
   ·rw[if_pos ⟨h2,h3⟩];simp[qg7,Fr.ofArgs,h1,h2,h3,two]
   ·have g3:=qac h3
    rw[if_neg (fun h=>h3 h.2)]
    simp[qg7,Fr.ofArgs,h1,h2,g3,h0,two]
  ·have g2:=qac h2
   rw[if_neg (fun h=>h2 h.1)]
   simp[qg7,Fr.ofArgs,h1,g2,h0,two]
 ·have g1:=qac h1
  rw[if_neg h1];by_cases h2:b.N = -9223372036854775808
  ·rw[if_pos h2];simp[qg7,Fr.ofArgs,g1,h2,two]
  ·have g2:=qac h2
   rw[if_neg h2];by_cases h3:b.N<0
   ·rw[if_pos h3];obtain⟨m,hm⟩ : ∃m,IntKind.i64.wrap (-a.N)=m:=⟨_,rfl⟩;have hm2:=hm
    rw[wI] at hm2;have wb:IntKind.i64.wrap (-b.N) = -b.N:=wrI (by omega) (by omega)
    have e44:=qiy T hT m (by omega) (by omega)
    have e36:=qsv T hT m (-b.N) (by omega) (by omega) (by omega) (by omega)
    rw[qrH] at e36;rw[hm];generalize Wd m=w at *
    generalize qbZ (qb1 m (-b.N))=p at *
    unfold two at *
    simp[qg7,Fr.ofArgs,g1,g2,h3,hm,wb,e44,e36]
   ·rw[if_neg h3];have e44:=qiy T hT a.N ha.1 ha.2
    have e36:=qsv T hT a.N b.N (by omega) (by omega) (by omega) (by omega)
    rw[qrH] at e36;generalize Wd a.N=w at *
    generalize qbZ (qb1 a.N b.N)=p at *
    unfold two at *
    simp[qg7,Fr.ofArgs,g1,g2,h3,e44,e36]
def qgU (op:Int) (a b:AValue):Int×Int :=
 if op=5 then qbZ (a.N+b.N) else if op=6 then qbZ (a.N-b.N) else if op=7 then qis a b else if b.N=0 then (0,7) else qhq a b
theorem qHO {x y:Int} (x0 : -9223372036854775808≤x) (x1:x<9223372036854775808) (y0 : -9223372036854775808≤y) (y1:y<9223372036854775808):qgb (x+y)=(.t [.d (Wd (x+y)).dv,.d (I 0)],false)∧qgb (x-y)=(.t [.d (Wd (x-y)).dv,.d (I 0)],false):=by
 constructor<;>rw[qgb,if_pos (by omega)]
theorem qJ9 (T:Tab) (hT:HT T) (op:Int) (a b:AValue) (t:Bool) (ha:a.i) (hb:b.i) (h9:op≠9):T.val 984 [I op,.l (K1 2) [a.dv,b.dv] t]=some (two (qgU op a b)):=by
 have g9:=qac h9
 unfold AValue.i at *
 obtain⟨s1,s2⟩:=qHO ha.1 ha.2 hb.1 hb.2;have e31:=qxI T hT a.N b.N (by omega) (by omega) (by omega) (by omega)
 have e42:=qxR T hT a.N b.N (by omega) (by omega) (by omega) (by omega)
 rw[s1] at e31;rw[s2] at e42;have ea:=qiy T hT a.N ha.1 ha.2
 have eb:=qiy T hT b.N hb.1 hb.2
 have e1:=qog T hT (a.N+b.N) (by omega) (by omega)
 have e2:=qog T hT (a.N-b.N) (by omega) (by omega)
 unfold qgU;rw[qab T (hT 984 qgR rfl) rfl];by_cases h5:op=5
 ·subst h5;rw[if_pos rfl];generalize Wd (a.N+b.N)=w at *
  generalize Wd a.N=wa at *
  generalize Wd b.N=wb at *
  generalize qbZ (a.N+b.N)=p at *
  unfold two at *
  simp[qgR,Fr.ofArgs,ea,eb,e31,e1]
 ·have g5:=qac h5
  rw[if_neg h5];by_cases h6:op=6
  ·subst h6;rw[if_pos rfl];generalize Wd (a.N-b.N)=w at *
   generalize Wd a.N=wa at *
   generalize Wd b.N=wb at *
   generalize qbZ (a.N-b.N)=p at *
   unfold two at *
   simp[qgR,Fr.ofArgs,ea,eb,e42,e2]
  ·have g6:=qac h6
   rw[if_neg h6];by_cases h7:op=7
   ·subst h7;rw[if_pos rfl];have e:=qKd T hT a b ha hb
    generalize qis a b=p at *
    unfold two at *
    simp[qgR,Fr.ofArgs,e]
   ·have g7:=qac h7
    rw[if_neg h7];by_cases h0:b.N=0
    ·rw[if_pos h0];simp[qgR,Fr.ofArgs,g5,g6,g7,g9,h0,two]
    ·have g0:=qac h0
     rw[if_neg h0];have e:=qKe T hT a b ha hb h0
     generalize qhq a b=p at *
     unfold two at *
     simp[qgR,Fr.ofArgs,g5,g6,g7,g9,g0,e]
theorem qKa (T:Tab) (hT:HT T) (a:AValue) (t:Bool) (ha:a.i):T.val 984 [I 9,.l (K1 2) [a.dv] t]=some (two (qbZ (-a.N))):=by
 unfold AValue.i at *
 have s2:qgb (0-a.N)=(.t [.d (Wd (0-a.N)).dv,.d (I 0)],false):=by rw[qgb,if_pos (by omega)]
 have e42:=qxR T hT 0 a.N (by omega) (by omega) (by omega) (by omega)
 rw[s2] at e42;have e0:=qiy T hT 0 (by omega) (by omega)
 have ea:=qiy T hT a.N ha.1 ha.2
 have e2:=qog T hT (0-a.N) (by omega) (by omega)
 rw[show qbZ (-a.N)=qbZ (0-a.N) by rw[Int.zero_sub]]
 generalize Wd (0-a.N)=w at *
 generalize Wd 0=w0 at *
 generalize Wd a.N=wa at *
 generalize qbZ (0-a.N)=p at *
 unfold two at *
 rw[qab T (hT 984 qgR rfl) rfl];simp[qgR,Fr.ofArgs,e0,ea,e42,e2]
theorem qji (a b:Int):max a b=if a<b then b else a:=by rw[Int.max_def];split<;>split<;>omega
theorem qCT {R:Type} {a b:Int} {d:PV→Option R}:bo (mm2 false (.d (I a)) (.d (I b))) (.h d)=d (.d (I (if b<a then b else a))):=by simp[mm2,bo]
def qe9 (op a b:Int):Int :=
 if op=10 then (if a=b then 1 else 0) else if op=11 then (if a=b then 0 else 1) else if op=12 then (if a<b then 1 else 0) else if op=13 then (if a≤b then 1 else 0)
 else if op=14 then IntKind.i64.wrap (a*b) else if op=15 then (if a<b then b else a) else if op=17 then (if b<a then b else a) else (if a<b then b else a)
theorem qJ6 (T:Tab) (hT:HT T) (op:Int) (a b:AValue) (t:Bool) (h1:op≠16) (h2:op≠19):T.val 983 [I op,.l (K1 2) [a.dv,b.dv] t]=some (.d (I (qe9 op a.N b.N)),false):=by
 have g1:=qac h1
 have g2:=qac h2
 unfold qe9;have e:=fun c=>qKc T hT c
 rw[qab T (hT 983 qcn rfl) rfl];by_cases c1:op=10
 ·subst c1;rw[if_pos rfl]
  by_cases h:a.N=b.N
  ·simp[qcn,Fr.ofArgs,e,h]
  ·have g:=qac h
   simp[qcn,Fr.ofArgs,e,h,g]
 have d1:=qac c1
 rw[if_neg c1];by_cases c2:op=11
 ·subst c2;rw[if_pos rfl]
  by_cases h:a.N=b.N
  ·simp[qcn,Fr.ofArgs,e,h]
  ·have g:=qac h
   simp[qcn,Fr.ofArgs,e,h]
 have d2:=qac c2
 rw[if_neg c2];by_cases c3:op=12
 ·subst c3;rw[if_pos rfl]
  by_cases h:a.N<b.N
  ·simp[qcn,Fr.ofArgs,e,h]
  ·simp[qcn,Fr.ofArgs,e,h]
 have d3:=qac c3
 rw[if_neg c3];by_cases c4:op=13
 ·subst c4;rw[if_pos rfl]
  by_cases h:a.N≤b.N
  ·simp[qcn,Fr.ofArgs,e,h]
  ·simp[qcn,Fr.ofArgs,e,h]
 have d4:=qac c4
 rw[if_neg c4];by_cases c5:op=14
 ·subst c5;rw[if_pos rfl]
  simp[qcn,Fr.ofArgs]
 have d5:=qac c5
 rw[if_neg c5];by_cases c6:op=15
 ·subst c6;rw[if_pos rfl]
  simp[qcn,Fr.ofArgs];exact qji _ _
 have d6:=qac c6
 rw[if_neg c6];by_cases c7:op=17
 ·subst c7;rw[if_pos rfl]
  simp[qcn,Fr.ofArgs,↓qCT]
 have d7:=qac c7
 rw[if_neg c7];simp[qcn,Fr.ofArgs,g1,g2,d1,d2,d3,d4,d5,d6,d7];exact qji _ _
theorem qJ8 (T:Tab) (hT:HT T) (a:AValue) (t:Bool):T.val 983 [I 16,.l (K1 2) [a.dv] t]=some (.d (I (IntKind.i64.wrap (1-a.N))),false):=by
 rw[qab T (hT 983 qcn rfl) rfl];simp[qcn,Fr.ofArgs]
theorem qJ7 (T:Tab) (hT:HT T) (a b c:AValue) (t:Bool):T.val 983 [I 19,.l (K1 2) [a.dv,b.dv,c.dv] t]=some (.d (I (if a.N=1 then b.N else c.N)),false):=by
 rw[qab T (hT 983 qcn rfl) rfl];by_cases h:a.N=1
 ·simp[qcn,Fr.ofArgs,h]
 ·have g:=qac h
  simp[qcn,Fr.ofArgs,h,g]
end Go.Sim
end
end
