/- Part 21 of the proof. -/
import Derived.Test.YtmaaepdecdhmnaaGreatDoorB3
import Derived.Test.YtmaaepdecdhmnaaGreatDoorB2
import Derived.Laws.BitsLemmas
import Derived.Test.YtmaaepdecdhmnaaGreatDoorB10
import Derived.Test.YtmaaepdecdhmnaaGreatDoorB8
import Derived.Test.YtmaaepdecdhmnaaGreatDoorB6
import Derived.Test.YtmaaepdecdhmnaaGreatDoorB1
import Derived.Laws.MathBits
import Derived.Test.YtmaaepdecdhmnaaGreatDoorB9
namespace Go.Sim
set_option maxRecDepth 100000
set_option maxHeartbeats 8000000
inductive Hd {α:Type}:α→Type where
 |h (x:α):Hd x
section
variable {R α β : Type}
def bo(x:Option α){k:α→Option R}(_:Hd k):Option R:=match x with|some a=>k a|none=>none
def bo2(x:Option (PV×Heap)){k:PV→Heap→Option R}(_:Hd k):Option R:=match x with|some (v,H)=>k v H|none=>none
def brn(b:Bool){x y:Option R}(_:Hd (x,y)):Option R:=match b with|true=>x|false=>y
def chk(p:Prop)[Decidable p]{x:Option R}(_:Hd x):Option R:=if p then x else none
theorem qdo(x y:Option R):brn true (.h (x,y))=x:=rfl
theorem qdm(x y:Option R):brn false (.h (x,y))=y:=rfl
theorem qdn(b:Bool)(x y:Option R):brn (!b) (.h (x,y))=brn b (.h (y,x)):=by cases b<;>rfl
theorem qat{b:Bool}{x y z:Option R}(h1:b=true→x=z)(h2:b=false→y=z):brn b (.h (x,y))=z:=by cases b;exact h2 rfl;exact h1 rfl
theorem qdr(x:Option R):chk True (.h x)=x:=rfl
theorem qdk(a:α)(k:α→Option R):bo (some a) (.h k)=k a:=rfl
theorem qdh(k:α→Option R):bo none (.h k)=none:=rfl
theorem qcY(v:PV)(H:Heap)(k:PV→Heap→Option R):bo2 (some (v,H)) (.h k)=k v H:=rfl
theorem qcX(k:PV→Heap→Option R):bo2 none (.h k)=none:=rfl
theorem qjf(x:Option PV)(H:Heap)(k:PV→Heap→Option R):bo2 (opt x H) (.h k)=bo x (.h fun v=>k v H):=by cases x<;>rfl
theorem qua(x:Option DV)(H:Heap)(k:PV→Heap→Option R):bo2 (qgY x H) (.h k)=bo x (.h fun v=>k (.d v) H):=by cases x<;>rfl
abbrev KC(R:Type):=Ex→Fr→Heap→Option R
abbrev KO(R:Type):=Fr→Heap→Option R
noncomputable def kC(E:Env)(base:Nat)(fr:Fr)(H:Heap){c:PC}{k:KC R}(_:Hd (c,k)):Option R:=match qan E lpI base c ⟨fr,H⟩with|some (e,s)=>k e s.fr s.H|none=>none
def kO(E:Env)(id:Nat)(fr:Fr)(H:Heap){ops:List IOper}{k:KO R}(_:Hd (ops,k)):Option R:=match qaP E ops id ⟨fr,H⟩with|some s=>k s.fr s.H|none=>none
def kD(E:Env)(id:Nat)(fr:Fr)(H:Heap)(bf:List Nat)(acc:List (List Nat×List Nat)){ops:List IOper}{k:KO R}(_:Hd (ops,k)):Option R:=match qb5 E ops bf acc id ⟨fr,H⟩with|some s=>k s.fr s.H|none=>none
variable {E : Env} {base : Nat} {fr : Fr} {H : Heap} {k : KC R} {j : KO R}
theorem qdZ:kC E base fr H (.h (.skip,k))=k .norm fr H:=rfl
theorem qdX:kC E base fr H (.h (.ret,k))=k .ret fr H:=rfl
theorem qdP{id:Nat}:kC E base fr H (.h (.exit id,k))=k (.exit id) fr H:=rfl
noncomputable def sqK(E:Env)(base:Nat)(b:PC)(k:KC R):KC R
 | .norm,fr,H=>kC E base fr H (.h (b,k))
 | .exit id,fr,H=>k (.exit id) fr H
 | .ret,fr,H=>k .ret fr H
def blK(id:Nat)(k:KC R):KC R
 | .exit i,fr,H=>if i=id then k .norm fr H else k (.exit i) fr H
 | .norm,fr,H=>k .norm fr H
 | .ret,fr,H=>k .ret fr H
def rgK(kill:List Nat)(k:KC R):KO R:=fun fr H=>k .norm (fr.drop kill) H
theorem qdY{a b:PC}:kC E base fr H (.h (.seq a b,k))=kC E base fr H (.h (a,sqK E base b k)):=by
 simp only[kC,qan];cases qan E lpI base a ⟨fr,H⟩with
 |none=>rfl
 |some x=>obtain⟨e,s⟩:=x;cases e<;>rfl
theorem qdM{id:Nat}{x:PC}:kC E base fr H (.h (.block id x,k))=kC E base fr H (.h (x,blK id k)):=by
 simp only[kC,qan];cases qan E lpI base x ⟨fr,H⟩with
 |none=>rfl
 |some y =>
  obtain⟨e,s⟩:=y;cases e with
  |norm=>rfl
  |ret=>rfl
  |exit i =>
   by_cases h:i=id
   ·subst h;simp[blK]
   ·simp[blK,h]
theorem qdQ{ops:List IOper}{kill:List Nat}:kC E base fr H (.h (.reg ops kill,k))=kO E H.length fr (H++List.replicate (qaq ops) none) (.h (ops,rgK kill k)):=by
 simp only[kC,qan,qfZ,kO];cases qaP E ops H.length ⟨fr,H++List.replicate (qaq ops) none⟩<;>rfl
theorem qbJ{ops:List IOper}{bf kill:List Nat}:kC E base fr H (.h (.regD ops bf kill,k))=kD E H.length fr (H++List.replicate (qaq ops) none) bf [] (.h (ops,rgK kill k)):=by
 simp only[kC,qan,qgu,kD];cases qb5 E ops bf [] H.length ⟨fr,H++List.replicate (qaq ops) none⟩<;>rfl
def Fr.fix:Fr→Nat→Bool→Fr
 | [],_,_=>[]
 | (j,v)::r,t,b=>if j=t then (j,.d (.b b))::r else (j,v)::Fr.fix r t b
theorem qgT:∀{fr:Fr} {t:Nat} {b:Bool},fr.get t = .d (.b b)→fr.fix t b=fr
 | [],t,b,h=>rfl
 | (j,x)::r,t,b,h=>by
  simp only[Fr.get]at h;simp only[Fr.fix];split
  ·rename_i hj;rw[if_pos hj]at h;rw[h]
  ·rename_i hj;rw[if_neg hj]at h;rw[qgT h]
def tst(v:PV){x y:Option R}(_:Hd (x,y)):Option R:=match v with | .d (.b true)=>x | .d (.b false)=>y|_=>none
theorem qeu(b:Bool)(x y:Option R):tst (.d (.b b)) (.h (x,y))=brn b (.h (x,y)):=by cases b<;>rfl
theorem qdN{t:Nat}{x y:PC}:kC E base fr H (.h (.cond (.t t) x y,k))=tst (fr.get t) (.h (kC E base (fr.fix t true) H (.h (x,k)),kC E base (fr.fix t false) H (.h (y,k)))):=by
 simp only[kC,qan,rd];cases h:fr.get t with
 |d v =>
  cases v with
  |b b=>cases b with
   |true=>simp only[tst];rw[qgT h]
   |false=>simp only[tst];rw[qgT h]
  | _=>rfl
 | _=>rfl
theorem qdO{b:Bool}{x y:PC}:kC E base fr H (.h (.cond (.c (.b b)) x y,k))=brn b (.h (kC E base fr H (.h (x,k)),kC E base fr H (.h (y,k)))):=by
 cases b<;>rfl
theorem qd4{id:Nat}:kO E id fr H (.h ([],j))=j fr H:=rfl
def nid(op:IOp)(id:Nat):Nat:=if op.adds=true then id+1 else id
theorem qd2{d:Nat}{op:IOp}{r:List IOper}{id:Nat}:kO E id fr H (.h (⟨some d,op,none⟩::r,j))=bo2 (qaa E (rd E fr) H id op) (.h fun v H=>kO E (nid op id) (fr.set d v) H (.h (r,j))):=by
 simp only[kO,qaP,bo2];cases qaa E (rd E fr) H id op<;>rfl
theorem qd0{op:IOp}{r:List IOper}{id:Nat}:kO E id fr H (.h (⟨none,op,none⟩::r,j))=bo2 (qaa E (rd E fr) H id op) (.h fun _ H=>kO E (nid op id) fr H (.h (r,j))):=by
 simp only[kO,qaP,bo2];cases qaa E (rd E fr) H id op<;>rfl
def grd(v:PV)(w:Bool){x y z:Option R}(_:Hd (x,y,z)):Option R:=match v with | .d (.b b)=>if b=w then x else y | .t []=>z|_=>none
theorem qdI(b:Bool)(x y z:Option R):grd (.d (.b b)) true (.h (x,y,z))=brn b (.h (x,y)):=by cases b<;>rfl
theorem qdJ(b:Bool)(x y z:Option R):grd (.d (.b b)) false (.h (x,y,z))=brn b (.h (y,x)):=by cases b<;>rfl
theorem qdK(w:Bool)(x y z:Option R):grd (.t []) w (.h (x,y,z))=z:=rfl
theorem qd3{d t:Nat}{w:Bool}{op:IOp}{r:List IOper}{id:Nat}:kO E id fr H (.h (⟨some d,op,some (t,w)⟩::r,j)) =
  grd (fr.get t) w (.h (bo2 (qaa E (rd E (fr.fix t w)) H id op) (.h fun v H=>kO E (nid op id) ((fr.fix t w).set d v) H (.h (r,j))),kO E (nid op id) ((fr.fix t (!w)).set d (.t [])) H (.h (r,j)),kO E (nid op id) (fr.set d (.t [])) H (.h (r,j)))):=by
 simp only[kO,qaP];cases h:fr.get t with
 |d v =>
  cases v with
  |b b =>
   by_cases hb:b=w
   ·subst hb;rw[qgT h];simp only[grd,beq_self_eq_true,if_true];cases qaa E (rd E fr) H id op<;>rfl
   ·have e:(b==w)=false:=by simpa using hb
    have e2:b = !w:=by cases b<;>cases w<;>simp_all
    rw[e2]at h;simp only[grd,e,if_neg hb,zzg,if_false];rw[qgT h];rfl
  | _=>rfl
 |t vs=>cases vs<;>rfl
 | _=>rfl
theorem qd1{t:Nat}{w:Bool}{op:IOp}{r:List IOper}{id:Nat}:kO E id fr H (.h (⟨none,op,some (t,w)⟩::r,j)) =
  grd (fr.get t) w (.h (bo2 (qaa E (rd E (fr.fix t w)) H id op) (.h fun _ H=>kO E (nid op id) (fr.fix t w) H (.h (r,j))),kO E (nid op id) (fr.fix t (!w)) H (.h (r,j)),kO E (nid op id) fr H (.h (r,j)))):=by
 simp only[kO,qaP];cases h:fr.get t with
 |d v =>
  cases v with
  |b b =>
   by_cases hb:b=w
   ·subst hb;rw[qgT h];simp only[grd,beq_self_eq_true,if_true];cases qaa E (rd E fr) H id op<;>rfl
   ·have e:(b==w)=false:=by simpa using hb
    have e2:b = !w:=by cases b<;>cases w<;>simp_all
    rw[e2]at h;simp only[grd,e,if_neg hb,zzg,if_false];rw[qgT h];rfl
  | _=>rfl
 |t vs=>cases vs<;>rfl
 | _=>rfl
variable {ρ : Rand → PV} {id : Nat} {q : PV → Heap → Option R}
theorem qcS{x:Rand}:bo2 (qaa E ρ H id (.mov x)) (.h q)=q (ρ x) H:=rfl
theorem qcT{c x y:Rand}:bo2 (qaa E ρ H id (.pick c x y)) (.h q)=tst (ρ c) (.h (q (ρ x) H,q (ρ y) H)):=by
 simp only[qaa];cases ρ c with
 |d v =>
  cases v with
  |b b=>cases b<;>rfl
  | _=>rfl
 | _=>rfl
theorem qcD{K:Sim.K}{z:DV}:bo2 (qaa E ρ H id (.alloc K z)) (.h q)=q (.p id 0 0) (H.put id (some (.box K (.d z)))):=rfl
theorem qcG{K:Sim.K}{x:Rand}:bo2 (qaa E ρ H id (.box K x)) (.h q)=chk (fits K (ρ x)=true) (.h (q (.p id 0 0) (H.put id (some (.box K (ρ x)))))):=by
 simp only[qaa,chk];split<;>rfl
theorem qcR{K:Sim.K}{x:Rand}:bo2 (qaa E ρ H id (.load K x)) (.h q)=bo (qcv H K (ρ x)) (.h fun v=>q v H):=by
 simp only[qaa];exact qjf _ _ _
theorem qcV{K:Sim.K}{x y:Rand}:bo2 (qaa E ρ H id (.store K x y)) (.h q)=bo (qch H K (ρ x) (ρ y)) (.h fun H'=>q .u H'):=by
 simp only[qaa];cases qch H K (ρ x) (ρ y)<;>rfl
theorem qcF{op:BinOp}{x y:Rand}:bo2 (qaa E ρ H id (.bin op x y)) (.h q)=bo (qaN op (ρ x) (ρ y)) (.h fun v=>q (.d v) H):=by
 simp only[qaa];exact qua _ _ _
theorem qcW{op:UnOp}{x:Rand}:bo2 (qaa E ρ H id (.un op x)) (.h q)=bo (unA op (ρ x)) (.h fun v=>q (.d v) H):=by
 simp only[qaa];exact qua _ _ _
theorem qcL{neg:Bool}{n:List Nat}{x y:Rand}:bo2 (qaa E ρ H id (.eqv neg n x y)) (.h q)=bo (eqA n (ρ x) (ρ y)) (.h fun e=>q (.d (.b (if neg=true then !e else e))) H):=by
 simp only[qaa];cases eqA n (ρ x) (ρ y)<;>rfl
theorem qcN{o:Nat}{x:Rand}:bo2 (qaa E ρ H id (.faddr o x)) (.h q)=bo (qhm o (ρ x)) (.h fun v=>q v H):=by
 simp only[qaa];exact qjf _ _ _
theorem qcO{o:Nat}{K:Sim.K}{x:Rand}:bo2 (qaa E ρ H id (.field o K x)) (.h q)=bo (qjt o K (ρ x)) (.h fun v=>q v H):=by
 simp only[qaa];exact qjf _ _ _
theorem qcP{K:Sim.K}{x i:Rand}:bo2 (qaa E ρ H id (.iaddr K x i)) (.h q)=bo (iaddr H K (ρ x) (ρ i)) (.h fun v=>q v H):=by
 simp only[qaa];exact qjf _ _ _
theorem qcU{K:Sim.K}{x:Rand}{lo hi mx:Option Rand}:bo2 (qaa E ρ H id (.sl K x lo hi mx)) (.h q)=bo (slA H K (ρ x) (lo.map ρ) (hi.map ρ) (mx.map ρ)) (.h fun v=>q v H):=by
 simp only[qaa];exact qjf _ _ _
theorem qcQ{s:Bool}{x:Rand}:bo2 (qaa E ρ H id (.len s x)) (.h q)=bo (qfC H s (ρ x)) (.h fun n:Nat=>q (.d (.i .i64 (n:Int))) H):=by
 simp only[qaa];cases qfC H s (ρ x)<;>rfl
theorem qcE{K:Sim.K}{b:Nat}{x y:Rand}:bo2 (qaa E ρ H id (.app K b x y)) (.h q)=bo2 (qfv H id K b (ρ x) (ρ y)) (.h q):=rfl
theorem qcH{f:Nat}{as0:List Rand}:bo2 (qaa E ρ H id (.call 0 f as0)) (.h q)=bo (qaK H (as0.map ρ)) (.h fun d=>bo (E.val f d.1) (.h fun r=>q r.1 (if (d.2.isEmpty||r.1.scal)=true then H else frz H d.2))):=by
 simp only[qaa];cases qaK H (as0.map ρ)with
 |none=>rfl
 |some d =>
  simp only[bo];cases E.val f d.1 with
  |none=>rfl
  |some r=>rfl
def qw5(x:PV×Bool){q:K→List DV→Option R}(_:Hd q):Option R:=match x with|(.d (.l k es _),true)=>q k es|_=>none
theorem qcw{k:K}{es:List DV}{t:Bool}{q:K→List DV→Option R}:qw5 (.d (.l k es t),true) (.h q)=q k es:=rfl
theorem qcj{f:Nat}{as0:List Rand}:bo2 (qaa E ρ H id (.call 1 f as0)) (.h q)=bo (qaK H (as0.map ρ)) (.h fun d=>bo (E.val f d.1) (.h fun r=>qw5 r (.h fun k es=>q (.r id k 0 es.length false) ((if d.2.isEmpty=true then H else frz H d.2).put id (some (.sl k 0 es)))))):=by
 simp only[qaa];cases qaK H (as0.map ρ)with
 |none=>rfl
 |some d =>
  simp only[bo];cases E.val f d.1 with
  |none=>rfl
  |some r =>
   obtain⟨r,o⟩:=r;cases r with
   |d v=>cases v with
    |l k es t=>cases o<;>rfl
    | _=>rfl
   | _=>rfl
theorem qcI{m f:Nat}{as0:List Rand}:bo2 (qaa E ρ H id (.call (m+2) f as0)) (.h q)=bo2 (E.ref f (as0.map ρ) H) (.h q):=rfl
def qqM(x:PV)(i:Nat){q:PV→Option R}(_:Hd q):Option R:=match x with | .t vs=>bo vs[i]? (.h q)|_=>none
theorem qdz{vs:List PV}{i:Nat}{q:PV→Option R}:qqM (.t vs) i (.h q)=bo vs[i]? (.h q):=rfl
theorem qcM{x:Rand}{i:Nat}:bo2 (qaa E ρ H id (.ext x i)) (.h q)=qqM (ρ x) i (.h fun v=>q v H):=by
 simp only[qaa,qqM];cases ρ x with
 |t vs=>exact qjf _ _ _
 | _=>rfl
def qta(x:PV)(lo hi:Option PV){q:PV→Option R}(_:Hd q):Option R:=match x with | .d (.s s)=>bo (bnd s.length s.length hi) (.h fun h=>bo (bnd 0 h lo) (.h fun l=>q (.d (.s ((s.take h).drop l)))))|_=>none
theorem qcy{s:List UInt8}{lo hi:Option PV}{q:PV→Option R}:qta (.d (.s s)) lo hi (.h q)=bo (bnd s.length s.length hi) (.h fun h=>bo (bnd 0 h lo) (.h fun l=>q (.d (.s ((s.take h).drop l))))):=rfl
theorem qck{x:Rand}{lo hi:Option Rand}:bo2 (qaa E ρ H id (.slS x lo hi)) (.h q)=qta (ρ x) (lo.map ρ) (hi.map ρ) (.h fun v=>q v H):=by
 simp only[qaa,qta];cases ρ x with
 |d v=>cases v with
  |s s =>
   simp only;cases bnd s.length s.length (hi.map ρ)with
   |none=>rfl
   |some h=>simp only[bo];cases bnd 0 h (lo.map ρ)<;>rfl
  | _=>rfl
 | _=>rfl
def qjx(x i:PV){q:PV→Option R}(_:Hd q):Option R:=match x,i with | .d (.s s),.d (.i _ n)=>chk (0≤n) (.h (bo s[n.toNat]? (.h fun b=>q (.d (.i .u8 b.toNat)))))|_,_=>none
theorem qbA{s:List UInt8}{kk:IntKind}{n:Int}{q:PV→Option R}:qjx (.d (.s s)) (.d (.i kk n)) (.h q)=chk (0≤n) (.h (bo s[n.toNat]? (.h fun b=>q (.d (.i .u8 b.toNat))))):=rfl
theorem qzk{x i:Rand}{s:List UInt8}{kk:IntKind}{n:Int}(hx:ρ x = .d (.s s))(hi:ρ i = .d (.i kk n)):bo2 (qaa E ρ H id (.idxS x i)) (.h q)=chk (0≤n) (.h (bo s[n.toNat]? (.h fun b=>q (.d (.i .u8 b.toNat)) H))):=by
 simp only[qaa,hx,hi,asI,chk];split
 ·cases s[n.toNat]? <;> rfl
 ·rfl
variable {kk : IntKind}
theorem qc0{d top:Nat}{n:Int}{y:Nat→Option R}:bo (bnd d top (some (.d (.i kk n)))) (.h y)=chk (0≤n∧n≤top) (.h (y n.toNat)):=by
 simp only[bnd,asI,chk];split<;>rfl
theorem qc1{d top:Nat}{y:Nat→Option R}:bo (bnd d top none) (.h y)=y d:=rfl
theorem qc6{K K':Sim.K}{es:List DV}{t:Bool}{n:Int}{y:PV→Option R}(hK:K.eq K'=true):bo (iaddr H K (.d (.l K' es t)) (.d (.i kk n))) (.h y)=chk (0≤n∧n<es.length) (.h (bo es[n.toNat]? (.h fun e=>y (.q e K 0)))):=by
 simp only[iaddr,asI,inR,chk];by_cases h:0≤n∧n<es.length
 ·rw[if_pos h,if_pos h];simp only
  cases es[n.toNat]? with
  |none=>rfl
  |some e=>simp only[hK,if_true];rfl
 ·rw[if_neg h,if_neg h];rfl
theorem qcZ{x y:List UInt8}{z:DV→Option R}:bo (qaN .add (.d (.s x)) (.d (.s y))) (.h z)=chk (x.length+y.length<4611686018427387904) (.h (z (.s (x++y)))):=by
 simp only[qaN,qqf,chk];by_cases h:x.length+y.length<4611686018427387904
 ·rw[if_pos h,if_pos (by exact h)];rfl
 ·rw[if_neg h,if_neg (by exact h)];rfl
theorem qbu{x y:Int}{z:DV→Option R}:bo (qaN .quo (.d (.i kk x)) (.d (.i kk y))) (.h z)=chk (y≠0) (.h (z (.i kk (kk.wrap (x.tdiv y))))):=by
 simp only[qaN,qgd,if_true,chk];by_cases h:y=0<;>simp[h,bo]
theorem qbC{x y:Int}{z:DV→Option R}:bo (qaN .rem (.d (.i kk x)) (.d (.i kk y))) (.h z)=chk (y≠0) (.h (z (.i kk (x.tmod y)))):=by
 simp only[qaN,qgd,if_true,chk];by_cases h:y=0<;>simp[h,bo]
end
noncomputable def fin(E:Env)(rs:List RV):KC (PV×Bool)
 | .exit _,_,_=>none
 | _,fr,H=>bo (runG E (qak fr) H) (.h fun H=>bo (results fr H rs) (.h fun vs=>purT H (qfT vs)))
theorem qab(T:Tab){f:Nat}{F:PF}(hF:T.F f=some F){args:List DV}(ha:args.length=F.nargs):T.val f args=kC T.env 0 (Fr.ofArgs 0 (args.map .d)) [] (.h (F.body,fin T.env F.results)):=by
 rw[qLW T hF];unfold qbq;rw[if_pos (by simpa using ha)]
 simp only[kC,List.length_nil];cases qan T.env lpI 0 F.body ⟨Fr.ofArgs 0 (args.map .d),[]⟩with
 |none=>rfl
 |some x =>
  obtain⟨e,s⟩:=x;cases e with
  |exit id=>rfl
  |norm =>
   simp only[fin];cases runG T.env (qak s.fr) s.H with
   |none=>rfl
   |some H'=>simp only[bo];cases results s.fr H' F.results<;>rfl
  |ret =>
   simp only[fin];cases runG T.env (qak s.fr) s.H with
   |none=>rfl
   |some H'=>simp only[bo];cases results s.fr H' F.results<;>rfl
section
variable {R : Type} {E : Env} {base : Nat} {live : List Nat} {body : PC}
noncomputable def lpK(E:Env)(base:Nat)(live:List Nat)(body:PC)(k:KC R):KC R
 | .norm,fr,H=>kC E base fr H (.h (.loop live body,k))
 | .exit id,fr,H=>k (.exit id) fr H
 | .ret,fr,H=>k .ret fr H
theorem qjz{fr:Fr}{H:Heap}{k:KC R}:kC E base fr H (.h (.loop live body,k))=kC E base (gc live base ⟨fr,H⟩).fr (gc live base ⟨fr,H⟩).H (.h (body,lpK E base live body k)):=by
 have h:qan E lpI base (.loop live body) ⟨fr,H⟩=lpI (fun s=>qan E lpI base body (gc live base s)) ⟨fr,H⟩:=rfl
 simp only[kC,h];rw[qDq];cases hb:qan E lpI base body (gc live base ⟨fr,H⟩)with
 |none=>simp only
 |some x =>
  obtain⟨e,s⟩:=x;simp only;cases e with
  |norm=>rfl
  |exit id=>rfl
  |ret=>rfl
def qcx{α β:Type}(step:Nat→β→α→(β→Option R)→Option R)(done:β→Option R):Nat→β→List α→Option R
 | _,b,[]=>done b
 |i,b,x::r=>step i b x fun b'=>qcx step done (i+1) b' r
theorem qa3{α β:Type}(ls:List α)(st:Nat→β→St)(inv:Nat→β→Prop)(step:Nat→β→α→(β→Option R)→Option R)(done:β→Option R){k:KC R}
  (hend:∀B,B=body→∀b,inv ls.length b→kC E base (st ls.length b).fr (st ls.length b).H (.h (body,lpK E base live B k))=done b)
  (hround:∀B,B=body→∀i b (h:i<ls.length),inv i b→∀c:β→Option R,(∀b' fr H,inv (i+1) b'→gc live base ⟨fr,H⟩=st (i+1) b'→kC E base fr H (.h (.loop live B,k))=c b')→kC E base (st i b).fr (st i b).H (.h (body,lpK E base live B k))=step i b ls[i] c)
  {fr:Fr} {H:Heap} {b0:β} (h0:gc live base ⟨fr,H⟩=st 0 b0) (hi:inv 0 b0):kC E base fr H (.h (.loop live body,k))=qcx step done 0 b0 ls:=by
 have key:∀(n i:Nat) (b:β) (fr:Fr) (H:Heap),i+n=ls.length→inv i b→gc live base ⟨fr,H⟩=st i b→kC E base fr H (.h (.loop live body,k))=qcx step done i b (ls.drop i):=by
  intro n;induction n with
  |zero =>
   intro i b fr H hn hv hg;have hi:i=ls.length:=by omega
   subst hi;rw[qjz,hg,hend body rfl b hv,List.drop_length];rfl
  |succ n ih =>
   intro i b fr H hn hv hg;have hlt:i<ls.length:=by omega
   rw[qjz,hg,zzz hlt];exact hround body rfl i b hlt hv _ fun b' fr' H' hv' hg'=>ih (i+1) b' fr' H' (by omega) hv' hg'
 have:=key ls.length 0 b0 fr H (by omega) hi h0
 simpa using this
theorem qh2{α:Type}(p:α→Bool)(r:Option R)(done:Unit→Option R)(step:Nat→Unit→α→(Unit→Option R)→Option R)(hs:∀i b x c,step i b x c=if p x=true then r else c ()):∀(i:Nat) (ls:List α),qcx step done i () ls=if ls.any p=true then r else done ()
 |i,[]=>by simp[qcx]
 |i,x::l=>by
  rw[qcx,hs,qh2 p r done step hs (i+1) l];cases h:p x<;>simp[h]
theorem qmX{α:Type}(p:α→Bool)(r:Option R)(done:Unit→Option R)(step:Nat→Unit→α→(Unit→Option R)→Option R)(hs:∀i b x c,step i b x c=if p x=true then c ()else r):∀(i:Nat) (ls:List α),qcx step done i () ls=if ls.all p=true then done ()else r
 |i,[]=>by simp[qcx]
 |i,x::l=>by
  rw[qcx,hs,qmX p r done step hs (i+1) l];cases h:p x<;>simp[h]
end
section
variable {R : Type} {y : PV → Option R} {H : Heap}
theorem quj(v:DV):(PV.d v).cells=v.cells.map .d:=by cases v<;>rfl
theorem qtf{α:Type}(l:List α)(c:Nat):(l.drop c).take 1=match l[c]? with|some x=>[x]|none=>[]:=by
 cases h:l[c]? with
 |none=>rw[List.getElem?_eq_none_iff]at h;rw[List.drop_eq_nil_iff.2 h];rfl
 |some x =>
  obtain⟨hc,rfl⟩:=zzk.1 h;rw[zzz hc];rfl
theorem qes(n:Nat)(v:DV)(c:Nat):bo (qgF (some n) (.d v) c none) (.h y)=chk (c<n) (.h (bo v.cells[c]? (.h fun x=>y (.d x)))):=by
 unfold chk;simp only[qgF,K.eq,Bool.and_false,zzg,if_false];change bo (@ite _ (c+1≤n) (Nat.decLe _ _) (mkP none ((List.drop c (PV.d v).cells).take 1)) none) (.h y)=_
 by_cases h:c<n
 ·rw[if_pos h,if_pos (by omega),qtf,quj,zzj]
  cases v.cells[c]? <;> rfl
 ·rw[if_neg h,if_neg (by omega)];rfl
theorem qjO(n:Nat)(v:DV)(c:Nat){z:DV→Option R}:bo (qf6 (some n) v c none) (.h z)=chk (c<n) (.h (bo v.cells[c]? (.h z))):=by
 unfold chk;simp only[qf6,K.eq,Bool.and_false,zzg,if_false];change bo (@ite _ (c+1≤n) (Nat.decLe _ _) (mkD none ((List.drop c v.cells).take 1)) none) (.h z)=_
 by_cases h:c<n
 ·rw[if_pos h,if_pos (by omega),qtf]
  cases v.cells[c]? <;> rfl
 ·rw[if_neg h,if_neg (by omega)];rfl
theorem qd6(n:Nat)(v:DV)(c:Nat):bo (qcv H none (.q v (some n) c)) (.h y)=chk (c<n) (.h (bo v.cells[c]? (.h fun x=>y (.d x)))):=by
 have h:=qjO (R:=R) n v c (z:=fun x=>y (.d x))
 rw[←h];simp only[qcv];cases qf6 (some n) v c none<;>rfl
theorem qcu(k:K)(v:DV):bo (qcv H k (.q v k 0)) (.h y)=y (.d v):=by
 have:K.eq k k=true:=by cases k<;>simp[K.eq]
 simp[qcv,qf6,this,bo]
theorem qd9(x:Option Obj)(H:Heap):Heap.obj (x::H) 0=x:=rfl
theorem qea(x:Option Obj)(H:Heap)(n:Nat):Heap.obj (x::H) (n+1)=Heap.obj H n:=rfl
theorem qd5(k:K)(o i c:Nat):bo (qcv H k (.p o i c)) (.h y)=match H.obj o with
  |some (.box kb v)=>chk (i=0) (.h (bo (qgF kb v c k) (.h y)))
  |some (.sl kb _ es)=>bo es[i]? (.h fun e=>bo (qf6 kb e c k) (.h fun x=>y (.d x)))
  | _=>none:=by
 simp only[qcv];cases H.obj o with
 |none=>rfl
 |some x=>cases x with
  |box kb v =>
   simp only;by_cases h:i=0
   ·subst h;simp[chk]
   ·have:(i==0)=false:=by simpa using h
    simp[h,this,bo,chk]
  |sl kb ro es =>
   simp only;cases es[i]? with
   |none=>rfl
   |some e=>simp only[bo];cases qf6 kb e c k<;>rfl
  | _=>rfl
theorem qcz(k:K)(v:PV):bo (qgF k v 0 k) (.h y)=y v:=by
 have:K.eq k k=true:=by cases k<;>simp[K.eq]
 simp[qgF,this,bo]
theorem qdc(off o i c:Nat):bo (qhm off (.p o i c)) (.h y)=y (.p o i (c+off)):=rfl
theorem qdd(off:Nat)(v:DV)(k:K)(c:Nat):bo (qhm off (.q v k c)) (.h y)=y (.q v k (c+off)):=rfl
variable {z : Nat → Option R}
theorem qc7(k:K)(es:List DV)(t:Bool):bo (qfC H false (.d (.l k es t))) (.h z)=z es.length:=rfl
theorem qc9(s:List UInt8):bo (qfC H true (.d (.s s))) (.h z)=z s.length:=rfl
theorem qc8(o:Nat)(k:K)(off len:Nat)(t:Bool):bo (qfC H false (.r o k off len t)) (.h z)=match H.obj o with|some (.sl _ _ es)=>chk (off+len≤es.length) (.h (z len))|_=>none:=by
 simp only[qfC,chk];cases H.obj o with
 |none=>rfl
 |some x=>cases x with
  |sl kb ro es=>simp only[zzg,if_false];split<;>rfl
  | _=>rfl
variable {d : DV → Option R}
section
variable (k : IntKind) (a b : Int)
theorem qcl:bo (qaN .add (.d (.i k a)) (.d (.i k b))) (.h d)=d (.i k (k.wrap (a+b))):=by simp[qaN,qgd,bo]
theorem qdl:bo (qaN .sub (.d (.i k a)) (.d (.i k b))) (.h d)=d (.i k (k.wrap (a-b))):=by simp[qaN,qgd,bo]
theorem qcn:bo (qaN .mul (.d (.i k a)) (.d (.i k b))) (.h d)=d (.i k (k.wrap (a*b))):=by simp[qaN,qgd,bo]
theorem qc3:bo (qaN .eql (.d (.i k a)) (.d (.i k b))) (.h d)=d (.b (a==b)):=by simp[qaN,qgd,bo]
theorem qdg:bo (qaN .neq (.d (.i k a)) (.d (.i k b))) (.h d)=d (.b (a != b)):=by simp[qaN,qgd,bo]
theorem qdb:bo (qaN .lss (.d (.i k a)) (.d (.i k b))) (.h d)=d (.b (decide (a<b))):=by simp[qaN,qgd,bo]
theorem qda:bo (qaN .leq (.d (.i k a)) (.d (.i k b))) (.h d)=d (.b (decide (a≤b))):=by simp[qaN,qgd,bo]
theorem qc5:bo (qaN .gtr (.d (.i k a)) (.d (.i k b))) (.h d)=d (.b (decide (b<a))):=by simp[qaN,qgd,bo]
theorem qc4:bo (qaN .geq (.d (.i k a)) (.d (.i k b))) (.h d)=d (.b (decide (b≤a))):=by simp[qaN,qgd,bo]
theorem qdf:bo (unA .neg (.d (.i k a))) (.h d)=d (.i k (k.wrap (-a))):=by simp[unA,bo]
end
theorem qdi(b:Bool):bo (unA .not (.d (.b b))) (.h d)=d (.b (!b)):=rfl
theorem qc2(a b:List UInt8):bo (qaN .eql (.d (.s a)) (.d (.s b))) (.h d)=d (.b (a==b)):=rfl
theorem qde(a b:List UInt8):bo (qaN .neq (.d (.s a)) (.d (.s b))) (.h d)=d (.b (!(a==b))):=rfl
theorem qcC(n m:Nat):K.eq (some n) (some m)=(n==m):=rfl
theorem qcA(n:Nat):K.eq none (some n)=false:=rfl
theorem qcB(n:Nat):K.eq (some n) none=false:=rfl
theorem qbO(k:K):K.eq k k=true:=by cases k<;>simp[K.eq]
theorem qdE(j t:Nat)(v:PV)(r:Fr):Fr.get ((j,v)::r) t=if j=t then v else Fr.get r t:=rfl
theorem qdF(t:Nat):Fr.get [] t = .u:=rfl
theorem qds(l:List Nat)(j:Nat)(v:PV)(r:Fr):Fr.drop l ((j,v)::r)=if (l.contains j&&Nat.blt j gh)=true then Fr.drop l r else (j,v)::Fr.drop l r:=rfl
theorem qdt(l:List Nat):Fr.drop l []=[]:=rfl
theorem qep(j t:Nat)(x v:PV)(r:Fr):Fr.set ((j,x)::r) t v=if j=t then (t,v)::r else if j<t then (t,v)::(j,x)::r else (j,x)::Fr.set r t v:=rfl
theorem qeq(t:Nat)(v:PV):Fr.set [] t v=[(t,v)]:=rfl
theorem qdB(j t:Nat)(v:PV)(r:Fr)(b:Bool):Fr.fix ((j,v)::r) t b=if j=t then (j,.d (.b b))::r else (j,v)::Fr.fix r t b:=rfl
theorem qdC(t:Nat)(b:Bool):Fr.fix [] t b=[]:=rfl
theorem wrI{n:Int}(h : -9223372036854775808≤n)(h':n<9223372036854775808):IntKind.i64.wrap n=n:=by
 rw[IntKind.wrap_i64];omega
theorem qdG(j:Nat)(v:PV)(r:Fr):qak ((j,v)::r)=if Nat.ble gh j=true then v::qak r else qak r:=rfl
theorem qdH:qak []=[]:=rfl
theorem qbR{E:Env}{rs:List RV}{fr:Fr}(h:qak fr=[]):fin E rs .ret fr H=bo (results fr H rs) (.h fun vs=>purT H (qfT vs)):=by
 simp only[fin,h];rfl
theorem qdA{E:Env}{rs:List RV}{fr:Fr}(h:qak fr=[]):fin E rs .norm fr H=bo (results fr H rs) (.h fun vs=>purT H (qfT vs)):=by
 simp only[fin,h];rfl
theorem qco{fr:Fr}{y:List PV→Option R}:bo (results fr H []) (.h y)=y []:=rfl
theorem qcp{fr:Fr}{n:Nat}{r:List RV}{y:List PV→Option R}:bo (results fr H (.t n::r)) (.h y)=bo (results fr H r) (.h fun vs=>y (fr.get n::vs)):=by
 simp only[results];cases results fr H r<;>rfl
theorem qdj{fr:Fr}{n:Nat}{k:K}{r:List RV}{y:List PV→Option R}:bo (results fr H (.c n k::r)) (.h y)=bo (qcv H k (fr.get n)) (.h fun v=>bo (results fr H r) (.h fun vs=>y (v::vs))):=by
 simp only[results];cases qcv H k (fr.get n)with
 |none=>rfl
 |some v=>simp only[bo];cases results fr H r<;>rfl
theorem qeb(v:PV):qfT [v]=v:=rfl
theorem qec(v w:PV)(r:List PV):qfT (v::w::r) = .t (v::w::r):=rfl
theorem qeg(b:Bool):purT H (.d (.b b))=some (.d (.b b),false):=rfl
theorem qeh(k:IntKind)(n:Int):purT H (.d (.i k n))=some (.d (.i k n),false):=rfl
theorem qek(s:List UInt8):purT H (.d (.s s))=some (.d (.s s),false):=rfl
theorem qef(cs:List DV):purT H (.d (.a cs))=some (.d (.a cs),false):=rfl
theorem qej(k:K)(es:List DV):purT H (.d (.l k es true))=some (.d (.l k es false),es.isEmpty):=rfl
theorem qei(k:K)(es:List DV):purT H (.d (.l k es false))=some (.d (.l k es false),false):=rfl
variable {hy : Heap → Option R}
theorem qxQ(kb k:K)(o i c:Nat)(v w:PV)(ho:H.obj o=some (.box kb w)):bo (qch H k (.p o i c) v) (.h hy)=chk (fits k v=true) (.h (chk (i=0) (.h (if (c==0&&K.eq k kb)=true then hy (H.put o (some (.box kb v)))else chk (c+k.size≤w.cells.length) (.h (bo (mkP kb (putAt w.cells c v.cells)) (.h fun w'=>hy (H.put o (some (.box kb w')))))))))):=by
 simp only[qch,ho,chk];by_cases hf:fits k v=true
 ·simp only[hf,if_true];by_cases hi:i=0
  ·subst hi;simp only[beq_self_eq_true,if_true];by_cases hc:(c==0&&K.eq k kb)=true
   ·simp only[hc,if_true];rfl
   ·simp only[hc,zzg,if_false];by_cases hs:c+k.size≤w.cells.length
    ·simp only[hs,if_true];cases mkP kb (putAt w.cells c v.cells)<;>rfl
    ·simp only[hs,if_false];rfl
  ·have:(i==0)=false:=by simpa using hi
   simp only[this,hi,zzg,if_false];rfl
 ·simp only[hf,zzg,if_false];rfl
def stK(H:Heap)(k:K)(o i c:Nat)(v:PV)(x:Option Obj){hy:Heap→Option R}(_:Hd hy):Option R:=match x with
 |some (.box kb w)=>chk (fits k v=true) (.h (chk (i=0) (.h (if (c==0&&K.eq k kb)=true then hy (H.put o (some (.box kb v)))else chk (c+k.size≤w.cells.length) (.h (bo (mkP kb (putAt w.cells c v.cells)) (.h fun w'=>hy (H.put o (some (.box kb w'))))))))))
 | _=>bo (qch H k (.p o i c) v) (.h hy)
theorem qbV(k:K)(o i c:Nat)(v:PV):bo (qch H k (.p o i c) v) (.h hy)=stK H k o i c v (H.obj o) (.h hy):=by
 unfold stK;split
 ·rename_i kb w ho;exact qxQ kb k o i c v w ho
 ·rfl
theorem qer(kb k:K)(o i c:Nat)(v w:PV):stK H k o i c v (some (.box kb w)) (.h hy)=chk (fits k v=true) (.h (chk (i=0) (.h (if (c==0&&K.eq k kb)=true then hy (H.put o (some (.box kb v)))else chk (c+k.size≤w.cells.length) (.h (bo (mkP kb (putAt w.cells c v.cells)) (.h fun w'=>hy (H.put o (some (.box kb w')))))))))):=rfl
def qmc(E:Env)(H:Heap)(v:PV)(as0:List PV){q:PV→Heap→Option R}(_:Hd q):Option R:=match v with
 | .f n caps=>match (if caps.isEmpty=true then qal as0 else none)with
  |some ds=>bo (E.val n ds) (.h fun r=>q r.1 H)
  |none=>bo2 (E.ref n (as0++caps) H) (.h q)
 | .m n firsts=>match qal (firsts++as0)with
  |some ds=>bo (E.val n ds) (.h fun r=>q r.1 H)
  |none=>bo2 (E.ref n (firsts++as0) H) (.h q)
 | .h o=>bo2 (E.yld o as0 H) (.h q)
 | _=>none
theorem qcJ{E:Env}{ρ:Rand→PV}{id:Nat}{x:Rand}{as0:List Rand}{q:PV→Heap→Option R}:bo2 (qaa E ρ H id (.callv x as0)) (.h q)=qmc E H (ρ x) (as0.map ρ) (.h q):=by
 simp only[qaa,qmc];cases ρ x with
 |f n caps =>
  simp only;cases (if caps.isEmpty=true then qal (as0.map ρ)else none)with
  |none=>rfl
  |some ds=>simp only;cases E.val n ds<;>rfl
 |m n firsts =>
  simp only;cases qal (firsts++as0.map ρ)with
  |none=>rfl
  |some ds=>simp only;cases E.val n ds<;>rfl
 | _=>rfl
theorem qdp{E:Env}{n:Nat}{as0:List PV}{q:PV→Heap→Option R}:qmc E H (.f n []) as0 (.h q)=match qal as0 with|some ds=>bo (E.val n ds) (.h fun r=>q r.1 H)|none=>bo2 (E.ref n (as0++[]) H) (.h q):=rfl
theorem qdq{E:Env}{n:Nat}{c:PV}{cs:List PV}{as0:List PV}{q:PV→Heap→Option R}:qmc E H (.f n (c::cs)) as0 (.h q)=bo2 (E.ref n (as0++c::cs) H) (.h q):=rfl
theorem qee:qal []=some []:=rfl
theorem qed(v:DV)(r:List PV):qal (.d v::r)=match qal r with|some vs=>some (v::vs)|none=>none:=rfl
theorem qdx(T:Tab)(f:Nat)(ds:List DV):T.env.val f ds=T.val f ds:=rfl
theorem qdw(T:Tab)(f:Nat)(as0:List PV)(H:Heap):T.env.ref f as0 H=T.ref f as0 H:=rfl
theorem qem:qaK H []=some ([],[]):=rfl
theorem qel(v:DV)(r:List PV):qaK H (.d v::r)=match qaK H r with|some (xs,ps)=>some (v::xs,ps)|none=>none:=by
 simp only[qaK,pur,qa9];cases qaK H r<;>rfl
theorem qd8{E:Env}{ρ:Rand→PV}{id f:Nat}{cs:List Rand}{q:PV→Heap→Option R}:bo2 (qaa E ρ H id (.mkf f cs)) (.h q)=q (.f f (cs.map ρ)) H:=rfl
theorem qxb:∀l:List DV,qal (l.map PV.d)=some l
 | []=>rfl
 |v::l=>by simp[qal,qxb l]
theorem qet(n m:Nat)(v:DV)(c:Nat):bo (qgF (some n) (.d v) c (some m)) (.h y)=if (c==0&&m==n)=true then y (.d v)else chk (c+m≤n∧((v.cells.drop c).take m).length=m) (.h (y (.d (.a ((v.cells.drop c).take m))))):=by
 by_cases h:(c==0&&m==n)=true
 ·have h':=h
  simp only[zzf,beq_iff_eq]at h';obtain⟨rfl,rfl⟩:=h';rw[qcz];simp
 ·rw[if_neg h];have h':(c==0&&K.eq (some m) (some n))=false:=by simpa[K.eq]using h
  simp only[qgF,h',zzg,if_false,chk];change bo (@ite _ (c+m≤n) (Nat.decLe _ _) (mkP (some m) ((List.drop c (PV.d v).cells).take m)) none) (.h y)=_
  rw[quj,←List.map_drop,←List.map_take];by_cases h1:c+m≤n
  ·rw[if_pos h1];by_cases h2:((v.cells.drop c).take m).length=m
   ·rw[if_pos ⟨h1,h2⟩];simp only[mkP,zzo,h2,if_true,mkA,qxb];rfl
   ·rw[if_neg (fun h=>h2 h.2)]
    simp only[mkP,zzo,h2,if_false];rfl
  ·rw[if_neg h1,if_neg (fun h=>h1 h.1)];rfl
theorem qd7(n m:Nat)(v:DV)(c:Nat):bo (qcv H (some m) (.q v (some n) c)) (.h y)=if (c==0&&m==n)=true then y (.d v)else chk (c+m≤n∧((v.cells.drop c).take m).length=m) (.h (y (.d (.a ((v.cells.drop c).take m))))):=by
 by_cases h:(c==0&&m==n)=true
 ·have h':=h
  simp only[zzf,beq_iff_eq]at h';obtain⟨rfl,rfl⟩:=h';rw[qcu];simp
 ·rw[if_neg h];have h':(c==0&&K.eq (some m) (some n))=false:=by simpa[K.eq]using h
  simp only[qcv,qf6,h',zzg,if_false,chk];change bo (match @ite _ (c+m≤n) (Nat.decLe _ _) (mkD (some m) ((List.drop c v.cells).take m)) none with|some x=>some (PV.d x)|none=>none) (.h y)=_
  by_cases h1:c+m≤n
  ·rw[if_pos h1];by_cases h2:((v.cells.drop c).take m).length=m
   ·rw[if_pos ⟨h1,h2⟩];simp only[mkD,h2,if_true];rfl
   ·rw[if_neg (fun h=>h2 h.2)]
    simp only[mkD,h2,if_false];rfl
  ·rw[if_neg h1,if_neg (fun h=>h1 h.1)];rfl
end
theorem wr1{i:Nat}(h:(i:Int)+1<9223372036854775808):IntKind.i64.wrap ((i:Int)+1)=(i:Int)+1:=wrI (by omega) h
theorem mxl:maxLen=9223372036854775807:=rfl
section
variable {R : Type} {E : Env} {fr : Fr} {H : Heap} {bf : List Nat} {acc : List (List Nat × List Nat)} {id : Nat} {j : KO R}
theorem quH:∀a:List Nat,qbc a []=true
 | []=>rfl
 |x::r=>by have:=quH r;unfold qbc at this⊢;simp
theorem qw6(b:Nat):∀(acc:List (List Nat×List Nat)) (i:Nat),qaY b i acc [] []=true
 | [],_=>rfl
 |x::r,i=>by simp only[qaY,qw6 b r (i+1),quH,Bool.and_true];simp[qbc]
def rdS:IOp→Bool
 | .mov _ | .pick _ _ _ | .load _ _ | .bin _ _ _ | .eqv _ _ _ _ | .eqb _ _ _ | .isnil _ _ _ | .un _ _ | .conv _ _ | .slS _ _ _ | .sl _ _ _ _ _ | .faddr _ _ | .field _ _ _ | .iaddr _ _ _ | .iaddrA _ _ _ _ | .idxS _ _ | .idxA _ _ _ _ | .len _ _ | .ext _ _ | .nilck _ | .minmax _ _ | .call 0 _ _=>true
 | _=>false
def qhX:Heap→Bool
 | []=>true
 |some (.sl _ _ _)::_=>false
 | _::r=>qhX r
theorem qwT:∀{H:Heap} {o:Nat},qhX H=true→∀k ro es,H.obj o≠some (.sl k ro es)
 | [],o,_,k,ro,es,h=>by simp[Heap.obj]at h
 |x::r,0,hn,k,ro,es,h=>by
  have:x=some (.sl k ro es):=h
  subst this;simp[qhX]at hn
 |x::r,o+1,hn,k,ro,es,h=>by
  have hn':qhX r=true:=by
   cases x with
   |none=>exact hn
   |some y=>cases y<;>first|exact hn|(simp[qhX]at hn)
  exact qwT (H:=r) (o:=o) hn' k ro es h
theorem qvh{H:Heap}(hn:qhX H=true):∀os:List Nat,frz H os=H
 | []=>rfl
 |o::r=>by
  have h1:qgv H o=H:=by
   unfold qgv;split
   ·rename_i k ro es h;exact absurd h (qwT hn k ro es)
   ·rfl
  rw[frz,h1,qvh hn r]
theorem qhZ{x:Option PV}{H H':Heap}{v:PV}(h:opt x H=some (v,H')):H'=H:=by
 cases x with
 |none=>cases h
 |some y=>cases h;rfl
theorem qw2{x:Option DV}{H H':Heap}{v:PV}(h:qgY x H=some (v,H')):H'=H:=by
 cases x with
 |none=>cases h
 |some y=>cases h;rfl
theorem qIi{ρ:Rand→PV}{op:IOp}(hs:rdS op=true)(hn:qhX H=true){v:PV}{H':Heap}(h:qaa E ρ H id op=some (v,H')):H'=H:=by
 cases op with
 |call m f as0 =>
  match m with
  | 0 =>
   simp only[qaa]at h;split at h
   ·split at h
    ·simp only[zzb,zzc]at h;rw[←h.2,qvh hn];split<;>rfl
    ·cases h
   ·cases h
  |m+1=>simp[rdS]at hs
 |mov x=>cases h;rfl
 |pick c a b=>simp only[qaa]at h;split at h<;>first|(cases h;rfl)|cases h
 |load k x=>exact qhZ h
 |bin op x y=>exact qw2 h
 |eqv neg ks x y=>simp only[qaa]at h;split at h<;>first|(cases h;rfl)|cases h
 |eqb neg x y=>simp only[qaa]at h;split at h<;>first|(cases h;rfl)|cases h
 |isnil neg kd x=>simp only[qaa]at h;split at h<;>first|(cases h;rfl)|cases h
 |un op x=>exact qw2 h
 |conv k x=>simp only[qaa]at h;split at h<;>first|(cases h;rfl)|cases h
 |slS x lo hi=>simp only[qaa]at h; (repeat' split at h)<;>first|(cases h;rfl)|cases h
 |sl k x lo hi mx=>exact qhZ h
 |faddr o x=>exact qhZ h
 |field o k x=>exact qhZ h
 |iaddr k x i=>exact qhZ h
 |iaddrA n k x i=>simp only[qaa]at h; (repeat' split at h)<;>first|exact qhZ h|cases h
 |idxS x i=>simp only[qaa]at h; (repeat' split at h)<;>first|(cases h;rfl)|cases h
 |idxA n k x i=>simp only[qaa]at h; (repeat' split at h)<;>first|exact qhZ h|cases h
 |len s x=>simp only[qaa]at h;split at h<;>first|(cases h;rfl)|cases h
 |ext x i=>simp only[qaa]at h;split at h<;>first|exact qhZ h|cases h
 |nilck x=>simp only[qaa]at h;split at h<;>first|(cases h;rfl)|cases h
 |minmax m as0=>simp only[qaa]at h;split at h<;>first|exact qhZ h|cases h
 | _=>simp[rdS]at hs
theorem qxu{op:IOp}(hs:rdS op=true)(ρ:Rand→PV):op.adds=false∧op.okD ρ=true∧qa4 ρ op=[]:=by
 cases op with
 |call m f as0 =>
  match m with
  | 0=>exact⟨rfl,rfl,rfl⟩
  |m+1=>simp[rdS]at hs
 | _=>first|exact⟨rfl,rfl,rfl⟩|simp[rdS]at hs
theorem qum(H:Heap):∀l,chg H H l=[]
 | []=>rfl
 |o::r=>by simp only[chg,Nat.beq_refl,if_true];exact qum H r
theorem qsI(b:Nat)(t:List Nat):∀(acc:List (List Nat×List Nat)) (i:Nat),(∀x∈acc,x.2=[])→qaY b i acc t []=true
 | [],_,_=>rfl
 |x::r,i,h=>by
  simp only[qaY,qsI b t r (i+1) (fun y hy=>h y (zzi _ hy)),h x (zzr ..),Bool.and_true]
  simp[qbc]
def qhv(dst:Option Nat)(fr:Fr)(v:PV):Fr:=match dst with|some t=>fr.set t v|none=>fr
theorem qqJ:∀(ops:List IOper) (bf:List Nat) (acc:List (List Nat×List Nat)) (id:Nat) (fr:Fr) (H:Heap),(ops.all fun o=>rdS o.op)=true→qhX H=true→(∀x∈acc,x.2=[])→qb5 E ops bf acc id ⟨fr,H⟩=qaP E ops id ⟨fr,H⟩
 | [],_,_,_,_,_,_,_,_=>rfl
 |o::r,bf,acc,id,fr,H,ho,hn,ha=>by
  simp only[List.all_cons,zzf]at ho;obtain⟨h1,h2,h3⟩:=qxu ho.1 (rd E fr);have hid:(if o.op.adds=true then id+1 else id)=id:=by rw[h1];rfl
  have ha':∀(t:List Nat),∀x∈acc++[(t,([]:List Nat))],x.2=[]:=fun t x hx=>by
   rcases zzB.1 hx with h|h
   ·exact ha x h
   ·rw[zzH.1 h]
  have step:∀(v:PV) (H':Heap),qaa E (rd E fr) H id o.op=some (v,H')→∀fr',qb5 E r bf.tail (acc++[(writeS E o id ⟨fr,H⟩ ⟨fr',H'⟩++touchS E o ⟨fr,H⟩,writeS E o id ⟨fr,H⟩ ⟨fr',H'⟩)]) id ⟨fr',H'⟩=qaP E r id ⟨fr',H'⟩∧qaY (bf.headD 0) 0 acc (writeS E o id ⟨fr,H⟩ ⟨fr',H'⟩++touchS E o ⟨fr,H⟩) (writeS E o id ⟨fr,H⟩ ⟨fr',H'⟩)=true:=by
   intro v H' he fr'
   have:=qIi ho.1 hn he
   subst this;have hw:writeS E o id ⟨fr,H'⟩ ⟨fr',H'⟩=[]:=by
    unfold writeS;split
    ·simp[h1,h3,qum]
    ·rfl
   rw[hw];exact⟨qqJ r _ _ id fr' H' ho.2 hn (ha' _),qsI _ _ _ _ ha⟩
  have skip:qbb o fr=false→∀fr',qb5 E r bf.tail (acc++[(writeS E o id ⟨fr,H⟩ ⟨fr',H⟩++touchS E o ⟨fr,H⟩,writeS E o id ⟨fr,H⟩ ⟨fr',H⟩)]) id ⟨fr',H⟩=qaP E r id ⟨fr',H⟩∧qaY (bf.headD 0) 0 acc (writeS E o id ⟨fr,H⟩ ⟨fr',H⟩++touchS E o ⟨fr,H⟩) (writeS E o id ⟨fr,H⟩ ⟨fr',H⟩)=true:=by
   intro hr fr';have hw:writeS E o id ⟨fr,H⟩ ⟨fr',H⟩=[]:=by unfold writeS;rw[hr];rfl
   rw[hw];exact⟨qqJ r _ _ id fr' H ho.2 hn (ha' _),qsI _ _ _ _ ha⟩
  obtain⟨dst,op,g⟩:=o;simp only at h1 h2 h3 hid;have go:(match (match qau E (rd E fr) H id op with|some (v,H')=>some (⟨qhv dst fr v,H'⟩:St)|none=>none)with
    |some s'=>if qaY (bf.headD 0) 0 acc (writeS E ⟨dst,op,g⟩ id ⟨fr,H⟩ s'++touchS E ⟨dst,op,g⟩ ⟨fr,H⟩) (writeS E ⟨dst,op,g⟩ id ⟨fr,H⟩ s')=true then qb5 E r bf.tail (acc++[(writeS E ⟨dst,op,g⟩ id ⟨fr,H⟩ s'++touchS E ⟨dst,op,g⟩ ⟨fr,H⟩,writeS E ⟨dst,op,g⟩ id ⟨fr,H⟩ s')]) id s' else none
    |none=>none)=match qaa E (rd E fr) H id op with|some (v,H')=>qaP E r id ⟨qhv dst fr v,H'⟩|none=>none:=by
   simp only[qau,h2,if_true];cases he:qaa E (rd E fr) H id op with
   |none=>rfl
   |some x =>
    obtain⟨v,H'⟩:=x;obtain⟨q1,q2⟩:=step v H' he (qhv dst fr v);simp only[q2,if_true,q1]
  have no:qbb ⟨dst,op,g⟩ fr=false→(if qaY (bf.headD 0) 0 acc (writeS E ⟨dst,op,g⟩ id ⟨fr,H⟩ ⟨qhv dst fr (.t []),H⟩++touchS E ⟨dst,op,g⟩ ⟨fr,H⟩) (writeS E ⟨dst,op,g⟩ id ⟨fr,H⟩ ⟨qhv dst fr (.t []),H⟩)=true then qb5 E r bf.tail (acc++[(writeS E ⟨dst,op,g⟩ id ⟨fr,H⟩ ⟨qhv dst fr (.t []),H⟩++touchS E ⟨dst,op,g⟩ ⟨fr,H⟩,writeS E ⟨dst,op,g⟩ id ⟨fr,H⟩ ⟨qhv dst fr (.t []),H⟩)]) id ⟨qhv dst fr (.t []),H⟩else none)=qaP E r id ⟨qhv dst fr (.t []),H⟩:=by
   intro hr;obtain⟨q1,q2⟩:=skip hr (qhv dst fr (.t []));simp only[q2,if_true,q1]
  simp only[qb5,stepD,qaP,hid];cases g with
  |none=>exact go
  |some g =>
   obtain⟨t,w⟩:=g;simp only;cases hg:fr.get t with
   |d v =>
    cases v with
    |b b =>
     simp only;by_cases hb:(b==w)=true
     ·simp only[hb,if_true];exact go
     ·have hb':(b==w)=false:=by simpa using hb
      simp only[hb',zzg,if_false];exact no (by simp[qbb,hg,hb'])
    | _=>rfl
   |t vs =>
    cases vs with
    |nil=>simp only;exact no (by simp[qbb,hg])
    |cons=>rfl
   | _=>rfl
theorem qkD{base:Nat}{k:KC R}{ops:List IOper}{kill:List Nat}(ho:(ops.all fun o=>rdS o.op)=true)(hn:qhX H=true):kC E base fr H (.h (.regD ops bf kill,k))=kO E H.length fr H (.h (ops,rgK kill k)):=by
 have hz:qaq ops=0:=by
  clear hn
  induction ops with
  |nil=>rfl
  |cons o r ih =>
   simp only[List.all_cons,zzf]at ho;simp only[qaq,(qxu ho.1 (fun _=>.u)).1,ih ho.2];rfl
 simp only[kC,qan,qgu,kO,hz,List.replicate_zero,List.append_nil];rw[qqJ ops bf [] H.length fr H ho hn (fun x hx=>by cases hx)]
 cases qaP E ops H.length ⟨fr,H⟩<;>rfl
theorem qdR{base:Nat}{k:KC R}{ops:List IOper}{kill:List Nat}(ho:(ops.all fun o=>rdS o.op)=true):kC E base fr [] (.h (.regD ops bf kill,k))=kO E 0 fr [] (.h (ops,rgK kill k)):=qkD ho rfl
theorem qdS{base:Nat}{k:KC R}{ops:List IOper}{kill:List Nat}{k0:K}{v0:PV}(ho:(ops.all fun o=>rdS o.op)=true):kC E base fr [some (.box k0 v0)] (.h (.regD ops bf kill,k))=kO E 1 fr [some (.box k0 v0)] (.h (ops,rgK kill k)):=qkD ho rfl
theorem qdT{base:Nat}{k:KC R}{ops:List IOper}{kill:List Nat}{k0 k1:K}{v0 v1:PV}(ho:(ops.all fun o=>rdS o.op)=true):kC E base fr [some (.box k0 v0),some (.box k1 v1)] (.h (.regD ops bf kill,k))=kO E 2 fr [some (.box k0 v0),some (.box k1 v1)] (.h (ops,rgK kill k)):=qkD ho rfl
theorem qdU{base:Nat}{k:KC R}{ops:List IOper}{kill:List Nat}{k0 k1 k2:K}{v0 v1 v2:PV}(ho:(ops.all fun o=>rdS o.op)=true):kC E base fr [some (.box k0 v0),some (.box k1 v1),some (.box k2 v2)] (.h (.regD ops bf kill,k))=kO E 3 fr [some (.box k0 v0),some (.box k1 v1),some (.box k2 v2)] (.h (ops,rgK kill k)):=qkD ho rfl
theorem qdV{base:Nat}{k:KC R}{ops:List IOper}{kill:List Nat}{k0 k1 k2 k3:K}{v0 v1 v2 v3:PV}(ho:(ops.all fun o=>rdS o.op)=true):kC E base fr [some (.box k0 v0),some (.box k1 v1),some (.box k2 v2),some (.box k3 v3)] (.h (.regD ops bf kill,k))=kO E 4 fr [some (.box k0 v0),some (.box k1 v1),some (.box k2 v2),some (.box k3 v3)] (.h (ops,rgK kill k)):=qkD ho rfl
theorem qdW{base:Nat}{k:KC R}{ops:List IOper}{kill:List Nat}{k0 k1 k2 k3 k4:K}{v0 v1 v2 v3 v4:PV}(ho:(ops.all fun o=>rdS o.op)=true):kC E base fr [some (.box k0 v0),some (.box k1 v1),some (.box k2 v2),some (.box k3 v3),some (.box k4 v4)] (.h (.regD ops bf kill,k))=kO E 5 fr [some (.box k0 v0),some (.box k1 v1),some (.box k2 v2),some (.box k3 v3),some (.box k4 v4)] (.h (ops,rgK kill k)):=qkD ho rfl
end
mutual
theorem qkM(ρ:Nat→Option Nat):∀v:PV,(∀r∈v.refs,ρ r=some r)→v.ren ρ=v
 | .u,_=>rfl
 | .d _,_=>rfl
 | .a cs,h=>by rw[PV.ren,qmU ρ cs (by simpa[PV.refs]using h)]
 | .t cs,h=>by rw[PV.ren,qmU ρ cs (by simpa[PV.refs]using h)]
 | .r o k off len t,h=>by rw[PV.ren,h o (by simp[PV.refs])]
 | .p o i c,h=>by rw[PV.ren,h o (by simp[PV.refs])]
 | .q _ _ _,_=>rfl
 | .f n cs,h=>by rw[PV.ren,qmU ρ cs (by simpa[PV.refs]using h)]
 | .h o,h=>by rw[PV.ren,h o (by simp[PV.refs])]
 | .g v,h=>by rw[PV.ren,qkM ρ v (by simpa[PV.refs]using h)]
 | .m n cs,h=>by rw[PV.ren,qmU ρ cs (by simpa[PV.refs]using h)]
 | .w t v,h=>by rw[PV.ren,qkM ρ v (by simpa[PV.refs]using h)]
theorem qmU(ρ:Nat→Option Nat):∀cs:List PV,(∀r∈PV.refsL cs,ρ r=some r)→PV.renL ρ cs=cs
 | [],_=>rfl
 |v::cs,h=>by
  simp only[PV.refsL,zzB]at h;rw[PV.renL,qkM ρ v (fun r hr=>h r (.inl hr)),qmU ρ cs (fun r hr=>h r (.inr hr))]
end
theorem qw3{ρ:Nat→Option Nat}{x:Option Obj}(h:∀r∈qai x,ρ r=some r):x.map (·.ren ρ)=x:=by
 cases x with
 |none=>rfl
 |some y =>
  cases y with
  |box k v=>simp only[Option.map,Obj.ren,qkM ρ v (by simpa[qai,Obj.refs]using h)]
  | _=>rfl
theorem qn9{ρ:Nat→Option Nat}:∀{H:Heap},(∀r∈qad H,ρ r=some r)→H.map (·.map (·.ren ρ))=H
 | [],_=>rfl
 |x::H,h=>by
  simp only[qad,zzB]at h;rw[zzu,qw3 (fun r hr=>h r (.inl hr)),qn9 (fun r hr=>h r (.inr hr))]
theorem qqT{ρ:Nat→Option Nat}:∀{fr:Fr},(∀r∈qae fr,ρ r=some r)→Fr.ren ρ fr=fr
 | [],_=>rfl
 | (j,v)::fr,h=>by
  simp only[qae,zzB]at h;rw[Fr.ren,qkM ρ v (fun r hr=>h r (.inl hr)),qqT (fun r hr=>h r (.inr hr))]
theorem qsZ(H:Heap)(base:Nat):∀(n:Nat) (acc todo:List Nat),(∀o∈todo,o<base)→qaf H base n acc todo=acc
 | 0,_,_,_=>rfl
 |n+1,acc,[],_=>rfl
 |n+1,acc,o::todo,h=>by
  rw[qaf,if_pos (h o (zzr ..))];exact qsZ H base n acc todo fun x hx=>h x (zzi _ hx)
def Cl(H:Heap):Prop:=∀r∈qad H,r<H.length
theorem qvk(live:List Nat){H J:Heap}{fr:Fr}(hH:Cl H)(hf:∀r∈qae (Fr.keep live fr),r<H.length):gc live H.length ⟨fr,H++J⟩=⟨Fr.keep live fr,H⟩:=by
 have ht:(H++J).take H.length=H:=by simp
 have hr:qaf (H++J) H.length 1000 [] (qae (Fr.keep live fr)++qad H)=[]:=qsZ _ _ _ _ _ fun o ho=>by
  rcases zzB.1 ho with h|h
  ·exact hf o h
  ·exact hH o h
 have hp:∀r,r<H.length→qaj H.length [] r=some r:=fun r h=>by simp[qaj,h]
 simp only[gc,ht,hr,gcH,List.map_nil,List.append_nil];rw[qqT (fun r h=>hp r (hf r h)),qn9 (fun r h=>hp r (hH r h))]
theorem qmp(live:List Nat){H:Heap}{fr:Fr}(hH:Cl H)(hf:∀r∈qae (Fr.keep live fr),r<H.length):gc live H.length ⟨fr,H⟩=⟨Fr.keep live fr,H⟩:=by
 have:=qvk live (J:=[]) hH hf
 rwa [List.append_nil]at this
theorem qgW{H J:Heap}{v:PV}(hH:Cl H)(hf:∀r∈v.refs,r<H.length):gcV H.length v (H++J)=(v,H):=by
 have ht:(H++J).take H.length=H:=by simp
 have hr:qaf (H++J) H.length 1000 [] (v.refs++qad H)=[]:=qsZ _ _ _ _ _ fun o ho=>by
  rcases zzB.1 ho with h|h
  ·exact hf o h
  ·exact hH o h
 have hp:∀r,r<H.length→qaj H.length [] r=some r:=fun r h=>by simp[qaj,h]
 simp only[gcV,ht,hr,gcH,List.map_nil,List.append_nil];rw[qkM _ v (fun r h=>hp r (hf r h)),qn9 (fun r h=>hp r (hH r h))]
theorem qky{H:Heap}{v:PV}(hH:Cl H)(hf:∀r∈v.refs,r<H.length):gcV H.length v H=(v,H):=by
 have:=qgW (J:=[]) hH hf
 rwa [List.append_nil]at this
theorem qhf{H:Heap}(hH:Cl H)(J:Heap)(v:DV):gcV H.length (.d v) (H++J)=(.d v,H):=qgW hH (by simp[PV.refs])
theorem qmo{H:Heap}(hH:Cl H)(v:DV):gcV H.length (.d v) H=(.d v,H):=qky hH (by simp[PV.refs])
noncomputable def qhc(E:Env)(rs:List RV)(base:Nat):KC (PV×Heap)
 | .exit _,_,_=>none
 | _,fr,H=>bo (runG E (qak fr) H) (.h fun H=>bo (results fr H rs) (.h fun vs=>some (gcV base (qfT vs) H)))
theorem qeJ(T:Tab){f:Nat}{F:PF}(hF:T.F f=some F){args:List PV}{H:Heap}(ha:args.length=F.nargs):T.ref f args H=kC T.env H.length (Fr.ofArgs 0 args) H (.h (F.body,qhc T.env F.results H.length)):=by
 rw[qIz T hF];unfold qbq;rw[if_pos ha];simp only[kC];cases qan T.env lpI H.length F.body ⟨Fr.ofArgs 0 args,H⟩with
 |none=>rfl
 |some x =>
  obtain⟨e,s⟩:=x;cases e with
  |exit id=>rfl
  |norm =>
   simp only[qhc];cases runG T.env (qak s.fr) s.H with
   |none=>rfl
   |some H'=>simp only[bo];cases results s.fr H' F.results<;>rfl
  |ret =>
   simp only[qhc];cases runG T.env (qak s.fr) s.H with
   |none=>rfl
   |some H'=>simp only[bo];cases results s.fr H' F.results<;>rfl
section
variable {E : Env} {rs : List RV} {base : Nat} {fr : Fr} {H : Heap}
theorem qbQ(h:qak fr=[]):qhc E rs base .ret fr H=bo (results fr H rs) (.h fun vs=>some (gcV base (qfT vs) H)):=by
 simp only[qhc,h];rfl
theorem qqP(h:qak fr=[]):qhc E rs base .norm fr H=bo (results fr H rs) (.h fun vs=>some (gcV base (qfT vs) H)):=by
 simp only[qhc,h];rfl
theorem qen(y x:Option Obj)(H:Heap):Heap.put (y::H) 0 x=x::H:=rfl
theorem qeo(y x:Option Obj)(H:Heap)(n:Nat):Heap.put (y::H) (n+1) x=y::Heap.put H n x:=rfl
theorem qiL(H:Heap)(J:Heap)(x:Option Obj)(i:Nat):Heap.put (H++J) (H.length+i) x=H++Heap.put J i x:=by
 simp[Heap.put]
theorem qjL(H:Heap)(J:Heap)(x:Option Obj):Heap.put (H++J) H.length x=H++Heap.put J 0 x:=qiL H J x 0
theorem qiJ(H J:Heap)(i:Nat):Heap.obj (H++J) (H.length+i)=Heap.obj J i:=by
 simp[Heap.obj,List.getElem?_append_right]
theorem qhY(H J:Heap):Heap.obj (H++J) H.length=Heap.obj J 0:=qiJ H J 0
end
theorem qpa:Cl []:=fun r h=>by cases h
theorem qnb(k k':K)(v w:DV):Cl [some (.box k (.d v)),some (.box k' (.d w))]:=fun r h=>by simp[qad,qai,Obj.refs,PV.refs]at h
section
variable {R : Type} {E : Env} {ρ : Rand → PV} {H : Heap} {id : Nat} {q : PV → Heap → Option R}
def qqH(neg:Bool)(x y:PV){q:PV→Option R}(_:Hd q):Option R:=match x,y with
 | .d (.b a),.d (.b b)=>q (.d (.b (if neg=true then !(a==b)else a==b)))
 | _,_=>none
theorem qdy(neg a b:Bool){q:PV→Option R}:qqH neg (.d (.b a)) (.d (.b b)) (.h q)=q (.d (.b (if neg=true then !(a==b)else a==b))):=rfl
theorem qcK{neg:Bool}{x y:Rand}:bo2 (qaa E ρ H id (.eqb neg x y)) (.h q)=qqH neg (ρ x) (ρ y) (.h fun v=>q v H):=by
 simp only[qaa,qqH];cases ρ x with
 |d v =>
  cases v with
  |b a =>
   cases ρ y with
   |d w=>cases w<;>rfl
   | _=>rfl
  | _=>rfl
 | _=>rfl
end
section
variable {R α : Type} {E : Env} {fr : Fr} {H : Heap} {bf : List Nat} {acc : List (List Nat × List Nat)} {id : Nat} {j : KO R}
def nfp(x:α){k:α→Option R}(_:Hd k):Option R:=k x
theorem qby(x:α)(k:α→Option R):nfp x (.h k)=k x:=rfl
def qbe(bf:List Nat)(acc:List (List Nat×List Nat))(W T:List Nat):Bool×List (List Nat×List Nat):=(qaY (bf.headD 0) 0 acc (W++T) W,acc++[(W++T,W)])
noncomputable def qfX(E:Env)(id:Nat)(fr:Fr)(H:Heap)(bf:List Nat)(acc:List (List Nat×List Nat))(o:IOper)(fr':Fr)(H':Heap){r:List IOper}{j:KO R}(_:Hd (r,j)):Option R :=
 nfp (qbe bf acc (writeS E o id ⟨fr,H⟩ ⟨fr',H'⟩) (touchS E o ⟨fr,H⟩)) (.h fun w=>chk (w.1=true) (.h (kD E (nid o.op id) fr' H' bf.tail w.2 (.h (r,j)))))
theorem qbT:kD E id fr H bf acc (.h ([],j))=j fr H:=rfl
theorem qkE(o:IOper)(r:List IOper):kD E id fr H bf acc (.h (o::r,j))=match stepD E o id ⟨fr,H⟩with|some s'=>qfX E id fr H bf acc o s'.fr s'.H (.h (r,j))|none=>none:=by
 simp only[kD,qb5];cases stepD E o id ⟨fr,H⟩with
 |none=>rfl
 |some s' =>
  obtain⟨f,h⟩:=s';by_cases hp:qaY (bf.headD 0) 0 acc (writeS E o id ⟨fr,H⟩ ⟨f,h⟩++touchS E o ⟨fr,H⟩) (writeS E o id ⟨fr,H⟩ ⟨f,h⟩)=true
  ·simp only[qfX,nfp,qbe,chk,nid,hp,if_true,kD]
  ·simp only[qfX,nfp,qbe,chk,hp,if_false,zzg]
theorem qbx{d:Nat}{op:IOp}{r:List IOper}:kD E id fr H bf acc (.h (⟨some d,op,none⟩::r,j))=bo2 (qau E (rd E fr) H id op) (.h fun v H'=>qfX E id fr H bf acc ⟨some d,op,none⟩ (fr.set d v) H' (.h (r,j))):=by
 rw[qkE];simp only[stepD,bo2]
 cases qau E (rd E fr) H id op<;>rfl
theorem qeG{op:IOp}{r:List IOper}:kD E id fr H bf acc (.h (⟨none,op,none⟩::r,j))=bo2 (qau E (rd E fr) H id op) (.h fun _ H'=>qfX E id fr H bf acc ⟨none,op,none⟩ fr H' (.h (r,j))):=by
 rw[qkE];simp only[stepD,bo2]
 cases qau E (rd E fr) H id op<;>rfl
theorem qbS{d t:Nat}{w:Bool}{op:IOp}{r:List IOper}:kD E id fr H bf acc (.h (⟨some d,op,some (t,w)⟩::r,j)) =
  grd (fr.get t) w (.h (bo2 (qau E (rd E (fr.fix t w)) H id op) (.h fun v H'=>qfX E id (fr.fix t w) H bf acc ⟨some d,op,some (t,w)⟩ ((fr.fix t w).set d v) H' (.h (r,j))),qfX E id (fr.fix t (!w)) H bf acc ⟨some d,op,some (t,w)⟩ ((fr.fix t (!w)).set d (.t [])) H (.h (r,j)),qfX E id fr H bf acc ⟨some d,op,some (t,w)⟩ (fr.set d (.t [])) H (.h (r,j)))):=by
 rw[qkE];simp only[stepD]
 cases h:fr.get t with
 |d v =>
  cases v with
  |b b =>
   by_cases hb:b=w
   ·subst hb;rw[qgT h];simp only[grd,beq_self_eq_true,if_true,bo2];cases qau E (rd E fr) H id op<;>rfl
   ·have e:(b==w)=false:=by simpa using hb
    have e2:b = !w:=by cases b<;>cases w<;>simp_all
    have hf:fr.fix t (!w)=fr:=qgT (by rw[h,e2])
    simp only[grd,e,if_neg hb,zzg,if_false,hf]
  | _=>rfl
 |t vs=>cases vs<;>rfl
 | _=>rfl
theorem qfk{t:Nat}{w:Bool}{op:IOp}{r:List IOper}:kD E id fr H bf acc (.h (⟨none,op,some (t,w)⟩::r,j)) =
  grd (fr.get t) w (.h (bo2 (qau E (rd E (fr.fix t w)) H id op) (.h fun _ H'=>qfX E id (fr.fix t w) H bf acc ⟨none,op,some (t,w)⟩ (fr.fix t w) H' (.h (r,j))),qfX E id (fr.fix t (!w)) H bf acc ⟨none,op,some (t,w)⟩ (fr.fix t (!w)) H (.h (r,j)),qfX E id fr H bf acc ⟨none,op,some (t,w)⟩ fr H (.h (r,j)))):=by
 rw[qkE];simp only[stepD]
 cases h:fr.get t with
 |d v =>
  cases v with
  |b b =>
   by_cases hb:b=w
   ·subst hb;rw[qgT h];simp only[grd,beq_self_eq_true,if_true,bo2];cases qau E (rd E fr) H id op<;>rfl
   ·have e:(b==w)=false:=by simpa using hb
    have e2:b = !w:=by cases b<;>cases w<;>simp_all
    have hf:fr.fix t (!w)=fr:=qgT (by rw[h,e2])
    simp only[grd,e,if_neg hb,zzg,if_false,hf]
  | _=>rfl
 |t vs=>cases vs<;>rfl
 | _=>rfl
theorem qbt{o:IOper}{fr':Fr}{H':Heap}{r:List IOper}:qfX E id fr H bf acc o fr' H' (.h (r,j))=nfp (qbe bf acc (writeS E o id ⟨fr,H⟩ ⟨fr',H'⟩) (touchS E o ⟨fr,H⟩)) (.h fun w=>chk (w.1=true) (.h (kD E (nid o.op id) fr' H' bf.tail w.2 (.h (r,j))))):=rfl
theorem qAu{ρ:Rand→PV}{x:IOp}(h:x.okD ρ=true):qau E ρ H id x=qaa E ρ H id x:=by simp[qau,h]
theorem qzn{ρ:Rand→PV}{x:IOp}{k:PV→Heap→Option R}(h:x.okD ρ=true):bo2 (qau E ρ H id x) (.h k)=bo2 (qaa E ρ H id x) (.h k):=by rw[qAu h]
theorem qbw{ρ:Rand→PV}{k:PV→Heap→Option R}{x:Rand}:bo2 (qau E ρ H id (.mov x)) (.h k)=bo2 (qaa E ρ H id (.mov x)) (.h k):=rfl
theorem qce{ρ:Rand→PV}{k:PV→Heap→Option R}{cx a b:Rand}:bo2 (qau E ρ H id (.pick cx a b)) (.h k)=bo2 (qaa E ρ H id (.pick cx a b)) (.h k):=rfl
theorem qeV{ρ:Rand→PV}{k:PV→Heap→Option R}{kx:Sim.K}{z:DV}:bo2 (qau E ρ H id (.alloc kx z)) (.h k)=bo2 (qaa E ρ H id (.alloc kx z)) (.h k):=rfl
theorem qeW{ρ:Rand→PV}{k:PV→Heap→Option R}{kx:Sim.K}{x:Rand}:bo2 (qau E ρ H id (.box kx x)) (.h k)=bo2 (qaa E ρ H id (.box kx x)) (.h k):=rfl
theorem qcq{ρ:Rand→PV}{k:PV→Heap→Option R}{z:List DV}{parts:List (Nat×Sim.K×Rand)}:bo2 (qau E ρ H id (.agg z parts)) (.h k)=bo2 (qaa E ρ H id (.agg z parts)) (.h k):=rfl
theorem qcr{ρ:Rand→PV}{k:PV→Heap→Option R}{kx:Sim.K}{z:DV}{len:Nat}{parts:List (Nat×Rand)}:bo2 (qau E ρ H id (.bsl kx z len parts)) (.h k)=bo2 (qaa E ρ H id (.bsl kx z len parts)) (.h k):=rfl
theorem qbv{ρ:Rand→PV}{k:PV→Heap→Option R}{kx:Sim.K}{x:Rand}:bo2 (qau E ρ H id (.load kx x)) (.h k)=bo2 (qaa E ρ H id (.load kx x)) (.h k):=rfl
theorem qey{ρ:Rand→PV}{k:PV→Heap→Option R}{kx:Sim.K}{x y:Rand}:bo2 (qau E ρ H id (.store kx x y)) (.h k)=bo2 (qaa E ρ H id (.store kx x y)) (.h k):=rfl
theorem qbz{ρ:Rand→PV}{k:PV→Heap→Option R}{op:BinOp}{x y:Rand}:bo2 (qau E ρ H id (.bin op x y)) (.h k)=bo2 (qaa E ρ H id (.bin op x y)) (.h k):=rfl
theorem qe0{ρ:Rand→PV}{k:PV→Heap→Option R}{neg:Bool}{ks:List Nat}{x y:Rand}:bo2 (qau E ρ H id (.eqv neg ks x y)) (.h k)=bo2 (qaa E ρ H id (.eqv neg ks x y)) (.h k):=rfl
theorem qeZ{ρ:Rand→PV}{k:PV→Heap→Option R}{neg:Bool}{x y:Rand}:bo2 (qau E ρ H id (.eqb neg x y)) (.h k)=bo2 (qaa E ρ H id (.eqb neg x y)) (.h k):=rfl
theorem qe6{ρ:Rand→PV}{k:PV→Heap→Option R}{neg:Bool}{kd:Nat}{x:Rand}:bo2 (qau E ρ H id (.isnil neg kd x)) (.h k)=bo2 (qaa E ρ H id (.isnil neg kd x)) (.h k):=rfl
theorem qfi{ρ:Rand→PV}{k:PV→Heap→Option R}{op:UnOp}{x:Rand}:bo2 (qau E ρ H id (.un op x)) (.h k)=bo2 (qaa E ρ H id (.un op x)) (.h k):=rfl
theorem qeY{ρ:Rand→PV}{k:PV→Heap→Option R}{kx:IntKind}{x:Rand}:bo2 (qau E ρ H id (.conv kx x)) (.h k)=bo2 (qaa E ρ H id (.conv kx x)) (.h k):=rfl
theorem qfg{ρ:Rand→PV}{k:PV→Heap→Option R}{x:Rand}{lo hi:Option Rand}:bo2 (qau E ρ H id (.slS x lo hi)) (.h k)=bo2 (qaa E ρ H id (.slS x lo hi)) (.h k):=rfl
theorem qff{ρ:Rand→PV}{k:PV→Heap→Option R}{kx:Sim.K}{x:Rand}{lo hi mx:Option Rand}:bo2 (qau E ρ H id (.sl kx x lo hi mx)) (.h k)=bo2 (qaa E ρ H id (.sl kx x lo hi mx)) (.h k):=rfl
theorem qbD{ρ:Rand→PV}{k:PV→Heap→Option R}{off:Nat}{x:Rand}:bo2 (qau E ρ H id (.faddr off x)) (.h k)=bo2 (qaa E ρ H id (.faddr off x)) (.h k):=rfl
theorem qe2{ρ:Rand→PV}{k:PV→Heap→Option R}{off:Nat}{kx:Sim.K}{x:Rand}:bo2 (qau E ρ H id (.field off kx x)) (.h k)=bo2 (qaa E ρ H id (.field off kx x)) (.h k):=rfl
theorem qbX{ρ:Rand→PV}{k:PV→Heap→Option R}{kx:Sim.K}{x i:Rand}:bo2 (qau E ρ H id (.iaddr kx x i)) (.h k)=bo2 (qaa E ρ H id (.iaddr kx x i)) (.h k):=rfl
theorem qe3{ρ:Rand→PV}{k:PV→Heap→Option R}{len:Nat}{kx:Sim.K}{x i:Rand}:bo2 (qau E ρ H id (.iaddrA len kx x i)) (.h k)=bo2 (qaa E ρ H id (.iaddrA len kx x i)) (.h k):=rfl
theorem qe5{ρ:Rand→PV}{k:PV→Heap→Option R}{x i:Rand}:bo2 (qau E ρ H id (.idxS x i)) (.h k)=bo2 (qaa E ρ H id (.idxS x i)) (.h k):=rfl
theorem qe4{ρ:Rand→PV}{k:PV→Heap→Option R}{len:Nat}{kx:Sim.K}{x i:Rand}:bo2 (qau E ρ H id (.idxA len kx x i)) (.h k)=bo2 (qaa E ρ H id (.idxA len kx x i)) (.h k):=rfl
theorem qe7{ρ:Rand→PV}{k:PV→Heap→Option R}{str:Bool}{x:Rand}:bo2 (qau E ρ H id (.len str x)) (.h k)=bo2 (qaa E ρ H id (.len str x)) (.h k):=rfl
theorem qe1{ρ:Rand→PV}{k:PV→Heap→Option R}{x:Rand}{i:Nat}:bo2 (qau E ρ H id (.ext x i)) (.h k)=bo2 (qaa E ρ H id (.ext x i)) (.h k):=rfl
theorem qe9{ρ:Rand→PV}{k:PV→Heap→Option R}{f:Nat}{caps:List Rand}:bo2 (qau E ρ H id (.mkf f caps)) (.h k)=bo2 (qaa E ρ H id (.mkf f caps)) (.h k):=rfl
theorem qfb{ρ:Rand→PV}{k:PV→Heap→Option R}{f:Nat}{caps:List Rand}:bo2 (qau E ρ H id (.mkm f caps)) (.h k)=bo2 (qaa E ρ H id (.mkm f caps)) (.h k):=rfl
theorem qfe{ρ:Rand→PV}{k:PV→Heap→Option R}{p:Nat}{args:List Rand}:bo2 (qau E ρ H id (.prim p args)) (.h k)=bo2 (qaa E ρ H id (.prim p args)) (.h k):=rfl
theorem qfd{ρ:Rand→PV}{k:PV→Heap→Option R}{x:Rand}:bo2 (qau E ρ H id (.nilck x)) (.h k)=bo2 (qaa E ρ H id (.nilck x)) (.h k):=rfl
theorem qfc{ρ:Rand→PV}{k:PV→Heap→Option R}{kx:Sim.K}{bytes:Nat}{z:DV}{len cap:Rand}:bo2 (qau E ρ H id (.mksl kx bytes z len cap)) (.h k)=bo2 (qaa E ρ H id (.mksl kx bytes z len cap)) (.h k):=rfl
theorem qe8{ρ:Rand→PV}{k:PV→Heap→Option R}{mx:Bool}{args:List Rand}:bo2 (qau E ρ H id (.minmax mx args)) (.h k)=bo2 (qaa E ρ H id (.minmax mx args)) (.h k):=rfl
theorem qfa{ρ:Rand→PV}{k:PV→Heap→Option R}{t:Nat}{x:Rand}:bo2 (qau E ρ H id (.mkif t x)) (.h k)=bo2 (qaa E ρ H id (.mkif t x)) (.h k):=rfl
theorem qfh{ρ:Rand→PV}{k:PV→Heap→Option R}{t:Nat}{z:DV}{ok:Bool}{x:Rand}:bo2 (qau E ρ H id (.tas t z ok x)) (.h k)=bo2 (qaa E ρ H id (.tas t z ok x)) (.h k):=rfl
theorem qex{ρ:Rand→PV}{k:PV→Heap→Option R}{f:Nat}{args:List Rand}:bo2 (qau E ρ H id (.call 0 f args)) (.h k)=bo2 (qaa E ρ H id (.call 0 f args)) (.h k):=rfl
theorem qeX{ρ:Rand→PV}{k:PV→Heap→Option R}{f:Nat}{args:List Rand}:bo2 (qau E ρ H id (.call 1 f args)) (.h k)=bo2 (qaa E ρ H id (.call 1 f args)) (.h k):=rfl
end
theorem qeC(k:IntKind)(n:Int):fits none (.d (.i k n))=true:=rfl
theorem qeB(b:Bool):fits none (.d (.b b))=true:=rfl
theorem qeE(l:List UInt8):fits none (.d (.s l))=true:=rfl
theorem qeD(k:K)(l:List DV)(t:Bool):fits none (.d (.l k l t))=true:=rfl
theorem qeA(n:Nat)(l:List DV):fits (some n) (.d (.a l))=(l.length==n):=rfl
theorem qeI{H:Heap}{vs:List PV}:purT H (.t vs)=match qaK H vs with|some (xs,_)=>some (.t (xs.map .d),false)|none=>none:=rfl
theorem qeH(j:Nat):((j:Int)<0)=False:=by simp
section
variable {R : Type} {E : Env} {ρ : Rand → PV} {H : Heap} {id : Nat} {q : PV → Heap → Option R}
theorem qxc:∀z:List DV,qal (z.map .d)=some z
 | []=>rfl
 |x::z=>by simp[qal,qxc z]
theorem qew{z:List DV}:bo2 (qaa E ρ H id (.agg z [])) (.h q)=q (.d (.a z)) H:=by
 simp only[qaa,List.map_nil,qfu,mkA,qxc];rfl
end
section
variable {R : Type} {E : Env} {ρ : Rand → PV} {H : Heap} {id : Nat} {q : PV → Heap → Option R} {k : K} {b : Nat}
theorem qfq(v:DV):pur H (.d v)=some (v,[]):=rfl
theorem qfj:frz H []=H:=rfl
theorem qeP{z:DV}:bo2 (qaa E ρ H id (.bsl k z 0 [])) (.h q)=q (.r id k 0 0 true) (H.put id (some (.sl k 0 []))):=rfl
theorem qeQ{z:DV}{r:Rand}:bo2 (qaa E ρ H id (.bsl k z 1 [(0,r)])) (.h q)=chk (fits k (ρ r)=true) (.h (bo (pur H (ρ r)) (.h fun p=>q (.r id k 0 1 true) ((frz H p.2).put id (some (.sl k 0 [p.1])))))):=by
 simp only[qaa,zzu,List.map_nil,qcd,chk];by_cases h:fits k (ρ r)=true
 ·simp only[h,if_true,Bool.true_and];cases pur H (ρ r)with
  |none=>simp[bo,bo2]
  |some p=>obtain⟨x,os⟩:=p;simp[bo,bo2]
 ·simp[h,bo2]
def qgc(H:Heap)(id:Nat)(k:K)(bytes:Nat)(x:PV)(ys:List DV):Option (PV×Heap):=qfv H id k bytes x (.d (.l k ys true))
theorem qeN{x:PV}{k':K}{ys:List DV}{t:Bool}:bo2 (qfv H id k b x (.d (.l k' ys t))) (.h q)=chk ((K.eq k k'||ys.isEmpty)=true) (.h (bo2 (qgc H id k b x ys) (.h q))):=by
 simp only[qfv,qgc,qbo,chk,qbO,Bool.true_or,if_true];by_cases h:(K.eq k k'||ys.isEmpty)=true
 ·simp only[h,if_true]
 ·simp only[h,if_false,zzg];rfl
theorem qeO{x:PV}{o off len:Nat}{k':K}{t:Bool}:bo2 (qfv H id k b x (.r o k' off len t)) (.h q)=match H.obj o with|some (.sl k'' _ es)=>chk ((K.eq k k'&&K.eq k k''&&decide (off+len≤es.length))=true) (.h (bo2 (qgc H id k b x ((es.drop off).take len)) (.h q)))|_=>none:=by
 simp only[qfv,qgc,qbo];cases H.obj o with
 |none=>rfl
 |some y =>
  cases y with
  |sl k'' ro es =>
   simp only[chk];by_cases h:(K.eq k k'&&K.eq k k''&&decide (off+len≤es.length))=true
   ·simp only[h,if_true,qbO,Bool.true_or]
   ·simp only[h,if_false,zzg];rfl
  | _=>rfl
theorem qeM{k':K}{ys:List DV}:bo2 (qgc H id k b (.d (.l k' [] true)) ys) (.h q)=chk (ys.length*b≤2^47) (.h (q (.r id k 0 ys.length false) (H.put id (some (.sl k 0 ys))))):=by
 simp only[qgc,qfv,qbo,qbO,Bool.true_or,if_true,chk,List.length_nil,Nat.zero_add];by_cases h:ys.length*b≤2^47
 ·simp only[h,if_true];rfl
 ·simp only[h,if_false];rfl
theorem qev{o off len:Nat}{k':K}{t:Bool}{y:DV}{ys:List DV}:bo2 (qgc H id k b (.r o k' off len t) (y::ys)) (.h q)=match H.obj o with
  |some (.sl k'' ro es)=>chk ((K.eq k k'&&K.eq k k''&&decide (off+len≤es.length)&&decide ((len+(ys.length+1))*b≤2^47))=true) (.h (brn t (.h (q (.r id k 0 (len+(ys.length+1)) false) (H.put id (some (.sl k 0 ((es.drop off).take len++y::ys)))),chk (ro≤off+len) (.h (q (.r id k 0 (len+(ys.length+1)) false) ((H.put o none).put id (some (.sl k (ro-off) ((es.drop off).take len++y::ys))))))))))
  | _=>none:=by
 simp only[qgc,qfv,qbo,qbO,Bool.true_or,if_true,zzn];cases H.obj o with
 |none=>rfl
 |some w =>
  cases w with
  |sl k'' ro es =>
   simp only[chk];by_cases h:(K.eq k k'&&K.eq k k''&&decide (off+len≤es.length)&&decide ((len+(ys.length+1))*b≤2^47))=true
   ·simp only[h,if_true];cases t with
    |true=>rfl
    |false =>
     simp only[zzg,if_false,brn];by_cases g:ro≤off+len
     ·simp only[g,if_true];rfl
     ·simp only[g,if_false];rfl
   ·simp only[h,if_false,zzg];rfl
  | _=>rfl
def qst(t:Nat)(x:PV)(H:Heap){q:PV→Heap→Option R}(_:Hd q):Option R:=match pur H x with
 |some (v,os)=>q (.d (.ifc t v)) (frz H os)
 |none=>q (.w t x) H
theorem qfn{t:Nat}{v:DV}:qst t (.d v) H (.h q)=q (.d (.ifc t v)) H:=rfl
theorem qeR{t:Nat}{x:Rand}:bo2 (qaa E ρ H id (.mkif t x)) (.h q)=qst t (ρ x) H (.h q):=by
 simp only[qaa,qst];cases pur H (ρ x)with
 |none=>rfl
 |some p=>rfl
def qtg(t:Nat)(z:DV)(ok:Bool)(x:PV){q:PV→Option R}(_:Hd q):Option R:=match x with
 | .d (.ifc u v)=>if u=t then q (if ok then .t [.d v,.d (.b true)]else .d v)else if ok then q (.t [.d z,.d (.b false)])else none
 | .w u v=>if u=t then q (if ok then .t [v,.d (.b true)]else v)else if ok then q (.t [.d z,.d (.b false)])else none
 | .d .ni=>if ok then q (.t [.d z,.d (.b false)])else none
 | _=>none
theorem qfs{t u:Nat}{z v:DV}{ok:Bool}{q:PV→Option R}:qtg t z ok (.d (.ifc u v)) (.h q)=if u=t then q (if ok then .t [.d v,.d (.b true)]else .d v)else if ok then q (.t [.d z,.d (.b false)])else none:=rfl
theorem qeS{t:Nat}{z:DV}{ok:Bool}{x:Rand}:bo2 (qaa E ρ H id (.tas t z ok x)) (.h q)=qtg t z ok (ρ x) (.h fun v=>q v H):=by
 simp only[qaa,qtg];cases ρ x with
 |d v =>
  cases v with
  |ifc u w=>by_cases h:u=t<;>cases ok<;>simp[h,bo2]
  |ni=>cases ok<;>rfl
  | _=>rfl
 |w u v=>by_cases h:u=t<;>cases ok<;>simp[h,bo2]
 | _=>rfl
theorem qaA{z:List DV}{ps:List (Nat×Sim.K×Rand)}:bo2 (qaa E ρ H id (.agg z ps)) (.h q)=bo (qfu (z.map .d) (ps.map fun x=>(x.1,x.2.1,ρ x.2.2))) (.h fun cs=>q (mkA cs) H):=by
 simp only[qaa];cases qfu (z.map .d) (ps.map fun x=>(x.1,x.2.1,ρ x.2.2))<;>rfl
theorem qaC{z:List PV}{y:List PV→Option R}:bo (qfu z []) (.h y)=y z:=rfl
theorem qaB{z:List PV}{off:Nat}{v:PV}{k:Sim.K}{r:List (Nat×Sim.K×PV)}{y:List PV→Option R}:bo (qfu z ((off,k,v)::r)) (.h y)=chk ((fits k v&&decide (off+k.size≤z.length))=true) (.h (bo (qfu (putAt z off v.cells) r) (.h y))):=by
 simp only[qfu,chk];split<;>simp_all[bo]
theorem qay{k:IntKind}{n:Int}:PV.cells (.d (.i k n))=[.d (.i k n)]:=rfl
theorem qgt{l:List UInt8}:PV.cells (.d (.s l))=[.d (.s l)]:=rfl
theorem qax:K.size none=1:=rfl
theorem qaH(n:Nat):K.size (some n)=n:=rfl
theorem qfJ{mx:Bool}{x y:Rand}:bo2 (qaa E ρ H id (.minmax mx [x,y])) (.h q)=bo (mm2 mx (ρ x) (ρ y)) (.h fun v=>q v H):=by
 simp only[qaa,zzu,List.map_nil,mmA];cases mm2 mx (ρ x) (ρ y)<;>rfl
theorem qcm{k:IntKind}{a b:Int}{y:PV→Option R}:bo (mm2 true (.d (.i k a)) (.d (.i k b))) (.h y)=y (.d (.i k (max a b))):=by
 have h:(if b>a then b else a)=max a b:=by rw[Int.max_def];split<;>split<;>omega
 simp only[mm2,if_true,h];rfl
theorem qfo{t:Nat}{v:DV}:purT H (.d (.ifc t v))=some (.d (.ifc t v),false):=rfl
theorem qfp{o off len:Nat}{k:K}{t:Bool}:purT H (.r o k off len t)=match H.obj o with
  |some (.sl k' ro es)=>if k'=k∧off+len≤es.length then some (.d (.l k ((es.drop off).take len) false),decide (ro≤off))else none
  | _=>none:=rfl
theorem qeT{o off len:Nat}{k:K}{t:Bool}{y:Nat→Option R}:bo (qfC H false (.r o k off len t)) (.h y)=match H.obj o with
  |some (.sl _ _ es)=>chk (off+len≤es.length) (.h (y len))
  | _=>none:=by
 simp only[qfC,zzg,if_false];cases H.obj o with
 |none=>rfl
 |some w =>
  cases w with
  |sl k' ro es =>
   simp only[chk];by_cases h:off+len≤es.length
   ·simp only[h,if_true];rfl
   ·simp only[h,if_false];rfl
  | _=>rfl
end
noncomputable def tabT:PT :=
 (.bin 417 qgJ (.bin 74 F74 (.bin 47 F47 (.bin 42 F42 (.bin 36 F36 (.bin 35 F35 (.bin 31 F31 .nil .nil) .nil) (.bin 37 F37 .nil .nil)) (.bin 45 F45 (.bin 44 F44 (.bin 43 F43 .nil .nil) .nil) (.bin 46 F46 .nil .nil))) (.bin 57 F57 (.bin 55 F55 (.bin 49 F49 (.bin 48 F48 .nil .nil) .nil) (.bin 56 F56 .nil .nil)) (.bin 68 F68 (.bin 58 F58 .nil .nil) (.bin 73 F73 .nil .nil)))) (.bin 408 qh8 (.bin 400 F400 (.bin 387 qhB (.bin 291 qjW (.bin 207 qln .nil .nil) .nil) (.bin 399 qf9 .nil .nil)) (.bin 406 F406 (.bin 405 F405 .nil .nil) (.bin 407 qjX .nil .nil))) (.bin 413 qlu (.bin 411 F411 (.bin 410 F410 (.bin 409 qjY .nil .nil) .nil) (.bin 412 qlt .nil .nil)) (.bin 415 qgI (.bin 414 qfW .nil .nil) (.bin 416 qjZ .nil .nil))))) (.bin 443 qlx (.bin 430 qh9 (.bin 424 F424 (.bin 420 F420 (.bin 419 qnc (.bin 418 qeK .nil .nil) .nil) (.bin 422 F422 .nil .nil)) (.bin 426 qj0 (.bin 425 F425 .nil .nil) (.bin 429 qj1 .nil .nil))) (.bin 436 qi3 (.bin 433 qga (.bin 432 qj2 (.bin 431 qlv .nil .nil) .nil) (.bin 434 qia .nil .nil)) (.bin 439 qhC (.bin 437 qlw .nil .nil) (.bin 441 F441 .nil .nil)))) (.bin 947 F947 (.bin 461 qi4 (.bin 450 qlz (.bin 449 qly (.bin 446 F446 .nil .nil) .nil) (.bin 460 qj3 .nil .nil)) (.bin 916 qgK (.bin 468 qj4 .nil .nil) (.bin 946 F946 .nil .nil))) (.bin 996 qj9 (.bin 983 qcb (.bin 967 F967 (.bin 966 qfI .nil .nil) .nil) (.bin 984 qgM .nil .nil)) (.bin 998 qif (.bin 997 qka .nil .nil) (.bin 999 qg3 .nil .nil))))))
def HT(T:Tab):Prop:=∀n F,tabT.get n=some F→T.F n=some F
structure SL (α:Type) where
 l:List α
 t:Bool
structure AWide where
 Hi:Int
 Lo:Int
def AWide.cells(x:AWide):List DV:=[I x.Hi,.i .u64 x.Lo]
def AWide.dv(x:AWide):DV:=.a [I x.Hi,.i .u64 x.Lo]
@[simp] theorem AWide.fits(x:AWide):Sim.fits (K1 2) (.d (AWide.dv x))=true:=rfl
@[simp] theorem AWide.purT(x:AWide)(H:Heap):Sim.purT H (.d (AWide.dv x))=some (.d (AWide.dv x),false):=rfl
@[simp] theorem AWide.clen(x:AWide):(AWide.dv x).cells.length=2:=rfl
@[simp] theorem AWide.aof(x:AWide):DV.a (AWide.cells x)=AWide.dv x:=rfl
@[simp] theorem AWide.ccl(x:AWide):(AWide.cells x).length=2:=rfl
@[simp] theorem AWide.c0(x:AWide):(AWide.dv x).cells[0]? = some (I x.Hi):=rfl
@[simp] theorem AWide.c1(x:AWide):(AWide.dv x).cells[1]? = some (.i .u64 x.Lo):=rfl
structure ACurrency where
 Code:List UInt8
 Digits:Int
def ACurrency.cells(x:ACurrency):List DV:=[.s x.Code,I x.Digits]
def ACurrency.dv(x:ACurrency):DV:=.a [.s x.Code,I x.Digits]
structure ACalendar where
 Name:List UInt8
 Weekend:SL Int
 Holidays:SL Int
def ACalendar.cells(x:ACalendar):List DV:=[.s x.Name,.l K0 (x.Weekend.l.map I) x.Weekend.t,.l K0 (x.Holidays.l.map I) x.Holidays.t]
def ACalendar.dv(x:ACalendar):DV:=.a [.s x.Name,.l K0 (x.Weekend.l.map I) x.Weekend.t,.l K0 (x.Holidays.l.map I) x.Holidays.t]
@[simp] theorem ACalendar.fits(x:ACalendar):Sim.fits (K1 3) (.d (ACalendar.dv x))=true:=rfl
@[simp] theorem ACalendar.purT(x:ACalendar)(H:Heap):Sim.purT H (.d (ACalendar.dv x))=some (.d (ACalendar.dv x),false):=rfl
@[simp] theorem ACalendar.clen(x:ACalendar):(ACalendar.dv x).cells.length=3:=rfl
@[simp] theorem ACalendar.aof(x:ACalendar):DV.a (ACalendar.cells x)=ACalendar.dv x:=rfl
@[simp] theorem ACalendar.ccl(x:ACalendar):(ACalendar.cells x).length=3:=rfl
@[simp] theorem ACalendar.c0(x:ACalendar):(ACalendar.dv x).cells[0]? = some (.s x.Name):=rfl
@[simp] theorem ACalendar.c1(x:ACalendar):(ACalendar.dv x).cells[1]? = some (.l K0 (x.Weekend.l.map I) x.Weekend.t):=rfl
@[simp] theorem ACalendar.c2(x:ACalendar):(ACalendar.dv x).cells[2]? = some (.l K0 (x.Holidays.l.map I) x.Holidays.t):=rfl
structure AVar where
 Name:List UInt8
 Typ:Int
def AVar.cells(x:AVar):List DV:=[.s x.Name,I x.Typ]
def AVar.dv(x:AVar):DV:=.a [.s x.Name,I x.Typ]
@[simp] theorem AVar.fits(x:AVar):Sim.fits (K1 2) (.d (AVar.dv x))=true:=rfl
@[simp] theorem AVar.purT(x:AVar)(H:Heap):Sim.purT H (.d (AVar.dv x))=some (.d (AVar.dv x),false):=rfl
@[simp] theorem AVar.clen(x:AVar):(AVar.dv x).cells.length=2:=rfl
@[simp] theorem AVar.aof(x:AVar):DV.a (AVar.cells x)=AVar.dv x:=rfl
@[simp] theorem AVar.ccl(x:AVar):(AVar.cells x).length=2:=rfl
@[simp] theorem AVar.c0(x:AVar):(AVar.dv x).cells[0]? = some (.s x.Name):=rfl
@[simp] theorem AVar.c1(x:AVar):(AVar.dv x).cells[1]? = some (I x.Typ):=rfl
structure ATier where
 From:Int
 Ppm:Int
def ATier.cells(x:ATier):List DV:=[I x.From,I x.Ppm]
def ATier.dv(x:ATier):DV:=.a [I x.From,I x.Ppm]
structure AInterest where
 Tiers:SL ATier
 Marginal:Bool
 Basis:Int
 Mode:Int
 Keep:Bool
def AInterest.cells(x:AInterest):List DV:=[.l (K1 2) (x.Tiers.l.map ATier.dv) x.Tiers.t,.b x.Marginal,I x.Basis,I x.Mode,.b x.Keep]
def AInterest.dv(x:AInterest):DV:=.a [.l (K1 2) (x.Tiers.l.map ATier.dv) x.Tiers.t,.b x.Marginal,I x.Basis,I x.Mode,.b x.Keep]
structure AExpr where
 (Op N:Int)
 S:List UInt8
 Args:SL DV
def AExpr.cells(x:AExpr):List DV:=[I x.Op,I x.N,.s x.S,.l (K1 4) x.Args.l x.Args.t]
def AExpr.dv(x:AExpr):DV:=.a [I x.Op,I x.N,.s x.S,.l (K1 4) x.Args.l x.Args.t]
@[simp] theorem AExpr.fits(x:AExpr):Sim.fits (K1 4) (.d (AExpr.dv x))=true:=rfl
@[simp] theorem AExpr.purT(x:AExpr)(H:Heap):Sim.purT H (.d (AExpr.dv x))=some (.d (AExpr.dv x),false):=rfl
@[simp] theorem AExpr.clen(x:AExpr):(AExpr.dv x).cells.length=4:=rfl
@[simp] theorem AExpr.aof(x:AExpr):DV.a (AExpr.cells x)=AExpr.dv x:=rfl
@[simp] theorem AExpr.ccl(x:AExpr):(AExpr.cells x).length=4:=rfl
@[simp] theorem AExpr.c0(x:AExpr):(AExpr.dv x).cells[0]? = some (I x.Op):=rfl
@[simp] theorem AExpr.c1(x:AExpr):(AExpr.dv x).cells[1]? = some (I x.N):=rfl
@[simp] theorem AExpr.c2(x:AExpr):(AExpr.dv x).cells[2]? = some (.s x.S):=rfl
@[simp] theorem AExpr.c3(x:AExpr):(AExpr.dv x).cells[3]? = some (.l (K1 4) x.Args.l x.Args.t):=rfl
structure AFee where
 Name:List UInt8
 Event:Int
 When:AExpr
 Amount:AExpr
def AFee.cells(x:AFee):List DV:=[.s x.Name,I x.Event,I x.When.Op,I x.When.N,.s x.When.S,.l (K1 4) x.When.Args.l x.When.Args.t,I x.Amount.Op,I x.Amount.N,.s x.Amount.S,.l (K1 4) x.Amount.Args.l x.Amount.Args.t]
def AFee.dv(x:AFee):DV:=.a [.s x.Name,I x.Event,I x.When.Op,I x.When.N,.s x.When.S,.l (K1 4) x.When.Args.l x.When.Args.t,I x.Amount.Op,I x.Amount.N,.s x.Amount.S,.l (K1 4) x.Amount.Args.l x.Amount.Args.t]
@[simp] theorem AFee.fits(x:AFee):Sim.fits (K1 10) (.d (AFee.dv x))=true:=rfl
@[simp] theorem AFee.purT(x:AFee)(H:Heap):Sim.purT H (.d (AFee.dv x))=some (.d (AFee.dv x),false):=rfl
@[simp] theorem AFee.clen(x:AFee):(AFee.dv x).cells.length=10:=rfl
@[simp] theorem AFee.aof(x:AFee):DV.a (AFee.cells x)=AFee.dv x:=rfl
@[simp] theorem AFee.ccl(x:AFee):(AFee.cells x).length=10:=rfl
@[simp] theorem AFee.n2_4(x:AFee):((AFee.dv x).cells.drop 2).take 4=AExpr.cells x.When:=rfl
@[simp] theorem AFee.n6_4(x:AFee):((AFee.dv x).cells.drop 6).take 4=AExpr.cells x.Amount:=rfl
@[simp] theorem AFee.c0(x:AFee):(AFee.dv x).cells[0]? = some (.s x.Name):=rfl
structure ARule where
 Name:List UInt8
 Window:Int
 Amount:AExpr
def ARule.cells(x:ARule):List DV:=[.s x.Name,I x.Window,I x.Amount.Op,I x.Amount.N,.s x.Amount.S,.l (K1 4) x.Amount.Args.l x.Amount.Args.t]
def ARule.dv(x:ARule):DV:=.a [.s x.Name,I x.Window,I x.Amount.Op,I x.Amount.N,.s x.Amount.S,.l (K1 4) x.Amount.Args.l x.Amount.Args.t]
@[simp] theorem ARule.fits(x:ARule):Sim.fits (K1 6) (.d (ARule.dv x))=true:=rfl
@[simp] theorem ARule.purT(x:ARule)(H:Heap):Sim.purT H (.d (ARule.dv x))=some (.d (ARule.dv x),false):=rfl
@[simp] theorem ARule.clen(x:ARule):(ARule.dv x).cells.length=6:=rfl
@[simp] theorem ARule.aof(x:ARule):DV.a (ARule.cells x)=ARule.dv x:=rfl
@[simp] theorem ARule.ccl(x:ARule):(ARule.cells x).length=6:=rfl
@[simp] theorem ARule.n2_4(x:ARule):((ARule.dv x).cells.drop 2).take 4=AExpr.cells x.Amount:=rfl
@[simp] theorem ARule.c0(x:ARule):(ARule.dv x).cells[0]? = some (.s x.Name):=rfl
@[simp] theorem ARule.c1(x:ARule):(ARule.dv x).cells[1]? = some (I x.Window):=rfl
@[simp] theorem ARule.c2(x:ARule):(ARule.dv x).cells[2]? = some (I x.Amount.Op):=rfl
@[simp] theorem ARule.c3(x:ARule):(ARule.dv x).cells[3]? = some (I x.Amount.N):=rfl
@[simp] theorem ARule.c4(x:ARule):(ARule.dv x).cells[4]? = some (.s x.Amount.S):=rfl
@[simp] theorem ARule.c5(x:ARule):(ARule.dv x).cells[5]? = some (.l (K1 4) x.Amount.Args.l x.Amount.Args.t):=rfl
structure AProduct where
 Name:List UInt8
 Currency:List UInt8
 Calendar:List UInt8
 From:Int
 Every:Int
 Overdraft:Int
 TaxPpm:Int
 Credit:AInterest
 Debit:AInterest
 Fees:SL AFee
 Rules:SL ARule
def AProduct.cells(x:AProduct):List DV:=[.s x.Name,.s x.Currency,.s x.Calendar,I x.From,I x.Every,I x.Overdraft,I x.TaxPpm,.l (K1 2) (x.Credit.Tiers.l.map ATier.dv) x.Credit.Tiers.t,.b x.Credit.Marginal,I x.Credit.Basis,I x.Credit.Mode,.b x.Credit.Keep,.l (K1 2) (x.Debit.Tiers.l.map ATier.dv) x.Debit.Tiers.t,.b x.Debit.Marginal,I x.Debit.Basis,I x.Debit.Mode,.b x.Debit.Keep,.l (K1 10) (x.Fees.l.map AFee.dv) x.Fees.t,.l (K1 6) (x.Rules.l.map ARule.dv) x.Rules.t]
def AProduct.dv(x:AProduct):DV:=.a [.s x.Name,.s x.Currency,.s x.Calendar,I x.From,I x.Every,I x.Overdraft,I x.TaxPpm,.l (K1 2) (x.Credit.Tiers.l.map ATier.dv) x.Credit.Tiers.t,.b x.Credit.Marginal,I x.Credit.Basis,I x.Credit.Mode,.b x.Credit.Keep,.l (K1 2) (x.Debit.Tiers.l.map ATier.dv) x.Debit.Tiers.t,.b x.Debit.Marginal,I x.Debit.Basis,I x.Debit.Mode,.b x.Debit.Keep,.l (K1 10) (x.Fees.l.map AFee.dv) x.Fees.t,.l (K1 6) (x.Rules.l.map ARule.dv) x.Rules.t]
@[simp] theorem AProduct.fits(x:AProduct):Sim.fits (K1 19) (.d (AProduct.dv x))=true:=rfl
@[simp] theorem AProduct.purT(x:AProduct)(H:Heap):Sim.purT H (.d (AProduct.dv x))=some (.d (AProduct.dv x),false):=rfl
@[simp] theorem AProduct.clen(x:AProduct):(AProduct.dv x).cells.length=19:=rfl
@[simp] theorem AProduct.aof(x:AProduct):DV.a (AProduct.cells x)=AProduct.dv x:=rfl
@[simp] theorem AProduct.ccl(x:AProduct):(AProduct.cells x).length=19:=rfl
@[simp] theorem AProduct.n7_5(x:AProduct):((AProduct.dv x).cells.drop 7).take 5=AInterest.cells x.Credit:=rfl
@[simp] theorem AProduct.n12_5(x:AProduct):((AProduct.dv x).cells.drop 12).take 5=AInterest.cells x.Debit:=rfl
@[simp] theorem AProduct.c0(x:AProduct):(AProduct.dv x).cells[0]? = some (.s x.Name):=rfl
@[simp] theorem AProduct.c1(x:AProduct):(AProduct.dv x).cells[1]? = some (.s x.Currency):=rfl
@[simp] theorem AProduct.c2(x:AProduct):(AProduct.dv x).cells[2]? = some (.s x.Calendar):=rfl
@[simp] theorem AProduct.c3(x:AProduct):(AProduct.dv x).cells[3]? = some (I x.From):=rfl
@[simp] theorem AProduct.c5(x:AProduct):(AProduct.dv x).cells[5]? = some (I x.Overdraft):=rfl
@[simp] theorem AProduct.c7(x:AProduct):(AProduct.dv x).cells[7]? = some (.l (K1 2) (x.Credit.Tiers.l.map ATier.dv) x.Credit.Tiers.t):=rfl
@[simp] theorem AProduct.c12(x:AProduct):(AProduct.dv x).cells[12]? = some (.l (K1 2) (x.Debit.Tiers.l.map ATier.dv) x.Debit.Tiers.t):=rfl
@[simp] theorem AProduct.c17(x:AProduct):(AProduct.dv x).cells[17]? = some (.l (K1 10) (x.Fees.l.map AFee.dv) x.Fees.t):=rfl
@[simp] theorem AProduct.c18(x:AProduct):(AProduct.dv x).cells[18]? = some (.l (K1 6) (x.Rules.l.map ARule.dv) x.Rules.t):=rfl
structure AGl where
 Id:Int
 Parent:Int
 Kind:Int
 Name:List UInt8
def AGl.cells(x:AGl):List DV:=[I x.Id,I x.Parent,I x.Kind,.s x.Name]
def AGl.dv(x:AGl):DV:=.a [I x.Id,I x.Parent,I x.Kind,.s x.Name]
structure ALeg where
 Account:Int
 Amount:Int
 Currency:List UInt8
def ALeg.cells(x:ALeg):List DV:=[I x.Account,I x.Amount,.s x.Currency]
def ALeg.dv(x:ALeg):DV:=.a [I x.Account,I x.Amount,.s x.Currency]
@[simp] theorem ALeg.fits(x:ALeg):Sim.fits (K1 3) (.d (ALeg.dv x))=true:=rfl
@[simp] theorem ALeg.purT(x:ALeg)(H:Heap):Sim.purT H (.d (ALeg.dv x))=some (.d (ALeg.dv x),false):=rfl
@[simp] theorem ALeg.clen(x:ALeg):(ALeg.dv x).cells.length=3:=rfl
@[simp] theorem ALeg.aof(x:ALeg):DV.a (ALeg.cells x)=ALeg.dv x:=rfl
@[simp] theorem ALeg.ccl(x:ALeg):(ALeg.cells x).length=3:=rfl
@[simp] theorem ALeg.c0(x:ALeg):(ALeg.dv x).cells[0]? = some (I x.Account):=rfl
@[simp] theorem ALeg.c1(x:ALeg):(ALeg.dv x).cells[1]? = some (I x.Amount):=rfl
@[simp] theorem ALeg.c2(x:ALeg):(ALeg.dv x).cells[2]? = some (.s x.Currency):=rfl
structure AEntry where
 Id:Int
 Booked:Int
 Value:Int
 Kind:Int
 Auth:Int
 Period:Int
 Key:List UInt8
 Text:List UInt8
 Legs:SL ALeg
 Chain:Int
def AEntry.cells(x:AEntry):List DV:=[I x.Id,I x.Booked,I x.Value,I x.Kind,I x.Auth,I x.Period,.s x.Key,.s x.Text,.l (K1 3) (x.Legs.l.map ALeg.dv) x.Legs.t,.i .u64 x.Chain]
def AEntry.dv(x:AEntry):DV:=.a [I x.Id,I x.Booked,I x.Value,I x.Kind,I x.Auth,I x.Period,.s x.Key,.s x.Text,.l (K1 3) (x.Legs.l.map ALeg.dv) x.Legs.t,.i .u64 x.Chain]
@[simp] theorem AEntry.fits(x:AEntry):Sim.fits (K1 10) (.d (AEntry.dv x))=true:=rfl
@[simp] theorem AEntry.purT(x:AEntry)(H:Heap):Sim.purT H (.d (AEntry.dv x))=some (.d (AEntry.dv x),false):=rfl
@[simp] theorem AEntry.clen(x:AEntry):(AEntry.dv x).cells.length=10:=rfl
@[simp] theorem AEntry.aof(x:AEntry):DV.a (AEntry.cells x)=AEntry.dv x:=rfl
@[simp] theorem AEntry.ccl(x:AEntry):(AEntry.cells x).length=10:=rfl
@[simp] theorem AEntry.c0(x:AEntry):(AEntry.dv x).cells[0]? = some (I x.Id):=rfl
@[simp] theorem AEntry.c1(x:AEntry):(AEntry.dv x).cells[1]? = some (I x.Booked):=rfl
@[simp] theorem AEntry.c2(x:AEntry):(AEntry.dv x).cells[2]? = some (I x.Value):=rfl
@[simp] theorem AEntry.c3(x:AEntry):(AEntry.dv x).cells[3]? = some (I x.Kind):=rfl
@[simp] theorem AEntry.c4(x:AEntry):(AEntry.dv x).cells[4]? = some (I x.Auth):=rfl
@[simp] theorem AEntry.c5(x:AEntry):(AEntry.dv x).cells[5]? = some (I x.Period):=rfl
@[simp] theorem AEntry.c6(x:AEntry):(AEntry.dv x).cells[6]? = some (.s x.Key):=rfl
@[simp] theorem AEntry.c7(x:AEntry):(AEntry.dv x).cells[7]? = some (.s x.Text):=rfl
@[simp] theorem AEntry.c8(x:AEntry):(AEntry.dv x).cells[8]? = some (.l (K1 3) (x.Legs.l.map ALeg.dv) x.Legs.t):=rfl
@[simp] theorem AEntry.c9(x:AEntry):(AEntry.dv x).cells[9]? = some (.i .u64 x.Chain):=rfl
structure AHold where
 Id:Int
 Account:Int
 Amount:Int
 From:Int
 To:Int
 Key:List UInt8
def AHold.cells(x:AHold):List DV:=[I x.Id,I x.Account,I x.Amount,I x.From,I x.To,.s x.Key]
def AHold.dv(x:AHold):DV:=.a [I x.Id,I x.Account,I x.Amount,I x.From,I x.To,.s x.Key]
@[simp] theorem AHold.fits(x:AHold):Sim.fits (K1 6) (.d (AHold.dv x))=true:=rfl
@[simp] theorem AHold.purT(x:AHold)(H:Heap):Sim.purT H (.d (AHold.dv x))=some (.d (AHold.dv x),false):=rfl
@[simp] theorem AHold.clen(x:AHold):(AHold.dv x).cells.length=6:=rfl
@[simp] theorem AHold.aof(x:AHold):DV.a (AHold.cells x)=AHold.dv x:=rfl
@[simp] theorem AHold.ccl(x:AHold):(AHold.cells x).length=6:=rfl
@[simp] theorem AHold.c0(x:AHold):(AHold.dv x).cells[0]? = some (I x.Id):=rfl
@[simp] theorem AHold.c1(x:AHold):(AHold.dv x).cells[1]? = some (I x.Account):=rfl
@[simp] theorem AHold.c2(x:AHold):(AHold.dv x).cells[2]? = some (I x.Amount):=rfl
@[simp] theorem AHold.c3(x:AHold):(AHold.dv x).cells[3]? = some (I x.From):=rfl
@[simp] theorem AHold.c4(x:AHold):(AHold.dv x).cells[4]? = some (I x.To):=rfl
@[simp] theorem AHold.c5(x:AHold):(AHold.dv x).cells[5]? = some (.s x.Key):=rfl
structure ABlock where
 Id:Int
 Account:Int
 Kind:Int
 Amount:Int
 From:Int
 To:Int
 Source:List UInt8
def ABlock.cells(x:ABlock):List DV:=[I x.Id,I x.Account,I x.Kind,I x.Amount,I x.From,I x.To,.s x.Source]
def ABlock.dv(x:ABlock):DV:=.a [I x.Id,I x.Account,I x.Kind,I x.Amount,I x.From,I x.To,.s x.Source]
@[simp] theorem ABlock.fits(x:ABlock):Sim.fits (K1 7) (.d (ABlock.dv x))=true:=rfl
@[simp] theorem ABlock.purT(x:ABlock)(H:Heap):Sim.purT H (.d (ABlock.dv x))=some (.d (ABlock.dv x),false):=rfl
@[simp] theorem ABlock.clen(x:ABlock):(ABlock.dv x).cells.length=7:=rfl
@[simp] theorem ABlock.aof(x:ABlock):DV.a (ABlock.cells x)=ABlock.dv x:=rfl
@[simp] theorem ABlock.ccl(x:ABlock):(ABlock.cells x).length=7:=rfl
@[simp] theorem ABlock.c0(x:ABlock):(ABlock.dv x).cells[0]? = some (I x.Id):=rfl
@[simp] theorem ABlock.c1(x:ABlock):(ABlock.dv x).cells[1]? = some (I x.Account):=rfl
@[simp] theorem ABlock.c2(x:ABlock):(ABlock.dv x).cells[2]? = some (I x.Kind):=rfl
@[simp] theorem ABlock.c3(x:ABlock):(ABlock.dv x).cells[3]? = some (I x.Amount):=rfl
@[simp] theorem ABlock.c4(x:ABlock):(ABlock.dv x).cells[4]? = some (I x.From):=rfl
@[simp] theorem ABlock.c5(x:ABlock):(ABlock.dv x).cells[5]? = some (I x.To):=rfl
@[simp] theorem ABlock.c6(x:ABlock):(ABlock.dv x).cells[6]? = some (.s x.Source):=rfl
structure AAccount where
 Id:Int
 Opened:Int
 Closed:Int
 Extra:Int
 Owner:List UInt8
 Product:List UInt8
 Number:List UInt8
def AAccount.cells(x:AAccount):List DV:=[I x.Id,I x.Opened,I x.Closed,I x.Extra,.s x.Owner,.s x.Product,.s x.Number]
def AAccount.dv(x:AAccount):DV:=.a [I x.Id,I x.Opened,I x.Closed,I x.Extra,.s x.Owner,.s x.Product,.s x.Number]
@[simp] theorem AAccount.fits(x:AAccount):Sim.fits (K1 7) (.d (AAccount.dv x))=true:=rfl
@[simp] theorem AAccount.purT(x:AAccount)(H:Heap):Sim.purT H (.d (AAccount.dv x))=some (.d (AAccount.dv x),false):=rfl
@[simp] theorem AAccount.clen(x:AAccount):(AAccount.dv x).cells.length=7:=rfl
@[simp] theorem AAccount.aof(x:AAccount):DV.a (AAccount.cells x)=AAccount.dv x:=rfl
@[simp] theorem AAccount.ccl(x:AAccount):(AAccount.cells x).length=7:=rfl
@[simp] theorem AAccount.c0(x:AAccount):(AAccount.dv x).cells[0]? = some (I x.Id):=rfl
@[simp] theorem AAccount.c1(x:AAccount):(AAccount.dv x).cells[1]? = some (I x.Opened):=rfl
@[simp] theorem AAccount.c2(x:AAccount):(AAccount.dv x).cells[2]? = some (I x.Closed):=rfl
@[simp] theorem AAccount.c3(x:AAccount):(AAccount.dv x).cells[3]? = some (I x.Extra):=rfl
@[simp] theorem AAccount.c4(x:AAccount):(AAccount.dv x).cells[4]? = some (.s x.Owner):=rfl
@[simp] theorem AAccount.c5(x:AAccount):(AAccount.dv x).cells[5]? = some (.s x.Product):=rfl
@[simp] theorem AAccount.c6(x:AAccount):(AAccount.dv x).cells[6]? = some (.s x.Number):=rfl
structure APlan where
 Cash:Int
 Deposits:Int
 InterestPaid:Int
 InterestEarned:Int
 FeeEarned:Int
 Tax:Int
 Clearing:Int
 Loans:Int
 LoanInterest:Int
 Penalty:Int
 Provision:Int
 ProvisionCost:Int
 Loss:Int
 Recovery:Int
def APlan.cells(x:APlan):List DV:=[I x.Cash,I x.Deposits,I x.InterestPaid,I x.InterestEarned,I x.FeeEarned,I x.Tax,I x.Clearing,I x.Loans,I x.LoanInterest,I x.Penalty,I x.Provision,I x.ProvisionCost,I x.Loss,I x.Recovery]
def APlan.dv(x:APlan):DV:=.a [I x.Cash,I x.Deposits,I x.InterestPaid,I x.InterestEarned,I x.FeeEarned,I x.Tax,I x.Clearing,I x.Loans,I x.LoanInterest,I x.Penalty,I x.Provision,I x.ProvisionCost,I x.Loss,I x.Recovery]
structure ABooks where
 Currencies:SL ACurrency
 Calendars:SL ACalendar
 Chart:SL AGl
 Plan:APlan
 Products:SL AProduct
 Accounts:SL AAccount
 Journal:SL AEntry
 Holds:SL AHold
 Blocks:SL ABlock
def ABooks.cells(x:ABooks):List DV:=[.l (K1 2) (x.Currencies.l.map ACurrency.dv) x.Currencies.t,.l (K1 3) (x.Calendars.l.map ACalendar.dv) x.Calendars.t,.l (K1 4) (x.Chart.l.map AGl.dv) x.Chart.t,I x.Plan.Cash,I x.Plan.Deposits,I x.Plan.InterestPaid,I x.Plan.InterestEarned,I x.Plan.FeeEarned,I x.Plan.Tax,I x.Plan.Clearing,I x.Plan.Loans,I x.Plan.LoanInterest,I x.Plan.Penalty,I x.Plan.Provision,I x.Plan.ProvisionCost,I x.Plan.Loss,I x.Plan.Recovery,.l (K1 19) (x.Products.l.map AProduct.dv) x.Products.t,.l (K1 7) (x.Accounts.l.map AAccount.dv) x.Accounts.t,.l (K1 10) (x.Journal.l.map AEntry.dv) x.Journal.t,.l (K1 6) (x.Holds.l.map AHold.dv) x.Holds.t,.l (K1 7) (x.Blocks.l.map ABlock.dv) x.Blocks.t]
def ABooks.dv(x:ABooks):DV:=.a [.l (K1 2) (x.Currencies.l.map ACurrency.dv) x.Currencies.t,.l (K1 3) (x.Calendars.l.map ACalendar.dv) x.Calendars.t,.l (K1 4) (x.Chart.l.map AGl.dv) x.Chart.t,I x.Plan.Cash,I x.Plan.Deposits,I x.Plan.InterestPaid,I x.Plan.InterestEarned,I x.Plan.FeeEarned,I x.Plan.Tax,I x.Plan.Clearing,I x.Plan.Loans,I x.Plan.LoanInterest,I x.Plan.Penalty,I x.Plan.Provision,I x.Plan.ProvisionCost,I x.Plan.Loss,I x.Plan.Recovery,.l (K1 19) (x.Products.l.map AProduct.dv) x.Products.t,.l (K1 7) (x.Accounts.l.map AAccount.dv) x.Accounts.t,.l (K1 10) (x.Journal.l.map AEntry.dv) x.Journal.t,.l (K1 6) (x.Holds.l.map AHold.dv) x.Holds.t,.l (K1 7) (x.Blocks.l.map ABlock.dv) x.Blocks.t]
@[simp] theorem ABooks.fits(x:ABooks):Sim.fits (K1 22) (.d (ABooks.dv x))=true:=rfl
@[simp] theorem ABooks.purT(x:ABooks)(H:Heap):Sim.purT H (.d (ABooks.dv x))=some (.d (ABooks.dv x),false):=rfl
@[simp] theorem ABooks.clen(x:ABooks):(ABooks.dv x).cells.length=22:=rfl
@[simp] theorem ABooks.aof(x:ABooks):DV.a (ABooks.cells x)=ABooks.dv x:=rfl
@[simp] theorem ABooks.ccl(x:ABooks):(ABooks.cells x).length=22:=rfl
@[simp] theorem ABooks.n3_14(x:ABooks):((ABooks.dv x).cells.drop 3).take 14=APlan.cells x.Plan:=rfl
@[simp] theorem ABooks.c0(x:ABooks):(ABooks.dv x).cells[0]? = some (.l (K1 2) (x.Currencies.l.map ACurrency.dv) x.Currencies.t):=rfl
@[simp] theorem ABooks.c1(x:ABooks):(ABooks.dv x).cells[1]? = some (.l (K1 3) (x.Calendars.l.map ACalendar.dv) x.Calendars.t):=rfl
@[simp] theorem ABooks.c2(x:ABooks):(ABooks.dv x).cells[2]? = some (.l (K1 4) (x.Chart.l.map AGl.dv) x.Chart.t):=rfl
@[simp] theorem ABooks.c17(x:ABooks):(ABooks.dv x).cells[17]? = some (.l (K1 19) (x.Products.l.map AProduct.dv) x.Products.t):=rfl
@[simp] theorem ABooks.c18(x:ABooks):(ABooks.dv x).cells[18]? = some (.l (K1 7) (x.Accounts.l.map AAccount.dv) x.Accounts.t):=rfl
@[simp] theorem ABooks.c19(x:ABooks):(ABooks.dv x).cells[19]? = some (.l (K1 10) (x.Journal.l.map AEntry.dv) x.Journal.t):=rfl
@[simp] theorem ABooks.c20(x:ABooks):(ABooks.dv x).cells[20]? = some (.l (K1 6) (x.Holds.l.map AHold.dv) x.Holds.t):=rfl
@[simp] theorem ABooks.c21(x:ABooks):(ABooks.dv x).cells[21]? = some (.l (K1 7) (x.Blocks.l.map ABlock.dv) x.Blocks.t):=rfl
structure AValue where
 Typ:Int
 N:Int
def AValue.cells(x:AValue):List DV:=[I x.Typ,I x.N]
def AValue.dv(x:AValue):DV:=.a [I x.Typ,I x.N]
@[simp] theorem AValue.fits(x:AValue):Sim.fits (K1 2) (.d (AValue.dv x))=true:=rfl
@[simp] theorem AValue.purT(x:AValue)(H:Heap):Sim.purT H (.d (AValue.dv x))=some (.d (AValue.dv x),false):=rfl
@[simp] theorem AValue.clen(x:AValue):(AValue.dv x).cells.length=2:=rfl
@[simp] theorem AValue.aof(x:AValue):DV.a (AValue.cells x)=AValue.dv x:=rfl
@[simp] theorem AValue.ccl(x:AValue):(AValue.cells x).length=2:=rfl
@[simp] theorem AValue.c0(x:AValue):(AValue.dv x).cells[0]? = some (I x.Typ):=rfl
@[simp] theorem AValue.c1(x:AValue):(AValue.dv x).cells[1]? = some (I x.N):=rfl
theorem qjw{t:Ty}{ts:List Ty}{xs:List DV}(h:qav (t::ts) xs):∃x r,xs=x::r∧Has t x∧qav ts r:=by
 cases xs with
 |nil=>simp[qav]at h
 |cons x r=>rw[qav]at h;exact⟨x,r,rfl,h.1,h.2⟩
theorem qdL{xs:List DV}(h:qav [] xs):xs=[]:=by
 cases xs with
 |nil=>rfl
 |cons x r=>simp[qav]at h
theorem qvz{k:IntKind}{x:DV}(h:Has (.i k) x):∃n,x = .i k n∧(Lit.int k n).wf=true:=by rw[Has]at h;exact h
theorem qAS{x:DV}(h:Has .b x):∃c,x = .b c:=by rw[Has]at h;exact h
theorem qAT{x:DV}(h:Has .s x):∃l,x = .s l∧l.length≤maxLen:=by rw[Has]at h;exact h
theorem qsr{n:Nat}{xs:List DV}{e:DV}(h:mkD (some n) xs=some e):e = .a xs:=by
 simp only[mkD]at h;split at h
 ·cases h;rfl
 ·cases h
def inK(k:IntKind)(n:Int):Prop:=(Lit.int k n).wf=true
theorem qon{α:Type}{f:α→DV}{p:α→Prop}:∀{es:List DV},(∀e∈es,∃a,e=f a∧p a)→∃l:List α,es=l.map f∧∀a∈l,p a
 | [],_=>⟨[],rfl,fun a h=>by cases h⟩
 |e::es,h=>by
  obtain⟨a,ha,hp⟩:=h e (zzr ..);obtain⟨l,hl,hq⟩:=qon (fun x hx=>h x (zzi _ hx))
  refine⟨a::l,by rw[ha,hl];rfl,fun b hb => ?_⟩
  rcases List.mem_cons.1 hb with rfl|hb
  ·exact hp
  ·exact hq b hb
theorem qJj{α:Type}{f:α→DV}{p q:α→Prop}{n b:Nat}{ts:List Ty}{x:DV}(h:Has (.l (some n) b ts) x)(hf:∀cs,qav ts cs→∃a,DV.a cs=f a∧p a∧q a):∃s:SL α,x = .l (some n) (s.l.map f) s.t∧(s.l.length≤maxLen∧∀a∈s.l,p a)∧s.t=false∧s.l.length*b≤qb3∧∀a∈s.l,q a:=by
 rw[Has]at h;obtain⟨es,rfl,h1,hb,h2⟩:=h;obtain⟨l,rfl,hp⟩:=qon (f:=f) (p:=fun a=>p a∧q a) (es:=es) fun e he=>by
  obtain⟨cs,h3,h4⟩:=h2 e he;obtain⟨a,ha,hp⟩:=hf cs h4;exact⟨a,by rw[qsr h3];exact ha,hp⟩
 exact⟨⟨l,false⟩,rfl,⟨by simpa using h1,fun a ha=>(hp a ha).1⟩,rfl,by simpa using hb,fun a ha=>(hp a ha).2⟩
theorem qJk{α:Type}{f:α→DV}{p:α→Prop}{t:Ty}{b:Nat}{x:DV}(h:Has (.l none b [t]) x)(hf:∀y,Has t y→∃a,y=f a∧p a):∃s:SL α,x = .l none (s.l.map f) s.t∧(s.l.length≤maxLen∧∀a∈s.l,p a)∧s.t=false∧s.l.length*b≤qb3:=by
 rw[Has]at h;obtain⟨es,rfl,h1,hb,h2⟩:=h;obtain⟨l,rfl,hp⟩:=qon (f:=f) (p:=p) (es:=es) fun e he=>by
  obtain⟨cs,h3,h4⟩:=h2 e he;obtain⟨y,r,rfl,h5,h6⟩:=qjw h4;obtain rfl:=qdL h6;simp only[mkD,zzb]at h3;subst h3;exact hf y h5
 exact⟨⟨l,false⟩,rfl,⟨by simpa using h1,hp⟩,rfl,by simpa using hb⟩
theorem qJl{x:DV}(h:Has .e x):∃s:SL DV,x = .l (K1 4) s.l s.t∧XL (.l (K1 4) s.l s.t):=by
 rw[Has]at h;cases h with
 |mk es h1 h2 h3=>exact⟨⟨es,false⟩,rfl,.mk es h1 h2 h3⟩
theorem qar{k:IntKind}{ts:List Ty}{xs:List DV}(g:qav (.i k::ts) xs):∃n r,xs = .i k n::r∧inK k n∧qav ts r:=by
 obtain⟨_,r,rfl,h0,h⟩:=qjw g;obtain⟨n,rfl,p⟩:=qvz h0;exact⟨n,r,rfl,p,h⟩
theorem qct{ts:List Ty}{xs:List DV}(g:qav (.s::ts) xs):∃n r,xs = .s n::r∧n.length≤maxLen∧qav ts r:=by
 obtain⟨_,r,rfl,h0,h⟩:=qjw g;obtain⟨n,rfl,p⟩:=qAT h0;exact⟨n,r,rfl,p,h⟩
theorem qkA{ts:List Ty}{xs:List DV}(g:qav (.b::ts) xs):∃n r,xs = .b n::r∧True∧qav ts r:=by
 obtain⟨_,r,rfl,h0,h⟩:=qjw g;obtain⟨n,rfl⟩:=qAS h0;exact⟨n,r,rfl,trivial,h⟩
theorem qq4{ts:List Ty}{xs:List DV}(g:qav (.e::ts) xs):∃(s:SL DV) (r:List DV),xs = .l (K1 4) s.l s.t::r∧XL (.l (K1 4) s.l s.t)∧qav ts r:=by
 obtain⟨_,r,rfl,h0,h⟩:=qjw g;obtain⟨n,rfl,p⟩:=qJl h0;exact⟨n,r,rfl,p,h⟩
theorem qvy{b:Nat}{ts:List Ty}{xs:List DV}(g:qav (.l none b [.i .i64]::ts) xs):∃(s:SL Int) (r:List DV),xs = .l none (s.l.map I) s.t::r∧(s.l.length≤maxLen∧∀y∈s.l,inK .i64 y)∧(s.t=false∧s.l.length*b≤qb3)∧qav ts r:=by
 obtain⟨_,r,rfl,h0,h⟩:=qjw g;obtain⟨n,rfl,p,q⟩:=qJk (f:=I) (p:=fun y=>inK .i64 y) h0 fun y hy=>qvz hy
 exact⟨n,r,rfl,p,q,h⟩
theorem qf0{α:Type}{f:α→DV}{p q:α→Prop}{n b:Nat}{us ts:List Ty}{xs:List DV}(hf:∀cs,qav us cs→∃a,DV.a cs=f a∧p a∧q a)(g:qav (.l (some n) b us::ts) xs):∃(s:SL α) (r:List DV),xs = .l (some n) (s.l.map f) s.t::r∧(s.l.length≤maxLen∧∀a∈s.l,p a)∧(s.t=false∧s.l.length*b≤qb3∧∀a∈s.l,q a)∧qav ts r:=by
 obtain⟨_,r,rfl,h0,h⟩:=qjw g;obtain⟨n,rfl,p,q⟩:=qJj h0 hf;exact⟨n,r,rfl,p,q,h⟩
def AWide.ok(x:AWide):Prop:=inK .i64 x.Hi∧inK .u64 x.Lo
def AWide.fit(_:AWide):Prop:=True
def AWide.ty:List Ty:=[.i .i64,.i .u64]
theorem AWide.ofB(cs:List DV)(h:qav AWide.ty cs):∃x:AWide,DV.a cs=x.dv∧x.ok∧x.fit:=by
 obtain⟨a0,_,rfl,p0,h⟩:=qar h;obtain⟨a1,_,rfl,p1,h⟩:=qar h;obtain rfl:=qdL h;exact⟨⟨a0,a1⟩,rfl,⟨p0,p1⟩,trivial⟩
theorem AWide.of(cs:List DV)(h:qav AWide.ty cs):∃x:AWide,DV.a cs=x.dv∧x.ok:=let ⟨x,a,b,_⟩:=AWide.ofB cs h; ⟨x,a,b⟩
def ACurrency.ok(x:ACurrency):Prop:=x.Code.length≤maxLen∧inK .i64 x.Digits
def ACurrency.fit(_:ACurrency):Prop:=True
def ACurrency.ty:List Ty:=[.s,.i .i64]
theorem ACurrency.ofB(cs:List DV)(h:qav ACurrency.ty cs):∃x:ACurrency,DV.a cs=x.dv∧x.ok∧x.fit:=by
 obtain⟨a0,_,rfl,p0,h⟩:=qct h;obtain⟨a1,_,rfl,p1,h⟩:=qar h;obtain rfl:=qdL h;exact⟨⟨a0,a1⟩,rfl,⟨p0,p1⟩,trivial⟩
theorem ACurrency.of(cs:List DV)(h:qav ACurrency.ty cs):∃x:ACurrency,DV.a cs=x.dv∧x.ok:=let ⟨x,a,b,_⟩:=ACurrency.ofB cs h; ⟨x,a,b⟩
def ACalendar.ok(x:ACalendar):Prop:=x.Name.length≤maxLen∧(x.Weekend.l.length≤maxLen∧∀y∈x.Weekend.l,inK .i64 y)∧(x.Holidays.l.length≤maxLen∧∀y∈x.Holidays.l,inK .i64 y)
def ACalendar.fit(x:ACalendar):Prop:=(x.Weekend.t=false∧x.Weekend.l.length*8≤qb3)∧(x.Holidays.t=false∧x.Holidays.l.length*8≤qb3)
def ACalendar.ty:List Ty:=[.s,.l none 8 [.i .i64],.l none 8 [.i .i64]]
theorem ACalendar.ofB(cs:List DV)(h:qav ACalendar.ty cs):∃x:ACalendar,DV.a cs=x.dv∧x.ok∧x.fit:=by
 obtain⟨a0,_,rfl,p0,h⟩:=qct h;obtain⟨a1,_,rfl,p1,q1,h⟩:=qvy h;obtain⟨a2,_,rfl,p2,q2,h⟩:=qvy h;obtain rfl:=qdL h;exact⟨⟨a0,a1,a2⟩,rfl,⟨p0,p1,p2⟩,⟨q1,q2⟩⟩
theorem ACalendar.of(cs:List DV)(h:qav ACalendar.ty cs):∃x:ACalendar,DV.a cs=x.dv∧x.ok:=let ⟨x,a,b,_⟩:=ACalendar.ofB cs h; ⟨x,a,b⟩
def AVar.ok(x:AVar):Prop:=x.Name.length≤maxLen∧inK .i64 x.Typ
def AVar.fit(_:AVar):Prop:=True
def AVar.ty:List Ty:=[.s,.i .i64]
theorem AVar.ofB(cs:List DV)(h:qav AVar.ty cs):∃x:AVar,DV.a cs=x.dv∧x.ok∧x.fit:=by
 obtain⟨a0,_,rfl,p0,h⟩:=qct h;obtain⟨a1,_,rfl,p1,h⟩:=qar h;obtain rfl:=qdL h;exact⟨⟨a0,a1⟩,rfl,⟨p0,p1⟩,trivial⟩
theorem AVar.of(cs:List DV)(h:qav AVar.ty cs):∃x:AVar,DV.a cs=x.dv∧x.ok:=let ⟨x,a,b,_⟩:=AVar.ofB cs h; ⟨x,a,b⟩
def ATier.ok(x:ATier):Prop:=inK .i64 x.From∧inK .i64 x.Ppm
def ATier.fit(_:ATier):Prop:=True
def ATier.ty:List Ty:=[.i .i64,.i .i64]
theorem ATier.ofB(cs:List DV)(h:qav ATier.ty cs):∃x:ATier,DV.a cs=x.dv∧x.ok∧x.fit:=by
 obtain⟨a0,_,rfl,p0,h⟩:=qar h;obtain⟨a1,_,rfl,p1,h⟩:=qar h;obtain rfl:=qdL h;exact⟨⟨a0,a1⟩,rfl,⟨p0,p1⟩,trivial⟩
theorem ATier.of(cs:List DV)(h:qav ATier.ty cs):∃x:ATier,DV.a cs=x.dv∧x.ok:=let ⟨x,a,b,_⟩:=ATier.ofB cs h; ⟨x,a,b⟩
def AInterest.ok(x:AInterest):Prop:=(x.Tiers.l.length≤maxLen∧∀y∈x.Tiers.l,y.ok)∧inK .i64 x.Basis∧inK .i64 x.Mode
def AInterest.fit(x:AInterest):Prop:=(x.Tiers.t=false∧x.Tiers.l.length*16≤qb3∧∀y∈x.Tiers.l,y.fit)
def AInterest.ty:List Ty:=[.l (K1 2) 16 ATier.ty,.b,.i .i64,.i .i64,.b]
theorem AInterest.ofB(cs:List DV)(h:qav AInterest.ty cs):∃x:AInterest,DV.a cs=x.dv∧x.ok∧x.fit:=by
 obtain⟨a0,_,rfl,p0,q0,h⟩:=qf0 ATier.ofB h;obtain⟨a1,_,rfl,-,h⟩:=qkA h;obtain⟨a2,_,rfl,p2,h⟩:=qar h;obtain⟨a3,_,rfl,p3,h⟩:=qar h;obtain⟨a4,_,rfl,-,h⟩:=qkA h;obtain rfl:=qdL h;exact⟨⟨a0,a1,a2,a3,a4⟩,rfl,⟨p0,p2,p3⟩,q0⟩
theorem AInterest.of(cs:List DV)(h:qav AInterest.ty cs):∃x:AInterest,DV.a cs=x.dv∧x.ok:=let ⟨x,a,b,_⟩:=AInterest.ofB cs h; ⟨x,a,b⟩
def AExpr.ok(x:AExpr):Prop:=inK .i64 x.Op∧inK .i64 x.N∧x.S.length≤maxLen∧XL (.l (K1 4) x.Args.l x.Args.t)
def AFee.ok(x:AFee):Prop:=x.Name.length≤maxLen∧inK .i64 x.Event∧x.When.ok∧x.Amount.ok
def AFee.fit(_:AFee):Prop:=True
def AFee.ty:List Ty:=[.s,.i .i64,.i .i64,.i .i64,.s,.e,.i .i64,.i .i64,.s,.e]
theorem AFee.ofB(cs:List DV)(h:qav AFee.ty cs):∃x:AFee,DV.a cs=x.dv∧x.ok∧x.fit:=by
 obtain⟨a0,_,rfl,p0,h⟩:=qct h;obtain⟨a1,_,rfl,p1,h⟩:=qar h;obtain⟨a2,_,rfl,p2,h⟩:=qar h;obtain⟨a3,_,rfl,p3,h⟩:=qar h;obtain⟨a4,_,rfl,p4,h⟩:=qct h;obtain⟨a5,_,rfl,p5,h⟩:=qq4 h;obtain⟨a6,_,rfl,p6,h⟩:=qar h;obtain⟨a7,_,rfl,p7,h⟩:=qar h;obtain⟨a8,_,rfl,p8,h⟩:=qct h;obtain⟨a9,_,rfl,p9,h⟩:=qq4 h;obtain rfl:=qdL h;exact⟨⟨a0,a1,⟨a2,a3,a4,a5⟩,⟨a6,a7,a8,a9⟩⟩,rfl,⟨p0,p1,⟨p2,p3,p4,p5⟩,⟨p6,p7,p8,p9⟩⟩,trivial⟩
theorem AFee.of(cs:List DV)(h:qav AFee.ty cs):∃x:AFee,DV.a cs=x.dv∧x.ok:=let ⟨x,a,b,_⟩:=AFee.ofB cs h; ⟨x,a,b⟩
def ARule.ok(x:ARule):Prop:=x.Name.length≤maxLen∧inK .i64 x.Window∧x.Amount.ok
def ARule.fit(_:ARule):Prop:=True
def ARule.ty:List Ty:=[.s,.i .i64,.i .i64,.i .i64,.s,.e]
theorem ARule.ofB(cs:List DV)(h:qav ARule.ty cs):∃x:ARule,DV.a cs=x.dv∧x.ok∧x.fit:=by
 obtain⟨a0,_,rfl,p0,h⟩:=qct h;obtain⟨a1,_,rfl,p1,h⟩:=qar h;obtain⟨a2,_,rfl,p2,h⟩:=qar h;obtain⟨a3,_,rfl,p3,h⟩:=qar h;obtain⟨a4,_,rfl,p4,h⟩:=qct h;obtain⟨a5,_,rfl,p5,h⟩:=qq4 h;obtain rfl:=qdL h;exact⟨⟨a0,a1,⟨a2,a3,a4,a5⟩⟩,rfl,⟨p0,p1,⟨p2,p3,p4,p5⟩⟩,trivial⟩
theorem ARule.of(cs:List DV)(h:qav ARule.ty cs):∃x:ARule,DV.a cs=x.dv∧x.ok:=let ⟨x,a,b,_⟩:=ARule.ofB cs h; ⟨x,a,b⟩
def AProduct.ok(x:AProduct):Prop:=x.Name.length≤maxLen∧x.Currency.length≤maxLen∧x.Calendar.length≤maxLen∧inK .i64 x.From∧inK .i64 x.Every∧inK .i64 x.Overdraft∧inK .i64 x.TaxPpm∧x.Credit.ok∧x.Debit.ok∧(x.Fees.l.length≤maxLen∧∀y∈x.Fees.l,y.ok)∧(x.Rules.l.length≤maxLen∧∀y∈x.Rules.l,y.ok)
def AProduct.fit(x:AProduct):Prop:=x.Credit.fit∧x.Debit.fit∧(x.Fees.t=false∧x.Fees.l.length*136≤qb3∧∀y∈x.Fees.l,y.fit)∧(x.Rules.t=false∧x.Rules.l.length*80≤qb3∧∀y∈x.Rules.l,y.fit)
def AProduct.ty:List Ty:=[.s,.s,.s,.i .i64,.i .i64,.i .i64,.i .i64,.l (K1 2) 16 ATier.ty,.b,.i .i64,.i .i64,.b,.l (K1 2) 16 ATier.ty,.b,.i .i64,.i .i64,.b,.l (K1 10) 136 AFee.ty,.l (K1 6) 80 ARule.ty]
theorem AProduct.ofB(cs:List DV)(h:qav AProduct.ty cs):∃x:AProduct,DV.a cs=x.dv∧x.ok∧x.fit:=by
 obtain⟨a0,_,rfl,p0,h⟩:=qct h;obtain⟨a1,_,rfl,p1,h⟩:=qct h;obtain⟨a2,_,rfl,p2,h⟩:=qct h;obtain⟨a3,_,rfl,p3,h⟩:=qar h;obtain⟨a4,_,rfl,p4,h⟩:=qar h;obtain⟨a5,_,rfl,p5,h⟩:=qar h;obtain⟨a6,_,rfl,p6,h⟩:=qar h;obtain⟨a7,_,rfl,p7,q7,h⟩:=qf0 ATier.ofB h;obtain⟨a8,_,rfl,-,h⟩:=qkA h;obtain⟨a9,_,rfl,p9,h⟩:=qar h;obtain⟨a10,_,rfl,p10,h⟩:=qar h;obtain⟨a11,_,rfl,-,h⟩:=qkA h;obtain⟨a12,_,rfl,p12,q12,h⟩:=qf0 ATier.ofB h;obtain⟨a13,_,rfl,-,h⟩:=qkA h;obtain⟨a14,_,rfl,p14,h⟩:=qar h;obtain⟨a15,_,rfl,p15,h⟩:=qar h;obtain⟨a16,_,rfl,-,h⟩:=qkA h;obtain⟨a17,_,rfl,p17,q17,h⟩:=qf0 AFee.ofB h;obtain⟨a18,_,rfl,p18,q18,h⟩:=qf0 ARule.ofB h;obtain rfl:=qdL h;exact⟨⟨a0,a1,a2,a3,a4,a5,a6,⟨a7,a8,a9,a10,a11⟩,⟨a12,a13,a14,a15,a16⟩,a17,a18⟩,rfl,⟨p0,p1,p2,p3,p4,p5,p6,⟨p7,p9,p10⟩,⟨p12,p14,p15⟩,p17,p18⟩,⟨q7,q12,q17,q18⟩⟩
theorem AProduct.of(cs:List DV)(h:qav AProduct.ty cs):∃x:AProduct,DV.a cs=x.dv∧x.ok:=let ⟨x,a,b,_⟩:=AProduct.ofB cs h; ⟨x,a,b⟩
def AGl.ok(x:AGl):Prop:=inK .i64 x.Id∧inK .i64 x.Parent∧inK .i64 x.Kind∧x.Name.length≤maxLen
def AGl.fit(_:AGl):Prop:=True
def AGl.ty:List Ty:=[.i .i64,.i .i64,.i .i64,.s]
theorem AGl.ofB(cs:List DV)(h:qav AGl.ty cs):∃x:AGl,DV.a cs=x.dv∧x.ok∧x.fit:=by
 obtain⟨a0,_,rfl,p0,h⟩:=qar h;obtain⟨a1,_,rfl,p1,h⟩:=qar h;obtain⟨a2,_,rfl,p2,h⟩:=qar h;obtain⟨a3,_,rfl,p3,h⟩:=qct h;obtain rfl:=qdL h;exact⟨⟨a0,a1,a2,a3⟩,rfl,⟨p0,p1,p2,p3⟩,trivial⟩
theorem AGl.of(cs:List DV)(h:qav AGl.ty cs):∃x:AGl,DV.a cs=x.dv∧x.ok:=let ⟨x,a,b,_⟩:=AGl.ofB cs h; ⟨x,a,b⟩
def ALeg.ok(x:ALeg):Prop:=inK .i64 x.Account∧inK .i64 x.Amount∧x.Currency.length≤maxLen
def ALeg.fit(_:ALeg):Prop:=True
def ALeg.ty:List Ty:=[.i .i64,.i .i64,.s]
theorem ALeg.ofB(cs:List DV)(h:qav ALeg.ty cs):∃x:ALeg,DV.a cs=x.dv∧x.ok∧x.fit:=by
 obtain⟨a0,_,rfl,p0,h⟩:=qar h;obtain⟨a1,_,rfl,p1,h⟩:=qar h;obtain⟨a2,_,rfl,p2,h⟩:=qct h;obtain rfl:=qdL h;exact⟨⟨a0,a1,a2⟩,rfl,⟨p0,p1,p2⟩,trivial⟩
theorem ALeg.of(cs:List DV)(h:qav ALeg.ty cs):∃x:ALeg,DV.a cs=x.dv∧x.ok:=let ⟨x,a,b,_⟩:=ALeg.ofB cs h; ⟨x,a,b⟩
def AEntry.ok(x:AEntry):Prop:=inK .i64 x.Id∧inK .i64 x.Booked∧inK .i64 x.Value∧inK .i64 x.Kind∧inK .i64 x.Auth∧inK .i64 x.Period∧x.Key.length≤maxLen∧x.Text.length≤maxLen∧(x.Legs.l.length≤maxLen∧∀y∈x.Legs.l,y.ok)∧inK .u64 x.Chain
def AEntry.fit(x:AEntry):Prop:=(x.Legs.t=false∧x.Legs.l.length*32≤qb3∧∀y∈x.Legs.l,y.fit)
def AEntry.ty:List Ty:=[.i .i64,.i .i64,.i .i64,.i .i64,.i .i64,.i .i64,.s,.s,.l (K1 3) 32 ALeg.ty,.i .u64]
theorem AEntry.ofB(cs:List DV)(h:qav AEntry.ty cs):∃x:AEntry,DV.a cs=x.dv∧x.ok∧x.fit:=by
 obtain⟨a0,_,rfl,p0,h⟩:=qar h;obtain⟨a1,_,rfl,p1,h⟩:=qar h;obtain⟨a2,_,rfl,p2,h⟩:=qar h;obtain⟨a3,_,rfl,p3,h⟩:=qar h;obtain⟨a4,_,rfl,p4,h⟩:=qar h;obtain⟨a5,_,rfl,p5,h⟩:=qar h;obtain⟨a6,_,rfl,p6,h⟩:=qct h;obtain⟨a7,_,rfl,p7,h⟩:=qct h;obtain⟨a8,_,rfl,p8,q8,h⟩:=qf0 ALeg.ofB h;obtain⟨a9,_,rfl,p9,h⟩:=qar h;obtain rfl:=qdL h;exact⟨⟨a0,a1,a2,a3,a4,a5,a6,a7,a8,a9⟩,rfl,⟨p0,p1,p2,p3,p4,p5,p6,p7,p8,p9⟩,q8⟩
theorem AEntry.of(cs:List DV)(h:qav AEntry.ty cs):∃x:AEntry,DV.a cs=x.dv∧x.ok:=let ⟨x,a,b,_⟩:=AEntry.ofB cs h; ⟨x,a,b⟩
def AHold.ok(x:AHold):Prop:=inK .i64 x.Id∧inK .i64 x.Account∧inK .i64 x.Amount∧inK .i64 x.From∧inK .i64 x.To∧x.Key.length≤maxLen
def AHold.fit(_:AHold):Prop:=True
def AHold.ty:List Ty:=[.i .i64,.i .i64,.i .i64,.i .i64,.i .i64,.s]
theorem AHold.ofB(cs:List DV)(h:qav AHold.ty cs):∃x:AHold,DV.a cs=x.dv∧x.ok∧x.fit:=by
 obtain⟨a0,_,rfl,p0,h⟩:=qar h;obtain⟨a1,_,rfl,p1,h⟩:=qar h;obtain⟨a2,_,rfl,p2,h⟩:=qar h;obtain⟨a3,_,rfl,p3,h⟩:=qar h;obtain⟨a4,_,rfl,p4,h⟩:=qar h;obtain⟨a5,_,rfl,p5,h⟩:=qct h;obtain rfl:=qdL h;exact⟨⟨a0,a1,a2,a3,a4,a5⟩,rfl,⟨p0,p1,p2,p3,p4,p5⟩,trivial⟩
theorem AHold.of(cs:List DV)(h:qav AHold.ty cs):∃x:AHold,DV.a cs=x.dv∧x.ok:=let ⟨x,a,b,_⟩:=AHold.ofB cs h; ⟨x,a,b⟩
def ABlock.ok(x:ABlock):Prop:=inK .i64 x.Id∧inK .i64 x.Account∧inK .i64 x.Kind∧inK .i64 x.Amount∧inK .i64 x.From∧inK .i64 x.To∧x.Source.length≤maxLen
def ABlock.fit(_:ABlock):Prop:=True
def ABlock.ty:List Ty:=[.i .i64,.i .i64,.i .i64,.i .i64,.i .i64,.i .i64,.s]
theorem ABlock.ofB(cs:List DV)(h:qav ABlock.ty cs):∃x:ABlock,DV.a cs=x.dv∧x.ok∧x.fit:=by
 obtain⟨a0,_,rfl,p0,h⟩:=qar h;obtain⟨a1,_,rfl,p1,h⟩:=qar h;obtain⟨a2,_,rfl,p2,h⟩:=qar h;obtain⟨a3,_,rfl,p3,h⟩:=qar h;obtain⟨a4,_,rfl,p4,h⟩:=qar h;obtain⟨a5,_,rfl,p5,h⟩:=qar h;obtain⟨a6,_,rfl,p6,h⟩:=qct h;obtain rfl:=qdL h;exact⟨⟨a0,a1,a2,a3,a4,a5,a6⟩,rfl,⟨p0,p1,p2,p3,p4,p5,p6⟩,trivial⟩
theorem ABlock.of(cs:List DV)(h:qav ABlock.ty cs):∃x:ABlock,DV.a cs=x.dv∧x.ok:=let ⟨x,a,b,_⟩:=ABlock.ofB cs h; ⟨x,a,b⟩
def AAccount.ok(x:AAccount):Prop:=inK .i64 x.Id∧inK .i64 x.Opened∧inK .i64 x.Closed∧inK .i64 x.Extra∧x.Owner.length≤maxLen∧x.Product.length≤maxLen∧x.Number.length≤maxLen
def AAccount.fit(_:AAccount):Prop:=True
def AAccount.ty:List Ty:=[.i .i64,.i .i64,.i .i64,.i .i64,.s,.s,.s]
theorem AAccount.ofB(cs:List DV)(h:qav AAccount.ty cs):∃x:AAccount,DV.a cs=x.dv∧x.ok∧x.fit:=by
 obtain⟨a0,_,rfl,p0,h⟩:=qar h;obtain⟨a1,_,rfl,p1,h⟩:=qar h;obtain⟨a2,_,rfl,p2,h⟩:=qar h;obtain⟨a3,_,rfl,p3,h⟩:=qar h;obtain⟨a4,_,rfl,p4,h⟩:=qct h;obtain⟨a5,_,rfl,p5,h⟩:=qct h;obtain⟨a6,_,rfl,p6,h⟩:=qct h;obtain rfl:=qdL h;exact⟨⟨a0,a1,a2,a3,a4,a5,a6⟩,rfl,⟨p0,p1,p2,p3,p4,p5,p6⟩,trivial⟩
theorem AAccount.of(cs:List DV)(h:qav AAccount.ty cs):∃x:AAccount,DV.a cs=x.dv∧x.ok:=let ⟨x,a,b,_⟩:=AAccount.ofB cs h; ⟨x,a,b⟩
def APlan.ok(x:APlan):Prop:=inK .i64 x.Cash∧inK .i64 x.Deposits∧inK .i64 x.InterestPaid∧inK .i64 x.InterestEarned∧inK .i64 x.FeeEarned∧inK .i64 x.Tax∧inK .i64 x.Clearing∧inK .i64 x.Loans∧inK .i64 x.LoanInterest∧inK .i64 x.Penalty∧inK .i64 x.Provision∧inK .i64 x.ProvisionCost∧inK .i64 x.Loss∧inK .i64 x.Recovery
def APlan.fit(_:APlan):Prop:=True
def APlan.ty:List Ty:=[.i .i64,.i .i64,.i .i64,.i .i64,.i .i64,.i .i64,.i .i64,.i .i64,.i .i64,.i .i64,.i .i64,.i .i64,.i .i64,.i .i64]
theorem APlan.ofB(cs:List DV)(h:qav APlan.ty cs):∃x:APlan,DV.a cs=x.dv∧x.ok∧x.fit:=by
 obtain⟨a0,_,rfl,p0,h⟩:=qar h;obtain⟨a1,_,rfl,p1,h⟩:=qar h;obtain⟨a2,_,rfl,p2,h⟩:=qar h;obtain⟨a3,_,rfl,p3,h⟩:=qar h;obtain⟨a4,_,rfl,p4,h⟩:=qar h;obtain⟨a5,_,rfl,p5,h⟩:=qar h;obtain⟨a6,_,rfl,p6,h⟩:=qar h;obtain⟨a7,_,rfl,p7,h⟩:=qar h;obtain⟨a8,_,rfl,p8,h⟩:=qar h;obtain⟨a9,_,rfl,p9,h⟩:=qar h;obtain⟨a10,_,rfl,p10,h⟩:=qar h;obtain⟨a11,_,rfl,p11,h⟩:=qar h;obtain⟨a12,_,rfl,p12,h⟩:=qar h;obtain⟨a13,_,rfl,p13,h⟩:=qar h;obtain rfl:=qdL h;exact⟨⟨a0,a1,a2,a3,a4,a5,a6,a7,a8,a9,a10,a11,a12,a13⟩,rfl,⟨p0,p1,p2,p3,p4,p5,p6,p7,p8,p9,p10,p11,p12,p13⟩,trivial⟩
theorem APlan.of(cs:List DV)(h:qav APlan.ty cs):∃x:APlan,DV.a cs=x.dv∧x.ok:=let ⟨x,a,b,_⟩:=APlan.ofB cs h; ⟨x,a,b⟩
def ABooks.ok(x:ABooks):Prop:=(x.Currencies.l.length≤maxLen∧∀y∈x.Currencies.l,y.ok)∧(x.Calendars.l.length≤maxLen∧∀y∈x.Calendars.l,y.ok)∧(x.Chart.l.length≤maxLen∧∀y∈x.Chart.l,y.ok)∧x.Plan.ok∧(x.Products.l.length≤maxLen∧∀y∈x.Products.l,y.ok)∧(x.Accounts.l.length≤maxLen∧∀y∈x.Accounts.l,y.ok)∧(x.Journal.l.length≤maxLen∧∀y∈x.Journal.l,y.ok)∧(x.Holds.l.length≤maxLen∧∀y∈x.Holds.l,y.ok)∧(x.Blocks.l.length≤maxLen∧∀y∈x.Blocks.l,y.ok)
def ABooks.fit(x:ABooks):Prop:=(x.Currencies.t=false∧x.Currencies.l.length*24≤qb3∧∀y∈x.Currencies.l,y.fit)∧(x.Calendars.t=false∧x.Calendars.l.length*64≤qb3∧∀y∈x.Calendars.l,y.fit)∧(x.Chart.t=false∧x.Chart.l.length*40≤qb3∧∀y∈x.Chart.l,y.fit)∧(x.Products.t=false∧x.Products.l.length*240≤qb3∧∀y∈x.Products.l,y.fit)∧(x.Accounts.t=false∧x.Accounts.l.length*80≤qb3∧∀y∈x.Accounts.l,y.fit)∧(x.Journal.t=false∧x.Journal.l.length*112≤qb3∧∀y∈x.Journal.l,y.fit)∧(x.Holds.t=false∧x.Holds.l.length*56≤qb3∧∀y∈x.Holds.l,y.fit)∧(x.Blocks.t=false∧x.Blocks.l.length*64≤qb3∧∀y∈x.Blocks.l,y.fit)
def ABooks.ty:List Ty:=[.l (K1 2) 24 ACurrency.ty,.l (K1 3) 64 ACalendar.ty,.l (K1 4) 40 AGl.ty,.i .i64,.i .i64,.i .i64,.i .i64,.i .i64,.i .i64,.i .i64,.i .i64,.i .i64,.i .i64,.i .i64,.i .i64,.i .i64,.i .i64,.l (K1 19) 240 AProduct.ty,.l (K1 7) 80 AAccount.ty,.l (K1 10) 112 AEntry.ty,.l (K1 6) 56 AHold.ty,.l (K1 7) 64 ABlock.ty]
theorem ABooks.ofB(cs:List DV)(h:qav ABooks.ty cs):∃x:ABooks,DV.a cs=x.dv∧x.ok∧x.fit:=by
 obtain⟨a0,_,rfl,p0,q0,h⟩:=qf0 ACurrency.ofB h;obtain⟨a1,_,rfl,p1,q1,h⟩:=qf0 ACalendar.ofB h;obtain⟨a2,_,rfl,p2,q2,h⟩:=qf0 AGl.ofB h;obtain⟨a3,_,rfl,p3,h⟩:=qar h;obtain⟨a4,_,rfl,p4,h⟩:=qar h;obtain⟨a5,_,rfl,p5,h⟩:=qar h;obtain⟨a6,_,rfl,p6,h⟩:=qar h;obtain⟨a7,_,rfl,p7,h⟩:=qar h;obtain⟨a8,_,rfl,p8,h⟩:=qar h;obtain⟨a9,_,rfl,p9,h⟩:=qar h;obtain⟨a10,_,rfl,p10,h⟩:=qar h;obtain⟨a11,_,rfl,p11,h⟩:=qar h;obtain⟨a12,_,rfl,p12,h⟩:=qar h;obtain⟨a13,_,rfl,p13,h⟩:=qar h;obtain⟨a14,_,rfl,p14,h⟩:=qar h;obtain⟨a15,_,rfl,p15,h⟩:=qar h;obtain⟨a16,_,rfl,p16,h⟩:=qar h;obtain⟨a17,_,rfl,p17,q17,h⟩:=qf0 AProduct.ofB h;obtain⟨a18,_,rfl,p18,q18,h⟩:=qf0 AAccount.ofB h;obtain⟨a19,_,rfl,p19,q19,h⟩:=qf0 AEntry.ofB h;obtain⟨a20,_,rfl,p20,q20,h⟩:=qf0 AHold.ofB h;obtain⟨a21,_,rfl,p21,q21,h⟩:=qf0 ABlock.ofB h;obtain rfl:=qdL h;exact⟨⟨a0,a1,a2,⟨a3,a4,a5,a6,a7,a8,a9,a10,a11,a12,a13,a14,a15,a16⟩,a17,a18,a19,a20,a21⟩,rfl,⟨p0,p1,p2,⟨p3,p4,p5,p6,p7,p8,p9,p10,p11,p12,p13,p14,p15,p16⟩,p17,p18,p19,p20,p21⟩,⟨q0,q1,q2,q17,q18,q19,q20,q21⟩⟩
theorem ABooks.of(cs:List DV)(h:qav ABooks.ty cs):∃x:ABooks,DV.a cs=x.dv∧x.ok:=let ⟨x,a,b,_⟩:=ABooks.ofB cs h; ⟨x,a,b⟩
def AValue.ok(x:AValue):Prop:=inK .i64 x.Typ∧inK .i64 x.N
def AValue.fit(_:AValue):Prop:=True
def AValue.ty:List Ty:=[.i .i64,.i .i64]
theorem AValue.ofB(cs:List DV)(h:qav AValue.ty cs):∃x:AValue,DV.a cs=x.dv∧x.ok∧x.fit:=by
 obtain⟨a0,_,rfl,p0,h⟩:=qar h;obtain⟨a1,_,rfl,p1,h⟩:=qar h;obtain rfl:=qdL h;exact⟨⟨a0,a1⟩,rfl,⟨p0,p1⟩,trivial⟩
theorem AValue.of(cs:List DV)(h:qav AValue.ty cs):∃x:AValue,DV.a cs=x.dv∧x.ok:=let ⟨x,a,b,_⟩:=AValue.ofB cs h; ⟨x,a,b⟩
theorem qA9(T:Tab){f:Nat}{F:PF}(hF:T.F f=some F)(Y:Nat→List PV→Heap→Option (PV×Heap)){args:List PV}{H:Heap}(ha:args.length=F.nargs):T.it Y f args H=kC (T.envY Y) H.length (Fr.ofArgs 0 args) H (.h (F.body,qhc (T.envY Y) F.results H.length)):=by
 rw[qvH T hF];unfold qbq;rw[if_pos ha];simp only[kC];cases qan (T.envY Y) lpI H.length F.body ⟨Fr.ofArgs 0 args,H⟩with
 |none=>rfl
 |some x =>
  obtain⟨e,s⟩:=x;cases e with
  |exit id=>rfl
  |norm =>
   simp only[qhc];cases runG (T.envY Y) (qak s.fr) s.H with
   |none=>rfl
   |some H'=>simp only[bo];cases results s.fr H' F.results<;>rfl
  |ret =>
   simp only[qhc];cases runG (T.envY Y) (qak s.fr) s.H with
   |none=>rfl
   |some H'=>simp only[bo];cases results s.fr H' F.results<;>rfl
section
variable {R : Type} {E : Env} {base : Nat} {fr : Fr} {H : Heap} {k : KC R}
noncomputable def qiN(E:Env)(a x:PC)(fr:Fr)(o:Nat)(ps:List Nat):Nat→List PV→Heap→Option (PV×Heap):=qf5 (fun b s=>qan E lpI b a s) (fun b s=>qan E lpI b x s) fr o ps E.yld
def qkN(k:KC R)(fr:Fr)(g o:Nat)(H:Heap):Option R:=match H.obj o with
 |some (.lp 0 none)=>k .norm (fr.set g (.g (.h (o+1)))) (H.put o none)
 |some (.lp 1 (some e))=>k e (fr.set g (.g (.h (o+1)))) (H.put o none)
 | _=>none
noncomputable def rngS(E:Env)(fr:Fr)(H:Heap)(a x:PC)(live ps:List Nat)(g:Nat)(v w:PV){k:KC R}(_:Hd k):Option R:=match v,w with
 | .f n caps,.u=>bo (E.it (qiN E a x (Fr.only live fr) H.length ps) n (.h H.length::caps) (H++[some (.lp 0 none),some .df])) (.h fun p=>qkN k fr g H.length p.2)
 | _,_=>none
theorem qs3{a x:PC}{live ps:List Nat}{g n:Nat}{caps:List PV}:rngS E fr H a x live ps g (.f n caps) .u (.h k)=bo (E.it (qiN E a x (Fr.only live fr) H.length ps) n (.h H.length::caps) (H++[some (.lp 0 none),some .df])) (.h fun p=>qkN k fr g H.length p.2):=rfl
theorem qrd{f:Rand}{g:Nat}{ps live:List Nat}{a x:PC}:kC E base fr H (.h (.rng f g ps live a x,k))=rngS E fr H a x live ps g (rd E fr f) (fr.get g) (.h k):=by
 simp only[kC,qan,rngS,qiN];cases rd E fr f with
 |f n caps =>
  cases fr.get g with
  |u =>
   simp only;cases E.it (qf5 (fun b s=>qan E lpI b a s) (fun b s=>qan E lpI b x s) (Fr.only live fr) H.length ps E.yld) n (.h H.length::caps) (H++[some (.lp 0 none),some .df])with
   |none=>rfl
   |some p =>
    obtain⟨v,H'⟩:=p;simp only[bo,qkN];cases hh:H'.obj H.length with
    |none=>rfl
    |some y =>
     cases y with
     |lp st j=>match st,j with
      | 0,none=>rfl
      | 0,some _=>rfl
      | 1,none=>rfl
      | 1,some e=>rfl
      | (n+2),_=>rfl
     | _=>rfl
  | _=>rfl
 | _=>rfl
theorem qs2{a x:PC}{o:Nat}{ps:List Nat}{args:List PV}(hl:args.length=ps.length)(ho:H.obj o=some (.lp 0 none)):qiN E a x fr o ps o args H =
  kC E H.length (qgq fr ps args) H (.h (a,fun e fr1 H1=>match e with
   | .norm=>match H1.obj o with
    |some (.lp 0 none)=>kC E H.length fr1 (H1.put o (some (.lp 2 none))) (.h (x,fun e2 _ H2=>match H2.obj o with
     |some (.lp 2 none)=>some (gcV H.length (.d (.b (isN e2))) (H2.put o (some (if isN e2 then .lp 0 none else .lp 1 (some e2)))))
     | _=>none))
    | _=>none
   | _=>none)):=by
 simp only[qiN,qf5,if_pos hl,if_true,ho,kC];cases qan E lpI H.length a ⟨qgq fr ps args,H⟩with
 |none=>rfl
 |some p =>
  obtain⟨e,s1⟩:=p;cases e with
  |norm =>
   simp only;cases hh:s1.H.obj o with
   |none=>rfl
   |some y =>
    cases y with
    |lp st j=>match st,j with
     | 0,none =>
      simp only;cases qan E lpI H.length x ⟨s1.fr,s1.H.put o (some (.lp 2 none))⟩with
      |none=>rfl
      |some q=>rfl
     | 0,some _=>rfl
     | (n+1),_=>rfl
    | _=>rfl
  | _=>rfl
theorem qAq(T:Tab)(Y:Nat→List PV→Heap→Option (PV×Heap)):(T.envY Y).yld=Y:=rfl
theorem qqD(T:Tab)(Y:Nat→List PV→Heap→Option (PV×Heap)):T.env.it Y=T.it Y:=rfl
theorem qzv{o:Nat}{as0:List PV}{q:PV→Heap→Option R}:qmc E H (.h o) as0 (.h q)=bo2 (E.yld o as0 H) (.h q):=rfl
end
theorem qsY(H:Heap)(m:Nat):∀(n:Nat) (todo:List Nat),(∀r∈todo,r≤m)→qaf H m n [m] todo=[m]
 | 0,_,_=>rfl
 |n+1,[],_=>rfl
 |n+1,o::todo,h=>by
  rw[qaf];have h1:=h o (zzr ..)
  by_cases g:o<m
  ·rw[if_pos g];exact qsY H m n todo fun r hr=>h r (zzi _ hr)
  ·have:o=m:=by omega
   subst this;rw[if_neg g,if_pos (by simp)]
   exact qsY H o n todo fun r hr=>h r (zzi _ hr)
theorem qxw(H:Heap)(m:Nat)(hm:qai (H.obj m)=[]):∀(fs low:List Nat) (n:Nat),fs.length<n→(∀r∈fs,r≤m)→(∀r∈low,r≤m)→m∈fs→qaf H m n [] (fs++low)=[m]
 | [],_,_,_,_,_,h=>by cases h
 |o::fs,low,0,hn,_,_,_=>absurd hn (zzm _)
 |o::fs,low,n+1,hn,h1,h2,h=>by
  rw[List.cons_append,qaf];have ho:=h1 o (zzr ..)
  by_cases g:o<m
  ·rw[if_pos g];refine qxw H m hm fs low n (by simp at hn;omega) (fun r hr=>h1 r (zzi _ hr)) h2 ?_
   rcases List.mem_cons.1 h with h|h
   ·omega
   ·exact h
  ·have:o=m:=by omega
   subst this;rw[if_neg g,if_neg (by simp),hm,List.nil_append,List.nil_append]
   exact qsY H o n _ fun r hr=>by
    rcases zzB.1 hr with hr|hr
    ·exact h1 r (zzi _ hr)
    ·exact h2 r hr
theorem qqW(live:List Nat){H J:Heap}{y:Option Obj}{fr:Fr}(hH:Cl H)(hy:qai y=[])(hn:(qae (Fr.keep live fr)).length<1000)(hf:∀r∈qae (Fr.keep live fr),r≤H.length)(hmem:H.length∈qae (Fr.keep live fr)):gc live H.length ⟨fr,H++y::J⟩=⟨Fr.keep live fr,H++[y]⟩:=by
 have ht:(H++y::J).take H.length=H:=by simp
 have hobj:(H++y::J).obj H.length=y:=qhY H (y::J)
 have hr:qaf (H++y::J) H.length 1000 [] (qae (Fr.keep live fr)++qad H)=[H.length]:=qxw _ _ (by rw[hobj];exact hy) _ _ _ hn hf (fun r hr=>Nat.le_of_lt (hH r hr)) hmem
 have hp:∀r,r≤H.length→qaj H.length [H.length] r=some r:=fun r h=>by
  by_cases g:r<H.length
  ·simp[qaj,g]
  ·have:r=H.length:=by omega
   subst this;simp[qaj,zzd]
 simp only[gc,ht,hr,gcH,zzu,List.map_nil,hobj];rw[qqT (fun r h=>hp r (hf r h)),qn9 (fun r h=>hp r (Nat.le_of_lt (hH r h))),qw3 (fun r h=>by rw[hy]at h;cases h)]
section
variable {R : Type} {E : Env} {ρ : Rand → PV} {H : Heap} {id : Nat} {q : PV → Heap → Option R} {base : Nat}
theorem qb8{K K':Sim.K}{o off len:Nat}{t:Bool}{kk:IntKind}{n:Int}{y:PV→Option R}:bo (iaddr H K (.r o K' off len t) (.d (.i kk n))) (.h y)=chk (0≤n∧n<len) (.h (match H.obj o with|some (.sl K2 _ es)=>chk ((K.eq K'&&K.eq K2&&decide (off+len≤es.length))=true) (.h (y (.p o (off+n.toNat) 0)))|_=>none)):=by
 simp only[iaddr,asI,inR,chk];by_cases h:0≤n∧n<len
 ·rw[if_pos h,if_pos h];cases H.obj o with
  |none=>rfl
  |some x =>
   cases x with
   |sl k2 ro es=>simp only;split<;>rfl
   | _=>rfl
 ·rw[if_neg h,if_neg h];simp only;rfl
theorem qzj{len:Nat}{k:Sim.K}{x i:Rand}:bo2 (qaa E ρ H id (.iaddrA len k x i)) (.h q)=bo (asI (ρ i)) (.h fun (n:Int)=>chk (0≤n∧n<len) (.h (bo (qhm (n.toNat*k.size) (ρ x)) (.h fun v=>q v H)))):=by
 simp only[qaa];cases asI (ρ i)with
 |none=>rfl
 |some n =>
  simp only[bo,inR,chk];by_cases h:0≤n∧n<len
  ·rw[if_pos h,if_pos h];simp only
   cases qhm (n.toNat*k.size) (ρ x)<;>rfl
  ·rw[if_neg h,if_neg h];rfl
theorem qqh{kk:IntKind}{n:Int}{y:Int→Option R}:bo (asI (.d (.i kk n))) (.h y)=y n:=rfl
theorem qt5{k:Sim.K}{b:Nat}{z:DV}{len cap:Rand}:bo2 (qaa E ρ H id (.mksl k b z len cap)) (.h q)=bo (asI (ρ len)) (.h fun (n:Int)=>bo (asI (ρ cap)) (.h fun (c:Int)=>chk (0≤n∧n≤c∧c*b≤2^47) (.h (q (.r id k 0 n.toNat false) (H.put id (some (.sl k 0 (List.replicate n.toNat z)))))))):=by
 simp only[qaa];cases asI (ρ len)with
 |none=>rfl
 |some n =>
  cases asI (ρ cap)with
  |none=>rfl
  |some c=>simp only[bo,chk];split<;>rfl
theorem qhJ{k:Sim.K}{z:DV}{len:Nat}{ps:List (Nat×Rand)}:bo2 (qaa E ρ H id (.bsl k z len ps)) (.h q)=bo (qcd H k (List.replicate len z) (ps.map fun x=>(x.1,ρ x.2))) (.h fun p=>q (.r id k 0 len true) ((frz H p.2).put id (some (.sl k 0 p.1)))):=by
 simp only[qaa];cases qcd H k (List.replicate len z) (ps.map fun x=>(x.1,ρ x.2))<;>rfl
theorem qhM{k:Sim.K}{es:List DV}{y:List DV×List Nat→Option R}:bo (qcd H k es []) (.h y)=y (es,[]):=rfl
theorem qhL{k:Sim.K}{es:List DV}{j:Nat}{v:DV}{r:List (Nat×PV)}{y:List DV×List Nat→Option R}:bo (qcd H k es ((j,.d v)::r)) (.h y)=chk ((fits k (.d v)&&decide (j<es.length))=true) (.h (bo (qcd H k (es.set j v) r) (.h y))):=by
 simp only[qcd,chk];by_cases h:(fits k (.d v)&&decide (j<es.length))=true
 ·simp only[h,if_true,pur,qa9];cases qcd H k (es.set j v) r with
  |none=>rfl
  |some p=>simp[bo]
 ·simp only[h,if_false,zzg];rfl
theorem qzo{k:IntKind}{a b:Int}{y:PV→Option R}:bo (mm2 false (.d (.i k a)) (.d (.i k b))) (.h y)=y (.d (.i k (min a b))):=by
 have h:(if b<a then b else a)=min a b:=by rw[Int.min_def];split<;>split<;>omega
 simp only[mm2,if_true,zzg,if_false,h];rfl
theorem qf1{σ:Type}{live:List Nat}{body:PC}{k:KC R}(st:σ→St)(f:Nat→σ)(n:Nat){r:Option R}
  (hend:∀B,B=body→kC E base (st (f n)).fr (st (f n)).H (.h (body,lpK E base live B k))=r)
  (hround:∀B,B=body→∀i,i<n→∀c,(∀fr H,gc live base ⟨fr,H⟩=st (f (i+1))→kC E base fr H (.h (.loop live B,k))=c)→kC E base (st (f i)).fr (st (f i)).H (.h (body,lpK E base live B k))=c)
  {fr:Fr} {H:Heap} (h0:gc live base ⟨fr,H⟩=st (f 0)):kC E base fr H (.h (.loop live body,k))=r:=by
 rw[qa3 (List.replicate n ()) (fun i (_:Unit)=>st (f i)) (fun _ _=>True) (fun _ _ _ c=>c ()) (fun _=>r) ?_ ?_ h0 trivial]
 ·have:∀(i:Nat) (l:List Unit),qcx (fun _ _ _ c=>c ()) (fun _=>r) i () l=r:=by
   intro i l;induction l generalizing i with
   |nil=>rfl
   |cons x l ih=>exact ih (i+1)
  exact this _ _
 ·intro B hB _ _;simpa using hend B hB
 ·intro B hB i _ hi _ c hc;exact hround B hB i (by simpa using hi) (c ()) fun fr H hg=>hc () fr H trivial hg
end
theorem qAB(o off len:Nat)(k:K)(t:Bool):fits none (.r o k off len t)=true:=rfl
theorem qhd(f:Nat)(cs:List PV):fits none (.f f cs)=true:=rfl
section
variable {R : Type} {H : Heap}
def stM(H:Heap)(k:K)(o i c:Nat)(v:PV)(x:Option Obj){hy:Heap→Option R}(_:Hd hy):Option R:=match x with
 |some (.box kb w)=>chk (fits k v=true) (.h (chk (i=0) (.h (if (c==0&&K.eq k kb)=true then hy (H.put o (some (.box kb v)))else chk (c+k.size≤w.cells.length) (.h (bo (mkP kb (putAt w.cells c v.cells)) (.h fun w'=>hy (H.put o (some (.box kb w'))))))))))
 |some (.sl kb ro es)=>chk (fits k v=true) (.h (bo es[i]? (.h fun e=>chk (ro≤i) (.h (bo (pur H v) (.h fun p=>chk (p.2.contains o=false) (.h (if (c==0&&K.eq k kb)=true then hy ((frz H p.2).put o (some (.sl kb ro (es.set i p.1))))else chk (c+k.size≤e.cells.length) (.h (bo (mkD kb (putAt e.cells c p.1.cells)) (.h fun e'=>hy ((frz H p.2).put o (some (.sl kb ro (es.set i e')))))))))))))))
 | _=>none
theorem qkS(k:K)(o i c:Nat)(v:PV){hy:Heap→Option R}:bo (qch H k (.p o i c) v) (.h hy)=stM H k o i c v (H.obj o) (.h hy):=by
 unfold stM;split
 ·rename_i kb w ho;exact qxQ kb k o i c v w ho
 ·rename_i kb ro es ho;simp only[qch,ho,chk];by_cases hf:fits k v=true
  ·simp only[hf,if_true];cases es[i]? with
   |none=>rfl
   |some e =>
    simp only[bo];by_cases hr:ro≤i
    ·simp only[hr,if_true];cases pur H v with
     |none=>rfl
     |some p =>
      obtain⟨x,os⟩:=p;simp only;cases hc:os.contains o with
      |true=>simp
      |false =>
       simp only[zzg,if_false,if_true];by_cases hk:(c==0&&K.eq k kb)=true
       ·simp only[hk,if_true]
       ·simp only[hk,if_false,zzg];by_cases hs:c+k.size≤e.cells.length
        ·simp only[hs,if_true];cases mkD kb (putAt e.cells c x.cells)<;>rfl
        ·simp only[hs,if_false]
    ·simp only[hr,if_false]
  ·simp only[hf,zzg,if_false];rfl
 ·rename_i h1 h2;simp only[qch];cases hx:H.obj o with
  |none=>by_cases hf:fits k v=true<;>simp[hf,bo]
  |some y =>
   cases y with
   |box kb w=>exact absurd hx (h1 kb w)
   |sl kb ro es=>exact absurd hx (h2 kb ro es)
   | _=>by_cases hf:fits k v=true<;>simp[hf,bo]
theorem qoV(kb k:K)(o i c:Nat)(v w:PV){hy:Heap→Option R}:stM H k o i c v (some (.box kb w)) (.h hy)=chk (fits k v=true) (.h (chk (i=0) (.h (if (c==0&&K.eq k kb)=true then hy (H.put o (some (.box kb v)))else chk (c+k.size≤w.cells.length) (.h (bo (mkP kb (putAt w.cells c v.cells)) (.h fun w'=>hy (H.put o (some (.box kb w')))))))))):=rfl
theorem qkR(kb k:K)(o i c ro:Nat)(v:PV)(es:List DV){hy:Heap→Option R}:stM H k o i c v (some (.sl kb ro es)) (.h hy)=chk (fits k v=true) (.h (bo es[i]? (.h fun e=>chk (ro≤i) (.h (bo (pur H v) (.h fun p=>chk (p.2.contains o=false) (.h (if (c==0&&K.eq k kb)=true then hy ((frz H p.2).put o (some (.sl kb ro (es.set i p.1))))else chk (c+k.size≤e.cells.length) (.h (bo (mkD kb (putAt e.cells c p.1.cells)) (.h fun e'=>hy ((frz H p.2).put o (some (.sl kb ro (es.set i e'))))))))))))))):=rfl
theorem qca(k:K)(v:DV){z:DV→Option R}:bo (qf6 k v 0 k) (.h z)=z v:=by
 have:K.eq k k=true:=by cases k<;>simp[K.eq]
 simp[qf6,this,bo]
end
section
variable {R : Type} {E : Env} {fr : Fr} {H : Heap} {bf : List Nat} {acc : List (List Nat × List Nat)} {id : Nat} {j : KO R}
def qkn(b:Nat):Nat→Nat→Bool
 | _,0=>true
 |i,n+1=>b.testBit i&&qkn b (i+1) n
theorem qw7(b:Nat)(t w:List Nat):∀(acc:List (List Nat×List Nat)) (i:Nat),qkn b i acc.length=true→qaY b i acc t w=true
 | [],_,_=>rfl
 |x::r,i,h=>by
  simp only[zzn,qkn,zzf]at h;simp only[qaY,h.1,Bool.true_or,Bool.true_and];exact qw7 b t w r (i+1) h.2
theorem qBy{d:Nat}{z:Rand}:kD E id fr H bf acc (.h ([⟨some d,.mov z,none⟩],j))=j (fr.set d (rd E fr z)) H:=by
 rw[qkE];simp only[stepD,qau,IOp.okD,if_true,qaa];have hw:writeS E ⟨some d,.mov z,none⟩ id ⟨fr,H⟩ ⟨fr.set d (rd E fr z),H⟩=[]:=by simp[writeS,qbb,IOp.adds,IOp.okD,qa4,qaD,chg]
 have ht:touchS E ⟨some d,.mov z,none⟩ ⟨fr,H⟩=[]:=by simp[touchS,qbb,IOp.okD,qaD]
 simp only[qfX,nfp,qbe,chk,hw,ht,List.nil_append,qw6,if_true];rfl
theorem qvK{d d2:Nat}{k:K}{b:Nat}{x y z:Rand}(h:qkn (bf.headD 0) 0 acc.length=true):kD E id fr H bf acc (.h ([⟨some d,.app k b x y,none⟩,⟨some d2,.mov z,none⟩],j))=bo2 (qaa E (rd E fr) H id (.app k b x y)) (.h fun v H'=>chk (H'.length=H.length) (.h (j ((fr.set d v).set d2 (rd E (fr.set d v) z)) H'))):=by
 rw[qkE];simp only[stepD,qau,IOp.okD,zzg,if_false,IOp.barr,if_true];cases qaa E (rd E fr) H id (.app k b x y)with
 |none=>rfl
 |some p =>
  obtain⟨v,H'⟩:=p;simp only[bo2,chk];by_cases hl:H'.length=H.length
  ·have hb:Nat.beq H'.length H.length=true:=by rw[hl];exact Nat.beq_refl _
   rw[if_pos hl];simp only[hb,if_true,qfX,nfp,qbe,chk,qw7 _ _ _ _ _ h];rw[qBy]
  ·have hb:Nat.beq H'.length H.length=false:=by
    cases h2:Nat.beq H'.length H.length with
    |false=>rfl
    |true=>exact absurd (zzy h2) hl
   rw[if_neg hl];simp only[hb,if_false,zzg]
def qqn(E:Env)(H:Heap)(v:PV)(ds:Option (List DV)){x:Option R}{q:PV→Heap→Option R}(_:Hd (x,q)):Option R:=match v,ds with
 | .f n [],some ds=>bo (E.val n ds) (.h fun r=>q r.1 H)
 | _,_=>x
theorem qiw{ρ:Rand→PV}{q:PV→Heap→Option R}{x:Rand}{as0:List Rand}:bo2 (qau E ρ H id (.callv x as0)) (.h q)=qqn E H (ρ x) (qal (as0.map ρ)) (.h (bo2 (qau E ρ H id (.callv x as0)) (.h q),q)):=by
 unfold qqn;split
 ·rename_i n ds hx hd;have hk:IOp.okD ρ (.callv x as0)=true:=by simp[IOp.okD,hx,hd]
  rw[qzn hk];simp only[qaa,hx,List.isEmpty_nil,if_true,hd];cases E.val n ds<;>rfl
 ·rfl
theorem qis{n:Nat}{ds:List DV}{x:Option R}{q:PV→Heap→Option R}:qqn E H (.f n []) (some ds) (.h (x,q))=bo (E.val n ds) (.h fun r=>q r.1 H):=rfl
end
section
variable {R : Type} {E : Env} {ρ : Rand → PV} {H : Heap} {id : Nat} {q : PV → Heap → Option R} {base : Nat}
def qfK(k:IntKind)(x:PV){q:PV→Option R}(_:Hd q):Option R:=match x with | .d (.i _ n)=>q (.d (.i k (k.wrap n)))|_=>none
theorem qbk{k kk:IntKind}{n:Int}{q:PV→Option R}:qfK k (.d (.i kk n)) (.h q)=q (.d (.i k (k.wrap n))):=rfl
theorem qaZ{k:IntKind}{x:Rand}:bo2 (qaa E ρ H id (.conv k x)) (.h q)=qfK k (ρ x) (.h fun v=>q v H):=by
 simp only[qaa,qfK];cases ρ x with
 |d v=>cases v<;>rfl
 | _=>rfl
theorem qzp{k k':IntKind}{a b:Int}{y:DV→Option R}:bo (qaN .shr (.d (.i k a)) (.d (.i k' b))) (.h y)=chk (0≤b) (.h (y (.i k (a.fdiv (2^min b.toNat k.bits))))):=by
 simp only[qaN,qmZ,chk];by_cases h:b<0
 ·rw[if_pos h,if_neg (by omega)];rfl
 ·rw[if_neg h,if_pos (by omega)];rfl
theorem qAR(n:Nat):Int.fdiv (n:Int) (2^min (Int.toNat 1) IntKind.u64.bits)=((n/2:Nat):Int):=by
 show Int.fdiv (n:Int) 2=_
 rw[Int.fdiv_eq_ediv_of_nonneg _ (by omega)];omega
theorem wrU{n:Int}(h:0≤n)(h':n<18446744073709551616):IntKind.u64.wrap n=n:=by
 have e:IntKind.u64.wrap n=n%18446744073709551616:=by
  unfold IntKind.wrap;simp[IntKind.bits,IntKind.signed]
 rw[e];omega
theorem qnH{k k':Sim.K}{o off len:Nat}{t:Bool}{lo hi:Option PV}{y:PV→Option R}:bo (slA H k (.r o k' off len t) lo hi none) (.h y)=match H.obj o with
  |some (.sl _ _ es)=>chk ((K.eq k k'&&decide (off+len≤es.length))=true) (.h (bo (bnd len len hi) (.h fun h=>bo (bnd 0 h lo) (.h fun l=>y (.r o k (off+l) (h-l) (t&&h==len))))))
  | _=>none:=by
 simp only[slA];cases H.obj o with
 |none=>rfl
 |some x =>
  cases x with
  |sl k2 ro es =>
   simp only[chk];by_cases hc:(K.eq k k'&&decide (off+len≤es.length))=true
   ·have e:bnd len len none=some len:=rfl
    simp only[hc,if_true,e,Option.isSome_none,zzg,if_false];cases bnd len len hi with
    |none=>rfl
    |some h =>
     simp only[bo];cases bnd 0 h lo<;>rfl
   ·simp only[hc,if_false,zzg];rfl
  | _=>rfl
theorem qzq{k k':Sim.K}{es:List DV}{t:Bool}{lo hi:Option PV}{y:PV→Option R}:bo (slA H k (.d (.l k' es t)) lo hi none) (.h y)=chk ((K.eq k k'||es.isEmpty)=true) (.h (bo (bnd es.length es.length hi) (.h fun h=>bo (bnd 0 h lo) (.h fun l=>y (.d (.l k ((es.take h).drop l) (t&&h==es.length))))))):=by
 simp only[slA,chk];by_cases hc:(K.eq k k'||es.isEmpty)=true
 ·have e:bnd es.length es.length none=some es.length:=rfl
  simp only[hc,if_true,e,Option.isSome_none,zzg,if_false];cases bnd es.length es.length hi with
  |none=>rfl
  |some h =>
   simp only[bo];cases bnd 0 h lo<;>rfl
 ·simp only[hc,if_false,zzg];rfl
def qqm(k:Sim.K)(z:DV)(x:PV)(H:Heap){q:PV→Heap→Option R}(_:Hd q):Option R:=match x with
 | .r o k' off len _=>match H.obj o with
  |some (.sl k'' ro es)=>chk ((K.eq k k'&&K.eq k k''&&decide (off+len≤es.length)&&decide (ro≤off))=true) (.h (q (.t []) (H.put o (some (.sl k ro (putAt es off (List.replicate len z)))))))
  | _=>none
 | .d (.l _ [] _)=>q (.t []) H
 | _=>none
theorem qzi{k:Sim.K}{z:DV}{x:Rand}:bo2 (qaa E ρ H id (.clr k z x)) (.h q)=qqm k z (ρ x) H (.h q):=by
 simp only[qaa,qqm];cases ρ x with
 |r o k' off len t =>
  simp only;cases H.obj o with
  |none=>rfl
  |some y =>
   cases y with
   |sl k'' ro es =>
    simp only[chk];by_cases hc:(K.eq k k'&&K.eq k k''&&decide (off+len≤es.length)&&decide (ro≤off))=true
    ·simp only[hc,if_true];rfl
    ·simp only[hc,if_false,zzg];rfl
   | _=>rfl
 |d v =>
  cases v with
  |l k' es t=>cases es<;>rfl
  | _=>rfl
 | _=>rfl
theorem qzR{k k':Sim.K}{z:DV}{o off len:Nat}{t:Bool}{q:PV→Heap→Option R}:qqm k z (.r o k' off len t) H (.h q)=match H.obj o with
  |some (.sl k'' ro es)=>chk ((K.eq k k'&&K.eq k k''&&decide (off+len≤es.length)&&decide (ro≤off))=true) (.h (q (.t []) (H.put o (some (.sl k ro (putAt es off (List.replicate len z)))))))
  | _=>none:=rfl
theorem qbB{σ:Type}{live:List Nat}{body:PC}{k:KC R}(st:σ→St)(inv:σ→Prop)(μ:σ→Nat){r:Option R}
  (hround:∀B,B=body→∀s,inv s→(∀s',inv s'→μ s'<μ s→∀fr H,gc live base ⟨fr,H⟩=st s'→kC E base fr H (.h (.loop live B,k))=r)→kC E base (st s).fr (st s).H (.h (body,lpK E base live B k))=r)
  (s:σ) (hs:inv s) {fr:Fr} {H:Heap} (h0:gc live base ⟨fr,H⟩=st s):kC E base fr H (.h (.loop live body,k))=r:=by
 have key:∀(n:Nat) (s:σ),μ s<n→inv s→∀fr H,gc live base ⟨fr,H⟩=st s→kC E base fr H (.h (.loop live body,k))=r:=by
  intro n;induction n with
  |zero=>intro s h;exact absurd h (zzm _)
  |succ n ih =>
   intro s hn hv fr H hg;rw[qjz,hg];exact hround body rfl s hv fun s' hv' hm fr' H' hg'=>ih s' (by omega) hv' fr' H' hg'
 exact key (μ s+1) s (Nat.lt_succ_self _) hs fr H h0
end
def Wd(z:Int):AWide:=⟨z/18446744073709551616,z%18446744073709551616⟩
theorem qfG(z:Int):∃a,Wd z=a∧a.Hi=z/18446744073709551616∧a.Lo=z%18446744073709551616:=⟨_,rfl,rfl,rfl⟩
theorem wd0{A B z:Int}(h1:A=z/18446744073709551616)(h2:B=z%18446744073709551616):DV.a [I A,.i .u64 B]=(Wd z).dv:=by subst h1;subst h2;rfl
structure ASz where
 h:Int
 l:Int
def ASz.cells(x:ASz):List DV:=[.i .u64 x.h,.i .u64 x.l]
def ASz.dv(x:ASz):DV:=.a [.i .u64 x.h,.i .u64 x.l]
@[simp] theorem ASz.fits(x:ASz):Sim.fits (K1 2) (.d (ASz.dv x))=true:=rfl
@[simp] theorem ASz.purT(x:ASz)(H:Heap):Sim.purT H (.d (ASz.dv x))=some (.d (ASz.dv x),false):=rfl
@[simp] theorem ASz.clen(x:ASz):(ASz.dv x).cells.length=2:=rfl
@[simp] theorem ASz.aof(x:ASz):DV.a (ASz.cells x)=ASz.dv x:=rfl
@[simp] theorem ASz.ccl(x:ASz):(ASz.cells x).length=2:=rfl
@[simp] theorem ASz.c0(x:ASz):(ASz.dv x).cells[0]? = some (.i .u64 x.h):=rfl
@[simp] theorem ASz.c1(x:ASz):(ASz.dv x).cells[1]? = some (.i .u64 x.l):=rfl
def Sz(z:Int):ASz:=⟨z/18446744073709551616,z%18446744073709551616⟩
theorem qf8(z:Int):∃a,Sz z=a∧a.h=z/18446744073709551616∧a.l=z%18446744073709551616:=⟨_,rfl,rfl,rfl⟩
theorem sz0{A B z:Int}(h1:A=z/18446744073709551616)(h2:B=z%18446744073709551616):DV.a [.i .u64 A,.i .u64 B]=(Sz z).dv:=by subst h1;subst h2;rfl
theorem wU(n:Int):IntKind.u64.wrap n=n%18446744073709551616:=IntKind.wrap_u64 n
theorem wI(n:Int):IntKind.i64.wrap n=(n+9223372036854775808)%18446744073709551616-9223372036854775808:=IntKind.wrap_i64 n
def aI(n:Int):Int:=if n<0 then -n else n
theorem qeL{n:Int}(h:n<0):aI n = -n:=if_pos h
theorem qgN{n:Int}(h:¬n<0):aI n=n:=if_neg h
def ngW(z:Int):Int:=if z = -170141183460469231731687303715884105728 then z else -z
theorem qas{α R:Type}{x:Option α}{v:α}{d:α→Option R}(h:x=some v):bo x (.h d)=d v:=by rw[h];rfl
theorem qmG(a b:Int):qaN .mul (.d (.i .u64 a)) (.d (.i .u64 b))=some (.i .u64 (a*b%18446744073709551616)):=by
 rw[←wU];rfl
theorem qnE(a b:Int):qaN .add (.d (.i .u64 a)) (.d (.i .u64 b))=some (.i .u64 ((a+b)%18446744073709551616)):=by
 rw[←wU];rfl
theorem qJc(a b:Int):qaN .sub (.d (.i .u64 a)) (.d (.i .u64 b))=some (.i .u64 ((a-b)%18446744073709551616)):=by
 rw[←wU];rfl
theorem ql5(a:Int)(h0:0≤a)(h1:a<18446744073709551616):qaN .and (.d (.i .u64 a)) (.d (.i .u64 4294967295))=some (.i .u64 (a%4294967296)):=by
 rw[←Go.and_low32 a h0 h1];rfl
theorem qm0(a:Int)(s:Nat)(h:s≤64):qaN .shl (.d (.i .u64 a)) (.d (.i .u64 (s:Int)))=some (.i .u64 (a*2^s%18446744073709551616)):=by
 rw[←wU];show (if (s:Int)<0 then none else some (DV.i .u64 (IntKind.u64.wrap (a*2^min (Int.toNat (s:Int)) 64))))=_
 rw[if_neg (by omega),Int.toNat_natCast,Nat.min_eq_left h]
theorem qm1(a:Int)(s:Nat)(h:s≤64):qaN .shr (.d (.i .u64 a)) (.d (.i .u64 (s:Int)))=some (.i .u64 (a/2^s)):=by
 show (if (s:Int)<0 then none else some (DV.i .u64 (a.fdiv (2^min (Int.toNat (s:Int)) 64))))=_
 rw[if_neg (by omega),Int.toNat_natCast,Nat.min_eq_left h,Int.fdiv_eq_ediv_of_nonneg _ (Int.le_of_lt (Int.pow_pos (by decide)))]
theorem qiP(a:Int):qaN .shr (.d (.i .u64 a)) (.d (.i .u64 32))=some (.i .u64 (a/4294967296)):=qm1 a 32 (by omega)
theorem qkZ{n:Int}(h0:0≤n)(h1:n<18446744073709551616):unA .xor (.d (.i .u64 n))=some (.i .u64 (18446744073709551615-n)):=by
 obtain⟨m,rfl⟩:=Int.eq_ofNat_of_zero_le h0;show some (DV.i .u64 (IntKind.u64.wrap (BitVec.ofInt 64 18446744073709551615 ^^^ BitVec.ofInt 64 (m:Int)).toNat))=_
 have e:BitVec.ofInt 64 18446744073709551615=BitVec.allOnes 64:=by decide
 rw[e,BitVec.allOnes_xor,BitVec.toNat_not,BitVec.ofInt_natCast,BitVec.toNat_ofNat,wU];congr 2
 omega
theorem qMb{n:Int}(h0 : -9223372036854775808≤n)(h1:n<9223372036854775808):unA .xor (.d (I n))=some (I (-1-n)):=by
 show some (DV.i .i64 (IntKind.i64.wrap (BitVec.ofInt 64 (-1) ^^^ BitVec.ofInt 64 n).toNat))=_
 have e:BitVec.ofInt 64 (-1)=BitVec.allOnes 64:=by decide
 rw[e,BitVec.allOnes_xor,BitVec.toNat_not,BitVec.toNat_ofInt,wI];refine congrArg (fun z=>some (DV.i .i64 z)) ?_
 omega
theorem qmH{a b c d:Int}(h1:a≤c)(h2:b≤d)(h3:0≤b)(h4:0≤c):a*b≤c*d:=Int.le_trans (Int.mul_le_mul_of_nonneg_right h1 h3) (Int.mul_le_mul_of_nonneg_left h2 h4)
structure Dig (v u x q r:Int):Prop where
 v0:9223372036854775808≤v
 v1:v<18446744073709551616
 u0:0≤u
 u1:u<v
 x0:0≤x
 x1:x<4294967296
 e:q*(v/4294967296)+r=u
 r0:0≤r
 q0:(u*4294967296+x)/v≤q
 q1:q≤4294967297
theorem qgR{v u x:Int}(h0:9223372036854775808≤v)(u0:0≤u)(u1:u<v)(x0:0≤x)(x1:x<4294967296):0≤(u*4294967296+x)/v∧(u*4294967296+x)/v<4294967296∧(u*4294967296+x)/v*v≤u*4294967296+x∧u*4294967296+x<(u*4294967296+x)/v*v+v:=by
 have hv:0<v:=by omega
 refine⟨Int.ediv_nonneg (by omega) (by omega),?_,?_,?_⟩
 ·apply Int.ediv_lt_of_lt_mul hv;omega
 ·exact Int.ediv_mul_le _ (by omega)
 ·exact Int.lt_ediv_add_one_mul_self _ hv |> fun h=>by rw[Int.add_mul,Int.one_mul]at h;exact h
theorem qAd{v u x:Int}(h0:9223372036854775808≤v)(h1:v<18446744073709551616)(u0:0≤u)(u1:u<v)(x0:0≤x)(x1:x<4294967296):Dig v u x (u/(v/4294967296)) (u-u/(v/4294967296)*(v/4294967296))∧u-u/(v/4294967296)*(v/4294967296)<4294967296:=by
 obtain⟨n1,n2,n3,n4⟩:=qgR h0 u0 u1 x0 x1;obtain⟨w,hw⟩:∃w,w=v/4294967296:=⟨_,rfl⟩;have w0:2147483648≤w:=by omega
 have w1:w<4294967296:=by omega
 have a1:u/w*w≤u:=Int.ediv_mul_le _ (by omega)
 have a2:u<u/w*w+w:=by
  have h:=Int.lt_ediv_add_one_mul_self u (b:=w) (by omega)
  rw[Int.add_mul,Int.one_mul]at h;exact h
 rw[←hw];refine⟨⟨h0,h1,u0,u1,x0,x1,by rw[←hw];omega,by omega,?_,?_⟩,by omega⟩
 ·apply Int.le_ediv_of_mul_le (by omega)
  generalize (u*4294967296+x)/v=Q at *
  have b1:Q*(w*4294967296)≤Q*v:=Int.mul_le_mul_of_nonneg_left (by omega) n1
  rw[←Int.mul_assoc]at b1;omega
 ·have:u/w<4294967298:=by
   apply Int.ediv_lt_of_lt_mul (by omega)
   omega
  omega
theorem quE{v u x q r:Int}(h:Dig v u x q r)(hc:4294967296≤q∨4294967296*r+x<q*(v%4294967296)):Dig v u x (q-1) (r+v/4294967296):=by
 obtain⟨v0,v1,u0,u1,x0,x1,e,r0,q0,q1⟩:=h;obtain⟨n1,n2,n3,n4⟩:=qgR v0 u0 u1 x0 x1;refine⟨v0,v1,u0,u1,x0,x1,by rw[Int.sub_mul,Int.one_mul];omega,by omega,?_,by omega⟩
 generalize (u*4294967296+x)/v=Q at *
 rcases hc with hc|hc
 ·omega
 ·have hne:Q≠q:=by
   intro hq;subst hq;have ev:Q*v=Q*(v/4294967296)*4294967296+Q*(v%4294967296):=by
    have:v=v/4294967296*4294967296+v%4294967296:=by omega
    conv=>lhs;rw[this]
    rw[Int.mul_add,Int.mul_assoc]
   omega
  omega
theorem qqA{v u x q r:Int}(h:Dig v u x q r)(hc:q*(v%4294967296)≤4294967296*r+x):q=(u*4294967296+x)/v:=by
 obtain⟨v0,v1,u0,u1,x0,x1,e,r0,q0,q1⟩:=h;refine Int.le_antisymm ?_ q0;apply Int.le_ediv_of_mul_le (by omega)
 have ev:q*v=q*(v/4294967296)*4294967296+q*(v%4294967296):=by
  have:v=v/4294967296*4294967296+v%4294967296:=by omega
  conv=>lhs;rw[this]
  rw[Int.mul_add,Int.mul_assoc]
 omega
theorem quC{v u x q r:Int}(h:Dig v u x q r)(hr:4294967296≤r)(hq:q≤4294967296):q=(u*4294967296+x)/v:=by
 apply qqA h
 have q0:0≤q:=Int.le_trans (qgR h.v0 h.u0 h.u1 h.x0 h.x1).1 h.q0
 have:q*(v%4294967296)≤4294967296*4294967295:=qmH hq (by omega) (by omega) (by omega)
 have:=h.x0
 omega
theorem quF{v u x q r:Int}(h:Dig v u x q r)(hq:q<4294967296):0≤q*(v%4294967296)∧q*(v%4294967296)<18446744073709551616:=by
 have q0:0≤q:=Int.le_trans (qgR h.v0 h.u0 h.u1 h.x0 h.x1).1 h.q0
 have:q*(v%4294967296)≤4294967295*4294967295:=qmH (by omega) (by omega) (by omega) (by omega)
 exact⟨Int.mul_nonneg q0 (by omega),by omega⟩
theorem qAe{v U u a b Q w:Int}(h0:9223372036854775808≤v)(hU:0≤U)(hu:u=U/18446744073709551616)(h1:u<v)(ha:a=U%18446744073709551616/4294967296)(hb:b=U%18446744073709551616%4294967296)(hQ:Q=(u*4294967296+a)/v)(hw:w=u*4294967296+a-Q*v) :
  0≤w∧w<v∧Q*4294967296+(w*4294967296+b)/v=U/v∧w*4294967296+b-(w*4294967296+b)/v*v=U%v:=by
 have hv:0<v:=by omega
 obtain⟨n1,n2,n3,n4⟩:=qgR (v:=v) (u:=u) (x:=a) h0 (by omega) h1 (by omega) (by omega)
 rw[←hQ]at n1 n2 n3 n4;have w0:0≤w:=by omega
 have w1:w<v:=by omega
 have eU:U=w*4294967296+b+Q*4294967296*v:=by
  have:U=(u*4294967296+a)*4294967296+b:=by omega
  rw[Int.mul_right_comm];omega
 refine⟨w0,w1,?_,?_⟩
 ·have:U/v=(w*4294967296+b)/v+Q*4294967296:=by rw[eU,Int.add_mul_ediv_right _ _ (by omega:v≠0)]
  omega
 ·have e:=Int.mul_ediv_add_emod (w*4294967296+b) v
  have e2:U%v=(w*4294967296+b)%v:=by rw[eU,Int.add_mul_emod_self_right]
  rw[e2];rw[Int.mul_comm]at e;omega
theorem qsV(a b:Int)(h0:0≤a)(h1:a<18446744073709551616)(hb:0<b):qaN .quo (.d (.i .u64 a)) (.d (.i .u64 b))=some (.i .u64 (a/b)):=by
 show (if b=0 then none else some (DV.i .u64 (IntKind.u64.wrap (a.tdiv b))))=_
 rw[if_neg (by omega),Int.tdiv_eq_ediv_of_nonneg h0,wU]
 have:0≤a/b:=Int.ediv_nonneg h0 (by omega)
 have:a/b≤a:=Int.ediv_le_self b h0
 congr 2
 omega
theorem qs0(a b:Int)(h0:0≤a)(hb:0<b):qaN .rem (.d (.i .u64 a)) (.d (.i .u64 b))=some (.i .u64 (a%b)):=by
 show (if b=0 then none else some (DV.i .u64 (a.tmod b)))=_
 rw[if_neg (by omega),Int.tmod_eq_emod_of_nonneg h0]
theorem orU(x y:Int)(i:Nat)(x0:0≤x)(x1:x<18446744073709551616)(hx:x%2^i=0)(y0:0≤y)(hy:y<2^i)(hi:i≤64):qaN .or (.d (.i .u64 x)) (.d (.i .u64 y))=some (.i .u64 (x+y)):=by
 have hp:(2:Int)^i≤2^64:=by exact_mod_cast Nat.pow_le_pow_right (by decide:0<2) hi
 have e64:(2:Int)^64=18446744073709551616:=by decide
 rw[←Go.bits_join .u64 64 (by decide) (fun n a b=>wrU a (by rw[←e64];exact b)) i x y x0 hx (by rw[e64];exact x1) y0 hy (by omega)]
 rfl
theorem quD{v u x:Int}(h0:9223372036854775808≤v)(h1:v<18446744073709551616)(u0:0≤u)(u1:u<v)(x0:0≤x)(x1:x<4294967296):∃q r,Dig v u x q r∧r<4294967296∧qaN .quo (.d (.i .u64 u)) (.d (.i .u64 (v/4294967296)))=some (.i .u64 q)∧IntKind.u64.wrap (q*(v/4294967296))=q*(v/4294967296)∧IntKind.u64.wrap (u-q*(v/4294967296))=r:=by
 obtain⟨d,hr⟩:=qAd h0 h1 u0 u1 x0 x1;have e:=d.e
 have r0:=d.r0
 have q0:0≤u/(v/4294967296):=Int.ediv_nonneg u0 (by omega)
 have m0:0≤u/(v/4294967296)*(v/4294967296):=Int.mul_nonneg q0 (by omega)
 exact⟨_,_,d,hr,qsV u _ u0 (by omega) (by omega),wrU m0 (by omega),wrU (by omega) (by omega)⟩
theorem qI1{hi lo y:Int}{s:Nat}(hs:s≤63)(h0:0≤hi)(l0:0≤lo)(l1:lo<18446744073709551616)(hy:hi<y)(hv:y*2^s<18446744073709551616) :
  ∃A L c,hi*2^s%18446744073709551616=A∧lo/2^(64-s)=L∧lo*2^s%18446744073709551616=c∧0≤A∧A%2^s=0∧0≤L∧L<2^s∧A+L<y*2^s∧(hi*18446744073709551616+lo)*2^s=(A+L)*18446744073709551616+c∧0≤c∧c<18446744073709551616:=by
 refine⟨_,_,_,rfl,rfl,rfl,?_⟩;have hp:(0:Int)<2^s:=Int.pow_pos (by decide)
 have hr:(0:Int)<2^(64-s):=Int.pow_pos (by decide)
 have hm:(2:Int)^(64-s)*2^s=18446744073709551616:=by
  rw[←Int.pow_add,show 64-s+s=64 by omega];decide
 generalize (2:Int)^s=P at *
 generalize (2:Int)^(64-s)=R at *
 have a0:0≤hi*P:=Int.mul_nonneg h0 (by omega)
 have a1:(hi+1)*P≤y*P:=Int.mul_le_mul_of_nonneg_right (by omega) (by omega)
 rw[Int.add_mul,Int.one_mul]at a1;have eA:hi*P%18446744073709551616=hi*P:=Int.emod_eq_of_lt a0 (by omega)
 have L0:0≤lo/R:=Int.ediv_nonneg l0 (by omega)
 have L1:lo/R<P:=by
  apply Int.ediv_lt_of_lt_mul hr
  rw[Int.mul_comm,hm];exact l1
 have eL:lo*P/18446744073709551616=lo/R:=by
  rw[←hm,Int.mul_ediv_mul_of_pos_left _ _ hp]
 rw[eA];refine⟨a0,Int.mul_emod_left _ _,L0,L1,by omega,?_,by omega,by omega⟩
 have e2:lo*P=lo/R*18446744073709551616+lo*P%18446744073709551616:=by
  rw[←eL];omega
 rw[Int.add_mul,Int.mul_right_comm];omega
theorem qza(a:Int)(h0:0≤a)(h1:a<18446744073709551616):qaN .and (.d (.i .u64 a)) (.d (.i .u64 1))=some (.i .u64 (a%2)):=by
 have e64:(2:Int)^64=18446744073709551616:=by decide
 have e:=Go.bits_mask .u64 64 (by decide) (fun n a b=>wrU a (by rw[←e64];exact b)) 1 (by omega) a h0 (by rw[e64];exact h1)
 have e2:Go.bits .and .u64 a 1=a%2:=e
 rw[←e2];rfl
theorem qn8{x n:Int}(h0:0≤x)(h:2≤n):x/n≤x/2:=by
 apply Int.le_ediv_of_mul_le (by omega)
 have q0:0≤x/n:=Int.ediv_nonneg h0 (by omega)
 exact Int.le_trans (Int.mul_le_mul_of_nonneg_left h q0) (Int.ediv_mul_le x (by omega))
theorem qAf{s n:Int}(h0:0≤s)(hn:0<n):s/18446744073709551616/n=s/n/18446744073709551616∧(s/18446744073709551616%n*18446744073709551616+s%18446744073709551616)/n=s/n%18446744073709551616∧(s/18446744073709551616%n*18446744073709551616+s%18446744073709551616)%n=s%n:=by
 have e:=Int.mul_ediv_add_emod (s/18446744073709551616) n
 have hs:s=s/18446744073709551616*18446744073709551616+s%18446744073709551616:=by omega
 have r0:=Int.emod_nonneg (s/18446744073709551616) (b:=n) (by omega)
 have r1:=Int.emod_lt_of_pos (s/18446744073709551616) hn
 have l0:0≤s%18446744073709551616:=by omega
 have l1:s%18446744073709551616<18446744073709551616:=by omega
 have hh:0≤s/18446744073709551616:=by omega
 generalize s/18446744073709551616=h at *
 generalize s%18446744073709551616=l at *
 have q0:0≤h/n:=Int.ediv_nonneg hh (by omega)
 generalize h/n=q at *
 generalize h%n=ρ at *
 have e2:s=ρ*18446744073709551616+l+q*18446744073709551616*n:=by
  rw[Int.mul_right_comm,Int.mul_comm q n];omega
 have t0:0≤(ρ*18446744073709551616+l)/n:=Int.ediv_nonneg (by omega) (by omega)
 have t1:(ρ*18446744073709551616+l)/n<18446744073709551616:=by
  apply Int.ediv_lt_of_lt_mul hn
  omega
 have d:s/n=(ρ*18446744073709551616+l)/n+q*18446744073709551616:=by rw[e2,Int.add_mul_ediv_right _ _ (by omega:n≠0)]
 have m:s%n=(ρ*18446744073709551616+l)%n:=by rw[e2,Int.add_mul_emod_self_right]
 refine⟨by omega,by omega,m.symm⟩
theorem qsB{m n:Int}(hn:0<n)(h:m%n≠0):(-m)/n = -(m/n+1)∧(-m)%n=n-m%n:=by
 have e:=Int.mul_ediv_add_emod m n
 have r0:=Int.emod_nonneg m (b:=n) (by omega)
 have r1:=Int.emod_lt_of_pos m hn
 generalize m/n=q at *
 generalize m%n=ρ at *
 have e2 : -m=n-ρ + -(q+1)*n:=by
  rw[Int.neg_mul,Int.add_mul,Int.one_mul,Int.mul_comm q n];omega
 rw[e2,Int.add_mul_ediv_right _ _ (by omega:n≠0),Int.add_mul_emod_self_right,Int.ediv_eq_zero_of_lt (by omega) (by omega),Int.emod_eq_of_lt (by omega) (by omega)]
 omega
theorem qsA{m n:Int}(hn:0<n)(h:m%n=0):(-m)/n = -(m/n)∧(-m)%n=0:=by
 have e:=Int.mul_ediv_add_emod m n
 generalize m/n=q at *
 have e2 : -m=0 + -q*n:=by
  rw[Int.neg_mul,Int.mul_comm q n];omega
 rw[e2,Int.add_mul_ediv_right _ _ (by omega:n≠0),Int.add_mul_emod_self_right]
 simp
section
attribute [local simp ↓] qdZ qdX qdP qdY qdM qdQ qdN qdO sqK blK lpK qd4 qd2 qd0 qd3 qd1 qdI qdK qeu qdo qdm qdn qdr qcS qcT qcD qcG qcR qcV qcF qcW qcL qcN qcO qcP qcU qcQ qcE qcH qcj qcI qcM qdk qdh qcY qcX qc6 qcZ qbu qbC qc0 qc1 qd6 qcu qd5 qes qcz qdc qdd qc7 qc9 qc8 qcl qdl qcn qc3 qdg qdb qda qc5 qc4 qdf qdi qc2 qde qdJ qck qcy qdz qcw qbR qdA qco qcp qdj qbV qer qcJ qdp qdq qd8 qet qd7 qdR qdS qdT qdU qdV qdW qcK qdy qew qeP qeQ qeN qeO qeM qev qeT qeR qfn qeS qfs qfJ qcm
attribute [local simp] qbO qd9 qea qdE qdF qds qdt qep qeq qdB qdC rd IOp.adds qaq gh nid rgK rdS qdG qdH qeb qec qeg qeh qek qef qej qei qcC qcA qcB qee qed qdx qdw qem qel qen qeo qeC qeB qeE qeD qeH qeA qeI qfq qfj qfp qfo
section
attribute [local simp ↓] qbJ qbT qbx qeG qbS qfk qbt qbw qce qeV qeW qcq qcr qbv qey qbz qe0 qeZ qe6 qfi qeY qfg qff qbD qe2 qbX qe3 qe5 qe4 qe7 qe1 qe9 qfb qfe qfd qfc qe8 qfa qfh qex qeX
attribute [local simp] qby qbe writeS touchS qaD qa4 chg qbm qbb qaY qbc PV.refs PV.refsL IOp.okD IOp.barr qb2 Nat.testBit
attribute [local simp] gc Fr.keep qaf qae qad PV.refs PV.refsL qaj gcH qai Obj.refs PV.ren PV.renL Obj.ren Heap.obj Fr.ren gh zzd
section
variable {R : Type} {E : Env} {ρ : Rand → PV} {H : Heap} {id : Nat} {q : PV → Heap → Option R}
theorem ql9{p:Nat}{xs:List Rand}:bo2 (qaa E ρ H id (.prim p xs)) (.h q)=bo (qgE p (xs.map ρ)) (.h fun v=>q v H):=by
 simp only[qaa];exact qjf _ _ _
end
theorem qiQ(T:Tab)(hT:HT T)(n:Int)(h0 : -9223372036854775808≤n)(h1:n<9223372036854775808):T.val 44 [I n]=some (.d (Wd n).dv,false):=by
 have e:(⟨n.fdiv (2^63),IntKind.u64.wrap n⟩:AWide)=Wd n:=by
  have:n.fdiv (2^63)=n/9223372036854775808:=Int.fdiv_eq_ediv_of_nonneg _ (by decide)
  rw[this,wU,Wd];congr 1
  omega
 rw[qab T (hT 44 F44 rfl) rfl,←e];simp[F44,Fr.ofArgs,qaN,qmZ,↓qaZ,qfK,IntKind.bits];rfl
theorem qyF(T:Tab)(hT:HT T)(n:Int)(h0 : -9223372036854775808≤n)(h1:n<9223372036854775808):T.val 48 [I n]=some (.d (.i .u64 (aI n)),false):=by
 rw[qab T (hT 48 F48 rfl) rfl];by_cases h:n<0
 ·have e:IntKind.u64.wrap (0-IntKind.u64.wrap n)=aI n:=by rw[wU,wU,qeL h];omega
  simp[F48,Fr.ofArgs,↓qaZ,qfK,h];try (rw[←e];simp)
 ·have e:IntKind.u64.wrap n=aI n:=by rw[wU,qgN h];omega
  simp[F48,Fr.ofArgs,↓qaZ,qfK,h,e]
theorem pr0{x y c:Int}(h1:0≤x)(h2:0≤y)(h3:0≤c)(h4:c≤1):qgE 0 [.d (.i .u64 x),.d (.i .u64 y),.d (.i .u64 c)]=some (.t [.d (.i .u64 ((x+y+c)%18446744073709551616)),.d (.i .u64 ((x+y+c)/18446744073709551616))]):=by
 simp only[qgE];rw[if_pos ⟨h1,h2,h3,h4⟩]
theorem pr1{x y:Int}(h1:0≤x)(h2:0≤y)(h2':y<18446744073709551616):qgE 1 [.d (.i .u64 x),.d (.i .u64 y),.d (.i .u64 0)]=some (.t [.d (.i .u64 ((x+18446744073709551616-y-0)%18446744073709551616)),.d (.i .u64 (if x<y+0 then 1 else 0))]):=by
 simp only[qgE];rw[if_pos ⟨h1,h2,h2',by omega,by omega⟩]
theorem qqR{A B z:Int}{r:Option (PV×Bool)}(h:some (PV.d (Wd z).dv,false)=r)(h1:A=z/18446744073709551616)(h2:B=z%18446744073709551616):some (PV.d (.a [I A,.i .u64 B]),false)=r:=by rw[wd0 h1 h2];exact h
theorem qtq(T:Tab)(hT:HT T)(z:Int)(h0 : -170141183460469231731687303715884105728≤z)(h1:z<170141183460469231731687303715884105728):T.val 49 [(Wd z).dv]=some (.d (Wd (ngW z)).dv,false):=by
 obtain⟨a,ea,a1,a2⟩:=qfG z;obtain⟨r,hr⟩:∃r:Option (PV×Bool),some (.d (Wd (ngW z)).dv,false)=r:=⟨_,rfl⟩;rw[qab T (hT 49 F49 rfl) rfl,ea,hr];have x1:=qkZ (n:=a.Lo) (by omega) (by omega)
 have x2:=qMb (n:=a.Hi) (by omega) (by omega)
 have h5:=pr0 (x:=18446744073709551615-a.Lo) (y:=1) (c:=0) (by omega) (by omega) (by omega) (by omega)
 simp[F49,Fr.ofArgs,↓qaZ,qfK,↓ql9,↓qas x1,↓qas x2,h5,↓qaA,↓qaC,↓qaB,putAt,mkA,qax,qay];refine qqR hr ?_ ?_
 ·simp only[wU,wI];unfold ngW;split<;>omega
 ·unfold ngW;split<;>omega
def qf7(z:Int):PV×Bool:=if -170141183460469231731687303715884105728≤z∧z<170141183460469231731687303715884105728 then (.t [.d (Wd z).dv,.d (I 0)],false)else (.t [.d (.a [I 0,.i .u64 0]),.d (I 6)],false)
theorem qxU{z A B:Int}{r:Option (PV×Bool)}(h:some (qf7 z)=r)(h0 : -170141183460469231731687303715884105728≤z∧z<170141183460469231731687303715884105728)(h1:A=z/18446744073709551616)(h2:B=z%18446744073709551616):some (PV.t [.d (.a [I A,.i .u64 B]),.d (I 0)],false)=r:=by
 rw[←h,qf7,if_pos h0,wd0 h1 h2]
theorem qxV{z:Int}{r:Option (PV×Bool)}(h:some (qf7 z)=r)(h0:¬(-170141183460469231731687303715884105728≤z∧z<170141183460469231731687303715884105728)):some (PV.t [.d (.a [I 0,.i .u64 0]),.d (I 6)],false)=r:=by
 rw[←h,qf7,if_neg h0]
theorem qyt(T:Tab)(hT:HT T)(x y:Int)(x0 : -170141183460469231731687303715884105728≤x)(x1:x<170141183460469231731687303715884105728)(y0 : -170141183460469231731687303715884105728≤y)(y1:y<170141183460469231731687303715884105728):T.val 31 [(Wd x).dv,(Wd y).dv]=some (qf7 (x+y)):=by
 obtain⟨a,ea,a1,a2⟩:=qfG x;obtain⟨b,eb,b1,b2⟩:=qfG y;obtain⟨r,hr⟩:∃r,some (qf7 (x+y))=r:=⟨_,rfl⟩;rw[qab T (hT 31 F31 rfl) rfl,ea,eb,hr];have h5:=pr0 (x:=a.Lo) (y:=b.Lo) (c:=0) (by omega) (by omega) (by omega) (by omega)
 simp[F31,Fr.ofArgs,↓qaZ,qfK,↓ql9,h5];repeat' (refine qat (fun h => ?_) (fun h => ?_)<;>(try simp at h)<;>(try simp[h,↓qaA,↓qaC,↓qaB,putAt,mkA,qal,qax,qay]))
 all_goals
  simp only[wI]at *
  first|exact qxU hr (by omega) (by omega) (by omega)|exact qxV hr (by omega)
theorem qyB(T:Tab)(hT:HT T)(x y:Int)(x0 : -170141183460469231731687303715884105728≤x)(x1:x<170141183460469231731687303715884105728)(y0 : -170141183460469231731687303715884105728≤y)(y1:y<170141183460469231731687303715884105728):T.val 42 [(Wd x).dv,(Wd y).dv]=some (qf7 (x-y)):=by
 obtain⟨a,ea,a1,a2⟩:=qfG x;obtain⟨b,eb,b1,b2⟩:=qfG y;obtain⟨r,hr⟩:∃r,some (qf7 (x-y))=r:=⟨_,rfl⟩;rw[qab T (hT 42 F42 rfl) rfl,ea,eb,hr];have h5:=pr1 (x:=a.Lo) (y:=b.Lo) (by omega) (by omega) (by omega)
 obtain⟨c,hc⟩:∃c:Int,(if a.Lo<b.Lo+0 then 1 else 0)=c:=⟨_,rfl⟩
 rw[hc]at h5;have hc2:(c=1∧a.Lo<b.Lo)∨(c=0∧¬a.Lo<b.Lo):=by
  by_cases h:a.Lo<b.Lo
  ·rw[if_pos (by omega)]at hc;omega
  ·rw[if_neg (by omega)]at hc;omega
 clear hc
 simp[F42,Fr.ofArgs,↓qaZ,qfK,↓ql9,h5];repeat' (refine qat (fun h => ?_) (fun h => ?_)<;>(try simp at h)<;>(try simp[h,↓qaA,↓qaC,↓qaB,putAt,mkA,qal,qax,qay]))
 all_goals
  simp only[wI]at *
  first|exact qxU hr (by omega) (by omega) (by omega)|exact qxV hr (by omega)
theorem qqE(a b:AWide):eqA [1,1] (.d a.dv) (.d b.dv)=some (a.Hi==b.Hi&&(a.Lo==b.Lo&&true)):=by simp[eqA,eqL,eqK,AWide.dv]
def qfA(z:Int):PV×Bool:=if -9223372036854775808≤z∧z<9223372036854775808 then (.t [.d (I z),.d (.b true)],false)else (.t [.d (I 0),.d (.b false)],false)
theorem qto(T:Tab)(hT:HT T)(z:Int)(h0 : -170141183460469231731687303715884105728≤z)(h1:z<170141183460469231731687303715884105728):T.val 46 [(Wd z).dv]=some (qfA z):=by
 obtain⟨a,ea,a1,a2⟩:=qfG z;obtain⟨r,hr⟩:∃r,some (qfA z)=r:=⟨_,rfl⟩;obtain⟨n,hn⟩:∃n,IntKind.i64.wrap a.Lo=n:=⟨_,rfl⟩;have hn2:=hn
 rw[wI]at hn2;obtain⟨b,eb,b1,b2⟩:=qfG n;have e44:=qiQ T hT n (by omega) (by omega)
 rw[eb]at e44;rw[qab T (hT 46 F46 rfl) rfl,ea,hr];by_cases hz : -9223372036854775808≤z∧z<9223372036854775808
 ·have c1:b.Hi=a.Hi:=by omega
  have c2:b.Lo=a.Lo:=by omega
  have c3:n=z:=by omega
  have e:=qqE b a
  rw[c1,c2]at e;simp only[beq_self_eq_true,Bool.true_and]at e;simp[F46,Fr.ofArgs,↓qaZ,qfK,hn,e44,e];rw[←hr,qfA,if_pos hz,c3]
 ·have e:eqA [1,1] (.d b.dv) (.d a.dv)=some false:=by
   rw[qqE];have:¬(b.Hi=a.Hi∧b.Lo=a.Lo):=by omega
   simp only[Bool.and_true];congr 1
   simpa using this
  simp[F46,Fr.ofArgs,↓qaZ,qfK,hn,e44,e];rw[←hr,qfA,if_neg hz]
theorem qtp(T:Tab)(hT:HT T)(x y:Int)(hx0:0≤x)(hx:x<18446744073709551616)(hy0:0≤y)(hy:y<18446744073709551616):T.val 47 [.i .u64 x,.i .u64 y]=some (.t [.d (.i .u64 (x*y/18446744073709551616)),.d (.i .u64 (x*y%18446744073709551616))],false):=by
 obtain⟨r,hr⟩:∃r:Option (PV×Bool),some (.t [.d (.i .u64 (x*y/18446744073709551616)),.d (.i .u64 (x*y%18446744073709551616))],false)=r:=⟨_,rfl⟩;have hm:=Go.mul64_arith x y hx0 hx hy0 hy
 have e1:=ql5 x hx0 hx
 have e2:=qiP x
 have e3:=ql5 y hy0 hy
 have e4:=qiP y
 have e5:=qmG (x%4294967296) (y%4294967296)
 have e6:=qmG (x/4294967296) (y%4294967296)
 generalize hw0:x%4294967296*(y%4294967296)%18446744073709551616=w0 at *
 generalize hp:x/4294967296*(y%4294967296)%18446744073709551616=p at *
 have e7:=qiP w0
 have e8:=qnE p (w0/4294967296)
 generalize ht:(p+w0/4294967296)%18446744073709551616=t at *
 have e9:=ql5 t (by omega) (by omega)
 have e10:=qiP t
 have e11:=qmG (x%4294967296) (y/4294967296)
 generalize hq:x%4294967296*(y/4294967296)%18446744073709551616=u at *
 have e12:=qnE (t%4294967296) u
 generalize hw1:(t%4294967296+u)%18446744073709551616=w1 at *
 have e13:=qmG (x/4294967296) (y/4294967296)
 generalize hs:x/4294967296*(y/4294967296)%18446744073709551616=s at *
 have e14:=qnE s (t/4294967296)
 have e15:=qiP w1
 have e16:=qnE ((s+t/4294967296)%18446744073709551616) (w1/4294967296)
 rw[hm]at e16;generalize hv:(s+t/4294967296)%18446744073709551616=v at *
 have e17:=qmG x y
 generalize x%4294967296=xl at *
 generalize x/4294967296=xh at *
 generalize y%4294967296=yl at *
 generalize y/4294967296=yh at *
 generalize w0/4294967296=wh at *
 generalize t%4294967296=tl at *
 generalize t/4294967296=th at *
 generalize w1/4294967296=w1h at *
 generalize x*y/18446744073709551616=hi at *
 generalize x*y%18446744073709551616=lo at *
 rw[qab T (hT 47 F47 rfl) rfl,hr];simp[-qcn,-qcl,F47,Fr.ofArgs,↓qas e1,↓qas e2,↓qas e3,↓qas e4,↓qas e5,↓qas e6,↓qas e7,↓qas e8,↓qas e9,↓qas e10,↓qas e11,↓qas e12,↓qas e13,↓qas e14,↓qas e15,↓qas e16,↓qas e17];exact hr
theorem qox(a b:Int):a*b=if (a<0)=(b<0)then aI a*aI b else -(aI a*aI b):=by
 unfold aI;by_cases h:a<0<;>by_cases h':b<0<;>simp[h,h',Int.neg_mul,Int.mul_neg]
theorem qKq(T:Tab)(hT:HT T)(a b:Int)(a0 : -9223372036854775808≤a)(a1:a<9223372036854775808)(b0 : -9223372036854775808≤b)(b1:b<9223372036854775808):T.val 37 [I a,I b]=some (.d (Wd (a*b)).dv,false):=by
 have ha:0≤aI a∧aI a≤9223372036854775808:=by unfold aI;split<;>omega
 have hb:0≤aI b∧aI b≤9223372036854775808:=by unfold aI;split<;>omega
 have p0:0≤aI a*aI b:=Int.mul_nonneg ha.1 hb.1
 have p1:aI a*aI b≤9223372036854775808*9223372036854775808:=qmH ha.2 hb.2 hb.1 (by omega)
 have e1:=qyF T hT a a0 a1
 have e2:=qyF T hT b b0 b1
 have e3:=qtp T hT (aI a) (aI b) ha.1 (by omega) hb.1 (by omega)
 have hm:=qox a b
 generalize aI a*aI b=P at *
 have e4:=qtq T hT P (by omega) (by omega)
 have w1:IntKind.i64.wrap (P/18446744073709551616)=P/18446744073709551616:=wrI (by omega) (by omega)
 have e5:DV.a [I (P/18446744073709551616),.i .u64 (P%18446744073709551616)]=(Wd P).dv:=wd0 rfl rfl
 have ng:ngW P = -P:=by unfold ngW;rw[if_neg (by omega)]
 rw[ng]at e4;obtain⟨r,hr⟩:∃r:Option (PV×Bool),some (.d (Wd (a*b)).dv,false)=r:=⟨_,rfl⟩;generalize aI a=A at *
 generalize aI b=B at *
 generalize P/18446744073709551616=hi at *
 generalize P%18446744073709551616=lo at *
 rw[qab T (hT 37 F37 rfl) rfl,hr];by_cases h:(a<0)=(b<0)
 ·rw[if_pos h]at hm;have hd:decide (a<0)=decide (b<0):=by simp only[h]
  simp[F37,Fr.ofArgs,↓qaZ,qfK,e1,e2,e3,w1,↓qaA,↓qaC,↓qaB,putAt,mkA,qax,qay,hd,e5];rw[←hr,hm]
 ·rw[if_neg h]at hm;have hd:decide (a<0) = !decide (b<0):=by
   by_cases h1:a<0<;>by_cases h2:b<0<;>simp_all
  simp[F37,Fr.ofArgs,↓qaZ,qfK,e1,e2,e3,w1,↓qaA,↓qaC,↓qaB,putAt,mkA,qax,qay,hd,e5,e4];rw[←hr,hm]
end
section
variable {R : Type} {E : Env} {ρ : Rand → PV} {H : Heap} {id : Nat} {q : PV → Heap → Option R} {x i : Rand}
theorem qbf:bo2 (qaa E ρ H id (.idxS x i)) (.h q)=qjx (ρ x) (ρ i) (.h fun v=>q v H):=by
 cases hx:ρ x with
 |d v =>
  cases v with
  |s s =>
   cases hi:ρ i with
   |d w =>
    cases w with
    |i kk n=>rw[qzk hx hi];rfl
    | _=>simp[qaa,hx,hi,asI,qjx,bo2]
   | _=>simp[qaa,hx,hi,asI,qjx,bo2]
  | _=>simp[qaa,hx,qjx,bo2]
 | _=>simp[qaa,hx,qjx,bo2]
end
def qsk:List UInt8:=[0,1,2,2,3,3,3,3,4,4,4,4,4,4,4,4,5,5,5,5,5,5,5,5,5,5,5,5,5,5,5,5,6,6,6,6,6,6,6,6,6,6,6,6,6,6,6,6,6,6,6,6,6,6,6,6,6,6,6,6,6,6,6,6,7,7,7,7,7,7,7,7,7,7,7,7,7,7,7,7,7,7,7,7,7,7,7,7,7,7,7,7,7,7,7,7,7,7,7,7,7,7,7,7,7,7,7,7,7,7,7,7,7,7,7,7,7,7,7,7,7,7,7,7,7,7,7,7,8,8,8,8,8,8,8,8,8,8,8,8,8,8,8,8,8,8,8,8,8,8,8,8,8,8,8,8,8,8,8,8,8,8,8,8,8,8,8,8,8,8,8,8,8,8,8,8,8,8,8,8,8,8,8,8,8,8,8,8,8,8,8,8,8,8,8,8,8,8,8,8,8,8,8,8,8,8,8,8,8,8,8,8,8,8,8,8,8,8,8,8,8,8,8,8,8,8,8,8,8,8,8,8,8,8,8,8,8,8,8,8,8,8,8,8,8,8,8,8,8,8,8,8,8,8,8,8]
set_option maxRecDepth 100000 in
theorem qB5(i:Nat)(h:i<256):qsk[i]? = some (UInt8.ofNat (Go.bitLen i)):=by
 have all:∀j:Fin 256,qsk[j.val]? = some (UInt8.ofNat (Go.bitLen j.val)):=by decide +kernel
 exact all ⟨i,h⟩
theorem qiz{R:Type}(m:Nat)(hm:m<256){d:PV→Option R}:qjx (.d (.s qsk)) (.d (.i .u8 (m:Int))) (.h d)=d (.d (.i .u8 (Go.bitLen m:Nat))):=by
 have h8:=Go.bitLen_le8 m hm
 rw[qbA];simp only[chk,Int.toNat_natCast,qB5 m hm,bo];rw[if_pos (by omega)]
 have:(UInt8.ofNat (Go.bitLen m)).toNat=Go.bitLen m:=by
  rw[UInt8.toNat_ofNat'];omega
 rw[this]
theorem qjB{x b:Nat}(h:2^b≤x):Go.bitLen x=b+Go.bitLen (x/2^b):=by
 apply Go.bitLen_shift
 have:=Nat.div_pos h (Nat.two_pow_pos b)
 omega
theorem qK7(T:Tab)(hT:HT T)(x:Nat)(hx:x<18446744073709551616):T.val 74 [.i .u64 (x:Int)]=some (.d (I (Go.bitLen x:Nat)),false):=by
 rw[qab T (hT 74 F74 rfl) rfl];obtain⟨a,ea⟩:∃a,a=if 4294967296≤x then x/4294967296 else x:=⟨_,rfl⟩
 obtain⟨b,eb⟩:∃b,b=if 65536≤a then a/65536 else a:=⟨_,rfl⟩
 obtain⟨c,ec⟩:∃c,c=if 256≤b then b/256 else b:=⟨_,rfl⟩
 have ha:a<4294967296:=by rw[ea];split<;>omega
 have hb:b<65536:=by rw[eb];split<;>omega
 have hc:c<256:=by rw[ec];split<;>omega
 have w:∀n:Int,0≤n→n≤100→IntKind.i64.wrap n=n:=fun n h h'=>wrI (by omega) (by omega)
 have w8:IntKind.u8.wrap (c:Int)=(c:Int):=by rw[IntKind.wrap_u8];omega
 have h8:=Go.bitLen_le8 c hc
 have wc:IntKind.i64.wrap ((Go.bitLen c:Nat):Int)=((Go.bitLen c:Nat):Int):=wrI (by omega) (by omega)
 obtain⟨r,hr⟩:∃r:Option (PV×Bool),some (.d (I (Go.bitLen x:Nat)),false)=r:=⟨_,rfl⟩;have s1:=qiP (x:Int)
 have s2:=qm1 (a:Int) 16 (by omega)
 have s3:=qm1 (b:Int) 8 (by omega)
 rw[show ((16:Nat):Int)=16 from rfl]at s2
 rw[show ((8:Nat):Int)=8 from rfl]at s3
 have wk1:IntKind.i64.wrap 8=8:=by decide
 have wk2:IntKind.i64.wrap 16=16:=by decide
 have wk3:IntKind.i64.wrap 24=24:=by decide
 have wk4:IntKind.i64.wrap 32=32:=by decide
 have wk5:IntKind.i64.wrap 40=40:=by decide
 have wk6:IntKind.i64.wrap 48=48:=by decide
 have wk7:IntKind.i64.wrap 56=56:=by decide
 rw[hr];have key:∀z:Int,z=(Go.bitLen x:Nat)→some (PV.d (I z),false)=r:=fun z hz=>by rw[hz];exact hr
 by_cases h1:4294967296≤x
 ·rw[if_pos h1]at ea;have g1:(4294967296:Int)≤(x:Int):=by omega
  rw[show (x:Int)/4294967296=(a:Int)by omega]at s1
  have l1:=qjB (x:=x) (b:=32) h1
  rw[show x/2^32=a by rw[ea]]at l1
  by_cases h2:65536≤a
  ·rw[if_pos h2]at eb;have g2:(65536:Int)≤(a:Int):=by omega
   rw[show (a:Int)/2^16=(b:Int)by rw[eb];norm_cast]at s2
   have l2:=qjB (x:=a) (b:=16) h2
   rw[show a/2^16=b by rw[eb]]at l2
   by_cases h3:256≤b
   ·rw[if_pos h3]at ec;have g3:(256:Int)≤(b:Int):=by omega
    rw[show (b:Int)/2^8=(c:Int)by rw[ec];norm_cast]at s3
    have l3:=qjB (x:=b) (b:=8) h3
    rw[show b/2^8=c by rw[ec]]at l3
    simp[F74,Fr.ofArgs,↓qbf,↓qaZ,↓qbk,g1,g2,g3,↓qas s1,↓qas s2,↓qas s3,w8];have wz:IntKind.i64.wrap (56+((Go.bitLen c:Nat):Int))=56+((Go.bitLen c:Nat):Int):=wrI (by omega) (by omega)
    refine (qiz c hc).trans ?_;simp[↓qaZ,↓qbk,wc,wk6,wk7,wz];exact key _ (by omega)
   ·rw[if_neg h3]at ec;have g3:¬(256:Int)≤(b:Int):=by omega
    subst ec;simp[F74,Fr.ofArgs,↓qbf,↓qaZ,↓qbk,g1,g2,g3,↓qas s1,↓qas s2,w8];have wz:IntKind.i64.wrap (48+((Go.bitLen c:Nat):Int))=48+((Go.bitLen c:Nat):Int):=wrI (by omega) (by omega)
    refine (qiz c hc).trans ?_;simp[↓qaZ,↓qbk,wc,wk6,wz];exact key _ (by omega)
  ·rw[if_neg h2]at eb;have g2:¬(65536:Int)≤(a:Int):=by omega
   subst eb;by_cases h3:256≤b
   ·rw[if_pos h3]at ec;have g3:(256:Int)≤(b:Int):=by omega
    rw[show (b:Int)/2^8=(c:Int)by rw[ec];norm_cast]at s3
    have l3:=qjB (x:=b) (b:=8) h3
    rw[show b/2^8=c by rw[ec]]at l3
    simp[F74,Fr.ofArgs,↓qbf,↓qaZ,↓qbk,g1,g2,g3,↓qas s1,↓qas s3,w8];have wz:IntKind.i64.wrap (40+((Go.bitLen c:Nat):Int))=40+((Go.bitLen c:Nat):Int):=wrI (by omega) (by omega)
    refine (qiz c hc).trans ?_;simp[↓qaZ,↓qbk,wc,wk5,wz];exact key _ (by omega)
   ·rw[if_neg h3]at ec;have g3:¬(256:Int)≤(b:Int):=by omega
    subst ec;simp[F74,Fr.ofArgs,↓qbf,↓qaZ,↓qbk,g1,g2,g3,↓qas s1,w8];have wz:IntKind.i64.wrap (32+((Go.bitLen c:Nat):Int))=32+((Go.bitLen c:Nat):Int):=wrI (by omega) (by omega)
    refine (qiz c hc).trans ?_;simp[↓qaZ,↓qbk,wc,wz];exact key _ (by omega)
 ·rw[if_neg h1]at ea;have g1:¬(4294967296:Int)≤(x:Int):=by omega
  subst ea;by_cases h2:65536≤a
  ·rw[if_pos h2]at eb;have g2:(65536:Int)≤(a:Int):=by omega
   rw[show (a:Int)/2^16=(b:Int)by rw[eb];norm_cast]at s2
   have l2:=qjB (x:=a) (b:=16) h2
   rw[show a/2^16=b by rw[eb]]at l2
   by_cases h3:256≤b
   ·rw[if_pos h3]at ec;have g3:(256:Int)≤(b:Int):=by omega
    rw[show (b:Int)/2^8=(c:Int)by rw[ec];norm_cast]at s3
    have l3:=qjB (x:=b) (b:=8) h3
    rw[show b/2^8=c by rw[ec]]at l3
    simp[F74,Fr.ofArgs,↓qbf,↓qaZ,↓qbk,g1,g2,g3,↓qas s2,↓qas s3,w8];have wz:IntKind.i64.wrap (24+((Go.bitLen c:Nat):Int))=24+((Go.bitLen c:Nat):Int):=wrI (by omega) (by omega)
    refine (qiz c hc).trans ?_;simp[↓qaZ,↓qbk,wc,wk2,wk3,wz];exact key _ (by omega)
   ·rw[if_neg h3]at ec;have g3:¬(256:Int)≤(b:Int):=by omega
    subst ec;simp[F74,Fr.ofArgs,↓qbf,↓qaZ,↓qbk,g1,g2,g3,↓qas s2,w8];have wz:IntKind.i64.wrap (16+((Go.bitLen c:Nat):Int))=16+((Go.bitLen c:Nat):Int):=wrI (by omega) (by omega)
    refine (qiz c hc).trans ?_;simp[↓qaZ,↓qbk,wc,wk2,wz];exact key _ (by omega)
  ·rw[if_neg h2]at eb;have g2:¬(65536:Int)≤(a:Int):=by omega
   subst eb;by_cases h3:256≤b
   ·rw[if_pos h3]at ec;have g3:(256:Int)≤(b:Int):=by omega
    rw[show (b:Int)/2^8=(c:Int)by rw[ec];norm_cast]at s3
    have l3:=qjB (x:=b) (b:=8) h3
    rw[show b/2^8=c by rw[ec]]at l3
    simp[F74,Fr.ofArgs,↓qbf,↓qaZ,↓qbk,g1,g2,g3,↓qas s3,w8];have wz:IntKind.i64.wrap (8+((Go.bitLen c:Nat):Int))=8+((Go.bitLen c:Nat):Int):=wrI (by omega) (by omega)
    refine (qiz c hc).trans ?_;simp[↓qaZ,↓qbk,wc,wk1,wz];exact key _ (by omega)
   ·rw[if_neg h3]at ec;have g3:¬(256:Int)≤(b:Int):=by omega
    subst ec;simp[F74,Fr.ofArgs,↓qbf,↓qaZ,↓qbk,g1,g2,g3,w8];refine (qiz c hc).trans ?_;simp[↓qaZ,↓qbk,wc];exact key _ (by omega)
theorem qsl{x:Nat}(hx:x<18446744073709551616):Go.bitLen x≤64:=by
 unfold Go.bitLen;split
 ·omega
 ·rename_i h;have:=(Nat.log2_lt h).2 (show x<2^64 from hx)
  omega
theorem qK6(T:Tab)(hT:HT T)(x:Nat)(hx:x<18446744073709551616):T.val 73 [.i .u64 (x:Int)]=some (.d (I ((64-Go.bitLen x:Nat):Int)),false):=by
 have e:=qK7 T hT x hx
 have hl:=qsl hx
 have w:IntKind.i64.wrap (64-((Go.bitLen x:Nat):Int))=((64-Go.bitLen x:Nat):Int):=by rw[wrI (by omega) (by omega)];omega
 rw[qab T (hT 73 F73 rfl) rfl];simp[F73,Fr.ofArgs,e,w]
theorem qDx{y:Nat}(h0:0<y)(h1:y<18446744073709551616):9223372036854775808≤y*2^(64-Go.bitLen y)∧y*2^(64-Go.bitLen y)<18446744073709551616:=by
 obtain⟨b1,b2⟩:=Go.bitLen_spec y;have b2:=b2 (by omega)
 have hl:=qsl h1
 have hp:0<Go.bitLen y:=by
  unfold Go.bitLen;rw[if_neg (by omega)]
  omega
 constructor
 ·have:2^(Go.bitLen y-1)*2^(64-Go.bitLen y)≤y*2^(64-Go.bitLen y):=zzh _ b2
  rw[←Nat.pow_add,show Go.bitLen y-1+(64-Go.bitLen y)=63 by omega]at this
  exact this
 ·have:y*2^(64-Go.bitLen y)<2^Go.bitLen y*2^(64-Go.bitLen y):=Nat.mul_lt_mul_of_pos_right b1 (Nat.two_pow_pos _)
  rw[←Nat.pow_add,show Go.bitLen y+(64-Go.bitLen y)=64 by omega]at this
  exact this
section
attribute [local simp ↓] qbJ qbT qbx qeG qbS qfk qbt qbw qce qeV qeW qcq qcr qbv qey qbz qe0 qeZ qe6 qfi qeY qfg qff qbD qe2 qbX qe3 qe5 qe4 qe7 qe1 qe9 qfb qfe qfd qfc qe8 qfa qfh qex qeX
attribute [local simp] qby qbe writeS touchS qaD qa4 chg qbm qbb qaY qbc PV.refs PV.refsL IOp.okD IOp.barr qb2 Nat.testBit
attribute [local simp] gc Fr.keep qaf qae qad PV.refs PV.refsL qaj gcH qai Obj.refs PV.ren PV.renL Obj.ren Heap.obj Fr.ren gh zzd
section
variable {E : Env} {k : KC (PV × Bool)} {fr : Fr} {H : Heap} {r : Option (PV × Bool)}
theorem qC3(v s u x a14:Int)
  (he1:∀rh,k (.exit 0) [(78,.d (.b false)),(16,.d (.i .u64 rh)),(15,.d (.i .u64 ((u*4294967296+x)/v))),(14,.d (.i .u64 a14)),(13,.d (.i .u64 x)),(11,.d (.i .u64 u)),(10,.d (.i .u64 (v%4294967296))),(9,.d (.i .u64 (v/4294967296))),(8,.d (.i .u64 s)),(2,.d (.i .u64 v))] []=r)
  (he2:∀rh,k (.exit 0) [(85,.d (.b true)),(78,.d (.b true)),(16,.d (.i .u64 rh)),(15,.d (.i .u64 ((u*4294967296+x)/v))),(14,.d (.i .u64 a14)),(13,.d (.i .u64 x)),(11,.d (.i .u64 u)),(10,.d (.i .u64 (v%4294967296))),(9,.d (.i .u64 (v/4294967296))),(8,.d (.i .u64 s)),(2,.d (.i .u64 v))] []=r)
  (q0 r0:Int) (hq:Dig v u x q0 r0) (hr:r0<4294967296)
  (h0:gc [2,8,9,10,11,13,14,15,16] 0 ⟨fr,H⟩=⟨[(16,.d (.i .u64 r0)),(15,.d (.i .u64 q0)),(14,.d (.i .u64 a14)),(13,.d (.i .u64 x)),(11,.d (.i .u64 u)),(10,.d (.i .u64 (v%4294967296))),(9,.d (.i .u64 (v/4294967296))),(8,.d (.i .u64 s)),(2,.d (.i .u64 v))],[]⟩) :
  kC E 0 fr H (.h (.loop [2,8,9,10,11,13,14,15,16] qki,k))=r:=by
 refine qbB (fun p:Int×Int=>⟨[(16,.d (.i .u64 p.2)),(15,.d (.i .u64 p.1)),(14,.d (.i .u64 a14)),(13,.d (.i .u64 x)),(11,.d (.i .u64 u)),(10,.d (.i .u64 (v%4294967296))),(9,.d (.i .u64 (v/4294967296))),(8,.d (.i .u64 s)),(2,.d (.i .u64 v))],[]⟩) (fun p=>Dig v u x p.1 p.2∧p.2<4294967296) (fun p=>(4294967296-p.2).toNat) ?_ (q0,r0) ⟨hq,hr⟩ h0
 rintro B-⟨q,rh⟩ ⟨hd,hlt⟩ hx;simp only at hd hlt hx⊢;have hx':=fun (s':Int×Int)=>hx s'
 clear hx
 have hq0:0≤q:=Int.le_trans (qgR hd.v0 hd.u0 hd.u1 hd.x0 hd.x1).1 hd.q0
 have hr0:=hd.r0
 have hv0:=hd.v0
 have hv1:=hd.v1
 have hx0:=hd.x0
 have hx1:=hd.x1
 have hq1:=hd.q1
 have more:(4294967296≤q∨4294967296*rh+x<q*(v%4294967296))→(4294967296≤rh+v/4294967296→q-1=(u*4294967296+x)/v)∧Dig v u x (q-1) (rh+v/4294967296)∧IntKind.u64.wrap (q-1)=q-1∧IntKind.u64.wrap (rh+v/4294967296)=rh+v/4294967296:=by
  intro hc;have hm:=quE hd hc
  have hp:0≤q-1:=Int.le_trans (qgR hd.v0 hd.u0 hd.u1 hd.x0 hd.x1).1 hm.q0
  exact⟨fun h=>quC hm h (by omega),hm,wrU hp (by omega),wrU (by omega) (by omega)⟩
 by_cases c1:4294967296≤q
 ·obtain⟨m1,m2,m3,m4⟩:=more (.inl c1);by_cases c2:4294967296≤rh+v/4294967296
  ·have:=m1 c2
   simp[c1,m3,m4,c2];rw[this];exact he2 _
  ·simp[c1,m3,m4,c2];refine hx' (q-1,rh+v/4294967296) ⟨m2,by omega⟩ (by simp only;omega) _ _ ?_
   simp
 ·obtain⟨d1,d2⟩:=quF hd (by omega)
  have w1:IntKind.u64.wrap (q*(v%4294967296))=q*(v%4294967296):=wrU d1 d2
  have w2:IntKind.u64.wrap (4294967296*rh)=4294967296*rh:=wrU (by omega) (by omega)
  have w3:IntKind.u64.wrap (4294967296*rh+x)=4294967296*rh+x:=wrU (by omega) (by omega)
  by_cases c3:4294967296*rh+x<q*(v%4294967296)
  ·obtain⟨m1,m2,m3,m4⟩:=more (.inr c3);by_cases c2:4294967296≤rh+v/4294967296
   ·have:=m1 c2
    simp[c1,w1,w2,w3,c3,m3,m4,c2];rw[this];exact he2 _
   ·simp[c1,w1,w2,w3,c3,m3,m4,c2];refine hx' (q-1,rh+v/4294967296) ⟨m2,by omega⟩ (by simp only;omega) _ _ ?_
    simp
  ·have:=qqA hd (by omega)
   simp[c1,w1,w2,w3,c3];rw[this];exact he1 _
theorem qC4(v s u x a15:Int)
  (he1:∀rh,k (.exit 2) [(113,.d (.b false)),(18,.d (.i .u64 ((u*4294967296+x)/v))),(17,.d (.i .u64 u)),(16,.d (.i .u64 rh)),(15,.d (.i .u64 a15)),(14,.d (.i .u64 x)),(10,.d (.i .u64 (v%4294967296))),(9,.d (.i .u64 (v/4294967296))),(8,.d (.i .u64 s)),(2,.d (.i .u64 v))] []=r)
  (he2:∀rh,k (.exit 2) [(120,.d (.b true)),(113,.d (.b true)),(18,.d (.i .u64 ((u*4294967296+x)/v))),(17,.d (.i .u64 u)),(16,.d (.i .u64 rh)),(15,.d (.i .u64 a15)),(14,.d (.i .u64 x)),(10,.d (.i .u64 (v%4294967296))),(9,.d (.i .u64 (v/4294967296))),(8,.d (.i .u64 s)),(2,.d (.i .u64 v))] []=r)
  (q0 r0:Int) (hq:Dig v u x q0 r0) (hr:r0<4294967296)
  (h0:gc [2,8,9,10,14,15,16,17,18] 0 ⟨fr,H⟩=⟨[(18,.d (.i .u64 q0)),(17,.d (.i .u64 u)),(16,.d (.i .u64 r0)),(15,.d (.i .u64 a15)),(14,.d (.i .u64 x)),(10,.d (.i .u64 (v%4294967296))),(9,.d (.i .u64 (v/4294967296))),(8,.d (.i .u64 s)),(2,.d (.i .u64 v))],[]⟩) :
  kC E 0 fr H (.h (.loop [2,8,9,10,14,15,16,17,18] qkj,k))=r:=by
 refine qbB (fun p:Int×Int=>⟨[(18,.d (.i .u64 p.1)),(17,.d (.i .u64 u)),(16,.d (.i .u64 p.2)),(15,.d (.i .u64 a15)),(14,.d (.i .u64 x)),(10,.d (.i .u64 (v%4294967296))),(9,.d (.i .u64 (v/4294967296))),(8,.d (.i .u64 s)),(2,.d (.i .u64 v))],[]⟩) (fun p=>Dig v u x p.1 p.2∧p.2<4294967296) (fun p=>(4294967296-p.2).toNat) ?_ (q0,r0) ⟨hq,hr⟩ h0
 rintro B-⟨q,rh⟩ ⟨hd,hlt⟩ hx;simp only at hd hlt hx⊢;have hx':=fun (s':Int×Int)=>hx s'
 clear hx
 have hq0:0≤q:=Int.le_trans (qgR hd.v0 hd.u0 hd.u1 hd.x0 hd.x1).1 hd.q0
 have hr0:=hd.r0
 have hv0:=hd.v0
 have hv1:=hd.v1
 have hx0:=hd.x0
 have hx1:=hd.x1
 have hq1:=hd.q1
 have more:(4294967296≤q∨4294967296*rh+x<q*(v%4294967296))→(4294967296≤rh+v/4294967296→q-1=(u*4294967296+x)/v)∧Dig v u x (q-1) (rh+v/4294967296)∧IntKind.u64.wrap (q-1)=q-1∧IntKind.u64.wrap (rh+v/4294967296)=rh+v/4294967296:=by
  intro hc;have hm:=quE hd hc
  have hp:0≤q-1:=Int.le_trans (qgR hd.v0 hd.u0 hd.u1 hd.x0 hd.x1).1 hm.q0
  exact⟨fun h=>quC hm h (by omega),hm,wrU hp (by omega),wrU (by omega) (by omega)⟩
 by_cases c1:4294967296≤q
 ·obtain⟨m1,m2,m3,m4⟩:=more (.inl c1);by_cases c2:4294967296≤rh+v/4294967296
  ·have:=m1 c2
   simp[c1,m3,m4,c2];rw[this];exact he2 _
  ·simp[c1,m3,m4,c2];refine hx' (q-1,rh+v/4294967296) ⟨m2,by omega⟩ (by simp only;omega) _ _ ?_
   simp
 ·obtain⟨d1,d2⟩:=quF hd (by omega)
  have w1:IntKind.u64.wrap (q*(v%4294967296))=q*(v%4294967296):=wrU d1 d2
  have w2:IntKind.u64.wrap (4294967296*rh)=4294967296*rh:=wrU (by omega) (by omega)
  have w3:IntKind.u64.wrap (4294967296*rh+x)=4294967296*rh+x:=wrU (by omega) (by omega)
  by_cases c3:4294967296*rh+x<q*(v%4294967296)
  ·obtain⟨m1,m2,m3,m4⟩:=more (.inr c3);by_cases c2:4294967296≤rh+v/4294967296
   ·have:=m1 c2
    simp[c1,w1,w2,w3,c3,m3,m4,c2];rw[this];exact he2 _
   ·simp[c1,w1,w2,w3,c3,m3,m4,c2];refine hx' (q-1,rh+v/4294967296) ⟨m2,by omega⟩ (by simp only;omega) _ _ ?_
    simp
  ·have:=qqA hd (by omega)
   simp[c1,w1,w2,w3,c3];rw[this];exact he1 _
end
theorem qac{x y:Int}(h:¬x=y):(x==y)=false:=by simpa using h
theorem qK2(T:Tab)(hT:HT T)(hi lo y:Int)(h0:0≤hi)(l0:0≤lo)(l1:lo<18446744073709551616)(hy:hi<y)(y1:y<18446744073709551616):T.val 68 [.i .u64 hi,.i .u64 lo,.i .u64 y]=some (.t [.d (.i .u64 ((hi*18446744073709551616+lo)/y)),.d (.i .u64 ((hi*18446744073709551616+lo)%y))],false):=by
 obtain⟨r,hr⟩:∃r:Option (PV×Bool),some (.t [.d (.i .u64 ((hi*18446744073709551616+lo)/y)),.d (.i .u64 ((hi*18446744073709551616+lo)%y))],false)=r:=⟨_,rfl⟩;rw[qab T (hT 68 F68 rfl) rfl,hr];have g1:¬y=0:=by omega
 have g1b:=qac g1
 have g2:¬y≤hi:=by omega
 by_cases hz:hi=0
 ·subst hz;have e1:=qsV lo y l0 l1 (by omega)
  have e2:=qs0 lo y l0 (by omega)
  rw[show (0:Int)*18446744073709551616+lo=lo by omega]at hr
  generalize lo/y=Q at *
  generalize lo%y=Z at *
  simp[-qbu,-qbC,F68,Fr.ofArgs,g1b,g2,↓qbJ,↓qbT,↓qbx,↓qbt,qby,↓qbw,↓qbz,qbe,writeS,touchS,qaD,qa4,chg,qbb,qaY,qbc,IOp.okD,Nat.testBit,↓qas e1,↓qas e2];exact hr
 ·obtain⟨Y,rfl⟩:=Int.eq_ofNat_of_zero_le (show 0≤y by omega)
  have hl:=qsl (x:=Y) (by omega)
  obtain⟨t1,t2⟩:=qDx (y:=Y) (by omega) (by omega)
  obtain⟨s,es⟩:∃s,64-Go.bitLen Y=s:=⟨_,rfl⟩;have e73:=qK6 T hT Y (by omega)
  have hpos:0<Go.bitLen Y:=by
   unfold Go.bitLen;rw[if_neg (by omega)]
   omega
  rw[es]at t1 t2 e73;have hs:s≤63:=by omega
  obtain⟨mm,hmm⟩:∃mm,Y*2^s=mm:=⟨_,rfl⟩;rw[hmm]at t1 t2;have hmc:((mm:Nat):Int)=(Y:Int)*2^s:=by rw[←hmm];push_cast;rfl
  have t1':(9223372036854775808:Int)≤(Y:Int)*2^s:=by rw[←hmc];omega
  have t2':(Y:Int)*2^s<18446744073709551616:=by rw[←hmc];omega
  clear hmc hmm
  obtain⟨A,L,c,eA,eL,ec,A0,A1,L0,L1,u1,eU,c0,c1⟩:=qI1 (hi:=hi) (lo:=lo) (y:=(Y:Int)) hs h0 l0 l1 hy t2';have b1:=qm0 (Y:Int) s (by omega)
  have b2:=qm0 hi s (by omega)
  have b3:=qm1 lo (64-s) (by omega)
  have b4:=qm0 lo s (by omega)
  rw[show (Y:Int)*2^s%18446744073709551616=(Y:Int)*2^s from Int.emod_eq_of_lt (by omega) t2']at b1
  rw[eA]at b2;rw[eL]at b3;rw[ec]at b4;have b5:=orU A L s A0 (by omega) A1 L0 L1 (by omega)
  have b6:=qJc 64 (s:Int)
  rw[show (64-(s:Int))%18446744073709551616=((64-s:Nat):Int)by omega]at b6
  have hq:(hi*18446744073709551616+lo)*2^s/((Y:Int)*2^s)=(hi*18446744073709551616+lo)/(Y:Int):=Int.mul_ediv_mul_of_pos_left _ _ (Int.pow_pos (by decide))
  have hm:(hi*18446744073709551616+lo)*2^s%((Y:Int)*2^s)=(hi*18446744073709551616+lo)%(Y:Int)*2^s:=by
   rw[Int.mul_comm _ (2^s),Int.mul_comm _ (2^s),Int.mul_emod_mul_of_pos _ _ (Int.pow_pos (by decide)),Int.mul_comm]
  have hm2:(hi*18446744073709551616+lo)*2^s%((Y:Int)*2^s)/2^s=(hi*18446744073709551616+lo)%(Y:Int):=by
   rw[hm,Int.mul_ediv_cancel _ (by have:(0:Int)<2^s:=Int.pow_pos (by decide);omega)]
  rw[←hq,←hm2]at hr;rw[eU]at hr;have b7:∀R:Int,qaN .shr (.d (.i .u64 R)) (.d (.i .u64 (s:Int)))=some (.i .u64 (R/2^s)):=fun R=>qm1 R s (by omega)
  generalize (2:Int)^s=P at *
  generalize hv:(Y:Int)*P=v at *
  obtain⟨u,hu⟩:∃u,u=A+L:=⟨_,rfl⟩;rw[←hu]at b5 u1 hr;have hU:0≤u*18446744073709551616+c:=by omega
  have hu0:0≤u:=by omega
  obtain⟨a,ea⟩:∃a,a=c/4294967296:=⟨_,rfl⟩;obtain⟨b,eb⟩:∃b,b=c%4294967296:=⟨_,rfl⟩;have b8:=qiP v
  have b9:=ql5 v (by omega) t2'
  have b10:=qiP c
  have b11:=ql5 c c0 c1
  rw[←ea]at b10;rw[←eb]at b11;obtain⟨Q,eQ⟩:∃Q,Q=(u*4294967296+a)/v:=⟨_,rfl⟩;obtain⟨w,ew⟩:∃w,w=u*4294967296+a-Q*v:=⟨_,rfl⟩;obtain⟨w0,w1,z1,z2⟩:=qAe (v:=v) (U:=u*18446744073709551616+c) (u:=u) (a:=a) (b:=b) (Q:=Q) (w:=w) t1' hU (by omega) u1 (by omega) (by omega) eQ ew
  rw[←z1,←z2]at hr;obtain⟨q1,r1,d1,d2,d3,d4,d5⟩:=quD (v:=v) (u:=u) (x:=a) t1' t2' hu0 u1 (by omega) (by omega)
  obtain⟨q2,r2,f1,f2,f3,f4,f5⟩:=quD (v:=v) (u:=w) (x:=b) t1' t2' w0 w1 (by omega) (by omega)
  obtain⟨n1,n2,-,-⟩:=qgR (v:=v) (u:=u) (x:=a) t1' hu0 u1 (by omega) (by omega)
  obtain⟨m1,m2,-,-⟩:=qgR (v:=v) (u:=w) (x:=b) t1' w0 w1 (by omega) (by omega)
  obtain⟨Q2,eQ2⟩:∃Q2,Q2=(w*4294967296+b)/v:=⟨_,rfl⟩;rw[←eQ]at n1 n2;rw[←eQ2]at m1 m2 hr z1 z2;have k1:IntKind.u64.wrap (IntKind.u64.wrap (IntKind.u64.wrap (u*4294967296)+a)-IntKind.u64.wrap (Q*v))=w:=by
   simp only[wU];generalize Q*v=m at *
   omega
  have k2:IntKind.u64.wrap (IntKind.u64.wrap (Q*4294967296)+Q2)=Q*4294967296+Q2:=by simp only[wU];omega
  have rm0:0≤w*4294967296+b-Q2*v∧w*4294967296+b-Q2*v<v:=by
   rw[z2];exact⟨Int.emod_nonneg _ (by omega),Int.emod_lt_of_pos _ (by omega)⟩
  have k3:IntKind.u64.wrap (IntKind.u64.wrap (IntKind.u64.wrap (w*4294967296)+b)-IntKind.u64.wrap (Q2*v))=w*4294967296+b-Q2*v:=by
   simp only[wU];generalize Q2*v=m at *
   omega
  have k4:=b7 (w*4294967296+b-Q2*v)
  have ws:IntKind.u64.wrap (s:Int)=(s:Int):=wrU (by omega) (by omega)
  generalize w*4294967296+b-Q2*v=Z at *
  generalize Z/P=Z2 at *
  generalize Q*4294967296+Q2=Qt at *
  have lp0:=fun k he1 he2 fr H => @qC3 T.env k fr H r v (s:Int) u a b he1 he2 q1 r1 d1 d2
  have lp1:=fun k he1 he2 fr H => @qC4 T.env k fr H r v (s:Int) w b Q he1 he2 q2 r2 f1 f2
  rw[←eQ]at lp0;rw[←eQ2]at lp1;simp[-qbu,-qbC,F68,Fr.ofArgs,g1b,g2,qac hz,e73,↓qaZ,↓qbk,ws,↓qas b1,↓qas b2,↓qas b3,↓qas b4,↓qas b5,↓qas b6,↓qas b8,↓qas b9,↓qas b10,↓qas b11,↓qas d3,d4,d5];refine lp0 _ (fun rh => ?_) (fun rh => ?_) _ _ (by simp)
  ·simp[-qbu,k1,↓qas f3,f4,f5];refine lp1 _ (fun rh => ?_) (fun rh => ?_) _ _ (by simp)
   ·simp[k2,k3,↓qas k4];exact hr
   ·simp[k2,k3,↓qas k4];exact hr
  ·simp[-qbu,k1,↓qas f3,f4,f5];refine lp1 _ (fun rh => ?_) (fun rh => ?_) _ _ (by simp)
   ·simp[k2,k3,↓qas k4];exact hr
   ·simp[k2,k3,↓qas k4];exact hr
theorem quW{A B z:Int}{r:Option (PV×Bool)}(h:some (PV.d (Sz z).dv,false)=r)(h1:A=z/18446744073709551616)(h2:B=z%18446744073709551616):some (PV.d (.a [.i .u64 A,.i .u64 B]),false)=r:=by rw[sz0 h1 h2];exact h
theorem qKU(T:Tab)(hT:HT T)(z:Int)(h0 : -170141183460469231731687303715884105728≤z)(h1:z<170141183460469231731687303715884105728):T.val 55 [(Wd z).dv]=some (.d (Sz (aI z)).dv,false):=by
 obtain⟨a,ea,a1,a2⟩:=qfG z;obtain⟨b,eb,b1,b2⟩:=qfG (ngW z);obtain⟨r,hr⟩:∃r:Option (PV×Bool),some (.d (Sz (aI z)).dv,false)=r:=⟨_,rfl⟩;have e49:=qtq T hT z h0 h1
 rw[ea,eb]at e49;rw[qab T (hT 55 F55 rfl) rfl,ea,hr];by_cases h:z<0
 ·have g:a.Hi<0:=by omega
  simp[F55,Fr.ofArgs,g,e49,↓qaZ,↓qbk,↓qaA,↓qaC,↓qaB,putAt,mkA,qax,qay];refine quW hr ?_ ?_
  ·rw[wU,qeL h,b1];unfold ngW;split<;>omega
  ·rw[qeL h,b2];unfold ngW;split<;>omega
 ·have g:¬a.Hi<0:=by omega
  simp[F55,Fr.ofArgs,g,↓qaZ,↓qbk,↓qaA,↓qaC,↓qaB,putAt,mkA,qax,qay];refine quW hr ?_ ?_
  ·rw[wU,qgN h,a1];omega
  ·rw[qgN h,a2]
theorem qKV(T:Tab)(hT:HT T)(s n:Int)(h0:0≤s)(h1:s<340282366920938463463374607431768211456)(n0:0<n)(n1:n<18446744073709551616):T.val 56 [(Sz s).dv,.i .u64 n]=some (.t [.d (Sz (s/n)).dv,.d (.i .u64 (s%n))],false):=by
 obtain⟨a,ea,a1,a2⟩:=qf8 s;obtain⟨r,hr⟩:∃r:Option (PV×Bool),some (.t [.d (Sz (s/n)).dv,.d (.i .u64 (s%n))],false)=r:=⟨_,rfl⟩;obtain⟨d1,d2,d3⟩:=qAf (s:=s) (n:=n) h0 n0;rw[←a1,←a2]at d2 d3;rw[←a1]at d1;have e1:=qs0 a.h n (by omega) n0
 have e2:=qsV a.h n (by omega) (by omega) n0
 have r0:=Int.emod_nonneg a.h (b:=n) (by omega)
 have r1:=Int.emod_lt_of_pos a.h n0
 have e3:=qK2 T hT (a.h%n) a.l n r0 (by omega) (by omega) r1 n1
 rw[d2,d3]at e3;have e4:DV.a [.i .u64 (a.h/n),.i .u64 (s/n%18446744073709551616)]=(Sz (s/n)).dv:=sz0 d1 rfl
 generalize s/n%18446744073709551616=q at *
 generalize s%n=m at *
 generalize Sz (s/n)=z at *
 generalize a.h%n=y at *
 generalize a.h/n=x at *
 rw[qab T (hT 56 F56 rfl) rfl,ea,hr];simp[-qbu,-qbC,F56,Fr.ofArgs,↓qas e1,↓qas e2,e3,↓qaA,↓qaC,↓qaB,putAt,mkA,qax,qay,e4];exact hr
theorem qKW(T:Tab)(hT:HT T)(s:Int)(h0:0≤s)(h1:s+1<340282366920938463463374607431768211456):∃b,T.val 57 [(Sz s).dv,.i .u64 1,.i .u64 1]=some (.t [.d (Sz (s+1)).dv,.d (.b b)],false):=by
 obtain⟨a,ea,a1,a2⟩:=qf8 s;have e1:=qtp T hT a.l 1 (by omega) (by omega) (by omega) (by omega)
 rw[Int.mul_one,show a.l/18446744073709551616=0 by omega,show a.l%18446744073709551616=a.l by omega]at e1
 have e2:=qtp T hT a.h 1 (by omega) (by omega) (by omega) (by omega)
 rw[Int.mul_one,show a.h/18446744073709551616=0 by omega,show a.h%18446744073709551616=a.h by omega]at e2
 have p1:=pr0 (x:=a.l) (y:=1) (c:=0) (by omega) (by omega) (by omega) (by omega)
 obtain⟨c,hc⟩:∃c,(a.l+1+0)/18446744073709551616=c:=⟨_,rfl⟩;obtain⟨m,hm⟩:∃m,(a.l+1+0)%18446744073709551616=m:=⟨_,rfl⟩;rw[hc,hm]at p1;have wc:IntKind.u64.wrap c=c:=wrU (by omega) (by omega)
 have p2:=pr0 (x:=a.h) (y:=c) (c:=0) (by omega) (by omega) (by omega) (by omega)
 obtain⟨c2,hc2⟩:∃c2,(a.h+c+0)/18446744073709551616=c2:=⟨_,rfl⟩;obtain⟨m2,hm2⟩:∃m2,(a.h+c+0)%18446744073709551616=m2:=⟨_,rfl⟩;rw[hc2,hm2]at p2;have e4:DV.a [.i .u64 m2,.i .u64 m]=(Sz (s+1)).dv:=sz0 (by omega) (by omega)
 have hc3:c2=0:=by omega
 subst hc3;refine⟨true,?_⟩;obtain⟨r,hr⟩:∃r:Option (PV×Bool),some (.t [.d (Sz (s+1)).dv,.d (.b true)],false)=r:=⟨_,rfl⟩;rw[qab T (hT 57 F57 rfl) rfl,ea,hr];generalize Sz (s+1)=z at *
 simp[F57,Fr.ofArgs,e1,e2,↓ql9,p1,p2,wc,↓qaA,↓qaC,↓qaB,putAt,mkA,qax,qay,e4];exact hr
theorem qts(T:Tab)(hT:HT T)(s:Int)(m:Bool)(h0:0≤s)(h1:if m=true then s≤170141183460469231731687303715884105728 else s<170141183460469231731687303715884105728):T.val 58 [(Sz s).dv,.b m]=some (.t [.d (Wd (if m=true then -s else s)).dv,.d (I 0)],false):=by
 obtain⟨a,ea,a1,a2⟩:=qf8 s;cases m with
 |false =>
  simp only[zzg,if_false]at h1⊢;have g1:¬9223372036854775808<a.h:=by omega
  have g2:¬a.h=9223372036854775808:=by omega
  have g3:(a.h==9223372036854775808)=false:=by simpa using g2
  have w:IntKind.i64.wrap a.h=a.h:=wrI (by omega) (by omega)
  have e4:DV.a [I a.h,.i .u64 a.l]=(Wd s).dv:=wd0 a1 a2
  obtain⟨r,hr⟩:∃r:Option (PV×Bool),some (.t [.d (Wd s).dv,.d (I 0)],false)=r:=⟨_,rfl⟩;rw[qab T (hT 58 F58 rfl) rfl,ea,hr];generalize Wd s=z at *
  simp[F58,Fr.ofArgs,g1,g3,↓qaZ,↓qbk,w,↓qaA,↓qaC,↓qaB,putAt,mkA,qax,qay,e4];exact hr
 |true =>
  simp only[if_true]at h1⊢;have g1:¬9223372036854775808<a.h:=by omega
  obtain⟨z,hz⟩:∃z,z=if s=170141183460469231731687303715884105728 then -170141183460469231731687303715884105728 else s:=⟨_,rfl⟩
  have z0 : -170141183460469231731687303715884105728≤z∧z<170141183460469231731687303715884105728:=by rw[hz];split<;>omega
  have zn:ngW z = -s:=by
   unfold ngW;rw[hz];by_cases c:s=170141183460469231731687303715884105728
   ·rw[if_pos c,if_pos rfl];omega
   ·rw[if_neg c,if_neg (by omega)]
  have e49:=qtq T hT z z0.1 z0.2
  rw[zn]at e49;obtain⟨w,hw⟩:∃w,IntKind.i64.wrap a.h=w:=⟨_,rfl⟩;have hw2:=hw
  rw[wI]at hw2;have e4:DV.a [I w,.i .u64 a.l]=(Wd z).dv:=by
   by_cases c:s=170141183460469231731687303715884105728
   ·rw[if_pos c]at hz;exact wd0 (by omega) (by omega)
   ·rw[if_neg c]at hz;exact wd0 (by omega) (by omega)
  obtain⟨r,hr⟩:∃r:Option (PV×Bool),some (.t [.d (Wd (-s)).dv,.d (I 0)],false)=r:=⟨_,rfl⟩;rw[qab T (hT 58 F58 rfl) rfl,ea,hr];by_cases c:a.h=9223372036854775808
  ·have g2:(a.h==9223372036854775808)=true:=by simpa using c
   have g3:a.l=0:=by omega
   have g4:¬0<a.l:=by omega
   generalize Wd (-s)=z1 at *
   generalize Wd z=z2 at *
   simp[F58,Fr.ofArgs,g1,g2,g4,↓qaZ,↓qbk,hw,↓qaA,↓qaC,↓qaB,putAt,mkA,qax,qay,e4,e49];exact hr
  ·have g2:(a.h==9223372036854775808)=false:=by simpa using c
   generalize Wd (-s)=z1 at *
   generalize Wd z=z2 at *
   simp[F58,Fr.ofArgs,g1,g2,↓qaZ,↓qbk,hw,↓qaA,↓qaC,↓qaB,putAt,mkA,qax,qay,e4,e49];exact hr
theorem quQ(b:ASz)(h:¬(b.h=0∧b.l=0)):eqA [1,1] (.d b.dv) (.d (.a [.i .u64 0,.i .u64 0]))=some false:=by
 have:eqA [1,1] (.d b.dv) (.d (.a [.i .u64 0,.i .u64 0]))=some (b.h==0&&(b.l==0&&true)):=by simp[eqA,eqL,eqK,ASz.dv]
 rw[this];simp only[Bool.and_true];congr 1
 simpa using h
theorem qKF(T:Tab)(hT:HT T)(z n:Int)(h0 : -170141183460469231731687303715884105728≤z)(h1:z<170141183460469231731687303715884105728)(n0:0<n)(n1:n<9223372036854775808):T.val 43 [(Wd z).dv,I n]=some (.t [.d (Wd (z/n)).dv,.d (I (z%n)),.d (I 0)],false):=by
 obtain⟨a,ea,a1,a2⟩:=qfG z;have s0:0≤aI z∧aI z≤170141183460469231731687303715884105728:=by unfold aI;split<;>omega
 have e55:=qKU T hT z h0 h1
 have e56:=qKV T hT (aI z) n s0.1 (by omega) n0 (by omega)
 rw[ea]at e55;have wn:IntKind.u64.wrap n=n:=wrU (by omega) (by omega)
 have gn:¬n<1:=by omega
 have q0:0≤aI z/n:=Int.ediv_nonneg s0.1 (by omega)
 have q1:aI z/n≤aI z:=Int.ediv_le_self n s0.1
 have m0:=Int.emod_nonneg (aI z) (b:=n) (by omega)
 have m1:=Int.emod_lt_of_pos (aI z) n0
 obtain⟨r,hr⟩:∃r:Option (PV×Bool),some (.t [.d (Wd (z/n)).dv,.d (I (z%n)),.d (I 0)],false)=r:=⟨_,rfl⟩;rw[qab T (hT 43 F43 rfl) rfl,ea,hr];by_cases hz:z<0
 ·have g:a.Hi<0:=by omega
  by_cases hm:aI z%n=0
  ·have hp:0<aI z/n:=by
    have:=qeL hz
    have e:=Int.mul_ediv_add_emod (aI z) n
    by_cases c:aI z/n=0
    ·rw[c]at e;omega
    ·omega
   obtain⟨d1,d2⟩:=qsA n0 hm;rw[qeL hz,Int.neg_neg]at d1 d2;rw[d1,d2]at hr;rw[←qeL hz]at hr;have e58:=qts T hT (aI z/n) true q0 (by rw[if_pos rfl];omega)
   rw[if_pos rfl]at e58;obtain⟨b,eb,b1,b2⟩:=qf8 (aI z/n);rw[eb]at e58 e56;have ez:=quQ b (by omega)
   rw[hm]at e56;generalize Sz (aI z)=s1 at *
   generalize Wd (-(aI z/n))=s2 at *
   have w0:IntKind.i64.wrap 0=0:=rfl
   simp[F43,Fr.ofArgs,e55,e56,gn,g,wn,↓qaZ,↓qbk,↓qaA,↓qaC,mkA,ez,e58,w0];exact hr
  ·obtain⟨d1,d2⟩:=qsB n0 hm;rw[qeL hz,Int.neg_neg]at d1 d2;rw[←qeL hz]at d1 d2;rw[d1,d2]at hr;obtain⟨bb,e57⟩:=qKW T hT (aI z/n) q0 (by omega)
   have e58:=qts T hT (aI z/n+1) true (by omega) (by
    rw[if_pos rfl];by_cases c:n=1
    ·subst c;exact absurd (Int.emod_one _) hm
    ·have:aI z/n≤aI z/2:=qn8 s0.1 (by omega)
     omega)
   rw[if_pos rfl]at e58;obtain⟨b,eb,b1,b2⟩:=qf8 (aI z/n+1);rw[eb]at e58 e57;have ez:=quQ b (by omega)
   have gm:0<aI z%n:=by omega
   have w1:IntKind.u64.wrap (n-aI z%n)=n-aI z%n:=wrU (by omega) (by omega)
   have w2:IntKind.i64.wrap (n-aI z%n)=n-aI z%n:=wrI (by omega) (by omega)
   generalize Sz (aI z)=s1 at *
   generalize Sz (aI z/n)=s3 at *
   generalize Wd (-(aI z/n+1))=s2 at *
   generalize aI z%n=m at *
   simp[F43,Fr.ofArgs,e55,e56,e57,gn,g,gm,wn,w1,w2,↓qaZ,↓qbk,↓qaA,↓qaC,mkA,ez,e58];exact hr
 ·have g:¬a.Hi<0:=by omega
  rw[qgN hz]at *
  have e58:=qts T hT (z/n) false q0 (by simp only[zzg,if_false];omega)
  simp only[zzg,if_false]at e58;have w2:IntKind.i64.wrap (z%n)=z%n:=wrI (by omega) (by omega)
  generalize Sz z=s1 at *
  generalize Sz (z/n)=s3 at *
  generalize Wd (z/n)=s2 at *
  generalize z%n=m at *
  simp[F43,Fr.ofArgs,e55,e56,gn,g,wn,w2,↓qaZ,↓qbk,e58];exact hr
def qcs(q ρ n:Int):Int:=if n-ρ<ρ then 1 else if ρ<n-ρ then 0 else q%2
theorem qKO(T:Tab)(hT:HT T)(z ρ n:Int)(r0:0≤ρ)(r1:ρ<n)(n1:n<9223372036854775808):T.val 45 [(Wd z).dv,I ρ,I n,I 6]=some (.d (I (qcs z ρ n)),false):=by
 obtain⟨a,ea,a1,a2⟩:=qfG z;obtain⟨r,hr⟩:∃r:Option (PV×Bool),some (.d (I (qcs z ρ n)),false)=r:=⟨_,rfl⟩;rw[qab T (hT 45 F45 rfl) rfl,ea,hr];have w:IntKind.i64.wrap (n-ρ)=n-ρ:=wrI (by omega) (by omega)
 by_cases c1:n-ρ<ρ
 ·rw[qcs,if_pos c1]at hr;simp[F45,Fr.ofArgs,w,c1];exact hr
 ·by_cases c2:ρ<n-ρ
  ·rw[qcs,if_neg c1,if_pos c2]at hr;simp[F45,Fr.ofArgs,w,c1,c2];exact hr
  ·rw[qcs,if_neg c1,if_neg c2]at hr;have e1:=qza a.Lo (by omega) (by omega)
   have w2:IntKind.i64.wrap (a.Lo%2)=a.Lo%2:=wrI (by omega) (by omega)
   rw[show z%2=a.Lo%2 by omega]at hr
   generalize a.Lo%2=y at *
   simp[F45,Fr.ofArgs,w,c1,c2,↓qas e1,↓qaZ,↓qbk,w2];exact hr
theorem qKp(T:Tab)(hT:HT T):T.val 35 [I 6]=some (.d (.b true),false):=by
 rw[qab T (hT 35 F35 rfl) rfl];simp[F35,Fr.ofArgs]
def qbF(z n:Int):Int:=z/n+qcs (z/n) (z%n) n
def qfD(x:Int):PV×Bool:=if -9223372036854775808≤x∧x<9223372036854775808 then (.t [.d (I x),.d (I 0)],false)else (.t [.d (I 0),.d (I 6)],false)
theorem qtm(T:Tab)(hT:HT T)(z n:Int)(h0 : -170141183460469231731687303715884105728≤z)(h1:z<170141183460469231731687303715884105728)(n0:0<n)(n1:n<9223372036854775808):T.val 36 [(Wd z).dv,I n,I 6]=some (qfD (qbF z n)):=by
 have e43:=qKF T hT z n h0 h1 n0 n1
 have m0:=Int.emod_nonneg z (b:=n) (by omega)
 have m1:=Int.emod_lt_of_pos z n0
 have e45:=qKO T hT (z/n) (z%n) n m0 m1 n1
 have e35:=qKp T hT
 have hh:0≤qcs (z/n) (z%n) n∧qcs (z/n) (z%n) n≤1:=by unfold qcs;split<;>(try split)<;>omega
 have e44:=qiQ T hT (qcs (z/n) (z%n) n) (by omega) (by omega)
 have gn:¬n<1:=by omega
 have em:=Int.mul_ediv_add_emod z n
 have b1 : -170141183460469231731687303715884105728≤z/n:=Int.le_ediv_of_mul_le n0 (by omega)
 have b2:z/n<170141183460469231731687303715884105728:=Int.ediv_lt_of_lt_mul n0 (by omega)
 have b3:0<z%n→z/n+1<170141183460469231731687303715884105728:=by
  intro hp;by_cases c:n=1
  ·subst c;simp at hp
  ·by_cases hz:0≤z
   ·have:z/n≤z/2:=qn8 hz (by omega)
    omega
   ·have:z/n<0:=Int.ediv_neg_of_neg_of_pos (by omega) n0
    omega
 obtain⟨r,hr⟩:∃r,some (qfD (qbF z n))=r:=⟨_,rfl⟩;rw[qab T (hT 36 F36 rfl) rfl,hr];by_cases hm:0<z%n
 ·have e31:=qyt T hT (z/n) (qcs (z/n) (z%n) n) b1 b2 (by omega) (by omega)
  rw[qf7,if_pos ⟨by omega,by have:=b3 hm;omega⟩]at e31
  have e46:=qto T hT (z/n+qcs (z/n) (z%n) n) (by omega) (by have:=b3 hm;omega)
  obtain⟨a,ea⟩:∃a,Wd z=a:=⟨_,rfl⟩;obtain⟨b,eb⟩:∃a,Wd (z/n)=a:=⟨_,rfl⟩;obtain⟨c,ec⟩:∃a,Wd (z/n+qcs (z/n) (z%n) n)=a:=⟨_,rfl⟩;obtain⟨d,ed⟩:∃a,Wd (qcs (z/n) (z%n) n)=a:=⟨_,rfl⟩;rw[ea]at e43⊢;rw[eb]at e43 e45 e31;rw[ec]at e31 e46;rw[ed]at e44 e31;rw[qfD,qbF]at hr;generalize z/n+qcs (z/n) (z%n) n=v at *
  rw[qfA]at e46;by_cases hv : -9223372036854775808≤v∧v<9223372036854775808
  ·rw[if_pos hv]at hr e46;generalize qcs (z/n) (z%n) n=k at *
   generalize z%n=m at *
   simp[F36,Fr.ofArgs,gn,e35,e43,hm,e45,e44,e31,e46];exact hr
  ·rw[if_neg hv]at hr e46;generalize qcs (z/n) (z%n) n=k at *
   generalize z%n=m at *
   simp[F36,Fr.ofArgs,gn,e35,e43,hm,e45,e44,e31,e46];exact hr
 ·have hm0:z%n=0:=by omega
  have hh0:qcs (z/n) (z%n) n=0:=by rw[hm0,qcs,if_neg (by omega),if_pos (by omega)]
  have e46:=qto T hT (z/n) b1 b2
  rw[qfD,qbF,hh0,Int.add_zero]at hr;rw[hm0]at e43;obtain⟨a,ea⟩:∃a,Wd z=a:=⟨_,rfl⟩;obtain⟨b,eb⟩:∃a,Wd (z/n)=a:=⟨_,rfl⟩;rw[ea]at e43⊢;rw[eb]at e43 e46;rw[qfA]at e46;by_cases hv : -9223372036854775808≤z/n∧z/n<9223372036854775808
  ·rw[if_pos hv]at hr e46;generalize z/n=v at *
   simp[F36,Fr.ofArgs,gn,e35,e43,e46];exact hr
  ·rw[if_neg hv]at hr e46;generalize z/n=v at *
   simp[F36,Fr.ofArgs,gn,e35,e43,e46];exact hr
def qbE(x:Int):Int×Int:=if -9223372036854775808≤x∧x<9223372036854775808 then (x,0)else (0,6)
def two(p:Int×Int):PV×Bool:=(.t [.d (I p.1),.d (I p.2)],false)
theorem qsz(x:Int):qfD x=two (qbE x):=by unfold qfD qbE;split<;>rfl
theorem qo6(T:Tab)(hT:HT T)(z:Int)(h0 : -170141183460469231731687303715884105728≤z)(h1:z<170141183460469231731687303715884105728):T.val 997 [(Wd z).dv,I 0]=some (two (qbE z)):=by
 have e:=qto T hT z h0 h1
 rw[qfA]at e;obtain⟨a,ea⟩:∃a,Wd z=a:=⟨_,rfl⟩;rw[ea]at e⊢;rw[qab T (hT 997 qka rfl) rfl];by_cases h : -9223372036854775808≤z∧z<9223372036854775808
 ·rw[if_pos h]at e;rw[qbE,if_pos h];simp[qka,Fr.ofArgs,e,two]
 ·rw[if_neg h]at e;rw[qbE,if_neg h];simp[qka,Fr.ofArgs,e,two]
theorem qLT(T:Tab)(hT:HT T)(b:Bool):T.val 996 [.b b]=some (.d (I (if b=true then 1 else 0)),false):=by
 rw[qab T (hT 996 qj9 rfl) rfl];cases b with
 |true=>simp[qj9,Fr.ofArgs]
 |false=>simp[qj9,Fr.ofArgs]
def okV(v:AValue):Bool :=
 if v.Typ=1 then true
 else if v.Typ=2 then decide (-1000000000000≤v.N)&&decide (v.N≤1000000000000)
 else if v.Typ=3 then decide (-1000000000≤v.N)&&decide (v.N≤1000000000)
 else if v.Typ=4 then decide (0≤v.N)&&decide (v.N≤73048)
 else if v.Typ=5 then decide (v.N=0)||decide (v.N=1)
 else false
theorem qtv(T:Tab)(hT:HT T)(v:AValue):T.val 966 [v.dv]=some (.d (.b (okV v)),false):=by
 rw[qab T (hT 966 qfI rfl) rfl];unfold okV;by_cases h1:v.Typ=1
 ·simp[qfI,Fr.ofArgs,h1]
 ·have g1:=qac h1
  by_cases h2:v.Typ=2
  ·by_cases c : -1000000000000≤v.N
   ·simp[qfI,Fr.ofArgs,h2,c]
   ·simp[qfI,Fr.ofArgs,h2,c]
  ·have g2:=qac h2
   by_cases h3:v.Typ=3
   ·by_cases c : -1000000000≤v.N
    ·simp[qfI,Fr.ofArgs,h3,c]
    ·simp[qfI,Fr.ofArgs,h3,c]
   ·have g3:=qac h3
    by_cases h4:v.Typ=4
    ·by_cases c:0≤v.N
     ·simp[qfI,Fr.ofArgs,h4,c]
     ·simp[qfI,Fr.ofArgs,h4,c]
    ·have g4:=qac h4
     by_cases h5:v.Typ=5
     ·by_cases c:v.N=0
      ·simp[qfI,Fr.ofArgs,h5,c]
      ·have g:=qac c
       by_cases d:v.N=1
       ·simp[qfI,Fr.ofArgs,h5,d]
       ·have g':=qac d
        simp[qfI,Fr.ofArgs,h5,c,g,d,g']
     ·have g5:=qac h5
      simp[qfI,Fr.ofArgs,h1,h2,h3,h4,h5,g1,g2,g3,g4,g5]
def AValue.i(v:AValue):Prop:=-9223372036854775808≤v.N∧v.N<9223372036854775808
theorem qwF{x y:Int}(x0 : -9223372036854775808≤x)(x1:x<9223372036854775808)(y0 : -9223372036854775808≤y)(y1:y<9223372036854775808) : -170141183460469231731687303715884105728≤x*y∧x*y<170141183460469231731687303715884105728:=by
 have ha:0≤aI x∧aI x≤9223372036854775808:=by unfold aI;split<;>omega
 have hb:0≤aI y∧aI y≤9223372036854775808:=by unfold aI;split<;>omega
 have p0:0≤aI x*aI y:=Int.mul_nonneg ha.1 hb.1
 have p1:aI x*aI y≤9223372036854775808*9223372036854775808:=qmH ha.2 hb.2 hb.1 (by omega)
 rw[qox x y];generalize aI x*aI y=P at *
 split<;>omega
def qiI(a b:AValue):Int×Int:=if a.Typ=b.Typ∨a.Typ=1∨b.Typ=1 then qbE (a.N*b.N)else qbE (qbF (a.N*b.N) 1000000)
theorem qLU(T:Tab)(hT:HT T)(a b:AValue)(ha:a.i)(hb:b.i):T.val 998 [a.dv,b.dv]=some (two (qiI a b)):=by
 have e37:=qKq T hT a.N b.N ha.1 ha.2 hb.1 hb.2
 obtain⟨m0,m1⟩:=qwF ha.1 ha.2 hb.1 hb.2;unfold qiI;generalize a.N*b.N=P at *
 have e36:=qtm T hT P 1000000 m0 m1 (by omega) (by omega)
 have e997:=qo6 T hT P m0 m1
 rw[qsz]at e36;generalize Wd P=w at *
 generalize qbE (qbF P 1000000)=p at *
 generalize qbE P=p2 at *
 unfold two at *
 rw[qab T (hT 998 qif rfl) rfl];by_cases h1:a.Typ=b.Typ
 ·rw[if_pos (.inl h1)];simp[qif,Fr.ofArgs,bne,e37,e997,h1]
 ·have g1:=qac h1
  by_cases h2:a.Typ=1
  ·rw[if_pos (.inr (.inl h2))];rw[h2]at h1 g1;simp[qif,Fr.ofArgs,bne,e37,e997,h2,g1]
  ·have g2:=qac h2
   by_cases h3:b.Typ=1
   ·rw[if_pos (.inr (.inr h3))];simp[qif,Fr.ofArgs,bne,e37,e997,h3,g2]
   ·have g3:=qac h3
    rw[if_neg (fun h=>by rcases h with h|h|h<;>first|exact h1 h|exact h2 h|exact h3 h)]
    simp[qif,Fr.ofArgs,bne,e37,e36,g1,g2,g3]
def qht(a b:AValue):Int×Int :=
 if a.Typ=b.Typ then (if a.N = -9223372036854775808∧b.N = -1 then (0,6)else (IntKind.i64.wrap (a.N.tdiv b.N),0))
 else if b.N = -9223372036854775808 then (0,0)
 else if b.N<0 then qbE (qbF (IntKind.i64.wrap (-a.N)) (-b.N))else qbE (qbF a.N b.N)
theorem qLV(T:Tab)(hT:HT T)(a b:AValue)(ha:a.i)(hb:b.i)(h0:b.N≠0):T.val 999 [a.dv,b.dv]=some (two (qht a b)):=by
 unfold AValue.i at ha hb;unfold qht;rw[qab T (hT 999 qg3 rfl) rfl];by_cases h1:a.Typ=b.Typ
 ·rw[if_pos h1];by_cases h2:a.N = -9223372036854775808
  ·by_cases h3:b.N = -1
   ·rw[if_pos ⟨h2,h3⟩];simp[qg3,Fr.ofArgs,h1,h2,h3,two]
   ·have g3:=qac h3
    rw[if_neg (fun h=>h3 h.2)]
    simp[qg3,Fr.ofArgs,h1,h2,g3,h0,two]
  ·have g2:=qac h2
   rw[if_neg (fun h=>h2 h.1)]
   simp[qg3,Fr.ofArgs,h1,g2,h0,two]
 ·have g1:=qac h1
  rw[if_neg h1];by_cases h2:b.N = -9223372036854775808
  ·rw[if_pos h2];simp[qg3,Fr.ofArgs,g1,h2,two]
  ·have g2:=qac h2
   rw[if_neg h2];by_cases h3:b.N<0
   ·rw[if_pos h3];obtain⟨m,hm⟩:∃m,IntKind.i64.wrap (-a.N)=m:=⟨_,rfl⟩;have hm2:=hm
    rw[wI]at hm2;have wb:IntKind.i64.wrap (-b.N) = -b.N:=wrI (by omega) (by omega)
    have e44:=qiQ T hT m (by omega) (by omega)
    have e36:=qtm T hT m (-b.N) (by omega) (by omega) (by omega) (by omega)
    rw[qsz]at e36;rw[hm];generalize Wd m=w at *
    generalize qbE (qbF m (-b.N))=p at *
    unfold two at *
    simp[qg3,Fr.ofArgs,g1,g2,h3,hm,wb,e44,e36]
   ·rw[if_neg h3];have e44:=qiQ T hT a.N ha.1 ha.2
    have e36:=qtm T hT a.N b.N (by omega) (by omega) (by omega) (by omega)
    rw[qsz]at e36;generalize Wd a.N=w at *
    generalize qbE (qbF a.N b.N)=p at *
    unfold two at *
    simp[qg3,Fr.ofArgs,g1,g2,h3,e44,e36]
def qgP(op:Int)(a b:AValue):Int×Int :=
 if op=5 then qbE (a.N+b.N)else if op=6 then qbE (a.N-b.N)else if op=7 then qiI a b else if b.N=0 then (0,7)else qht a b
theorem qJd{x y:Int}(x0 : -9223372036854775808≤x)(x1:x<9223372036854775808)(y0 : -9223372036854775808≤y)(y1:y<9223372036854775808):qf7 (x+y)=(.t [.d (Wd (x+y)).dv,.d (I 0)],false)∧qf7 (x-y)=(.t [.d (Wd (x-y)).dv,.d (I 0)],false):=by
 constructor<;>rw[qf7,if_pos (by omega)]
theorem qLQ(T:Tab)(hT:HT T)(op:Int)(a b:AValue)(t:Bool)(ha:a.i)(hb:b.i)(h9:op≠9):T.val 984 [I op,.l (K1 2) [a.dv,b.dv] t]=some (two (qgP op a b)):=by
 have g9:=qac h9
 unfold AValue.i at *
 obtain⟨s1,s2⟩:=qJd ha.1 ha.2 hb.1 hb.2;have e31:=qyt T hT a.N b.N (by omega) (by omega) (by omega) (by omega)
 have e42:=qyB T hT a.N b.N (by omega) (by omega) (by omega) (by omega)
 rw[s1]at e31;rw[s2]at e42;have ea:=qiQ T hT a.N ha.1 ha.2
 have eb:=qiQ T hT b.N hb.1 hb.2
 have e1:=qo6 T hT (a.N+b.N) (by omega) (by omega)
 have e2:=qo6 T hT (a.N-b.N) (by omega) (by omega)
 unfold qgP;rw[qab T (hT 984 qgM rfl) rfl];by_cases h5:op=5
 ·subst h5;rw[if_pos rfl];generalize Wd (a.N+b.N)=w at *
  generalize Wd a.N=wa at *
  generalize Wd b.N=wb at *
  generalize qbE (a.N+b.N)=p at *
  unfold two at *
  simp[qgM,Fr.ofArgs,ea,eb,e31,e1]
 ·have g5:=qac h5
  rw[if_neg h5];by_cases h6:op=6
  ·subst h6;rw[if_pos rfl];generalize Wd (a.N-b.N)=w at *
   generalize Wd a.N=wa at *
   generalize Wd b.N=wb at *
   generalize qbE (a.N-b.N)=p at *
   unfold two at *
   simp[qgM,Fr.ofArgs,ea,eb,e42,e2]
  ·have g6:=qac h6
   rw[if_neg h6];by_cases h7:op=7
   ·subst h7;rw[if_pos rfl];have e:=qLU T hT a b ha hb
    generalize qiI a b=p at *
    unfold two at *
    simp[qgM,Fr.ofArgs,e]
   ·have g7:=qac h7
    rw[if_neg h7];by_cases h0:b.N=0
    ·rw[if_pos h0];simp[qgM,Fr.ofArgs,g5,g6,g7,g9,h0,two]
    ·have g0:=qac h0
     rw[if_neg h0];have e:=qLV T hT a b ha hb h0
     generalize qht a b=p at *
     unfold two at *
     simp[qgM,Fr.ofArgs,g5,g6,g7,g9,g0,e]
theorem qLR(T:Tab)(hT:HT T)(a:AValue)(t:Bool)(ha:a.i):T.val 984 [I 9,.l (K1 2) [a.dv] t]=some (two (qbE (-a.N))):=by
 unfold AValue.i at *
 have s2:qf7 (0-a.N)=(.t [.d (Wd (0-a.N)).dv,.d (I 0)],false):=by rw[qf7,if_pos (by omega)]
 have e42:=qyB T hT 0 a.N (by omega) (by omega) (by omega) (by omega)
 rw[s2]at e42;have e0:=qiQ T hT 0 (by omega) (by omega)
 have ea:=qiQ T hT a.N ha.1 ha.2
 have e2:=qo6 T hT (0-a.N) (by omega) (by omega)
 rw[show qbE (-a.N)=qbE (0-a.N)by rw[Int.zero_sub]]
 generalize Wd (0-a.N)=w at *
 generalize Wd 0=w0 at *
 generalize Wd a.N=wa at *
 generalize qbE (0-a.N)=p at *
 unfold two at *
 rw[qab T (hT 984 qgM rfl) rfl];simp[qgM,Fr.ofArgs,e0,ea,e42,e2]
theorem qwt(a b:Int):max a b=if a<b then b else a:=by rw[Int.max_def];split<;>split<;>omega
theorem qDL{R:Type}{a b:Int}{d:PV→Option R}:bo (mm2 false (.d (I a)) (.d (I b))) (.h d)=d (.d (I (if b<a then b else a))):=by simp[mm2,bo]
def qeU(op a b:Int):Int :=
 if op=10 then (if a=b then 1 else 0)else if op=11 then (if a=b then 0 else 1)else if op=12 then (if a<b then 1 else 0)else if op=13 then (if a≤b then 1 else 0)
 else if op=14 then IntKind.i64.wrap (a*b)else if op=15 then (if a<b then b else a)else if op=17 then (if b<a then b else a)else (if a<b then b else a)
theorem qLN(T:Tab)(hT:HT T)(op:Int)(a b:AValue)(t:Bool)(h1:op≠16)(h2:op≠19):T.val 983 [I op,.l (K1 2) [a.dv,b.dv] t]=some (.d (I (qeU op a.N b.N)),false):=by
 have g1:=qac h1
 have g2:=qac h2
 unfold qeU;have e:=fun c=>qLT T hT c
 rw[qab T (hT 983 qcb rfl) rfl];by_cases c1:op=10
 ·subst c1;rw[if_pos rfl]
  by_cases h:a.N=b.N
  ·simp[qcb,Fr.ofArgs,e,h]
  ·have g:=qac h
   simp[qcb,Fr.ofArgs,e,h]
 have d1:=qac c1
 rw[if_neg c1];by_cases c2:op=11
 ·subst c2;rw[if_pos rfl]
  by_cases h:a.N=b.N
  ·simp[qcb,Fr.ofArgs,e,h]
  ·have g:=qac h
   simp[qcb,Fr.ofArgs,e,h]
 have d2:=qac c2
 rw[if_neg c2];by_cases c3:op=12
 ·subst c3;rw[if_pos rfl]
  by_cases h:a.N<b.N
  ·simp[qcb,Fr.ofArgs,e,h]
  ·simp[qcb,Fr.ofArgs,e,h]
 have d3:=qac c3
 rw[if_neg c3];by_cases c4:op=13
 ·subst c4;rw[if_pos rfl]
  by_cases h:a.N≤b.N
  ·simp[qcb,Fr.ofArgs,e,h]
  ·simp[qcb,Fr.ofArgs,e,h]
 have d4:=qac c4
 rw[if_neg c4];by_cases c5:op=14
 ·subst c5;rw[if_pos rfl]
  simp[qcb,Fr.ofArgs]
 have d5:=qac c5
 rw[if_neg c5];by_cases c6:op=15
 ·subst c6;rw[if_pos rfl]
  simp[qcb,Fr.ofArgs];exact qwt _ _
 have d6:=qac c6
 rw[if_neg c6];by_cases c7:op=17
 ·subst c7;rw[if_pos rfl]
  simp[qcb,Fr.ofArgs,↓qDL]
 have d7:=qac c7
 rw[if_neg c7];simp[qcb,Fr.ofArgs,g1,g2,d1,d2,d3,d4,d5,d6,d7];exact qwt _ _
theorem qLP(T:Tab)(hT:HT T)(a:AValue)(t:Bool):T.val 983 [I 16,.l (K1 2) [a.dv] t]=some (.d (I (IntKind.i64.wrap (1-a.N))),false):=by
 rw[qab T (hT 983 qcb rfl) rfl];simp[qcb,Fr.ofArgs]
theorem qLO(T:Tab)(hT:HT T)(a b c:AValue)(t:Bool):T.val 983 [I 19,.l (K1 2) [a.dv,b.dv,c.dv] t]=some (.d (I (if a.N=1 then b.N else c.N)),false):=by
 rw[qab T (hT 983 qcb rfl) rfl];by_cases h:a.N=1
 ·simp[qcb,Fr.ofArgs,h]
 ·have g:=qac h
  simp[qcb,Fr.ofArgs,h,g]
def qbl(t:Int):Bool:=decide (1≤t)&&decide (t≤5)
theorem qyA(T:Tab)(hT:HT T)(t:Int):T.val 416 [I t]=some (.d (.b (qbl t)),false):=by
 rw[qab T (hT 416 qjZ rfl) rfl];unfold qbl;by_cases h:1≤t
 ·simp[qjZ,Fr.ofArgs,h]
 ·simp[qjZ,Fr.ofArgs,h]
def qbM(op a:Int):Int×Bool:=if op=16 then (5,decide (a=5))else if op=9 then (a,decide (a=1)||(decide (a=2)||decide (a=3)))else (0,false)
def qaz(p:Int×Bool):PV×Bool:=(.t [.d (I p.1),.d (.b p.2)],false)
theorem qKy(T:Tab)(hT:HT T)(op a:Int):T.val 417 [I op,I a]=some (qaz (qbM op a)):=by
 rw[qab T (hT 417 qgJ rfl) rfl];unfold qbM;by_cases h:op=16
 ·by_cases c:a=5
  ·simp[qgJ,Fr.ofArgs,h,c,qaz]
  ·have g:=qac c
   simp[qgJ,Fr.ofArgs,h,c,g,qaz]
 ·have g:=qac h
  by_cases h2:op=9
  ·by_cases c1:a=1
   ·simp[qgJ,Fr.ofArgs,h2,c1,qaz]
   ·have g1:=qac c1
    by_cases c2:a=2
    ·simp[qgJ,Fr.ofArgs,h2,c2,qaz]
    ·have g2:=qac c2
     by_cases c3:a=3
     ·simp[qgJ,Fr.ofArgs,h2,c3,qaz]
     ·have g3:=qac c3
      simp[qgJ,Fr.ofArgs,h2,c1,g1,c2,g2,c3,g3,qaz]
  ·have g2:=qac h2
   simp[qgJ,Fr.ofArgs,h,g,h2,g2,qaz]
def arL:List ((Int×Int×Int)×Int):=[((5,4,1),4),((6,4,1),4),((6,4,4),1),((7,1,1),1),((7,2,3),2),((7,3,2),2),((8,1,1),1),((8,2,2),1),((7,1,2),2),((7,2,1),2),((8,2,1),2),((7,1,3),3),((7,3,1),3),((8,3,1),3),((5,1,1),1),((6,1,1),1),((5,2,2),2),((6,2,2),2),((5,3,3),3),((6,3,3),3)]
def arE(x:(Int×Int×Int)×Int):DV×DV:=(.a [I x.1.1,I x.1.2.1,I x.1.2.2],I x.2)
def arF:List ((Int×Int×Int)×Int)→Int→Int→Int→Option Int
 | [],_,_,_=>none
 |x::r,op,a,b=>if op=x.1.1∧a=x.1.2.1∧b=x.1.2.2 then some x.2 else arF r op a b
def arV(op a b:Int):Int:=(arF arL op a b).getD 0
theorem qvm(op a b:Int):∀l,qdD (.a [I op,I a,I b]) (l.map arE)=some ((arF l op a b).map fun n=>I n)
 | []=>rfl
 |x::r=>by
  have e:qbK (.a [I op,I a,I b]) (.a [I x.1.1,I x.1.2.1,I x.1.2.2])=some (decide (op=x.1.1∧a=x.1.2.1∧b=x.1.2.2)):=by
   simp only[qbK,qgh,qfO,if_true,Bool.and_true];congr 1
   by_cases h1:op=x.1.1<;>by_cases h2:a=x.1.2.1<;>by_cases h3:b=x.1.2.2<;>simp[h1,h2,h3]
  simp only[zzu,arE,qdD,e,arF];by_cases h:op=x.1.1∧a=x.1.2.1∧b=x.1.2.2
  ·simp only[h];simp
  ·simp only[h,decide_false,if_false];exact qvm op a b r
def HA(T:Tab):Prop:=T.ref 421 [] []=some (.h 0,[some (.mp (arL.map arE))])
section
variable {R : Type} {E : Env} {ρ : Rand → PV} {H : Heap} {id : Nat} {q : PV → Heap → Option R}
def qot(ky:Ky)(z:DV)(H:Heap)(x i:PV){q:PV→Option R}(_:Hd q):Option R:=match i,x with
 | .d k,.h o=>if qgi ky k then match H.obj o with
  |some (.mp es)=>match qdD k es with
   |some r=>q (.d (r.getD z))
   |none=>none
  | _=>none
  else none
 | _,_=>none
theorem qt4{ky:Ky}{z:DV}{x i:Rand}:bo2 (qaa E ρ H id (.mget ky z false x i)) (.h q)=qot ky z H (ρ x) (ρ i) (.h fun v=>q v H):=by
 simp only[qaa,qot];cases ρ i with
 |d k =>
  cases ρ x with
  |h o =>
   simp only;by_cases hk:qgi ky k=true
   ·simp only[hk,if_true];cases H.obj o with
    |none=>rfl
    |some b =>
     cases b with
     |mp es =>
      dsimp only
      cases qdD k es<;>rfl
     | _=>rfl
   ·simp only[hk,if_false,zzg];rfl
  | _=>rfl
 | _=>cases ρ x<;>rfl
theorem qDF{op a b:Int}{q:PV→Option R}:qot (.st [1,1,1]) (I 0) [some (.mp (arL.map arE))] (.h 0) (.d (.a [I op,I a,I b])) (.h q)=q (.d (I (arV op a b))):=by
 have e:=qvm op a b arL
 simp only[qot,qgi,qiD,qkF,Bool.and_true,if_true,Heap.obj,List.getElem?_cons_zero,e];unfold arV;cases arF arL op a b<;>rfl
end
def qa7(op a b:Int):Int×Bool :=
 if op=10∨op=11 then (5,decide (a=b))else if op=12∨op=13 then (5,decide (a=b) && !decide (a=5))
 else if op=14∨op=15 then (5,decide (a=b)&&decide (a=5))else if op=17∨op=18 then (a,decide (a=b) && !decide (a=5))
 else (arV op a b,!decide (arV op a b=0))
theorem qKz(T:Tab)(hT:HT T)(hA:HA T)(op a b:Int):T.val 418 [I op,I a,I b]=some (qaz (qa7 op a b)):=by
 have hA':T.ref 421 [] []=some (.h 0,[some (.mp (arL.map arE))]):=hA
 rw[qab T (hT 418 qeK rfl) rfl];unfold qa7;by_cases h1:op=10∨op=11
 ·rw[if_pos h1];by_cases c:a=b
  ·rcases h1 with h1|h1<;>subst h1<;>simp[qeK,Fr.ofArgs,c,qaz]
  ·have g:=qac c
   rcases h1 with h1|h1<;>subst h1<;>simp[qeK,Fr.ofArgs,c,g,qaz]
 rw[if_neg h1];by_cases h2:op=12∨op=13
 ·rw[if_pos h2];by_cases c:a=b
  ·by_cases d:a=5
   ·subst d;subst c
    rcases h2 with h1|h1<;>subst h1<;>simp[qeK,Fr.ofArgs,qaz]
   ·have g:=qac d
    subst c;rcases h2 with h1|h1<;>subst h1<;>simp[qeK,Fr.ofArgs,d,g,bne,qaz]
  ·have g:=qac c
   rcases h2 with h1|h1<;>subst h1<;>simp[qeK,Fr.ofArgs,c,g,qaz]
 rw[if_neg h2];by_cases h3:op=14∨op=15
 ·rw[if_pos h3];by_cases c:a=b
  ·by_cases d:a=5
   ·subst d;subst c
    rcases h3 with h1|h1<;>subst h1<;>simp[qeK,Fr.ofArgs,qaz]
   ·have g:=qac d
    subst c;rcases h3 with h1|h1<;>subst h1<;>simp[qeK,Fr.ofArgs,d,g,qaz]
  ·have g:=qac c
   rcases h3 with h1|h1<;>subst h1<;>simp[qeK,Fr.ofArgs,c,g,qaz]
 rw[if_neg h3];by_cases h4:op=17∨op=18
 ·rw[if_pos h4];by_cases c:a=b
  ·by_cases d:a=5
   ·subst d;subst c
    rcases h4 with h1|h1<;>subst h1<;>simp[qeK,Fr.ofArgs,qaz]
   ·have g:=qac d
    subst c;rcases h4 with h1|h1<;>subst h1<;>simp[qeK,Fr.ofArgs,d,g,bne,qaz]
  ·have g:=qac c
   rcases h4 with h1|h1<;>subst h1<;>simp[qeK,Fr.ofArgs,c,g,qaz]
 rw[if_neg h4];have n10:=qac (show ¬op=10 from fun h=>h1 (.inl h))
 have n11:=qac (show ¬op=11 from fun h=>h1 (.inr h))
 have n12:=qac (show ¬op=12 from fun h=>h2 (.inl h))
 have n13:=qac (show ¬op=13 from fun h=>h2 (.inr h))
 have n14:=qac (show ¬op=14 from fun h=>h3 (.inl h))
 have n15:=qac (show ¬op=15 from fun h=>h3 (.inr h))
 have n17:=qac (show ¬op=17 from fun h=>h4 (.inl h))
 have n18:=qac (show ¬op=18 from fun h=>h4 (.inr h))
 have mg:=fun d => @qDF (PV×Bool) op a b d
 generalize arL.map arE=es at *
 generalize arV op a b=v at *
 by_cases c:v=0
 ·subst c;simp[qeK,Fr.ofArgs,n10,n11,n12,n13,n14,n15,n17,n18,hA',↓qt4,↓mg,↓qaA,↓qaC,↓qaB,putAt,mkA,qax,qay,qaz]
 ·have g:=qac c
  simp[qeK,Fr.ofArgs,n10,n11,n12,n13,n14,n15,n17,n18,hA',↓qt4,↓mg,↓qaA,↓qaC,↓qaB,putAt,mkA,qax,qay,c,g,bne,qaz]
theorem qCc(T:Tab)(hT:HT T)(op:Int)(z:List Int)(t:Bool)(hn:z.length≤maxLen){k:KC (PV×Bool)}{r:Option (PV×Bool)}{fr:Fr}{H:Heap}(hr:∀fr H,fr.get 4 = .d (I 0)→fr.get 5 = .d (.b false)→qak fr=[]→k .ret fr H=r)
  (h0:gc [0,1,10,11,12] 0 ⟨fr,H⟩=⟨[(12,.d (I 0)),(11,.d (I z.length)),(10,.d (.l K0 (z.map fun n=>I n) t)),(1,.d (.l K0 (z.map fun n=>I n) t)),(0,.d (I op))],[]⟩) :
  kC T.env 0 fr H (.h (.loop [0,1,10,11,12] qnm,k))=if z.all qbl=true then k (.exit 0) ((13,.d (.b false))::[(12,.d (I z.length)),(11,.d (I z.length)),(10,.d (.l K0 (z.map fun n=>I n) t)),(1,.d (.l K0 (z.map fun n=>I n) t)),(0,.d (I op))]) []else r:=by
 rw[qa3 z (fun i _=>⟨[(12,.d (I i)),(11,.d (I z.length)),(10,.d (.l K0 (z.map fun n=>I n) t)),(1,.d (.l K0 (z.map fun n=>I n) t)),(0,.d (I op))],[]⟩) (fun _ _=>True) (fun i _ p c=>if qbl p=true then c ()else r) (fun _=>k (.exit 0) ((13,.d (.b false))::[(12,.d (I z.length)),(11,.d (I z.length)),(10,.d (.l K0 (z.map fun n=>I n) t)),(1,.d (.l K0 (z.map fun n=>I n) t)),(0,.d (I op))]) []) ?_ ?_ h0 trivial]
 ·rw[qmX qbl r];exact fun _ _ _ _=>rfl
 ·intro B _ _ _;simp
 ·intro B _ i _ hi _ c hc;have hm:=mxl
  have h1:(i:Int)<z.length:=by omega
  have h3:=wr1 (i:=i) (by omega)
  have e:=qyA T hT z[i]
  cases hk:qbl z[i]with
  |true =>
   rw[hk]at e;simp[h1,hi,e,h3];exact hc () _ _ trivial (by simp)
  |false =>
   rw[hk]at e;simp[h1,hi,e];exact hr _ _ (by simp[Fr.get]) (by simp[Fr.get]) (by simp[qak,gh])
def qaO(op:Int)(ts:List Int):Int×Bool :=
 if ts.all qbl=true then
  match ts with
  | [a]=>if (qbM op a).2=true then ((qbM op a).1,true)else (0,false)
  | [a,b]=>if (qa7 op a b).2=true then ((qa7 op a b).1,true)else (0,false)
  | [a,b,c]=>if op=19∧a=5∧b=c then (b,true)else (0,false)
  | _=>(0,false)
 else (0,false)
theorem qo1(T:Tab)(hT:HT T)(hA:HA T)(op:Int)(ts:List Int)(t:Bool)(hn:ts.length≤maxLen):T.val 411 [I op,.l K0 (ts.map fun n=>I n) t]=some (qaz (qaO op ts)):=by
 rw[qab T (hT 411 F411 rfl) rfl];have lp:=fun k fr H => @qCc T hT op ts t hn k (some (qaz (0,false))) fr H
 obtain⟨r,hr⟩:∃r,some (qaz (qaO op ts))=r:=⟨_,rfl⟩;rw[hr];unfold qaO at hr;simp[F411,Fr.ofArgs];rw[lp]
 ·by_cases ha:ts.all qbl=true
  ·rw[if_pos ha];rw[if_pos ha]at hr;rw[←hr];clear hr lp ha
   simp only[blK,sqK];have hm:=mxl
   match ts,hn with
   | [],_ =>
    show _=some (qaz (0,false))
    simp[qaz]
   | [a],_ =>
    show _=some (qaz (if (qbM op a).2=true then ((qbM op a).1,true)else (0,false)))
    have e:=qKy T hT op a
    unfold qaz at *
    generalize qbM op a=p at *
    obtain⟨p1,p2⟩:=p;cases p2 with
    |true=>simp[e]
    |false=>simp[e]
   | [a,b],_ =>
    show _=some (qaz (if (qa7 op a b).2=true then ((qa7 op a b).1,true)else (0,false)))
    have e:=qKz T hT hA op a b
    unfold qaz at *
    generalize qa7 op a b=p at *
    obtain⟨p1,p2⟩:=p;cases p2 with
    |true=>simp[e]
    |false=>simp[e]
   | [a,b,c],_ =>
    show _=some (qaz (if op=19∧a=5∧b=c then (b,true)else (0,false)))
    by_cases h1:op=19
    ·by_cases h2:a=5
     ·by_cases h3:b=c
      ·simp[h1,h2,h3,qaz]
      ·have g3:=qac h3
       simp[h1,h2,h3,g3,qaz]
     ·have g2:=qac h2
      simp[h1,h2,g2,qaz]
    ·have g1:=qac h1
     simp[h1,g1,qaz]
   |a::b::c::d::l,hn =>
    show _=some (qaz (0,false))
    have g1:((l.length:Int)+1+1+1+1==1)=false:=qac (by omega)
    have g2:((l.length:Int)+1+1+1+1==2)=false:=qac (by omega)
    have g3:((l.length:Int)+1+1+1+1==3)=false:=qac (by omega)
    have f1:¬((l.length:Int)+1+1+1+1=1):=by omega
    have f2:¬((l.length:Int)+1+1+1+1=2):=by omega
    have f3:¬((l.length:Int)+1+1+1+1=3):=by omega
    simp[g1,g2,g3,qaz]
  ·rw[if_neg ha];rw[if_neg ha]at hr;exact hr
 ·intro fr H h1 h2 h3;simp[h1,h2,h3,qaz]
 ·simp
end
end
section
attribute [local simp ↓] qdZ qdX qdP qdY qdM qdQ qdN qdO sqK blK lpK qd4 qd2 qd0 qd3 qd1 qdI qdK qeu qdo qdm qdn qdr qcS qcT qcD qcG qcR qcV qcF qcW qcL qcN qcO qcP qcU qcQ qcE qcH qcj qcI qcM qdk qdh qcY qcX qc6 qcZ qbu qbC qc0 qc1 qd6 qcu qd5 qes qcz qdc qdd qc7 qc9 qc8 qcl qdl qcn qc3 qdg qdb qda qc5 qc4 qdf qdi qc2 qde qdJ qck qcy qdz qcw qbR qdA qco qcp qdj qbV qer qcJ qdp qdq qd8 qet qd7 qdR qdS qdT qdU qdV qdW qcK qdy
attribute [local simp] qbO qd9 qea qdE qdF qds qdt qep qeq qdB qdC rd IOp.adds qaq gh nid rgK rdS qdG qdH qeb qec qeg qeh qek qef qej qei qcC qcA qcB qee qed qdx qdw qem qel qen qeo
def qhV{α:Type}(p:α→Bool)(l:List α):Int:=match l.findIdx? p with|some j=>(j:Int)|none=>-1
theorem qoO{α R:Type}(p:α→Bool)(r:Nat→Option R)(done:Unit→Option R)(step:Nat→Unit→α→(Unit→Option R)→Option R)(hs:∀i b x c,step i b x c=if p x=true then r i else c ()):∀(i:Nat) (ls:List α),qcx step done i () ls=match ls.findIdx? p with|some j=>r (i+j)|none=>done ()
 |i,[]=>by simp[qcx]
 |i,x::l=>by
  rw[qcx,hs,qoO p r done step hs (i+1) l,List.findIdx?_cons];cases h:p x with
  |true=>simp
  |false =>
   simp only[zzg,if_false];cases l.findIdx? p with
   |none=>simp
   |some j=>simp;congr 1;omega
section
variable {α : Type}
theorem qCe(T:Tab)(g:Nat)(q:K)(dv:α→DV)(p:α→Bool)(c:PV)(cs:List PV)(H0:Heap)(hH:Cl H0)(hc:∀r∈PV.refsL (c::cs),r<H0.length)(l:List α)(hv:∀x∈l,T.ref g (.d (dv x)::c::cs) H0=some (.d (.b (p x)),H0))(s:Bool)(hn:l.length≤maxLen){k:KC (PV×Heap)}{r:Nat→Option (PV×Heap)}{fr:Fr}{H:Heap}
  (hr:∀(j:Nat) fr J,fr.get 4 = .d (I j)→qak fr=[]→k .ret fr (H0++J)=r j)
  (h0:gc [0,1,7,8] H0.length ⟨fr,H⟩=⟨[(8,.d (I 0)),(7,.d (I l.length)),(1,.f g (c::cs)),(0,.d (.l q (l.map dv) s))],H0⟩) :
  kC T.env H0.length fr H (.h (.loop [0,1,7,8] (qjc q),k))=match l.findIdx? p with|some j=>r j|none=>k (.exit 0) [(9,.d (.b false)),(8,.d (I l.length)),(7,.d (I l.length)),(1,.f g (c::cs)),(0,.d (.l q (l.map dv) s))] H0:=by
 rw[qa3 l (fun i _=>⟨[(8,.d (I i)),(7,.d (I l.length)),(1,.f g (c::cs)),(0,.d (.l q (l.map dv) s))],H0⟩) (fun _ _=>True) (fun i _ x c=>if p x=true then r i else c ()) (fun _=>k (.exit 0) [(9,.d (.b false)),(8,.d (I l.length)),(7,.d (I l.length)),(1,.f g (c::cs)),(0,.d (.l q (l.map dv) s))] H0) ?_ ?_ h0 trivial]
 ·rw[qoO p r _ _ (fun _ _ _ _=>rfl)]
  simp only[Nat.zero_add]
 ·intro B _ _ _;simp[qjc]
 ·intro B _ i _ hi _ cc hcc;have hm:=mxl
  have h1:(i:Int)<l.length:=by omega
  have h3:=wr1 (i:=i) (by omega)
  have he:=hv l[i] (zzs hi)
  simp[qjc,h1,hi,he];repeat' (refine qat (fun h => ?_) (fun h => ?_)<;>(try simp at h)<;>(try simp[h,h3]))
  ·simpa using hr i _ [] (by simp[Fr.get]) (by simp[qak,gh])
  ·refine hcc () _ _ trivial ?_;rw[qmp _ hH (by simpa[qae,Fr.keep,PV.refs,PV.refsL,gh]using hc)]
   simp[Fr.keep,gh]
theorem qoL(T:Tab){n:Nat}{q:K}(hF:T.F n=some (qig q))(g:Nat)(dv:α→DV)(p:α→Bool)(c:PV)(cs:List PV)(H0:Heap)(hH:Cl H0)(hc:∀r∈PV.refsL (c::cs),r<H0.length)(l:List α)(hv:∀x∈l,T.ref g (.d (dv x)::c::cs) H0=some (.d (.b (p x)),H0))(s:Bool)(hn:l.length≤maxLen) :
  T.ref n [.d (.l q (l.map dv) s),.f g (c::cs)] H0=some (.d (I (qhV p l)),H0):=by
 rw[qeJ T hF rfl];have lp:=fun k r fr H => @qCe α T g q dv p c cs H0 hH hc l hv s hn k r fr H
 simp[qig,Fr.ofArgs];refine (lp _ (fun j=>some (.d (I j),H0)) _ _ ?_ ?_).trans ?_
 ·intro j fr J h1 h2;simp[h1,h2,qbQ,qhf hH]
 ·rw[qmp _ hH (by simpa[qae,Fr.keep,PV.refs,PV.refsL,gh]using hc)]
  simp[Fr.keep,gh]
 ·unfold qhV;cases l.findIdx? p with
  |some j=>rfl
  |none=>simp[qbQ,qmo hH]
end
end
noncomputable def tabU:PT :=
 (.bin 919 qid (.bin 634 qlA (.bin 24 F24 (.bin 18 F18 (.bin 16 F16 (.bin 12 F12 .nil .nil) .nil) (.bin 19 F19 .nil .nil)) (.bin 59 F59 (.bin 50 F50 (.bin 30 F30 .nil .nil) .nil) (.bin 603 qj6 .nil .nil))) (.bin 720 F720 (.bin 716 F716 (.bin 715 qlC (.bin 683 F683 .nil .nil) .nil) (.bin 719 qi6 .nil .nil)) (.bin 804 qlE (.bin 803 F803 .nil .nil) (.bin 918 F918 .nil .nil)))) (.bin 1029 F1029 (.bin 1025 F1025 (.bin 1022 qk4 (.bin 950 F950 (.bin 949 qlP .nil .nil) .nil) (.bin 1023 qiU .nil .nil)) (.bin 1027 F1027 (.bin 1026 qiV .nil .nil) (.bin 1028 F1028 .nil .nil))) (.bin 1090 F1090 (.bin 1043 qk6 (.bin 1034 F1034 (.bin 1032 F1032 .nil .nil) .nil) (.bin 1044 F1044 .nil .nil)) (.bin 1095 F1095 (.bin 1094 F1094 .nil .nil) (.bin 1096 F1096 .nil .nil)))))
section
attribute [local simp ↓] qdZ qdX qdP qdY qdM qdQ qdN qdO sqK blK lpK qd4 qd2 qd0 qd3 qd1 qdI qdK qeu qdo qdm qdn qdr qcS qcT qcD qcG qcR qcV qcF qcW qcL qcN qcO qcP qcU qcQ qcE qcH qcj qcI qcM qdk qdh qcY qcX qc6 qcZ qbu qbC qc0 qc1 qd6 qcu qd5 qes qcz qdc qdd qc7 qc9 qc8 qcl qdl qcn qc3 qdg qdb qda qc5 qc4 qdf qdi qc2 qde qdJ qck qcy qdz qcw qbR qdA qco qcp qdj qbV qer qcJ qdp qdq qd8 qet qd7 qdR qdS qdT qdU qdV qdW qcK qdy qew
attribute [local simp] qbO qd9 qea qdE qdF qds qdt qep qeq qdB qdC rd IOp.adds qaq gh nid rgK rdS qdG qdH qeb qec qeg qeh qek qef qej qei qcC qcA qcB qee qed qdx qdw qem qel qen qeo qeC qeB qeE qeD qeH qeA qeI
def AAccount.zero:AAccount:=⟨0,0,0,0,[],[],[]⟩
def AInterest.zero:AInterest:=⟨⟨[],true⟩,false,0,0,false⟩
def AProduct.zero:AProduct:=⟨[],[],[],0,0,0,0,AInterest.zero,AInterest.zero,⟨[],true⟩,⟨[],true⟩⟩
def qgC(id:Int)(a:AAccount):Bool:=a.Id==id
def qb6(b:ABooks)(id:Int):Option AAccount:=(b.Accounts.l.findIdx? (qgC id)).bind fun j=>b.Accounts.l[j]?
abbrev HU(T:Tab):Prop:=∀n F,tabU.get n=some F→T.F n=some F
theorem qIm(T:Tab)(hT:HU T)(a:AAccount)(b:ABooks)(id:Int):T.ref 19 [.d a.dv,.p 1 0 0] [some (.box (K1 22) (.d b.dv)),some (.box K0 (.d (I id)))]=some (.d (.b (qgC id a)),[some (.box (K1 22) (.d b.dv)),some (.box K0 (.d (I id)))]):=by
 rw[qeJ T (hT 19 F19 rfl) rfl];have hH:=qnb (K1 22) K0 b.dv (I id)
 simp[F19,Fr.ofArgs,qbQ,qgC];exact (qhf hH [some (.box (K1 7) (.d a.dv))] _)
theorem qKh(T:Tab)(hT:HU T)(b:ABooks)(id:Int)(hb:b.ok):T.val 16 [b.dv,I id]=some (.d (I (qhV (qgC id) b.Accounts.l)),false):=by
 rw[qab T (hT 16 F16 rfl) rfl];have e:=qoL T (hT 18 F18 rfl) 19 AAccount.dv (qgC id) (.p 1 0 0) [] [some (.box (K1 22) (.d b.dv)),some (.box K0 (.d (I id)))] (qnb _ _ _ _) (by simp[PV.refs,PV.refsL]) b.Accounts.l (fun a _=>qIm T hT a b id) b.Accounts.t (hb.2.2.2.2.2.1).1
 simp[F16,Fr.ofArgs,e]
theorem qm5(T:Tab)(hT:HU T)(b:ABooks)(id:Int)(hb:b.ok):T.val 12 [b.dv,I id]=some (.t [.d ((qb6 b id).getD .zero).dv,.d (.b (qb6 b id).isSome)],false):=by
 rw[qab T (hT 12 F12 rfl) rfl];have e:=qKh T hT b id hb
 unfold qhV at e;unfold qb6;cases hf:b.Accounts.l.findIdx? (qgC id)with
 |none =>
  rw[hf]at e;simp[F12,Fr.ofArgs,e];try rfl
 |some j =>
  rw[hf]at e;have hj:j<b.Accounts.l.length:=(List.findIdx?_eq_some_iff_findIdx_eq.1 hf).1
  simp[F12,Fr.ofArgs,e,hj];try rfl
def qag{α β:Type}(f:Nat→β→α→β):Nat→β→List α→β
  | _,b,[]=>b
  |i,b,x::r=>qag f (i+1) (f i b x) r
theorem qbG{α β R:Type}(f:Nat→β→α→β)(done:β→Option R)(step:Nat→β→α→(β→Option R)→Option R)(hs:∀i b x c,step i b x c=c (f i b x)):∀(i:Nat) (b:β) (ls:List α),qcx step done i b ls=done (qag f i b ls)
  |i,b,[]=>rfl
  |i,b,x::l=>by rw[qcx,hs,qag,qbG f done step hs (i+1)]
theorem qu5{α β:Type}(f:Nat→β→α→β)(P:Nat→β→Prop)(h:∀i b x,P i b→P (i+1) (f i b x)):∀(l:List α) (i:Nat) (b:β),P i b→P (i+l.length) (qag f i b l)
  | [],i,b,hb=>hb
  |x::l,i,b,hb=>by
    have:=qu5 f P h l (i+1) (f i b x) (h i b x hb)
    rw[zzn,show i+(l.length+1)=i+1+l.length by omega]
    exact this
def frm(l:List AProduct)(b:Int):Int:=match l[b.toNat]? with|some p=>p.From|none=>0
def cAt(l:List AProduct)(nm:List UInt8)(day b:Int)(p:AProduct):Bool:=(p.Name==nm)&&(decide (p.From≤day)&&(decide (b<0)||decide (frm l b<p.From)))
def fAt(l:List AProduct)(nm:List UInt8)(day:Int)(i:Nat)(b:Int)(p:AProduct):Int:=if cAt l nm day b p=true then (i:Int)else b
def bst(l:List AProduct)(nm:List UInt8)(day:Int):Int:=qag (fAt l nm day) 0 (-1) l
def inB(i:Nat)(b:Int):Prop:=b = -1∨∃j:Nat,b=(j:Int)∧j<i
theorem qra(l:List AProduct)(nm:List UInt8)(day:Int)(i:Nat)(b:Int)(p:AProduct)(h:inB i b):inB (i+1) (fAt l nm day i b p):=by
  unfold fAt;split
  · exact .inr ⟨i,rfl,by omega⟩
  · rcases h with h|⟨j,h1,h2⟩
    · exact .inl h
    · exact .inr ⟨j,h1,by omega⟩
theorem quf(l:List AProduct)(nm:List UInt8)(day:Int):inB l.length (bst l nm day):=by
  have:=qu5 (fAt l nm day) inB (qra l nm day) l 0 (-1) (.inl rfl)
  simpa[bst]using this
def atP(l:List AProduct)(nm:List UInt8)(day:Int):Option AProduct:=if bst l nm day<0 then none else l[(bst l nm day).toNat]?
theorem qCP(T:Tab)(l:List AProduct)(t:Bool)(nm:List UInt8)(day:Int)(hn:l.length≤maxLen){k:KC (PV×Bool)}{fr:Fr}{H:Heap}
    (h0:gc [0,1,2,6,8,11,12,13] 0 ⟨fr,H⟩=⟨[(13,.d (I 0)),(12,.d (I l.length)),(11,.d (.l (K1 19) (l.map AProduct.dv) t)),(8,.d (I (-1))),(6,.p 0 0 0),(2,.d (I day)),(1,.d (.s nm)),(0,.d (.l (K1 19) (l.map AProduct.dv) t))],[some (.box (K1 19) (.d AProduct.zero.dv))]⟩) :
    kC T.env 0 fr H (.h (.loop [0,1,2,6,8,11,12,13] qnk,k))=k (.exit 0) [(14,.d (.b false)),(13,.d (I l.length)),(12,.d (I l.length)),(11,.d (.l (K1 19) (l.map AProduct.dv) t)),(8,.d (I (bst l nm day))),(6,.p 0 0 0),(2,.d (I day)),(1,.d (.s nm)),(0,.d (.l (K1 19) (l.map AProduct.dv) t))] [some (.box (K1 19) (.d AProduct.zero.dv))]:=by
  rw[qa3 l (fun i b=>⟨[(13,.d (I i)),(12,.d (I l.length)),(11,.d (.l (K1 19) (l.map AProduct.dv) t)),(8,.d (I b)),(6,.p 0 0 0),(2,.d (I day)),(1,.d (.s nm)),(0,.d (.l (K1 19) (l.map AProduct.dv) t))],[some (.box (K1 19) (.d AProduct.zero.dv))]⟩) inB (fun i b x c=>c (fAt l nm day i b x)) (fun b=>k (.exit 0) [(14,.d (.b false)),(13,.d (I l.length)),(12,.d (I l.length)),(11,.d (.l (K1 19) (l.map AProduct.dv) t)),(8,.d (I b)),(6,.p 0 0 0),(2,.d (I day)),(1,.d (.s nm)),(0,.d (.l (K1 19) (l.map AProduct.dv) t))] [some (.box (K1 19) (.d AProduct.zero.dv))]) ?_ ?_ h0 (.inl rfl)]
  · rw[qbG (fAt l nm day) _ _ (fun _ _ _ _=>rfl)];rfl
  · intro B _ b _
    simp
  · intro B _ i b hi hv c hc
    have hm:=mxl
    have h1:(i:Int)<l.length:=by omega
    have h3:=wr1 (i:=i) (by omega)
    have hs:=qra l nm day i b l[i] hv
    rcases hv with rfl|⟨j,rfl,hj⟩
    · simp[h1,hi,↓qbJ,↓qbx,↓qbS,↓qbt,qby,↓qbw,↓qbv,↓qbz,↓qbD,qbe,writeS,touchS,qaD,qa4,chg,qbm,qbb,qaY,qbc,PV.refs,IOp.okD,Nat.testBit]
      repeat' (refine qat (fun h => ?_) (fun h => ?_)<;>(try simp at h)<;>(try simp[h,h3,↓qbT,↓qbx,↓qbS,↓qbt,qby,↓qbw,↓qce,↓qbv,↓qbz,↓qbD,↓qbX,qbe,writeS,touchS,qaD,qa4,chg,qbm,qbb,qaY,qbc,PV.refs,PV.refsL,IOp.okD,Nat.testBit]))
      all_goals first
        | (have e:fAt l nm day i (-1) l[i]=(i:Int):=by simp[fAt,cAt, *]
           rw[e]at hs⊢;exact hc _ _ _ hs (by simp[gc,Fr.keep,qaf,qae,qad,PV.refs,qaj,gcH,qai,Obj.refs,PV.ren,Obj.ren,Heap.obj,Fr.ren,gh,zzd]))
        | (have e:fAt l nm day i (-1) l[i] = -1:=by simp[fAt,cAt, *]
           rw[e]at hs⊢;exact hc _ _ _ hs (by simp[gc,Fr.keep,qaf,qae,qad,PV.refs,qaj,gcH,qai,Obj.refs,PV.ren,Obj.ren,Heap.obj,Fr.ren,gh,zzd]))
    · have hj1:j<l.length:=by omega
      have hj2:(j:Int)<l.length:=by omega
      have hg:l[j]? = some l[j]:=zze hj1
      simp[h1,hi,↓qbJ,↓qbx,↓qbS,↓qbt,qby,↓qbw,↓qbv,↓qbz,↓qbD,qbe,writeS,touchS,qaD,qa4,chg,qbm,qbb,qaY,qbc,PV.refs,IOp.okD,Nat.testBit];repeat' (refine qat (fun h => ?_) (fun h => ?_)<;>(try simp at h)<;>(try simp[h,h3,hj1,hj2,↓qbT,↓qbx,↓qbS,↓qbt,qby,↓qbw,↓qce,↓qbv,↓qbz,↓qbD,↓qbX,qbe,writeS,touchS,qaD,qa4,chg,qbm,qbb,qaY,qbc,PV.refs,PV.refsL,IOp.okD,Nat.testBit]))
      all_goals first
        | (have e:fAt l nm day i j l[i]=(i:Int):=by simp[fAt,cAt,frm, *]
           rw[e]at hs⊢;exact hc _ _ _ hs (by simp[gc,Fr.keep,qaf,qae,qad,PV.refs,qaj,gcH,qai,Obj.refs,PV.ren,Obj.ren,Heap.obj,Fr.ren,gh,zzd]))
        | (have e:fAt l nm day i j l[i]=j:=by
             simp[fAt,cAt,frm, *];try omega
           rw[e]at hs⊢;exact hc _ _ _ hs (by simp[gc,Fr.keep,qaf,qae,qad,PV.refs,qaj,gcH,qai,Obj.refs,PV.ren,Obj.ren,Heap.obj,Fr.ren,gh,zzd]))
theorem qKm(T:Tab)(hT:HU T)(l:List AProduct)(t:Bool)(nm:List UInt8)(day:Int)(hn:l.length≤maxLen):T.val 30 [.l (K1 19) (l.map AProduct.dv) t,.s nm,I day]=some (.t [.d ((atP l nm day).getD .zero).dv,.d (.b (atP l nm day).isSome)],false):=by
  rw[qab T (hT 30 F30 rfl) rfl];have lp:=fun k fr H => @qCP T l t nm day hn k fr H
  simp[F30,Fr.ofArgs];refine (lp _ _ _ (by simp[gc,Fr.keep,qaf,qae,qad,PV.refs,qaj,gcH,qai,Obj.refs,PV.ren,Obj.ren,Heap.obj,Fr.ren,gh,zzd];rfl)).trans ?_
  have hb:=quf l nm day
  unfold atP;generalize bst l nm day=b at hb⊢;rcases hb with rfl|⟨j,rfl,hj⟩
  · simp
    try rfl
  · have hj2:(j:Int)<l.length:=by omega
    have hg:l[j]? = some l[j]:=zze hj
    simp[hj,hj2];repeat' (refine qat (fun h => ?_) (fun h => ?_)<;>(try simp at h)<;>(try simp[h,hj,hj2]))
def qb1(b:ABooks)(id day:Int):Option AProduct:=match qb6 b id with|some a=>atP b.Products.l a.Product day|none=>none
theorem qyr(T:Tab)(hT:HU T)(b:ABooks)(id day:Int)(hb:b.ok):T.val 24 [b.dv,I id,I day]=some (.t [.d ((qb1 b id day).getD .zero).dv,.d (.b (qb1 b id day).isSome)],false):=by
 rw[qab T (hT 24 F24 rfl) rfl];have e1:=qm5 T hT b id hb
 have e2:=fun nm=>qKm T hT b.Products.l b.Products.t nm day (hb.2.2.2.2.1).1
 unfold qb1;cases hf:qb6 b id with
 |none =>
  rw[hf]at e1;simp only[Option.getD_none,Option.isSome_none]at e1;simp[F24,Fr.ofArgs,e1];try rfl
 |some a =>
  rw[hf]at e1;simp only[zzA,zzN]at e1;simp[F24,Fr.ofArgs,e1,e2]
def w64(n:Int):Int:=IntKind.i64.wrap n
def qgU(b:ABooks)(id day:Int):Int×Int:=match qb6 b id,qb1 b id day with
 |some a,some p=>(w64 (-(w64 (p.Overdraft+a.Extra))),0)
 | _,_=>(0,11)
theorem qK4(T:Tab)(hT:HU T)(b:ABooks)(id day:Int)(hb:b.ok):T.val 719 [b.dv,I id,I day]=some (.t [.d (I (qgU b id day).1),.d (I (qgU b id day).2)],false):=by
 rw[qab T (hT 719 qi6 rfl) rfl];have e1:=qm5 T hT b id hb
 have e2:=qyr T hT b id day hb
 unfold qgU;cases hf:qb6 b id with
 |none =>
  rw[hf]at e1;simp only[Option.getD_none,Option.isSome_none]at e1;simp[qi6,Fr.ofArgs,e1,e2]
 |some a =>
  rw[hf]at e1;simp only[zzA,zzN]at e1;cases hp:qb1 b id day with
  |none =>
   rw[hp]at e2;simp only[Option.getD_none,Option.isSome_none]at e2;simp[qi6,Fr.ofArgs,e1,e2]
  |some p =>
   rw[hp]at e2;simp only[zzA,zzN]at e2;simp[qi6,Fr.ofArgs,e1,e2,w64]
def qfM(acc day:Int)(_:Nat)(n:Int)(h:AHold):Int:=if (h.Account==acc&&(decide (h.From≤day)&&decide (day≤h.To)))=true then w64 (n+h.Amount)else n
def qmt(l:List AHold)(acc day:Int):Int:=qag (qfM acc day) 0 0 l
theorem qC5(T:Tab)(l:List AHold)(t:Bool)(acc day:Int)(hn:l.length≤maxLen){k:KC (PV×Bool)}{fr:Fr}{H:Heap}(h0:gc [1,2,7,10,11,12] 0 ⟨fr,H⟩=⟨[(12,(.d (I (0:Int)))),(11,(.d (I l.length))),(10,(.d (.l (K1 6) (l.map AHold.dv) t))),(7,(.d (I 0))),(2,(.d (I day))),(1,(.d (I acc)))],[]⟩) :
    kC T.env 0 fr H (.h (.loop [1,2,7,10,11,12] qpO,k))=k (.exit 0) [(13,.d (.b false)),(12,(.d (I (l.length:Int)))),(11,(.d (I l.length))),(10,(.d (.l (K1 6) (l.map AHold.dv) t))),(7,(.d (I (qag (qfM acc day) 0 0 l)))),(2,(.d (I day))),(1,(.d (I acc)))] []:=by
  rw[qa3 l (fun i (b:Int)=>⟨[(12,(.d (I (i:Int)))),(11,(.d (I l.length))),(10,(.d (.l (K1 6) (l.map AHold.dv) t))),(7,(.d (I b))),(2,(.d (I day))),(1,(.d (I acc)))],[]⟩) (fun _ _=>True) (fun i b x c=>c (qfM acc day i b x)) (fun b=>k (.exit 0) [(13,.d (.b false)),(12,(.d (I (l.length:Int)))),(11,(.d (I l.length))),(10,(.d (.l (K1 6) (l.map AHold.dv) t))),(7,(.d (I b))),(2,(.d (I day))),(1,(.d (I acc)))] []) ?_ ?_ h0 trivial]
  · rw[qbG (qfM acc day) _ _ (fun _ _ _ _=>rfl)]
  · intro B _ b _
    simp
  · intro B _ i b hi _ c hc
    have hm:=mxl
    have h1:(i:Int)<l.length:=by omega
    have h3:=wr1 (i:=i) (by omega)
    simp[h1,hi];repeat' (refine qat (fun h => ?_) (fun h => ?_)<;>(try simp at h)<;>(try simp[h,h3]))
    all_goals first
      | (have e:(qfM acc day) i b l[i]=w64 (b+l[i].Amount):=by
           simp[qfM,w64, *];try (intros;omega)
         rw[e];exact hc _ _ _ trivial (by simp[gc,Fr.keep,qaf,qae,qad,PV.refs,gcH,PV.ren,Obj.ren,Heap.obj,Fr.ren,gh];try rfl))
      | (have e:(qfM acc day) i b l[i]=b:=by
           simp[qfM,w64, *];try (intros;omega)
         rw[e];exact hc _ _ _ trivial (by simp[gc,Fr.keep,qaf,qae,qad,PV.refs,gcH,PV.ren,Obj.ren,Heap.obj,Fr.ren,gh];try rfl))
theorem qK3(T:Tab)(hT:HU T)(l:List AHold)(t:Bool)(acc day:Int)(hn:l.length≤maxLen):T.val 716 [.l (K1 6) (l.map AHold.dv) t,I acc,I day]=some (.d (I (qmt l acc day)),false):=by
  rw[qab T (hT 716 F716 rfl) rfl];simp[F716,Fr.ofArgs];refine (qC5 T l t acc day hn (by simp[gc,Fr.keep,qaf,qae,qad,PV.refs,gcH,PV.ren,Obj.ren,Heap.obj,Fr.ren,gh])).trans ?_
  simp[qmt]
theorem qCl(T:Tab)(l:List AHold)(t:Bool)(acc day:Int)(hn:l.length≤maxLen){k:KC (PV×Bool)}{fr:Fr}{H:Heap}(h0:gc [0,1,2,7,8] 0 ⟨fr,H⟩=⟨[(8,(.d (I (0:Int)))),(7,(.d (I 0))),(2,(.d (I day))),(1,(.d (I acc))),(0,(.d (.l (K1 6) (l.map AHold.dv) t)))],[]⟩) :
    kC T.env 0 fr H (.h (.loop [0,1,2,7,8] qpj,k))=k (.exit 0) [(12,.d (.b false)),(8,(.d (I (l.length:Int)))),(7,(.d (I (qag (qfM acc day) 0 0 l)))),(2,(.d (I day))),(1,(.d (I acc))),(0,(.d (.l (K1 6) (l.map AHold.dv) t)))] []:=by
  rw[qa3 l (fun i (b:Int)=>⟨[(8,(.d (I (i:Int)))),(7,(.d (I b))),(2,(.d (I day))),(1,(.d (I acc))),(0,(.d (.l (K1 6) (l.map AHold.dv) t)))],[]⟩) (fun _ _=>True) (fun i b x c=>c (qfM acc day i b x)) (fun b=>k (.exit 0) [(12,.d (.b false)),(8,(.d (I (l.length:Int)))),(7,(.d (I b))),(2,(.d (I day))),(1,(.d (I acc))),(0,(.d (.l (K1 6) (l.map AHold.dv) t)))] []) ?_ ?_ h0 trivial]
  · rw[qbG (qfM acc day) _ _ (fun _ _ _ _=>rfl)]
  · intro B _ b _
    simp
  · intro B _ i b hi _ c hc
    have hm:=mxl
    have h1:(i:Int)<l.length:=by omega
    have h3:=wr1 (i:=i) (by omega)
    simp[h1,hi];repeat' (refine qat (fun h => ?_) (fun h => ?_)<;>(try simp at h)<;>(try simp[h,h1,hi,h3]))
    all_goals first
      | (have e:(qfM acc day) i b l[i]=w64 (b+l[i].Amount):=by
           simp[qfM,w64, *];try (intros;omega)
         rw[e];exact hc _ _ _ trivial (by simp[gc,Fr.keep,qaf,qae,qad,PV.refs,gcH,PV.ren,Obj.ren,Heap.obj,Fr.ren,gh];try rfl))
      | (have e:(qfM acc day) i b l[i]=b:=by
           simp[qfM,w64, *];try (intros;omega)
         rw[e];exact hc _ _ _ trivial (by simp[gc,Fr.keep,qaf,qae,qad,PV.refs,gcH,PV.ren,Obj.ren,Heap.obj,Fr.ren,gh];try rfl))
theorem qJB(T:Tab)(hT:HU T)(l:List AHold)(t:Bool)(acc day:Int)(hn:l.length≤maxLen):T.val 1028 [.l (K1 6) (l.map AHold.dv) t,I acc,I day]=some (.d (I (qmt l acc day)),false):=by
  rw[qab T (hT 1028 F1028 rfl) rfl];simp[F1028,Fr.ofArgs];refine (qCl T l t acc day hn (by simp[gc,Fr.keep,qaf,qae,qad,PV.refs,gcH,PV.ren,Obj.ren,Heap.obj,Fr.ren,gh])).trans ?_
  simp[qmt]
end
end Go.Sim
