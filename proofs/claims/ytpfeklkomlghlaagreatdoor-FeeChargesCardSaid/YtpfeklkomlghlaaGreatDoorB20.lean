/- Part 20 of the proof. -/
import Derived.Test.YtpfeklkomlghlaaGreatDoorB12
set_option linter.all false
namespace Go.Sim
set_option maxRecDepth 100000
set_option maxHeartbeats 8000000
inductive Hd {α:Type}:α->Type where
 |h (x:α):Hd x
section
variable {R α β:Type}
def bo(x:CK α){k:α->CK R}(_:Hd k):CK R:=match x with|some a=>k a|none=>none
def bo2(x:CJ){k:PV->CW->CK R}(_:Hd k):CK R:=match x with|some (v,H)=>k v H|none=>none
def brn(b:CO){x y:CK R}(_:Hd (x,y)):CK R:=match b with|true=>x|false=>y
def chk(p:Prop)[Decidable p]{x:CK R}(_:Hd x):CK R:=if p then x else none
def qf9(x y:CK R):brn true (.h (x,y))=x:=rfl
def qf7(x y:CK R):brn false (.h (x,y))=y:=rfl
def qf8(b:CO)(x y:CK R):brn (!b) (.h (x,y))=brn b (.h (y,x)):=by cases b<;>rfl
def qbx{b:CO}{x y z:CK R}(h1:b=true->x=z)(h2:b=false->y=z):brn b (.h (x,y))=z:=by cases b;exact h2 rfl;exact h1 rfl
def qge(x:CK R):chk True (.h x)=x:=rfl
def qf5(a:α)(k:α->CK R):bo (some a) (.h k)=k a:=rfl
def qf2(k:α->CK R):bo none (.h k)=none:=rfl
def qfI(v:PV)(H:CW)(k:PV->CW->CK R):bo2 (some (v,H)) (.h k)=k v H:=rfl
def qfH(k:PV->CW->CK R):bo2 none (.h k)=none:=rfl
def qiR(x:CK PV)(H:CW)(k:PV->CW->CK R):bo2 (opt x H) (.h k)=bo x (.h λv=>k v H):=by cases x<;>rfl
def qwK(x:CK DV)(H:CW)(k:PV->CW->CK R):bo2 (qeC x H) (.h k)=bo x (.h λv=>k (.d v) H):=by cases x<;>rfl
abbrev KC(R:Type):=Ex->Fr->CW->CK R
abbrev KO(R:Type):=Fr->CW->CK R
noncomputable def kC(E:Env)(base:Nat)(fr:Fr)(H:CW){c:PC}{k:KC R}(_:Hd (c,k)):CK R:=match qag E lpI base c ⟨fr,H⟩with|some (e,s)=>k e s.fr s.H|none=>none
def kO(E:Env)(id:Nat)(fr:Fr)(H:CW){ops:CL Ap}{k:KO R}(_:Hd (ops,k)):CK R:=match qaF E ops id ⟨fr,H⟩with|some s=>k s.fr s.H|none=>none
def kD(E:Env)(id:Nat)(fr:Fr)(H:CW)(bf:CF)(acc:CL (CF×CF)){ops:CL Ap}{k:KO R}(_:Hd (ops,k)):CK R:=match qbW E ops bf acc id ⟨fr,H⟩with|some s=>k s.fr s.H|none=>none
variable {E:Env}{base:Nat}{fr:Fr}{H:CW}{k:KC R}{j:KO R}
def qgR:kC E base fr H (.h (.skip,k))=k .norm fr H:=rfl
def qgP:kC E base fr H (.h (.ret,k))=k .ret fr H:=rfl
def qgH{id:Nat}:kC E base fr H (.h (.exit id,k))=k (.exit id) fr H:=rfl
noncomputable def sqK(E:Env)(base:Nat)(b:PC)(k:KC R):KC R
 |.norm,fr,H=>kC E base fr H (.h (b,k))
 |.exit id,fr,H=>k (.exit id) fr H
 |.ret,fr,H=>k .ret fr H
def blK(id:Nat)(k:KC R):KC R
 |.exit i,fr,H=>if i=id then k .norm fr H else k (.exit i) fr H
 |.norm,fr,H=>k .norm fr H
 |.ret,fr,H=>k .ret fr H
def rgK(kill:CF)(k:KC R):KO R:=λfr H=>k .norm (fr.drop kill) H
def qgQ{a b:PC}:kC E base fr H (.h (.seq a b,k))=kC E base fr H (.h (a,sqK E base b k)):=by
 simp only[kC,qag];cases qag E lpI base a ⟨fr,H⟩with
 |none=>rfl
 |some x=>obtain⟨e,s⟩:=x;cases e<;>rfl
def qgE{id:Nat}{x:PC}:kC E base fr H (.h (.block id x,k))=kC E base fr H (.h (x,blK id k)):=by
 simp only[kC,qag];cases qag E lpI base x ⟨fr,H⟩with
 |none=>rfl
 |some y=>
  obtain⟨e,s⟩:=y;cases e with
  |norm=>rfl
  |ret=>rfl
  |exit i=>
   by_cases h:i=id
   ·subst h;simp[blK]
   ·simp[blK,h]
def qgI{ops:CL Ap}{kill:CF}:kC E base fr H (.h (.reg ops kill,k))=kO E H.length fr (H++List.replicate (qar ops) none) (.h (ops,rgK kill k)):=by simp only[kC,qag,qcn,kO];cases qaF E ops H.length ⟨fr,H++List.replicate (qar ops) none⟩<;>rfl
def qbm{ops:CL Ap}{bf kill:CF}:kC E base fr H (.h (.Ba ops bf kill,k))=kD E H.length fr (H++List.replicate (qar ops) none) bf [] (.h (ops,rgK kill k)):=by simp only[kC,qag,qdq,kD];cases qbW E ops bf [] H.length ⟨fr,H++List.replicate (qar ops) none⟩<;>rfl
def Fr.fix:Fr->Nat->CO->Fr
 |[],_,_=>[]
 | (j,v)::r,t,b=>if j=t then (j,.d (.b b))::r else (j,v)::Fr.fix r t b
def qex:∀{fr:Fr} {t:Nat} {b:CO},fr.get t=.d (.b b)->fr.fix t b=fr
 |[],t,b,h=>rfl
 | (j,x)::r,t,b,h=>by
  simp only[Fr.get]at h;simp only[Fr.fix];split
  ·rename_i hj;rw[if_pos hj]at h;rw[h]
  ·rename_i hj;rw[if_neg hj]at h;rw[qex h]
def tst(v:PV){x y:CK R}(_:Hd (x,y)):CK R:=match v with|.d (.b true)=>x|.d (.b false)=>y|_=>none
def qhA(b:CO)(x y:CK R):tst (.d (.b b)) (.h (x,y))=brn b (.h (x,y)):=by cases b<;>rfl
def qgF{t:Nat}{x y:PC}:kC E base fr H (.h (.cond (.t t) x y,k))=tst (fr.get t) (.h (kC E base (fr.fix t true) H (.h (x,k)),kC E base (fr.fix t false) H (.h (y,k)))):=by
 simp only[kC,qag,rd];cases h:fr.get t with
 |d v=>
  cases v with
  |b b=>cases b with
   |true=>simp only[tst];rw[qex h]
   |false=>simp only[tst];rw[qex h]
  |_=>rfl
 |_=>rfl
def qgG{b:CO}{x y:PC}:kC E base fr H (.h (.cond (.c (.b b)) x y,k))=brn b (.h (kC E base fr H (.h (x,k)),kC E base fr H (.h (y,k)))):=by cases b<;>rfl
def qgW{id:Nat}:kO E id fr H (.h ([],j))=j fr H:=rfl
def nid(op:IOp)(id:Nat):Nat:=if op.adds=true then id+1 else id
def qgU{d:Nat}{op:IOp}{r:CL Ap}{id:Nat}:kO E id fr H (.h (⟨some d,op,none⟩::r,j))=bo2 (qaa E (rd E fr) H id op) (.h λv H=>kO E (nid op id) (fr.set d v) H (.h (r,j))):=by simp only[kO,qaF,bo2];cases qaa E (rd E fr) H id op<;>rfl
def qgS{op:IOp}{r:CL Ap}{id:Nat}:kO E id fr H (.h (⟨none,op,none⟩::r,j))=bo2 (qaa E (rd E fr) H id op) (.h λ_ H=>kO E (nid op id) fr H (.h (r,j))):=by simp only[kO,qaF,bo2];cases qaa E (rd E fr) H id op<;>rfl
def grd(v:PV)(w:CO){x y z:CK R}(_:Hd (x,y,z)):CK R:=match v with|.d (.b b)=>if b=w then x else y|.t []=>z|_=>none
def qgy(b:CO)(x y z:CK R):grd (.d (.b b)) true (.h (x,y,z))=brn b (.h (x,y)):=by cases b<;>rfl
def qgz(b:CO)(x y z:CK R):grd (.d (.b b)) false (.h (x,y,z))=brn b (.h (y,x)):=by cases b<;>rfl
def qgA(w:CO)(x y z:CK R):grd (.t []) w (.h (x,y,z))=z:=rfl
def qgV{d t:Nat}{w:CO}{op:IOp}{r:CL Ap}{id:Nat}:kO E id fr H (.h (⟨some d,op,some (t,w)⟩::r,j)) =
  grd (fr.get t) w (.h (bo2 (qaa E (rd E (fr.fix t w)) H id op) (.h λv H=>kO E (nid op id) ((fr.fix t w).set d v) H (.h (r,j))),kO E (nid op id) ((fr.fix t (!w)).set d (.t [])) H (.h (r,j)),kO E (nid op id) (fr.set d (.t [])) H (.h (r,j)))):=by
 simp only[kO,qaF];cases h:fr.get t with
 |d v=>
  cases v with
  |b b=>
   by_cases hb:b=w
   ·subst hb;rw[qex h];simp only[grd,beq_self_eq_true,if_true];cases qaa E (rd E fr) H id op<;>rfl
   ·have e:(b==w)=false:=by simpa using hb
    have e2:b=!w:=by cases b<;>cases w<;>simp_all
    rw[e2]at h;simp only[grd,e,if_neg hb,zzg,if_false];rw[qex h];rfl
  |_=>rfl
 |t vs=>cases vs<;>rfl
 |_=>rfl
def qgT{t:Nat}{w:CO}{op:IOp}{r:CL Ap}{id:Nat}:kO E id fr H (.h (⟨none,op,some (t,w)⟩::r,j)) =
  grd (fr.get t) w (.h (bo2 (qaa E (rd E (fr.fix t w)) H id op) (.h λ_ H=>kO E (nid op id) (fr.fix t w) H (.h (r,j))),kO E (nid op id) (fr.fix t (!w)) H (.h (r,j)),kO E (nid op id) fr H (.h (r,j)))):=by
 simp only[kO,qaF];cases h:fr.get t with
 |d v=>
  cases v with
  |b b=>
   by_cases hb:b=w
   ·subst hb;rw[qex h];simp only[grd,beq_self_eq_true,if_true];cases qaa E (rd E fr) H id op<;>rfl
   ·have e:(b==w)=false:=by simpa using hb
    have e2:b=!w:=by cases b<;>cases w<;>simp_all
    rw[e2]at h;simp only[grd,e,if_neg hb,zzg,if_false];rw[qex h];rfl
  |_=>rfl
 |t vs=>cases vs<;>rfl
 |_=>rfl
variable {ρ:Ab->PV}{id:Nat}{q:PV->CW->CK R}
def qfB{x:Ab}:bo2 (qaa E ρ H id (.mov x)) (.h q)=q (ρ x) H:=rfl
def qfC{c x y:Ab}:bo2 (qaa E ρ H id (.pick c x y)) (.h q)=tst (ρ c) (.h (q (ρ x) H,q (ρ y) H)):=by
 simp only[qaa];cases ρ c with
 |d v=>
  cases v with
  |b b=>cases b<;>rfl
  |_=>rfl
 |_=>rfl
def qfl{K:Sim.K}{z:DV}:bo2 (qaa E ρ H id (.alloc K z)) (.h q)=q (.p id 0 0) (H.put id (some (.box K (.d z)))):=rfl
def qfo{K:Sim.K}{x:Ab}:bo2 (qaa E ρ H id (.box K x)) (.h q)=chk (fits K (ρ x)=true) (.h (q (.p id 0 0) (H.put id (some (.box K (ρ x)))))):=by simp only[qaa,chk];split<;>rfl
def qfA{K:Sim.K}{x:Ab}:bo2 (qaa E ρ H id (.load K x)) (.h q)=bo (qbT H K (ρ x)) (.h λv=>q v H):=by simp only[qaa];exact qiR _ _ _
def qfE{K:Sim.K}{x y:Ab}:bo2 (qaa E ρ H id (.store K x y)) (.h q)=bo (qbY H K (ρ x) (ρ y)) (.h λH'=>q .u H'):=by simp only[qaa];cases qbY H K (ρ x) (ρ y)<;>rfl
def qfn{op:BinOp}{x y:Ab}:bo2 (qaa E ρ H id (.bin op x y)) (.h q)=bo (qaL op (ρ x) (ρ y)) (.h λv=>q (.d v) H):=by simp only[qaa];exact qwK _ _ _
def qfF{op:UnOp}{x:Ab}:bo2 (qaa E ρ H id (.un op x)) (.h q)=bo (unA op (ρ x)) (.h λv=>q (.d v) H):=by simp only[qaa];exact qwK _ _ _
def qfu{neg:CO}{n:CF}{x y:Ab}:bo2 (qaa E ρ H id (.eqv neg n x y)) (.h q)=bo (eqA n (ρ x) (ρ y)) (.h λe=>q (.d (.b (if neg=true then !e else e))) H):=by simp only[qaa];cases eqA n (ρ x) (ρ y)<;>rfl
def qfw{o:Nat}{x:Ab}:bo2 (qaa E ρ H id (.Bo o x)) (.h q)=bo (qdJ o (ρ x)) (.h λv=>q v H):=by simp only[qaa];exact qiR _ _ _
def qfx{o:Nat}{K:Sim.K}{x:Ab}:bo2 (qaa E ρ H id (.field o K x)) (.h q)=bo (qew o K (ρ x)) (.h λv=>q v H):=by simp only[qaa];exact qiR _ _ _
def qfy{K:Sim.K}{x i:Ab}:bo2 (qaa E ρ H id (.AJ K x i)) (.h q)=bo (AJ H K (ρ x) (ρ i)) (.h λv=>q v H):=by simp only[qaa];exact qiR _ _ _
def qfD{K:Sim.K}{x:Ab}{lo hi mx:CK Ab}:bo2 (qaa E ρ H id (.sl K x lo hi mx)) (.h q)=bo (slA H K (ρ x) (lo.map ρ) (hi.map ρ) (mx.map ρ)) (.h λv=>q v H):=by simp only[qaa];exact qiR _ _ _
def qfz{s:CO}{x:Ab}:bo2 (qaa E ρ H id (.len s x)) (.h q)=bo (qbZ H s (ρ x)) (.h λn:Nat=>q (.d (.i .i64 (n:Int))) H):=by simp only[qaa];cases qbZ H s (ρ x)<;>rfl
def qfm{K:Sim.K}{b:Nat}{x y:Ab}:bo2 (qaa E ρ H id (.app K b x y)) (.h q)=bo2 (qcb H id K b (ρ x) (ρ y)) (.h q):=rfl
def qfp{f:Nat}{as0:CL Ab}:bo2 (qaa E ρ H id (.call 0 f as0)) (.h q)=bo (qaN H (as0.map ρ)) (.h λd=>bo (E.val f d.1) (.h λr=>q r.1 (if (d.2.isEmpty||r.1.AY)=true then H else frz H d.2))):=by
 simp only[qaa];cases qaN H (as0.map ρ)with
 |none=>rfl
 |some d=>
  simp only[bo];cases E.val f d.1 with
  |none=>rfl
  |some r=>rfl
def qA3(x:PV×CO){q:K->Cy->CK R}(_:Hd q):CK R:=match x with|(.d (.l k es _),true)=>q k es|_=>none
def qg9{k:K}{es:Cy}{t:CO}{q:K->Cy->CK R}:qA3 (.d (.l k es t),true) (.h q)=q k es:=rfl
def qfq{f:Nat}{as0:CL Ab}:bo2 (qaa E ρ H id (.call 1 f as0)) (.h q)=bo (qaN H (as0.map ρ)) (.h λd=>bo (E.val f d.1) (.h λr=>qA3 r (.h λk es=>q (.r id k 0 es.length false) ((if d.2.isEmpty=true then H else frz H d.2).put id (some (.sl k 0 es)))))):=by
 simp only[qaa];cases qaN H (as0.map ρ)with
 |none=>rfl
 |some d=>
  simp only[bo];cases E.val f d.1 with
  |none=>rfl
  |some r=>
   obtain⟨r,o⟩:=r;cases r with
   |d v=>cases v with
    |l k es t=>cases o<;>rfl
    |_=>rfl
   |_=>rfl
def qfr{m f:Nat}{as0:CL Ab}:bo2 (qaa E ρ H id (.call (m+2) f as0)) (.h q)=bo2 (E.ref f (as0.map ρ) H) (.h q):=rfl
def qsh(x:PV)(i:Nat){q:PV->CK R}(_:Hd q):CK R:=match x with|.t vs=>bo vs[i]? (.h q)|_=>none
def qgo{vs:Cz}{i:Nat}{q:PV->CK R}:qsh (.t vs) i (.h q)=bo vs[i]? (.h q):=rfl
def qfv{x:Ab}{i:Nat}:bo2 (qaa E ρ H id (.ext x i)) (.h q)=qsh (ρ x) i (.h λv=>q v H):=by
 simp only[qaa,qsh];cases ρ x with
 |t vs=>exact qiR _ _ _
 |_=>rfl
def qu6(x:PV)(lo hi:CK PV){q:PV->CK R}(_:Hd q):CK R:=match x with|.d (.s s)=>bo (bnd s.length s.length hi) (.h λh=>bo (bnd 0 h lo) (.h λl=>q (.d (.s ((s.take h).drop l)))))|_=>none
def qe5{s:CB}{lo hi:CK PV}{q:PV->CK R}:qu6 (.d (.s s)) lo hi (.h q)=bo (bnd s.length s.length hi) (.h λh=>bo (bnd 0 h lo) (.h λl=>q (.d (.s ((s.take h).drop l))))):=rfl
def qeM{x:Ab}{lo hi:CK Ab}:bo2 (qaa E ρ H id (.slS x lo hi)) (.h q)=qu6 (ρ x) (lo.map ρ) (hi.map ρ) (.h λv=>q v H):=by
 simp only[qaa,qu6];cases ρ x with
 |d v=>cases v with
  |s s=>
   simp only;cases bnd s.length s.length (hi.map ρ)with
   |none=>rfl
   |some h=>simp only[bo];cases bnd 0 h (lo.map ρ)<;>rfl
  |_=>rfl
 |_=>rfl
def qec(x i:PV){q:PV->CK R}(_:Hd q):CK R:=match x,i with|.d (.s s),.d (.i _ n)=>chk (0<=n) (.h (bo s[n.toNat]? (.h λb=>q (.d (.i .u8 b.toNat)))))|_,_=>none
def qbc{s:CB}{kk:IntKind}{n:Int}{q:PV->CK R}:qec (.d (.s s)) (.d (.i kk n)) (.h q)=chk (0<=n) (.h (bo s[n.toNat]? (.h λb=>q (.d (.i .u8 b.toNat))))):=rfl
def qwA{x i:Ab}{s:CB}{kk:IntKind}{n:Int}(hx:ρ x=.d (.s s))(hi:ρ i=.d (.i kk n)):bo2 (qaa E ρ H id (.idxS x i)) (.h q)=chk (0<=n) (.h (bo s[n.toNat]? (.h λb=>q (.d (.i .u8 b.toNat)) H))):=by
 simp only[qaa,hx,hi,asI,chk];split
 ·cases s[n.toNat]? <;> rfl
 ·rfl
variable {kk:IntKind}
def qfK{d top:Nat}{n:Int}{y:Nat->CK R}:bo (bnd d top (some (.d (.i kk n)))) (.h y)=chk (0<=n/\n<=top) (.h (y n.toNat)):=by simp only[bnd,asI,chk];split<;>rfl
def qfL{d top:Nat}{y:Nat->CK R}:bo (bnd d top none) (.h y)=y d:=rfl
def qfQ{K K':Sim.K}{es:Cy}{t:CO}{n:Int}{y:PV->CK R}(hK:K.eq K'=true):bo (AJ H K (.d (.l K' es t)) (.d (.i kk n))) (.h y)=chk (0<=n/\n<es.length) (.h (bo es[n.toNat]? (.h λe=>y (.q e K 0)))):=by
 simp only[AJ,asI,inR,chk];by_cases h:0<=n/\n<es.length
 ·rw[if_pos h,if_pos h];simp only;cases es[n.toNat]? with
  |none=>rfl
  |some e=>simp only[hK,if_true];rfl
 ·rw[if_neg h,if_neg h];rfl
def qfJ{x y:CB}{z:DV->CK R}:bo (qaL .add (.d (.s x)) (.d (.s y))) (.h z)=chk (x.length+y.length<4611686018427387904) (.h (z (.s (x++y)))):=by
 simp only[qaL,qks,chk];by_cases h:x.length+y.length<4611686018427387904
 ·rw[if_pos h,if_pos (by exact h)];rfl
 ·rw[if_neg h,if_neg (by exact h)];rfl
def qdn{x y:Int}{z:DV->CK R}:bo (qaL .quo (.d (.i kk x)) (.d (.i kk y))) (.h z)=chk (y≠0) (.h (z (.i kk (kk.wrap (x.tdiv y))))):=by simp only[qaL,qch,if_true,chk];by_cases h:y=0<;>simp[h,bo]
def qdT{x y:Int}{z:DV->CK R}:bo (qaL .rem (.d (.i kk x)) (.d (.i kk y))) (.h z)=chk (y≠0) (.h (z (.i kk (x.tmod y)))):=by simp only[qaL,qch,if_true,chk];by_cases h:y=0<;>simp[h,bo]
end
noncomputable def fin(E:Env)(rs:CL RV):KC (PV×CO)
 |.exit _,_,_=>none
 |_,fr,H=>bo (Bj E (qao fr) H) (.h λH=>bo (results fr H rs) (.h λvs=>AC H (qbi vs)))
def qab(T:Tab){f:Nat}{F:PF}(hF:T.F f=some F){args:Cy}(ha:args.length=F.Bn):T.val f args=kC T.env 0 (Fr.Aa 0 (args.map .d)) [] (.h (F.body,fin T.env F.results)):=by
 rw[qC8 T hF];unfold qbr;rw[if_pos (by simpa using ha)];simp only[kC,List.length_nil];cases qag T.env lpI 0 F.body ⟨Fr.Aa 0 (args.map .d),[]⟩with
 |none=>rfl
 |some x=>
  obtain⟨e,s⟩:=x;cases e with
  |exit id=>rfl
  |norm=>
   simp only[fin];cases Bj T.env (qao s.fr) s.H with
   |none=>rfl
   |some H'=>simp only[bo];cases results s.fr H' F.results<;>rfl
  |ret=>
   simp only[fin];cases Bj T.env (qao s.fr) s.H with
   |none=>rfl
   |some H'=>simp only[bo];cases results s.fr H' F.results<;>rfl
section
variable {R:Type}{E:Env}{base:Nat}{live:CF}{body:PC}
noncomputable def lpK(E:Env)(base:Nat)(live:CF)(body:PC)(k:KC R):KC R
 |.norm,fr,H=>kC E base fr H (.h (.loop live body,k))
 |.exit id,fr,H=>k (.exit id) fr H
 |.ret,fr,H=>k .ret fr H
def qji{fr:Fr}{H:CW}{k:KC R}:kC E base fr H (.h (.loop live body,k))=kC E base (gc live base ⟨fr,H⟩).fr (gc live base ⟨fr,H⟩).H (.h (body,lpK E base live body k)):=by
 have h:qag E lpI base (.loop live body) ⟨fr,H⟩=lpI (λs=>qag E lpI base body (gc live base s)) ⟨fr,H⟩:=rfl;simp only[kC,h];rw[qtl];cases hb:qag E lpI base body (gc live base ⟨fr,H⟩)with
 |none=>simp only
 |some x=>
  obtain⟨e,s⟩:=x;simp only;cases e with
  |norm=>rfl
  |exit id=>rfl
  |ret=>rfl
def rounds{α β:Type}(step:Nat->β->α->(β->CK R)->CK R)(done:β->CK R):Nat->β->CL α->CK R
 |_,b,[]=>done b
 |i,b,x::r=>step i b x λb'=>rounds step done (i+1) b' r
def qcr{α β:Type}(ls:CL α)(st:Nat->β->St)(inv:Nat->β->Prop)(step:Nat->β->α->(β->CK R)->CK R)(done:β->CK R){k:KC R}
  (hend:∀B,B=body->∀b,inv ls.length b->kC E base (st ls.length b).fr (st ls.length b).H (.h (body,lpK E base live B k))=done b)
  (hround:∀B,B=body->∀i b (h:i<ls.length),inv i b->∀c:β->CK R,(∀b' fr H,inv (i+1) b'->gc live base ⟨fr,H⟩=st (i+1) b'->kC E base fr H (.h (.loop live B,k))=c b')->kC E base (st i b).fr (st i b).H (.h (body,lpK E base live B k))=step i b ls[i] c)
  {fr:Fr} {H:CW} {b0:β} (h0:gc live base ⟨fr,H⟩=st 0 b0) (hi:inv 0 b0):kC E base fr H (.h (.loop live body,k))=rounds step done 0 b0 ls:=by
 have key:∀(n i:Nat) (b:β) (fr:Fr) (H:CW),i+n=ls.length->inv i b->gc live base ⟨fr,H⟩=st i b->kC E base fr H (.h (.loop live body,k))=rounds step done i b (ls.drop i):=by
  intro n;induction n with
  |zero=>
   intro i b fr H hn hv hg;have hi:i=ls.length:=by omega
   subst hi;rw[qji,hg,hend body rfl b hv,List.drop_length];rfl
  |succ n ih=>
   intro i b fr H hn hv hg;have hlt:i<ls.length:=by omega
   rw[qji,hg,zzz hlt];exact hround body rfl i b hlt hv _ λb' fr' H' hv' hg'=>ih (i+1) b' fr' H' (by omega) hv' hg'
 have:=key ls.length 0 b0 fr H (by omega) hi h0;simpa using this
def qhp{α:Type}(p:α->CO)(r:CK R)(done:Unit->CK R)(step:Nat->Unit->α->(Unit->CK R)->CK R)(hs:∀i b x c,step i b x c=if p x=true then c ()else r):∀(i:Nat) (ls:CL α),rounds step done i () ls=if ls.all p=true then done ()else r
 |i,[]=>by simp[rounds]
 |i,x::l=>by rw[rounds,hs,qhp p r done step hs (i+1) l];cases h:p x<;>simp[h]
end
section
variable {R:Type}{y:PV->CK R}{H:CW}
def qc7(v:DV):(PV.d v).cells=v.cells.map .d:=by cases v<;>rfl
def qvj{α:Type}(l:CL α)(c:Nat):(l.drop c).take 1=match l[c]? with|some x=>[x]|none=>[]:=by
 cases h:l[c]? with
 |none=>rw[List.getElem?_eq_none_iff]at h;rw[List.drop_eq_nil_iff.2 h];rfl
 |some x=>obtain⟨hc,rfl⟩:=zzk.1 h;rw[zzz hc];rfl
def qhv(n:Nat)(v:DV)(c:Nat):bo (qdi (some n) (.d v) c none) (.h y)=chk (c<n) (.h (bo v.cells[c]? (.h λx=>y (.d x)))):=by
 unfold chk;simp only[qdi,K.eq,Bool.and_false,zzg,if_false];change bo (@ite _ (c+1<=n) (Nat.decLe _ _) (mkP none ((List.drop c (PV.d v).cells).take 1)) none) (.h y)=_;by_cases h:c<n
 ·rw[if_pos h,if_pos (by omega),qvj,qc7,zzj];cases v.cells[c]? <;> rfl
 ·rw[if_neg h,if_neg (by omega)];rfl
def qim(n:Nat)(v:DV)(c:Nat){z:DV->CK R}:bo (qcI (some n) v c none) (.h z)=chk (c<n) (.h (bo v.cells[c]? (.h z))):=by
 unfold chk;simp only[qcI,K.eq,Bool.and_false,zzg,if_false];change bo (@ite _ (c+1<=n) (Nat.decLe _ _) (mkD none ((List.drop c v.cells).take 1)) none) (.h z)=_;by_cases h:c<n
 ·rw[if_pos h,if_pos (by omega),qvj];cases v.cells[c]? <;> rfl
 ·rw[if_neg h,if_neg (by omega)];rfl
def qgY(n:Nat)(v:DV)(c:Nat):bo (qbT H none (.q v (some n) c)) (.h y)=chk (c<n) (.h (bo v.cells[c]? (.h λx=>y (.d x)))):=by have h:=qim (R:=R) n v c (z:=λx=>y (.d x));rw[<-h];simp only[qbT];cases qcI (some n) v c none<;>rfl
def qeX(k:K)(v:DV):bo (qbT H k (.q v k 0)) (.h y)=y (.d v):=by
 have:K.eq k k=true:=by cases k<;>simp[K.eq]
 simp[qbT,qcI,this,bo]
def qg4(x:CK Obj)(H:CW):Heap.obj (x::H) 0=x:=rfl
def qg5(x:CK Obj)(H:CW)(n:Nat):Heap.obj (x::H) (n+1)=Heap.obj H n:=rfl
def qgX(k:K)(o i c:Nat):bo (qbT H k (.p o i c)) (.h y)=match H.obj o with
  |some (.box kb v)=>chk (i=0) (.h (bo (qdi kb v c k) (.h y)))
  |some (.sl kb _ es)=>bo es[i]? (.h λe=>bo (qcI kb e c k) (.h λx=>y (.d x)))
  |_=>none:=by
 simp only[qbT];cases H.obj o with
 |none=>rfl
 |some x=>cases x with
  |box kb v=>
   simp only;by_cases h:i=0
   ·subst h;simp[chk]
   ·have:(i==0)=false:=by simpa using h
    simp[h,this,bo,chk]
  |sl kb ro es=>
   simp only;cases es[i]? with
   |none=>rfl
   |some e=>simp only[bo];cases qcI kb e c k<;>rfl
  |_=>rfl
def qe6(k:K)(v:PV):bo (qdi k v 0 k) (.h y)=y v:=by
 have:K.eq k k=true:=by cases k<;>simp[K.eq]
 simp[qdi,this,bo]
def qfX(off o i c:Nat):bo (qdJ off (.p o i c)) (.h y)=y (.p o i (c+off)):=rfl
def qfY(off:Nat)(v:DV)(k:K)(c:Nat):bo (qdJ off (.q v k c)) (.h y)=y (.q v k (c+off)):=rfl
variable {z:Nat->CK R}
def qfR(k:K)(es:Cy)(t:CO):bo (qbZ H false (.d (.l k es t))) (.h z)=z es.length:=rfl
def qfT(s:CB):bo (qbZ H true (.d (.s s))) (.h z)=z s.length:=rfl
def qfS(o:Nat)(k:K)(off len:Nat)(t:CO):bo (qbZ H false (.r o k off len t)) (.h z)=match H.obj o with|some (.sl _ _ es)=>chk (off+len<=es.length) (.h (z len))|_=>none:=by
 simp only[qbZ,chk];cases H.obj o with
 |none=>rfl
 |some x=>cases x with
  |sl kb ro es=>simp only[zzg,if_false];split<;>rfl
  |_=>rfl
variable {d:DV->CK R}
section
variable (k:IntKind)(a b:Int)
def qeN:bo (qaL .add (.d (.i k a)) (.d (.i k b))) (.h d)=d (.i k (k.wrap (a+b))):=by simp[qaL,qch,bo]
def qf6:bo (qaL .sub (.d (.i k a)) (.d (.i k b))) (.h d)=d (.i k (k.wrap (a-b))):=by simp[qaL,qch,bo]
def qeO:bo (qaL .mul (.d (.i k a)) (.d (.i k b))) (.h d)=d (.i k (k.wrap (a*b))):=by simp[qaL,qch,bo]
def qfN:bo (qaL .eql (.d (.i k a)) (.d (.i k b))) (.h d)=d (.b (a==b)):=by simp[qaL,qch,bo]
def qf1:bo (qaL .neq (.d (.i k a)) (.d (.i k b))) (.h d)=d (.b (a != b)):=by simp[qaL,qch,bo]
def qfV:bo (qaL .lss (.d (.i k a)) (.d (.i k b))) (.h d)=d (.b (decide (a<b))):=by simp[qaL,qch,bo]
def qfU:bo (qaL .leq (.d (.i k a)) (.d (.i k b))) (.h d)=d (.b (decide (a<=b))):=by simp[qaL,qch,bo]
def qfP:bo (qaL .gtr (.d (.i k a)) (.d (.i k b))) (.h d)=d (.b (decide (b<a))):=by simp[qaL,qch,bo]
def qfO:bo (qaL .geq (.d (.i k a)) (.d (.i k b))) (.h d)=d (.b (decide (b<=a))):=by simp[qaL,qch,bo]
def qf0:bo (unA .neg (.d (.i k a))) (.h d)=d (.i k (k.wrap (-a))):=by simp[unA,bo]
end
def qf3(b:CO):bo (unA .not (.d (.b b))) (.h d)=d (.b (!b)):=rfl
def qfM(a b:CB):bo (qaL .eql (.d (.s a)) (.d (.s b))) (.h d)=d (.b (a==b)):=rfl
def qfZ(a b:CB):bo (qaL .neq (.d (.s a)) (.d (.s b))) (.h d)=d (.b (!(a==b))):=rfl
def qfg(n m:Nat):K.eq (some n) (some m)=(n==m):=rfl
def qfe(n:Nat):K.eq none (some n)=false:=rfl
def qff(n:Nat):K.eq (some n) none=false:=rfl
def qcD(k:K):K.eq k k=true:=by cases k<;>simp[K.eq]
def qgu(j t:Nat)(v:PV)(r:Fr):Fr.get ((j,v)::r) t=if j=t then v else Fr.get r t:=rfl
def qgv(t:Nat):Fr.get [] t=.u:=rfl
def qgj(l:CF)(j:Nat)(v:PV)(r:Fr):Fr.drop l ((j,v)::r)=if (l.contains j&&Nat.blt j gh)=true then Fr.drop l r else (j,v)::Fr.drop l r:=rfl
def qgk(l:CF):Fr.drop l []=[]:=rfl
def qhs(j t:Nat)(x v:PV)(r:Fr):Fr.set ((j,x)::r) t v=if j=t then (t,v)::r else if j<t then (t,v)::(j,x)::r else (j,x)::Fr.set r t v:=rfl
def qht(t:Nat)(v:PV):Fr.set [] t v=[(t,v)]:=rfl
def qgr(j t:Nat)(v:PV)(r:Fr)(b:CO):Fr.fix ((j,v)::r) t b=if j=t then (j,.d (.b b))::r else (j,v)::Fr.fix r t b:=rfl
def qgs(t:Nat)(b:CO):Fr.fix [] t b=[]:=rfl
def wrI{n:Int}(h : -9223372036854775808<=n)(h':n<9223372036854775808):IntKind.i64.wrap n=n:=by rw[IntKind.wrap_i64];omega
def qgw(j:Nat)(v:PV)(r:Fr):qao ((j,v)::r)=if Nat.ble gh j=true then v::qao r else qao r:=rfl
def qgx:qao []=[]:=rfl
def qcF{E:Env}{rs:CL RV}{fr:Fr}(h:qao fr=[]):fin E rs .ret fr H=bo (results fr H rs) (.h λvs=>AC H (qbi vs)):=by simp only[fin,h];rfl
def qgp{E:Env}{rs:CL RV}{fr:Fr}(h:qao fr=[]):fin E rs .norm fr H=bo (results fr H rs) (.h λvs=>AC H (qbi vs)):=by simp only[fin,h];rfl
def qeP{fr:Fr}{y:Cz->CK R}:bo (results fr H []) (.h y)=y []:=rfl
def qeQ{fr:Fr}{n:Nat}{r:CL RV}{y:Cz->CK R}:bo (results fr H (.t n::r)) (.h y)=bo (results fr H r) (.h λvs=>y (fr.get n::vs)):=by simp only[results];cases results fr H r<;>rfl
def qf4{fr:Fr}{n:Nat}{k:K}{r:CL RV}{y:Cz->CK R}:bo (results fr H (.c n k::r)) (.h y)=bo (qbT H k (fr.get n)) (.h λv=>bo (results fr H r) (.h λvs=>y (v::vs))):=by
 simp only[results];cases qbT H k (fr.get n)with
 |none=>rfl
 |some v=>simp only[bo];cases results fr H r<;>rfl
def qha(v:PV):qbi [v]=v:=rfl
def qhb(v w:PV)(r:Cz):qbi (v::w::r)=.t (v::w::r):=rfl
def qhf(b:CO):AC H (.d (.b b))=some (.d (.b b),false):=rfl
def qhg(k:IntKind)(n:Int):AC H (.d (.i k n))=some (.d (.i k n),false):=rfl
def qhj(s:CB):AC H (.d (.s s))=some (.d (.s s),false):=rfl
def qhe(cs:Cy):AC H (.d (.a cs))=some (.d (.a cs),false):=rfl
def qhi(k:K)(es:Cy):AC H (.d (.l k es true))=some (.d (.l k es false),es.isEmpty):=rfl
def qhh(k:K)(es:Cy):AC H (.d (.l k es false))=some (.d (.l k es false),false):=rfl
variable {hy:CW->CK R}
def qCl(kb k:K)(o i c:Nat)(v w:PV)(ho:H.obj o=some (.box kb w)):bo (qbY H k (.p o i c) v) (.h hy)=chk (fits k v=true) (.h (chk (i=0) (.h (if (c==0&&K.eq k kb)=true then hy (H.put o (some (.box kb v)))else chk (c+k.size<=w.cells.length) (.h (bo (mkP kb (putAt w.cells c v.cells)) (.h λw'=>hy (H.put o (some (.box kb w')))))))))):=by
 simp only[qbY,ho,chk];by_cases hf:fits k v=true
 ·simp only[hf,if_true];by_cases hi:i=0
  ·subst hi;simp only[beq_self_eq_true,if_true];by_cases hc:(c==0&&K.eq k kb)=true
   ·simp only[hc,if_true];rfl
   ·simp only[hc,zzg,if_false];by_cases hs:c+k.size<=w.cells.length
    ·simp only[hs,if_true];cases mkP kb (putAt w.cells c v.cells)<;>rfl
    ·simp only[hs,if_false];rfl
  ·have:(i==0)=false:=by simpa using hi
   simp only[this,hi,zzg,if_false];rfl
 ·simp only[hf,zzg,if_false];rfl
def stK(H:CW)(k:K)(o i c:Nat)(v:PV)(x:CK Obj){hy:CW->CK R}(_:Hd hy):CK R:=match x with
 |some (.box kb w)=>chk (fits k v=true) (.h (chk (i=0) (.h (if (c==0&&K.eq k kb)=true then hy (H.put o (some (.box kb v)))else chk (c+k.size<=w.cells.length) (.h (bo (mkP kb (putAt w.cells c v.cells)) (.h λw'=>hy (H.put o (some (.box kb w'))))))))))
 |_=>bo (qbY H k (.p o i c) v) (.h hy)
def qdh(k:K)(o i c:Nat)(v:PV):bo (qbY H k (.p o i c) v) (.h hy)=stK H k o i c v (H.obj o) (.h hy):=by
 unfold stK;split
 ·rename_i kb w ho;exact qCl kb k o i c v w ho
 ·rfl
def qhu(kb k:K)(o i c:Nat)(v w:PV):stK H k o i c v (some (.box kb w)) (.h hy)=chk (fits k v=true) (.h (chk (i=0) (.h (if (c==0&&K.eq k kb)=true then hy (H.put o (some (.box kb v)))else chk (c+k.size<=w.cells.length) (.h (bo (mkP kb (putAt w.cells c v.cells)) (.h λw'=>hy (H.put o (some (.box kb w')))))))))):=rfl
def qmG(E:Env)(H:CW)(v:PV)(as0:Cz){q:PV->CW->CK R}(_:Hd q):CK R:=match v with
 |.f n caps=>match (if caps.isEmpty=true then qac as0 else none)with
  |some ds=>bo (E.val n ds) (.h λr=>q r.1 H)
  |none=>bo2 (E.ref n (as0++caps) H) (.h q)
 |.m n firsts=>match qac (firsts++as0)with
  |some ds=>bo (E.val n ds) (.h λr=>q r.1 H)
  |none=>bo2 (E.ref n (firsts++as0) H) (.h q)
 |.h o=>bo2 (E.yld o as0 H) (.h q)
 |_=>none
def qfs{E:Env}{ρ:Ab->PV}{id:Nat}{x:Ab}{as0:CL Ab}{q:PV->CW->CK R}:bo2 (qaa E ρ H id (.BI x as0)) (.h q)=qmG E H (ρ x) (as0.map ρ) (.h q):=by
 simp only[qaa,qmG];cases ρ x with
 |f n caps=>
  simp only;cases (if caps.isEmpty=true then qac (as0.map ρ)else none)with
  |none=>rfl
  |some ds=>simp only;cases E.val n ds<;>rfl
 |m n firsts=>
  simp only;cases qac (firsts++as0.map ρ)with
  |none=>rfl
  |some ds=>simp only;cases E.val n ds<;>rfl
 |_=>rfl
def qga{E:Env}{n:Nat}{as0:Cz}{q:PV->CW->CK R}:qmG E H (.f n []) as0 (.h q)=match qac as0 with|some ds=>bo (E.val n ds) (.h λr=>q r.1 H)|none=>bo2 (E.ref n (as0++[]) H) (.h q):=rfl
def qgb{E:Env}{n:Nat}{c:PV}{cs:Cz}{as0:Cz}{q:PV->CW->CK R}:qmG E H (.f n (c::cs)) as0 (.h q)=bo2 (E.ref n (as0++c::cs) H) (.h q):=rfl
def qhd:qac []=some []:=rfl
def qhc(v:DV)(r:Cz):qac (.d v::r)=match qac r with|some vs=>some (v::vs)|none=>none:=rfl
def qgm(T:Tab)(f:Nat)(ds:Cy):T.env.val f ds=T.val f ds:=rfl
def qgl(T:Tab)(f:Nat)(as0:Cz)(H:CW):T.env.ref f as0 H=T.ref f as0 H:=rfl
def qhl:qaN H []=some ([],[]):=rfl
def qhk(v:DV)(r:Cz):qaN H (.d v::r)=match qaN H r with|some (xs,ps)=>some (v::xs,ps)|none=>none:=by simp only[qaN,pur,qaW];cases qaN H r<;>rfl
def qg2{E:Env}{ρ:Ab->PV}{id f:Nat}{cs:CL Ab}{q:PV->CW->CK R}:bo2 (qaa E ρ H id (.mkf f cs)) (.h q)=q (.f f (cs.map ρ)) H:=rfl
def qBb:∀l:Cy,qac (l.map PV.d)=some l
 |[]=>rfl
 |v::l=>by simp[qac,qBb l]
def qhw(n m:Nat)(v:DV)(c:Nat):bo (qdi (some n) (.d v) c (some m)) (.h y)=if (c==0&&m==n)=true then y (.d v)else chk (c+m<=n/\((v.cells.drop c).take m).length=m) (.h (y (.d (.a ((v.cells.drop c).take m))))):=by
 by_cases h:(c==0&&m==n)=true
 ·have h':=h;simp only[zzf,beq_iff_eq]at h';obtain⟨rfl,rfl⟩:=h';rw[qe6];simp
 ·rw[if_neg h];have h':(c==0&&K.eq (some m) (some n))=false:=by simpa[K.eq]using h
  simp only[qdi,h',zzg,if_false,chk];change bo (@ite _ (c+m<=n) (Nat.decLe _ _) (mkP (some m) ((List.drop c (PV.d v).cells).take m)) none) (.h y)=_;rw[qc7,<-List.map_drop,<-List.map_take];by_cases h1:c+m<=n
  ·rw[if_pos h1];by_cases h2:((v.cells.drop c).take m).length=m
   ·rw[if_pos ⟨h1,h2⟩];simp only[mkP,zzo,h2,if_true,mkA,qBb];rfl
   ·rw[if_neg (λh=>h2 h.2)];simp only[mkP,zzo,h2,if_false];rfl
  ·rw[if_neg h1,if_neg (λh=>h1 h.1)];rfl
def qgZ(n m:Nat)(v:DV)(c:Nat):bo (qbT H (some m) (.q v (some n) c)) (.h y)=if (c==0&&m==n)=true then y (.d v)else chk (c+m<=n/\((v.cells.drop c).take m).length=m) (.h (y (.d (.a ((v.cells.drop c).take m))))):=by
 by_cases h:(c==0&&m==n)=true
 ·have h':=h;simp only[zzf,beq_iff_eq]at h';obtain⟨rfl,rfl⟩:=h';rw[qeX];simp
 ·rw[if_neg h];have h':(c==0&&K.eq (some m) (some n))=false:=by simpa[K.eq]using h
  simp only[qbT,qcI,h',zzg,if_false,chk];change bo (match @ite _ (c+m<=n) (Nat.decLe _ _) (mkD (some m) ((List.drop c v.cells).take m)) none with|some x=>some (PV.d x)|none=>none) (.h y)=_;by_cases h1:c+m<=n
  ·rw[if_pos h1];by_cases h2:((v.cells.drop c).take m).length=m
   ·rw[if_pos ⟨h1,h2⟩];simp only[mkD,h2,if_true];rfl
   ·rw[if_neg (λh=>h2 h.2)];simp only[mkD,h2,if_false];rfl
  ·rw[if_neg h1,if_neg (λh=>h1 h.1)];rfl
end
def wr1{i:Nat}(h:(i:Int)+1<9223372036854775808):IntKind.i64.wrap ((i:Int)+1)=(i:Int)+1:=wrI (by omega) h
def mxl:maxLen=9223372036854775807:=rfl
section
variable {R:Type}{E:Env}{fr:Fr}{H:CW}{bf:CF}{acc:CL (CF × CF)}{id:Nat}{j:KO R}
def qxp:∀a:CF,qaX a []=true
 |[]=>rfl
 |x::r=>by have:=qxp r;unfold qaX at this⊢;simp
def qA5(b:Nat):∀(acc:CL (CF×CF)) (i:Nat),qaM b i acc [] []=true
 |[],_=>rfl
 |x::r,i=>by simp only[qaM,qA5 b r (i+1),qxp,Bool.and_true];simp[qaX]
def rdS:IOp->CO
 |.mov _|.pick _ _ _|.load _ _|.bin _ _ _|.eqv _ _ _ _|.eqb _ _ _|.BJ _ _ _|.un _ _|.conv _ _|.slS _ _ _|.sl _ _ _ _ _|.Bo _ _|.field _ _ _|.AJ _ _ _|.BM _ _ _ _|.idxS _ _|.idxA _ _ _ _|.len _ _|.ext _ _|.BR _|.minmax _ _|.call 0 _ _=>true
 |_=>false
def qg3:CW->CO
 |[]=>true
 |some (.sl _ _ _)::_=>false
 |_::r=>qg3 r
def qAN:∀{H:CW} {o:Nat},qg3 H=true->∀k ro es,H.obj o≠some (.sl k ro es)
 |[],o,_,k,ro,es,h=>by simp[Heap.obj]at h
 |x::r,0,hn,k,ro,es,h=>by have:x=some (.sl k ro es):=h;subst this;simp[qg3]at hn
 |x::r,o+1,hn,k,ro,es,h=>by
  have hn':qg3 r=true:=by
   cases x with
   |none=>exact hn
   |some y=>cases y<;>first|exact hn|(simp[qg3]at hn)
  exact qAN (H:=r) (o:=o) hn' k ro es h
def qya{H:CW}(hn:qg3 H=true):∀os:CF,frz H os=H
 |[]=>rfl
 |o::r=>by
  have h1:qc9 H o=H:=by
   unfold qc9;split
   ·rename_i k ro es h;exact absurd h (qAN hn k ro es)
   ·rfl
  rw[frz,h1,qya hn r]
def qg6{x:CK PV}{H H':CW}{v:PV}(h:opt x H=some (v,H')):H'=H:=by
 cases x with
 |none=>cases h
 |some y=>cases h;rfl
def qAZ{x:CK DV}{H H':CW}{v:PV}(h:qeC x H=some (v,H')):H'=H:=by
 cases x with
 |none=>cases h
 |some y=>cases h;rfl
def qOY{ρ:Ab->PV}{op:IOp}(hs:rdS op=true)(hn:qg3 H=true){v:PV}{H':CW}(h:qaa E ρ H id op=some (v,H')):H'=H:=by
 cases op with
 |call m f as0=>
  match m with
  |0=>
   simp only[qaa]at h;split at h
   ·split at h
    ·simp only[zzb,zzc]at h;rw[<-h.2,qya hn];split<;>rfl
    ·cases h
   ·cases h
  |m+1=>simp[rdS]at hs
 |mov x=>cases h;rfl
 |pick c a b=>simp only[qaa]at h;split at h<;>first|(cases h;rfl)|cases h
 |load k x=>exact qg6 h
 |bin op x y=>exact qAZ h
 |eqv neg ks x y=>simp only[qaa]at h;split at h<;>first|(cases h;rfl)|cases h
 |eqb neg x y=>simp only[qaa]at h;split at h<;>first|(cases h;rfl)|cases h
 |BJ neg kd x=>simp only[qaa]at h;split at h<;>first|(cases h;rfl)|cases h
 |un op x=>exact qAZ h
 |conv k x=>simp only[qaa]at h;split at h<;>first|(cases h;rfl)|cases h
 |slS x lo hi=>simp only[qaa]at h; (repeat' split at h)<;>first|(cases h;rfl)|cases h
 |sl k x lo hi mx=>exact qg6 h
 |Bo o x=>exact qg6 h
 |field o k x=>exact qg6 h
 |AJ k x i=>exact qg6 h
 |BM n k x i=>simp only[qaa]at h; (repeat' split at h)<;>first|exact qg6 h|cases h
 |idxS x i=>simp only[qaa]at h; (repeat' split at h)<;>first|(cases h;rfl)|cases h
 |idxA n k x i=>simp only[qaa]at h; (repeat' split at h)<;>first|exact qg6 h|cases h
 |len s x=>simp only[qaa]at h;split at h<;>first|(cases h;rfl)|cases h
 |ext x i=>simp only[qaa]at h;split at h<;>first|exact qg6 h|cases h
 |BR x=>simp only[qaa]at h;split at h<;>first|(cases h;rfl)|cases h
 |minmax m as0=>simp only[qaa]at h;split at h<;>first|exact qg6 h|cases h
 |_=>simp[rdS]at hs
def qBD{op:IOp}(hs:rdS op=true)(ρ:Ab->PV):op.adds=false/\op.okD ρ=true/\qaP ρ op=[]:=by
 cases op with
 |call m f as0=>
  match m with
  |0=>exact⟨rfl,rfl,rfl⟩
  |m+1=>simp[rdS]at hs
 |_=>first|exact⟨rfl,rfl,rfl⟩|simp[rdS]at hs
def qw0(H:CW):∀l,chg H H l=[]
 |[]=>rfl
 |o::r=>by simp only[chg,Nat.beq_refl,if_true];exact qw0 H r
def qtL(b:Nat)(t:CF):∀(acc:CL (CF×CF)) (i:Nat),(∀x∈acc,x.2=[])->qaM b i acc t []=true
 |[],_,_=>rfl
 |x::r,i,h=>by simp only[qaM,qtL b t r (i+1) (λy hy=>h y (zzi _ hy)),h x (zzr ..),Bool.and_true];simp[qaX]
def qe4(dst:CK Nat)(fr:Fr)(v:PV):Fr:=match dst with|some t=>fr.set t v|none=>fr
def qse:∀(ops:CL Ap) (bf:CF) (acc:CL (CF×CF)) (id:Nat) (fr:Fr) (H:CW),(ops.all λo=>rdS o.op)=true->qg3 H=true->(∀x∈acc,x.2=[])->qbW E ops bf acc id ⟨fr,H⟩=qaF E ops id ⟨fr,H⟩
 |[],_,_,_,_,_,_,_,_=>rfl
 |o::r,bf,acc,id,fr,H,ho,hn,ha=>by
  simp only[List.all_cons,zzf]at ho;obtain⟨h1,h2,h3⟩:=qBD ho.1 (rd E fr);have hid:(if o.op.adds=true then id+1 else id)=id:=by rw[h1];rfl
  have ha':∀(t:CF),∀x∈acc++[(t,([]:CF))],x.2=[]:=λt x hx=>by
   rcases zzB.1 hx with h|h
   ·exact ha x h
   ·rw[zzH.1 h]
  have step:∀(v:PV) (H':CW),qaa E (rd E fr) H id o.op=some (v,H')->∀fr',qbW E r bf.tail (acc++[(Ar E o id ⟨fr,H⟩ ⟨fr',H'⟩++Az E o ⟨fr,H⟩,Ar E o id ⟨fr,H⟩ ⟨fr',H'⟩)]) id ⟨fr',H'⟩=qaF E r id ⟨fr',H'⟩/\qaM (bf.headD 0) 0 acc (Ar E o id ⟨fr,H⟩ ⟨fr',H'⟩++Az E o ⟨fr,H⟩) (Ar E o id ⟨fr,H⟩ ⟨fr',H'⟩)=true:=by
   intro v H' he fr';have:=qOY ho.1 hn he;subst this;have hw:Ar E o id ⟨fr,H'⟩ ⟨fr',H'⟩=[]:=by
    unfold Ar;split
    ·simp[h1,h3,qw0]
    ·rfl
   rw[hw];exact⟨qse r _ _ id fr' H' ho.2 hn (ha' _),qtL _ _ _ _ ha⟩
  have skip:runs o fr=false->∀fr',qbW E r bf.tail (acc++[(Ar E o id ⟨fr,H⟩ ⟨fr',H⟩++Az E o ⟨fr,H⟩,Ar E o id ⟨fr,H⟩ ⟨fr',H⟩)]) id ⟨fr',H⟩=qaF E r id ⟨fr',H⟩/\qaM (bf.headD 0) 0 acc (Ar E o id ⟨fr,H⟩ ⟨fr',H⟩++Az E o ⟨fr,H⟩) (Ar E o id ⟨fr,H⟩ ⟨fr',H⟩)=true:=by
   intro hr fr';have hw:Ar E o id ⟨fr,H⟩ ⟨fr',H⟩=[]:=by unfold Ar;rw[hr];rfl
   rw[hw];exact⟨qse r _ _ id fr' H ho.2 hn (ha' _),qtL _ _ _ _ ha⟩
  obtain⟨dst,op,g⟩:=o;simp only at h1 h2 h3 hid;have go:(match (match qaq E (rd E fr) H id op with|some (v,H')=>some (⟨qe4 dst fr v,H'⟩:St)|none=>none)with
    |some s'=>if qaM (bf.headD 0) 0 acc (Ar E ⟨dst,op,g⟩ id ⟨fr,H⟩ s'++Az E ⟨dst,op,g⟩ ⟨fr,H⟩) (Ar E ⟨dst,op,g⟩ id ⟨fr,H⟩ s')=true then qbW E r bf.tail (acc++[(Ar E ⟨dst,op,g⟩ id ⟨fr,H⟩ s'++Az E ⟨dst,op,g⟩ ⟨fr,H⟩,Ar E ⟨dst,op,g⟩ id ⟨fr,H⟩ s')]) id s' else none
    |none=>none)=match qaa E (rd E fr) H id op with|some (v,H')=>qaF E r id ⟨qe4 dst fr v,H'⟩|none=>none:=by
   simp only[qaq,h2,if_true];cases he:qaa E (rd E fr) H id op with
   |none=>rfl
   |some x=>obtain⟨v,H'⟩:=x;obtain⟨q1,q2⟩:=step v H' he (qe4 dst fr v);simp only[q2,if_true,q1]
  have no:runs ⟨dst,op,g⟩ fr=false->(if qaM (bf.headD 0) 0 acc (Ar E ⟨dst,op,g⟩ id ⟨fr,H⟩ ⟨qe4 dst fr (.t []),H⟩++Az E ⟨dst,op,g⟩ ⟨fr,H⟩) (Ar E ⟨dst,op,g⟩ id ⟨fr,H⟩ ⟨qe4 dst fr (.t []),H⟩)=true then qbW E r bf.tail (acc++[(Ar E ⟨dst,op,g⟩ id ⟨fr,H⟩ ⟨qe4 dst fr (.t []),H⟩++Az E ⟨dst,op,g⟩ ⟨fr,H⟩,Ar E ⟨dst,op,g⟩ id ⟨fr,H⟩ ⟨qe4 dst fr (.t []),H⟩)]) id ⟨qe4 dst fr (.t []),H⟩else none)=qaF E r id ⟨qe4 dst fr (.t []),H⟩:=by intro hr;obtain⟨q1,q2⟩:=skip hr (qe4 dst fr (.t []));simp only[q2,if_true,q1]
  simp only[qbW,Bi,qaF,hid];cases g with
  |none=>exact go
  |some g=>
   obtain⟨t,w⟩:=g;simp only;cases hg:fr.get t with
   |d v=>
    cases v with
    |b b=>
     simp only;by_cases hb:(b==w)=true
     ·simp only[hb,if_true];exact go
     ·have hb':(b==w)=false:=by simpa using hb
      simp only[hb',zzg,if_false];exact no (by simp[runs,hg,hb'])
    |_=>rfl
   |t vs=>
    cases vs with
    |nil=>simp only;exact no (by simp[runs,hg])
    |cons=>rfl
   |_=>rfl
def qkQ{base:Nat}{k:KC R}{ops:CL Ap}{kill:CF}(ho:(ops.all λo=>rdS o.op)=true)(hn:qg3 H=true):kC E base fr H (.h (.Ba ops bf kill,k))=kO E H.length fr H (.h (ops,rgK kill k)):=by
 have hz:qar ops=0:=by
  clear hn;induction ops with
  |nil=>rfl
  |cons o r ih=>simp only[List.all_cons,zzf]at ho;simp only[qar,(qBD ho.1 (λ_=>.u)).1,ih ho.2];rfl
 simp only[kC,qag,qdq,kO,hz,List.replicate_zero,List.append_nil];rw[qse ops bf [] H.length fr H ho hn (λx hx=>by cases hx)];cases qaF E ops H.length ⟨fr,H⟩<;>rfl
def qgJ{base:Nat}{k:KC R}{ops:CL Ap}{kill:CF}(ho:(ops.all λo=>rdS o.op)=true):kC E base fr [] (.h (.Ba ops bf kill,k))=kO E 0 fr [] (.h (ops,rgK kill k)):=qkQ ho rfl
def qgK{base:Nat}{k:KC R}{ops:CL Ap}{kill:CF}{k0:K}{v0:PV}(ho:(ops.all λo=>rdS o.op)=true):kC E base fr [some (.box k0 v0)] (.h (.Ba ops bf kill,k))=kO E 1 fr [some (.box k0 v0)] (.h (ops,rgK kill k)):=qkQ ho rfl
def qgL{base:Nat}{k:KC R}{ops:CL Ap}{kill:CF}{k0 k1:K}{v0 v1:PV}(ho:(ops.all λo=>rdS o.op)=true):kC E base fr [some (.box k0 v0),some (.box k1 v1)] (.h (.Ba ops bf kill,k))=kO E 2 fr [some (.box k0 v0),some (.box k1 v1)] (.h (ops,rgK kill k)):=qkQ ho rfl
def qgM{base:Nat}{k:KC R}{ops:CL Ap}{kill:CF}{k0 k1 k2:K}{v0 v1 v2:PV}(ho:(ops.all λo=>rdS o.op)=true):kC E base fr [some (.box k0 v0),some (.box k1 v1),some (.box k2 v2)] (.h (.Ba ops bf kill,k))=kO E 3 fr [some (.box k0 v0),some (.box k1 v1),some (.box k2 v2)] (.h (ops,rgK kill k)):=qkQ ho rfl
def qgN{base:Nat}{k:KC R}{ops:CL Ap}{kill:CF}{k0 k1 k2 k3:K}{v0 v1 v2 v3:PV}(ho:(ops.all λo=>rdS o.op)=true):kC E base fr [some (.box k0 v0),some (.box k1 v1),some (.box k2 v2),some (.box k3 v3)] (.h (.Ba ops bf kill,k))=kO E 4 fr [some (.box k0 v0),some (.box k1 v1),some (.box k2 v2),some (.box k3 v3)] (.h (ops,rgK kill k)):=qkQ ho rfl
def qgO{base:Nat}{k:KC R}{ops:CL Ap}{kill:CF}{k0 k1 k2 k3 k4:K}{v0 v1 v2 v3 v4:PV}(ho:(ops.all λo=>rdS o.op)=true):kC E base fr [some (.box k0 v0),some (.box k1 v1),some (.box k2 v2),some (.box k3 v3),some (.box k4 v4)] (.h (.Ba ops bf kill,k))=kO E 5 fr [some (.box k0 v0),some (.box k1 v1),some (.box k2 v2),some (.box k3 v3),some (.box k4 v4)] (.h (ops,rgK kill k)):=qkQ ho rfl
end
mutual
def qk9(ρ:Nat->CK Nat):∀v:PV,(∀r∈v.refs,ρ r=some r)->v.ren ρ=v
 |.u,_=>rfl
 |.d _,_=>rfl
 |.a cs,h=>by rw[PV.ren,qnE ρ cs (by simpa[PV.refs]using h)]
 |.t cs,h=>by rw[PV.ren,qnE ρ cs (by simpa[PV.refs]using h)]
 |.r o k off len t,h=>by rw[PV.ren,h o (by simp[PV.refs])]
 |.p o i c,h=>by rw[PV.ren,h o (by simp[PV.refs])]
 |.q _ _ _,_=>rfl
 |.f n cs,h=>by rw[PV.ren,qnE ρ cs (by simpa[PV.refs]using h)]
 |.h o,h=>by rw[PV.ren,h o (by simp[PV.refs])]
 |.g v,h=>by rw[PV.ren,qk9 ρ v (by simpa[PV.refs]using h)]
 |.m n cs,h=>by rw[PV.ren,qnE ρ cs (by simpa[PV.refs]using h)]
 |.w t v,h=>by rw[PV.ren,qk9 ρ v (by simpa[PV.refs]using h)]
def qnE(ρ:Nat->CK Nat):∀cs:Cz,(∀r∈PV.Av cs,ρ r=some r)->PV.Bp ρ cs=cs
 |[],_=>rfl
 |v::cs,h=>by simp only[PV.Av,zzB]at h;rw[PV.Bp,qk9 ρ v (λr hr=>h r (.inl hr)),qnE ρ cs (λr hr=>h r (.inr hr))]
end
def qA0{ρ:Nat->CK Nat}{x:CK Obj}(h:∀r∈qaO x,ρ r=some r):x.map (·.ren ρ)=x:=by
 cases x with
 |none=>rfl
 |some y=>
  cases y with
  |box k v=>simp only[Option.map,Obj.ren,qk9 ρ v (by simpa[qaO,Obj.refs]using h)]
  |_=>rfl
def qpj{ρ:Nat->CK Nat}:∀{H:CW},(∀r∈qat H,ρ r=some r)->H.map (·.map (·.ren ρ))=H
 |[],_=>rfl
 |x::H,h=>by simp only[qat,zzB]at h;rw[zzu,qA0 (λr hr=>h r (.inl hr)),qpj (λr hr=>h r (.inr hr))]
def qsp{ρ:Nat->CK Nat}:∀{fr:Fr},(∀r∈qaw fr,ρ r=some r)->Fr.ren ρ fr=fr
 |[],_=>rfl
 | (j,v)::fr,h=>by simp only[qaw,zzB]at h;rw[Fr.ren,qk9 ρ v (λr hr=>h r (.inl hr)),qsp (λr hr=>h r (.inr hr))]
def qub(H:CW)(base:Nat):∀(n:Nat) (acc todo:CF),(∀o∈todo,o<base)->qaH H base n acc todo=acc
 |0,_,_,_=>rfl
 |n+1,acc,[],_=>rfl
 |n+1,acc,o::todo,h=>by rw[qaH,if_pos (h o (zzr ..))];exact qub H base n acc todo λx hx=>h x (zzi _ hx)
def Cl(H:CW):Prop:=∀r∈qat H,r<H.length
def qyd(live:CF){H J:CW}{fr:Fr}(hH:Cl H)(hf:∀r∈qaw (Fr.keep live fr),r<H.length):gc live H.length ⟨fr,H++J⟩=⟨Fr.keep live fr,H⟩:=by
 have ht:(H++J).take H.length=H:=by simp
 have hr:qaH (H++J) H.length 1000 [] (qaw (Fr.keep live fr)++qat H)=[]:=qub _ _ _ _ _ λo ho=>by
  rcases zzB.1 ho with h|h
  ·exact hf o h
  ·exact hH o h
 have hp:∀r,r<H.length->qaJ H.length [] r=some r:=λr h=>by simp[qaJ,h]
 simp only[gc,ht,hr,gcH,List.map_nil,List.append_nil];rw[qsp (λr h=>hp r (hf r h)),qpj (λr h=>hp r (hH r h))]
def qmV(live:CF){H:CW}{fr:Fr}(hH:Cl H)(hf:∀r∈qaw (Fr.keep live fr),r<H.length):gc live H.length ⟨fr,H⟩=⟨Fr.keep live fr,H⟩:=by
 have:=qyd live (J:=[]) hH hf
 rwa [List.append_nil]at this
def qpb{H J:CW}{v:PV}(hH:Cl H)(hf:∀r∈v.refs,r<H.length):gcV H.length v (H++J)=(v,H):=by
 have ht:(H++J).take H.length=H:=by simp
 have hr:qaH (H++J) H.length 1000 [] (v.refs++qat H)=[]:=qub _ _ _ _ _ λo ho=>by
  rcases zzB.1 ho with h|h
  ·exact hf o h
  ·exact hH o h
 have hp:∀r,r<H.length->qaJ H.length [] r=some r:=λr h=>by simp[qaJ,h]
 simp only[gcV,ht,hr,gcH,List.map_nil,List.append_nil];rw[qk9 _ v (λr h=>hp r (hf r h)),qpj (λr h=>hp r (hH r h))]
def qkE{H:CW}{v:PV}(hH:Cl H)(hf:∀r∈v.refs,r<H.length):gcV H.length v H=(v,H):=by
 have:=qpb (J:=[]) hH hf
 rwa [List.append_nil]at this
def qja{H:CW}(hH:Cl H)(J:CW)(v:DV):gcV H.length (.d v) (H++J)=(.d v,H):=qpb hH (by simp[PV.refs])
def qpc{H:CW}(hH:Cl H)(v:DV):gcV H.length (.d v) H=(.d v,H):=qkE hH (by simp[PV.refs])
noncomputable def qeR(E:Env)(rs:CL RV)(base:Nat):KC (PV×CW)
 |.exit _,_,_=>none
 |_,fr,H=>bo (Bj E (qao fr) H) (.h λH=>bo (results fr H rs) (.h λvs=>some (gcV base (qbi vs) H)))
def qdP(T:Tab){f:Nat}{F:PF}(hF:T.F f=some F){args:Cz}{H:CW}(ha:args.length=F.Bn):T.ref f args H=kC T.env H.length (Fr.Aa 0 args) H (.h (F.body,qeR T.env F.results H.length)):=by
 rw[qPb T hF];unfold qbr;rw[if_pos ha];simp only[kC];cases qag T.env lpI H.length F.body ⟨Fr.Aa 0 args,H⟩with
 |none=>rfl
 |some x=>
  obtain⟨e,s⟩:=x;cases e with
  |exit id=>rfl
  |norm=>
   simp only[qeR];cases Bj T.env (qao s.fr) s.H with
   |none=>rfl
   |some H'=>simp only[bo];cases results s.fr H' F.results<;>rfl
  |ret=>
   simp only[qeR];cases Bj T.env (qao s.fr) s.H with
   |none=>rfl
   |some H'=>simp only[bo];cases results s.fr H' F.results<;>rfl
section
variable {E:Env}{rs:CL RV}{base:Nat}{fr:Fr}{H:CW}
def qcW(h:qao fr=[]):qeR E rs base .ret fr H=bo (results fr H rs) (.h λvs=>some (gcV base (qbi vs) H)):=by simp only[qeR,h];rfl
def qF3(h:qao fr=[]):qeR E rs base .norm fr H=bo (results fr H rs) (.h λvs=>some (gcV base (qbi vs) H)):=by simp only[qeR,h];rfl
def qhm(y x:CK Obj)(H:CW):Heap.put (y::H) 0 x=x::H:=rfl
def qhn(y x:CK Obj)(H:CW)(n:Nat):Heap.put (y::H) (n+1) x=y::Heap.put H n x:=rfl
def qnz(H:CW)(J:CW)(x:CK Obj)(i:Nat):Heap.put (H++J) (H.length+i) x=H++Heap.put J i x:=by simp[Heap.put]
def qqf(H:CW)(J:CW)(x:CK Obj):Heap.put (H++J) H.length x=H++Heap.put J 0 x:=qnz H J x 0
def qno(H J:CW)(i:Nat):Heap.obj (H++J) (H.length+i)=Heap.obj J i:=by simp[Heap.obj,List.getElem?_append_right]
def qk3(H J:CW):Heap.obj (H++J) H.length=Heap.obj J 0:=qno H J 0
end
def qfj{R:Type}(n:Nat)(k:KC R)(r:CK R):Prop:=∀fr H,fr.get n=.d (.b false)->qao fr=[]->k .ret fr H=r
def qop{R:Type}{n id:Nat}{k:KC R}{r:CK R}:qfj n (blK id k) r=qfj n k r:=rfl
def qor{R:Type}{n:Nat}{E:Env}{base:Nat}{b:PC}{k:KC R}{r:CK R}:qfj n (sqK E base b k) r=qfj n k r:=rfl
def qoq{n:Nat}{E:Env}:qfj n (fin E [.t n]) (some (.d (.b false),false))=True:=by refine eq_true ?_;intro fr H h1 h2;rw[qcF h2,qeQ,qeP,h1];rfl
def qqJ:Cl []:=λr h=>by cases h
def qn0(k k':K)(v w:DV):Cl [some (.box k (.d v)),some (.box k' (.d w))]:=λr h=>by simp[qat,qaO,Obj.refs,PV.refs]at h
section
variable {R:Type}{E:Env}{ρ:Ab->PV}{H:CW}{id:Nat}{q:PV->CW->CK R}
def qsd(neg:CO)(x y:PV){q:PV->CK R}(_:Hd q):CK R:=match x,y with
 |.d (.b a),.d (.b b)=>q (.d (.b (if neg=true then !(a==b)else a==b)))
 |_,_=>none
def qgn(neg a b:CO){q:PV->CK R}:qsd neg (.d (.b a)) (.d (.b b)) (.h q)=q (.d (.b (if neg=true then !(a==b)else a==b))):=rfl
def qft{neg:CO}{x y:Ab}:bo2 (qaa E ρ H id (.eqb neg x y)) (.h q)=qsd neg (ρ x) (ρ y) (.h λv=>q v H):=by
 simp only[qaa,qsd];cases ρ x with
 |d v=>
  cases v with
  |b a=>
   cases ρ y with
   |d w=>cases w<;>rfl
   |_=>rfl
  |_=>rfl
 |_=>rfl
end
section
variable {R α:Type}{E:Env}{fr:Fr}{H:CW}{bf:CF}{acc:CL (CF × CF)}{id:Nat}{j:KO R}
def nfp(x:α){k:α->CK R}(_:Hd k):CK R:=k x
def qbh(x:α)(k:α->CK R):nfp x (.h k)=k x:=rfl
def qa3(bf:CF)(acc:CL (CF×CF))(W T:CF):CO×CL (CF×CF):=(qaM (bf.headD 0) 0 acc (W++T) W,acc++[(W++T,W)])
noncomputable def qdm(E:Env)(id:Nat)(fr:Fr)(H:CW)(bf:CF)(acc:CL (CF×CF))(o:Ap)(fr':Fr)(H':CW){r:CL Ap}{j:KO R}(_:Hd (r,j)):CK R:=
 nfp (qa3 bf acc (Ar E o id ⟨fr,H⟩ ⟨fr',H'⟩) (Az E o ⟨fr,H⟩)) (.h λw=>chk (w.1=true) (.h (kD E (nid o.op id) fr' H' bf.tail w.2 (.h (r,j)))))
def qbn:kD E id fr H bf acc (.h ([],j))=j fr H:=rfl
def qkR(o:Ap)(r:CL Ap):kD E id fr H bf acc (.h (o::r,j))=match Bi E o id ⟨fr,H⟩with|some s'=>qdm E id fr H bf acc o s'.fr s'.H (.h (r,j))|none=>none:=by
 simp only[kD,qbW];cases Bi E o id ⟨fr,H⟩with
 |none=>rfl
 |some s'=>
  obtain⟨f,h⟩:=s';by_cases hp:qaM (bf.headD 0) 0 acc (Ar E o id ⟨fr,H⟩ ⟨f,h⟩++Az E o ⟨fr,H⟩) (Ar E o id ⟨fr,H⟩ ⟨f,h⟩)=true
  ·simp only[qdm,nfp,qa3,chk,nid,hp,if_true,kD]
  ·simp only[qdm,nfp,qa3,chk,hp,if_false,zzg]
def qbg{d:Nat}{op:IOp}{r:CL Ap}:kD E id fr H bf acc (.h (⟨some d,op,none⟩::r,j))=bo2 (qaq E (rd E fr) H id op) (.h λv H'=>qdm E id fr H bf acc ⟨some d,op,none⟩ (fr.set d v) H' (.h (r,j))):=by rw[qkR];simp only[Bi,bo2];cases qaq E (rd E fr) H id op<;>rfl
def qbz{op:IOp}{r:CL Ap}:kD E id fr H bf acc (.h (⟨none,op,none⟩::r,j))=bo2 (qaq E (rd E fr) H id op) (.h λ_ H'=>qdm E id fr H bf acc ⟨none,op,none⟩ fr H' (.h (r,j))):=by rw[qkR];simp only[Bi,bo2];cases qaq E (rd E fr) H id op<;>rfl
def qbp{d t:Nat}{w:CO}{op:IOp}{r:CL Ap}:kD E id fr H bf acc (.h (⟨some d,op,some (t,w)⟩::r,j)) =
  grd (fr.get t) w (.h (bo2 (qaq E (rd E (fr.fix t w)) H id op) (.h λv H'=>qdm E id (fr.fix t w) H bf acc ⟨some d,op,some (t,w)⟩ ((fr.fix t w).set d v) H' (.h (r,j))),qdm E id (fr.fix t (!w)) H bf acc ⟨some d,op,some (t,w)⟩ ((fr.fix t (!w)).set d (.t [])) H (.h (r,j)),qdm E id fr H bf acc ⟨some d,op,some (t,w)⟩ (fr.set d (.t [])) H (.h (r,j)))):=by
 rw[qkR];simp only[Bi];cases h:fr.get t with
 |d v=>
  cases v with
  |b b=>
   by_cases hb:b=w
   ·subst hb;rw[qex h];simp only[grd,beq_self_eq_true,if_true,bo2];cases qaq E (rd E fr) H id op<;>rfl
   ·have e:(b==w)=false:=by simpa using hb
    have e2:b=!w:=by cases b<;>cases w<;>simp_all
    have hf:fr.fix t (!w)=fr:=qex (by rw[h,e2]);simp only[grd,e,if_neg hb,zzg,if_false,hf]
  |_=>rfl
 |t vs=>cases vs<;>rfl
 |_=>rfl
def qbJ{t:Nat}{w:CO}{op:IOp}{r:CL Ap}:kD E id fr H bf acc (.h (⟨none,op,some (t,w)⟩::r,j)) =
  grd (fr.get t) w (.h (bo2 (qaq E (rd E (fr.fix t w)) H id op) (.h λ_ H'=>qdm E id (fr.fix t w) H bf acc ⟨none,op,some (t,w)⟩ (fr.fix t w) H' (.h (r,j))),qdm E id (fr.fix t (!w)) H bf acc ⟨none,op,some (t,w)⟩ (fr.fix t (!w)) H (.h (r,j)),qdm E id fr H bf acc ⟨none,op,some (t,w)⟩ fr H (.h (r,j)))):=by
 rw[qkR];simp only[Bi];cases h:fr.get t with
 |d v=>
  cases v with
  |b b=>
   by_cases hb:b=w
   ·subst hb;rw[qex h];simp only[grd,beq_self_eq_true,if_true,bo2];cases qaq E (rd E fr) H id op<;>rfl
   ·have e:(b==w)=false:=by simpa using hb
    have e2:b=!w:=by cases b<;>cases w<;>simp_all
    have hf:fr.fix t (!w)=fr:=qex (by rw[h,e2]);simp only[grd,e,if_neg hb,zzg,if_false,hf]
  |_=>rfl
 |t vs=>cases vs<;>rfl
 |_=>rfl
def qbd{o:Ap}{fr':Fr}{H':CW}{r:CL Ap}:qdm E id fr H bf acc o fr' H' (.h (r,j))=nfp (qa3 bf acc (Ar E o id ⟨fr,H⟩ ⟨fr',H'⟩) (Az E o ⟨fr,H⟩)) (.h λw=>chk (w.1=true) (.h (kD E (nid o.op id) fr' H' bf.tail w.2 (.h (r,j))))):=rfl
def qFT{ρ:Ab->PV}{x:IOp}(h:x.okD ρ=true):qaq E ρ H id x=qaa E ρ H id x:=by simp[qaq,h]
def qEC{ρ:Ab->PV}{x:IOp}{k:PV->CW->CK R}(h:x.okD ρ=true):bo2 (qaq E ρ H id x) (.h k)=bo2 (qaa E ρ H id x) (.h k):=by rw[qFT h]
def qbf{ρ:Ab->PV}{k:PV->CW->CK R}{x:Ab}:bo2 (qaq E ρ H id (.mov x)) (.h k)=bo2 (qaa E ρ H id (.mov x)) (.h k):=rfl
def qbw{ρ:Ab->PV}{k:PV->CW->CK R}{cx a b:Ab}:bo2 (qaq E ρ H id (.pick cx a b)) (.h k)=bo2 (qaa E ρ H id (.pick cx a b)) (.h k):=rfl
def qbA{ρ:Ab->PV}{k:PV->CW->CK R}{kx:Sim.K}{z:DV}:bo2 (qaq E ρ H id (.alloc kx z)) (.h k)=bo2 (qaa E ρ H id (.alloc kx z)) (.h k):=rfl
def qbB{ρ:Ab->PV}{k:PV->CW->CK R}{kx:Sim.K}{x:Ab}:bo2 (qaq E ρ H id (.box kx x)) (.h k)=bo2 (qaa E ρ H id (.box kx x)) (.h k):=rfl
def qbu{ρ:Ab->PV}{k:PV->CW->CK R}{z:Cy}{parts:CL (Nat×Sim.K×Ab)}:bo2 (qaq E ρ H id (.agg z parts)) (.h k)=bo2 (qaa E ρ H id (.agg z parts)) (.h k):=rfl
def qbv{ρ:Ab->PV}{k:PV->CW->CK R}{kx:Sim.K}{z:DV}{len:Nat}{parts:CL (Nat×Ab)}:bo2 (qaq E ρ H id (.bsl kx z len parts)) (.h k)=bo2 (qaa E ρ H id (.bsl kx z len parts)) (.h k):=rfl
def qbe{ρ:Ab->PV}{k:PV->CW->CK R}{kx:Sim.K}{x:Ab}:bo2 (qaq E ρ H id (.load kx x)) (.h k)=bo2 (qaa E ρ H id (.load kx x)) (.h k):=rfl
def qby{ρ:Ab->PV}{k:PV->CW->CK R}{kx:Sim.K}{x y:Ab}:bo2 (qaq E ρ H id (.store kx x y)) (.h k)=bo2 (qaa E ρ H id (.store kx x y)) (.h k):=rfl
def qbj{ρ:Ab->PV}{k:PV->CW->CK R}{op:BinOp}{x y:Ab}:bo2 (qaq E ρ H id (.bin op x y)) (.h k)=bo2 (qaa E ρ H id (.bin op x y)) (.h k):=rfl
def qbR{ρ:Ab->PV}{k:PV->CW->CK R}{neg:CO}{ks:CF}{x y:Ab}:bo2 (qaq E ρ H id (.eqv neg ks x y)) (.h k)=bo2 (qaa E ρ H id (.eqv neg ks x y)) (.h k):=rfl
def qbQ{ρ:Ab->PV}{k:PV->CW->CK R}{neg:CO}{x y:Ab}:bo2 (qaq E ρ H id (.eqb neg x y)) (.h k)=bo2 (qaa E ρ H id (.eqb neg x y)) (.h k):=rfl
def qdZ{ρ:Ab->PV}{k:PV->CW->CK R}{neg:CO}{kd:Nat}{x:Ab}:bo2 (qaq E ρ H id (.BJ neg kd x)) (.h k)=bo2 (qaa E ρ H id (.BJ neg kd x)) (.h k):=rfl
def qbH{ρ:Ab->PV}{k:PV->CW->CK R}{op:UnOp}{x:Ab}:bo2 (qaq E ρ H id (.un op x)) (.h k)=bo2 (qaa E ρ H id (.un op x)) (.h k):=rfl
def qbE{ρ:Ab->PV}{k:PV->CW->CK R}{kx:IntKind}{x:Ab}:bo2 (qaq E ρ H id (.conv kx x)) (.h k)=bo2 (qaa E ρ H id (.conv kx x)) (.h k):=rfl
def qd8{ρ:Ab->PV}{k:PV->CW->CK R}{x:Ab}{lo hi:CK Ab}:bo2 (qaq E ρ H id (.slS x lo hi)) (.h k)=bo2 (qaa E ρ H id (.slS x lo hi)) (.h k):=rfl
def qd7{ρ:Ab->PV}{k:PV->CW->CK R}{kx:Sim.K}{x:Ab}{lo hi mx:CK Ab}:bo2 (qaq E ρ H id (.sl kx x lo hi mx)) (.h k)=bo2 (qaa E ρ H id (.sl kx x lo hi mx)) (.h k):=rfl
def qbl{ρ:Ab->PV}{k:PV->CW->CK R}{off:Nat}{x:Ab}:bo2 (qaq E ρ H id (.Bo off x)) (.h k)=bo2 (qaa E ρ H id (.Bo off x)) (.h k):=rfl
def qdV{ρ:Ab->PV}{k:PV->CW->CK R}{off:Nat}{kx:Sim.K}{x:Ab}:bo2 (qaq E ρ H id (.field off kx x)) (.h k)=bo2 (qaa E ρ H id (.field off kx x)) (.h k):=rfl
def qb2{ρ:Ab->PV}{k:PV->CW->CK R}{kx:Sim.K}{x i:Ab}:bo2 (qaq E ρ H id (.AJ kx x i)) (.h k)=bo2 (qaa E ρ H id (.AJ kx x i)) (.h k):=rfl
def qdW{ρ:Ab->PV}{k:PV->CW->CK R}{len:Nat}{kx:Sim.K}{x i:Ab}:bo2 (qaq E ρ H id (.BM len kx x i)) (.h k)=bo2 (qaa E ρ H id (.BM len kx x i)) (.h k):=rfl
def qdY{ρ:Ab->PV}{k:PV->CW->CK R}{x i:Ab}:bo2 (qaq E ρ H id (.idxS x i)) (.h k)=bo2 (qaa E ρ H id (.idxS x i)) (.h k):=rfl
def qdX{ρ:Ab->PV}{k:PV->CW->CK R}{len:Nat}{kx:Sim.K}{x i:Ab}:bo2 (qaq E ρ H id (.idxA len kx x i)) (.h k)=bo2 (qaa E ρ H id (.idxA len kx x i)) (.h k):=rfl
def qbG{ρ:Ab->PV}{k:PV->CW->CK R}{str:CO}{x:Ab}:bo2 (qaq E ρ H id (.len str x)) (.h k)=bo2 (qaa E ρ H id (.len str x)) (.h k):=rfl
def qbF{ρ:Ab->PV}{k:PV->CW->CK R}{x:Ab}{i:Nat}:bo2 (qaq E ρ H id (.ext x i)) (.h k)=bo2 (qaa E ρ H id (.ext x i)) (.h k):=rfl
def qd1{ρ:Ab->PV}{k:PV->CW->CK R}{f:Nat}{caps:CL Ab}:bo2 (qaq E ρ H id (.mkf f caps)) (.h k)=bo2 (qaa E ρ H id (.mkf f caps)) (.h k):=rfl
def qd3{ρ:Ab->PV}{k:PV->CW->CK R}{f:Nat}{caps:CL Ab}:bo2 (qaq E ρ H id (.mkm f caps)) (.h k)=bo2 (qaa E ρ H id (.mkm f caps)) (.h k):=rfl
def qd6{ρ:Ab->PV}{k:PV->CW->CK R}{p:Nat}{args:CL Ab}:bo2 (qaq E ρ H id (.prim p args)) (.h k)=bo2 (qaa E ρ H id (.prim p args)) (.h k):=rfl
def qd5{ρ:Ab->PV}{k:PV->CW->CK R}{x:Ab}:bo2 (qaq E ρ H id (.BR x)) (.h k)=bo2 (qaa E ρ H id (.BR x)) (.h k):=rfl
def qd4{ρ:Ab->PV}{k:PV->CW->CK R}{kx:Sim.K}{bytes:Nat}{z:DV}{len cap:Ab}:bo2 (qaq E ρ H id (.mksl kx bytes z len cap)) (.h k)=bo2 (qaa E ρ H id (.mksl kx bytes z len cap)) (.h k):=rfl
def qd0{ρ:Ab->PV}{k:PV->CW->CK R}{mx:CO}{args:CL Ab}:bo2 (qaq E ρ H id (.minmax mx args)) (.h k)=bo2 (qaa E ρ H id (.minmax mx args)) (.h k):=rfl
def qd2{ρ:Ab->PV}{k:PV->CW->CK R}{t:Nat}{x:Ab}:bo2 (qaq E ρ H id (.mkif t x)) (.h k)=bo2 (qaa E ρ H id (.mkif t x)) (.h k):=rfl
def qd9{ρ:Ab->PV}{k:PV->CW->CK R}{t:Nat}{z:DV}{ok:CO}{x:Ab}:bo2 (qaq E ρ H id (.tas t z ok x)) (.h k)=bo2 (qaa E ρ H id (.tas t z ok x)) (.h k):=rfl
def qbC{ρ:Ab->PV}{k:PV->CW->CK R}{f:Nat}{args:CL Ab}:bo2 (qaq E ρ H id (.call 0 f args)) (.h k)=bo2 (qaa E ρ H id (.call 0 f args)) (.h k):=rfl
def qbD{ρ:Ab->PV}{k:PV->CW->CK R}{f:Nat}{args:CL Ab}:bo2 (qaq E ρ H id (.call 1 f args)) (.h k)=bo2 (qaa E ρ H id (.call 1 f args)) (.h k):=rfl
end
def qgq(k:IntKind)(n:Int):fits none (.d (.i k n))=true:=rfl
def qhZ(b:CO):fits none (.d (.b b))=true:=rfl
def qh0(l:CB):fits none (.d (.s l))=true:=rfl
def qds(k:K)(l:Cy)(t:CO):fits none (.d (.l k l t))=true:=rfl
def qbL(n:Nat)(l:Cy):fits (some n) (.d (.a l))=(l.length==n):=rfl
def qif{H:CW}{vs:Cz}:AC H (.t vs)=match qaN H vs with|some (xs,_)=>some (.t (xs.map .d),false)|none=>none:=rfl
def qia(j:Nat):((j:Int)<0)=False:=by simp
section
variable {R:Type}{E:Env}{ρ:Ab->PV}{H:CW}{id:Nat}{q:PV->CW->CK R}
def qtO:∀z:Cy,qac (z.map .d)=some z
 |[]=>rfl
 |x::z=>by simp[qac,qtO z]
def qeL{z:Cy}:bo2 (qaa E ρ H id (.agg z [])) (.h q)=q (.d (.a z)) H:=by simp only[qaa,List.map_nil,qcl,mkA,qtO];rfl
end
section
variable {R:Type}{E:Env}{ρ:Ab->PV}{H:CW}{id:Nat}{q:PV->CW->CK R}{k:K}{b:Nat}
def qjz(v:DV):pur H (.d v)=some (v,[]):=rfl
def qi8:frz H []=H:=rfl
def qiM{z:DV}:bo2 (qaa E ρ H id (.bsl k z 0 [])) (.h q)=q (.r id k 0 0 true) (H.put id (some (.sl k 0 []))):=rfl
def qiN{z:DV}{r:Ab}:bo2 (qaa E ρ H id (.bsl k z 1 [(0,r)])) (.h q)=chk (fits k (ρ r)=true) (.h (bo (pur H (ρ r)) (.h λp=>q (.r id k 0 1 true) ((frz H p.2).put id (some (.sl k 0 [p.1])))))):=by
 simp only[qaa,zzu,List.map_nil,qbN,chk];by_cases h:fits k (ρ r)=true
 ·simp only[h,if_true,Bool.true_and];cases pur H (ρ r)with
  |none=>simp[bo,bo2]
  |some p=>obtain⟨x,os⟩:=p;simp[bo,bo2]
 ·simp[h,bo2]
def qc6(H:CW)(id:Nat)(k:K)(bytes:Nat)(x:PV)(ys:Cy):CJ:=qcb H id k bytes x (.d (.l k ys true))
def qiK{x:PV}{k':K}{ys:Cy}{t:CO}:bo2 (qcb H id k b x (.d (.l k' ys t))) (.h q)=chk ((K.eq k k'||ys.isEmpty)=true) (.h (bo2 (qc6 H id k b x ys) (.h q))):=by
 simp only[qcb,qc6,qbb,chk,qcD,Bool.true_or,if_true];by_cases h:(K.eq k k'||ys.isEmpty)=true
 ·simp only[h,if_true]
 ·simp only[h,if_false,zzg];rfl
def qiL{x:PV}{o off len:Nat}{k':K}{t:CO}:bo2 (qcb H id k b x (.r o k' off len t)) (.h q)=match H.obj o with|some (.sl k'' _ es)=>chk ((K.eq k k'&&K.eq k k''&&decide (off+len<=es.length))=true) (.h (bo2 (qc6 H id k b x ((es.drop off).take len)) (.h q)))|_=>none:=by
 simp only[qcb,qc6,qbb];cases H.obj o with
 |none=>rfl
 |some y=>
  cases y with
  |sl k'' ro es=>
   simp only[chk];by_cases h:(K.eq k k'&&K.eq k k''&&decide (off+len<=es.length))=true
   ·simp only[h,if_true,qcD,Bool.true_or]
   ·simp only[h,if_false,zzg];rfl
  |_=>rfl
def qiI{k':K}{ys:Cy}:bo2 (qc6 H id k b (.d (.l k' [] true)) ys) (.h q)=chk (ys.length*b<=2^47) (.h (q (.r id k 0 ys.length false) (H.put id (some (.sl k 0 ys))))):=by
 simp only[qc6,qcb,qbb,qcD,Bool.true_or,if_true,chk,List.length_nil,Nat.zero_add];by_cases h:ys.length*b<=2^47
 ·simp only[h,if_true];rfl
 ·simp only[h,if_false];rfl
def qhS{o off len:Nat}{k':K}{t:CO}{y:DV}{ys:Cy}:bo2 (qc6 H id k b (.r o k' off len t) (y::ys)) (.h q)=match H.obj o with
  |some (.sl k'' ro es)=>chk ((K.eq k k'&&K.eq k k''&&decide (off+len<=es.length)&&decide ((len+(ys.length+1))*b<=2^47))=true) (.h (brn t (.h (q (.r id k 0 (len+(ys.length+1)) false) (H.put id (some (.sl k 0 ((es.drop off).take len++y::ys)))),chk (ro<=off+len) (.h (q (.r id k 0 (len+(ys.length+1)) false) ((H.put o none).put id (some (.sl k (ro-off) ((es.drop off).take len++y::ys))))))))))
  |_=>none:=by
 simp only[qc6,qcb,qbb,qcD,Bool.true_or,if_true,zzn];cases H.obj o with
 |none=>rfl
 |some w=>
  cases w with
  |sl k'' ro es=>
   simp only[chk];by_cases h:(K.eq k k'&&K.eq k k''&&decide (off+len<=es.length)&&decide ((len+(ys.length+1))*b<=2^47))=true
   ·simp only[h,if_true];cases t with
    |true=>rfl
    |false=>
     simp only[zzg,if_false,brn];by_cases g:ro<=off+len
     ·simp only[g,if_true];rfl
     ·simp only[g,if_false];rfl
   ·simp only[h,if_false,zzg];rfl
  |_=>rfl
def qty(t:Nat)(x:PV)(H:CW){q:PV->CW->CK R}(_:Hd q):CK R:=match pur H x with
 |some (v,os)=>q (.d (.ifc t v)) (frz H os)
 |none=>q (.w t x) H
def qjq{t:Nat}{v:DV}:qty t (.d v) H (.h q)=q (.d (.ifc t v)) H:=rfl
def qiO{t:Nat}{x:Ab}:bo2 (qaa E ρ H id (.mkif t x)) (.h q)=qty t (ρ x) H (.h q):=by
 simp only[qaa,qty];cases pur H (ρ x)with
 |none=>rfl
 |some p=>rfl
def qvl(t:Nat)(z:DV)(ok:CO)(x:PV){q:PV->CK R}(_:Hd q):CK R:=match x with
 |.d (.ifc u v)=>if u=t then q (if ok then .t [.d v,.d (.b true)]else .d v)else if ok then q (.t [.d z,.d (.b false)])else none
 |.w u v=>if u=t then q (if ok then .t [v,.d (.b true)]else v)else if ok then q (.t [.d z,.d (.b false)])else none
 |.d .ni=>if ok then q (.t [.d z,.d (.b false)])else none
 |_=>none
def qjG{t u:Nat}{z v:DV}{ok:CO}{q:PV->CK R}:qvl t z ok (.d (.ifc u v)) (.h q)=if u=t then q (if ok then .t [.d v,.d (.b true)]else .d v)else if ok then q (.t [.d z,.d (.b false)])else none:=rfl
def qiP{t:Nat}{z:DV}{ok:CO}{x:Ab}:bo2 (qaa E ρ H id (.tas t z ok x)) (.h q)=qvl t z ok (ρ x) (.h λv=>q v H):=by
 simp only[qaa,qvl];cases ρ x with
 |d v=>
  cases v with
  |ifc u w=>by_cases h:u=t<;>cases ok<;>simp[h,bo2]
  |ni=>cases ok<;>rfl
  |_=>rfl
 |w u v=>by_cases h:u=t<;>cases ok<;>simp[h,bo2]
 |_=>rfl
def qak{z:Cy}{ps:CL (Nat×Sim.K×Ab)}:bo2 (qaa E ρ H id (.agg z ps)) (.h q)=bo (qcl (z.map .d) (ps.map λx=>(x.1,x.2.1,ρ x.2.2))) (.h λcs=>q (mkA cs) H):=by simp only[qaa];cases qcl (z.map .d) (ps.map λx=>(x.1,x.2.1,ρ x.2.2))<;>rfl
def qam{z:Cz}{y:Cz->CK R}:bo (qcl z []) (.h y)=y z:=rfl
def qal{z:Cz}{off:Nat}{v:PV}{k:Sim.K}{r:CL (Nat×Sim.K×PV)}{y:Cz->CK R}:bo (qcl z ((off,k,v)::r)) (.h y)=chk ((fits k v&&decide (off+k.size<=z.length))=true) (.h (bo (qcl (putAt z off v.cells) r) (.h y))):=by simp only[qcl,chk];split<;>simp_all[bo]
def qaj{k:IntKind}{n:Int}:PV.cells (.d (.i k n))=[.d (.i k n)]:=rfl
def qbK{l:CB}:PV.cells (.d (.s l))=[.d (.s l)]:=rfl
def qrJ{k:Sim.K}{l:Cy}{t:CO}:PV.cells (.d (.l k l t))=[.d (.l k l t)]:=rfl
def qai:K.size none=1:=rfl
def qan(n:Nat):K.size (some n)=n:=rfl
def qkq{mx:CO}{x y:Ab}:bo2 (qaa E ρ H id (.minmax mx [x,y])) (.h q)=bo (mm2 mx (ρ x) (ρ y)) (.h λv=>q v H):=by simp only[qaa,zzu,List.map_nil,mmA];cases mm2 mx (ρ x) (ρ y)<;>rfl
def qfW{k:IntKind}{a b:Int}{y:PV->CK R}:bo (mm2 true (.d (.i k a)) (.d (.i k b))) (.h y)=y (.d (.i k (max a b))):=by
 have h:(if b>a then b else a)=max a b:=by rw[Int.max_def];split<;>split<;>omega
 simp only[mm2,if_true,h];rfl
def qjx{t:Nat}{v:DV}:AC H (.d (.ifc t v))=some (.d (.ifc t v),false):=rfl
def qjy{o off len:Nat}{k:K}{t:CO}:AC H (.r o k off len t)=match H.obj o with
  |some (.sl k' ro es)=>if k'=k/\off+len<=es.length then some (.d (.l k ((es.drop off).take len) false),decide (ro<=off))else none
  |_=>none:=rfl
def qiS{o off len:Nat}{k:K}{t:CO}{y:Nat->CK R}:bo (qbZ H false (.r o k off len t)) (.h y)=match H.obj o with
  |some (.sl _ _ es)=>chk (off+len<=es.length) (.h (y len))
  |_=>none:=by
 simp only[qbZ,zzg,if_false];cases H.obj o with
 |none=>rfl
 |some w=>
  cases w with
  |sl k' ro es=>
   simp only[chk];by_cases h:off+len<=es.length
   ·simp only[h,if_true];rfl
   ·simp only[h,if_false];rfl
  |_=>rfl
end
noncomputable def tabT:PT:=
 (.bin 417 qem (.bin 74 F74 (.bin 47 F47 (.bin 42 F42 (.bin 36 F36 (.bin 35 F35 (.bin 31 F31 .nil .nil) .nil) (.bin 37 F37 .nil .nil)) (.bin 45 F45 (.bin 44 F44 (.bin 43 F43 .nil .nil) .nil) (.bin 46 F46 .nil .nil))) (.bin 57 F57 (.bin 55 F55 (.bin 49 F49 (.bin 48 F48 .nil .nil) .nil) (.bin 56 F56 .nil .nil)) (.bin 68 F68 (.bin 58 F58 .nil .nil) (.bin 73 F73 .nil .nil)))) (.bin 408 qhF (.bin 400 F400 (.bin 387 qiu (.bin 291 qjP (.bin 207 qlp .nil .nil) .nil) (.bin 399 qlv .nil .nil)) (.bin 406 F406 (.bin 405 F405 .nil .nil) (.bin 407 qjQ .nil .nil))) (.bin 413 qly (.bin 411 F411 (.bin 410 F410 (.bin 409 qlw .nil .nil) .nil) (.bin 412 qlx .nil .nil)) (.bin 415 qel (.bin 414 qdk .nil .nil) (.bin 416 qjR .nil .nil))))) (.bin 443 qlB (.bin 430 qhG (.bin 424 F424 (.bin 420 F420 (.bin 419 qn2 (.bin 418 qcK .nil .nil) .nil) (.bin 422 F422 .nil .nil)) (.bin 426 qjS (.bin 425 F425 .nil .nil) (.bin 429 qjT .nil .nil))) (.bin 436 qiv (.bin 433 qdB (.bin 432 qjU (.bin 431 qlz .nil .nil) .nil) (.bin 434 qhH .nil .nil)) (.bin 439 qe9 (.bin 437 qlA .nil .nil) (.bin 441 F441 .nil .nil)))) (.bin 947 F947 (.bin 461 qiw (.bin 450 qlD (.bin 449 qlC (.bin 446 F446 .nil .nil) .nil) (.bin 460 qjV .nil .nil)) (.bin 916 qen (.bin 468 qjW .nil .nil) (.bin 946 F946 .nil .nil))) (.bin 996 qj2 (.bin 983 qce (.bin 967 F967 (.bin 966 qc5 .nil .nil) .nil) (.bin 984 qeo .nil .nil)) (.bin 998 qhJ (.bin 997 qj3 .nil .nil) (.bin 999 qeH .nil .nil))))))
def HT(T:Tab):Prop:=∀n F,tabT.get n=some F->T.F n=some F
structure SL (α:Type) where
 l:List α
 t:Bool
structure Be where
 Hi:Int
 Lo:Int
def Be.cells(x:Be):Cy:=[I x.Hi,.i .u64 x.Lo]
def Be.dv(x:Be):DV:=.a [I x.Hi,.i .u64 x.Lo]
@[simp] def Be.fits(x:Be):Sim.fits (K1 2) (.d (Be.dv x))=true:=rfl
@[simp] def Be.AC(x:Be)(H:CW):Sim.AC H (.d (Be.dv x))=some (.d (Be.dv x),false):=rfl
@[simp] def Be.clen(x:Be):(Be.dv x).cells.length=2:=rfl
@[simp] def Be.aof(x:Be):DV.a (Be.cells x)=Be.dv x:=rfl
@[simp] def Be.ccl(x:Be):(Be.cells x).length=2:=rfl
@[simp] def Be.c0(x:Be):(Be.dv x).cells[0]? = some (I x.Hi):=rfl
@[simp] def Be.c1(x:Be):(Be.dv x).cells[1]? = some (.i .u64 x.Lo):=rfl
structure AO where
 Code:List UInt8
 Cm:Int
def AO.cells(x:AO):Cy:=[.s x.Code,I x.Cm]
def AO.dv(x:AO):DV:=.a [.s x.Code,I x.Cm]
@[simp] def AO.fits(x:AO):Sim.fits (K1 2) (.d (AO.dv x))=true:=rfl
@[simp] def AO.AC(x:AO)(H:CW):Sim.AC H (.d (AO.dv x))=some (.d (AO.dv x),false):=rfl
@[simp] def AO.clen(x:AO):(AO.dv x).cells.length=2:=rfl
@[simp] def AO.aof(x:AO):DV.a (AO.cells x)=AO.dv x:=rfl
@[simp] def AO.ccl(x:AO):(AO.cells x).length=2:=rfl
@[simp] def AO.c0(x:AO):(AO.dv x).cells[0]? = some (.s x.Code):=rfl
@[simp] def AO.c1(x:AO):(AO.dv x).cells[1]? = some (I x.Cm):=rfl
structure AV where
 Name:List UInt8
 BS:SL Int
 BV:SL Int
def AV.cells(x:AV):Cy:=[.s x.Name,.l K0 (x.BS.l.map I) x.BS.t,.l K0 (x.BV.l.map I) x.BV.t]
def AV.dv(x:AV):DV:=.a [.s x.Name,.l K0 (x.BS.l.map I) x.BS.t,.l K0 (x.BV.l.map I) x.BV.t]
@[simp] def AV.fits(x:AV):Sim.fits (K1 3) (.d (AV.dv x))=true:=rfl
@[simp] def AV.AC(x:AV)(H:CW):Sim.AC H (.d (AV.dv x))=some (.d (AV.dv x),false):=rfl
@[simp] def AV.clen(x:AV):(AV.dv x).cells.length=3:=rfl
@[simp] def AV.aof(x:AV):DV.a (AV.cells x)=AV.dv x:=rfl
@[simp] def AV.ccl(x:AV):(AV.cells x).length=3:=rfl
@[simp] def AV.c0(x:AV):(AV.dv x).cells[0]? = some (.s x.Name):=rfl
@[simp] def AV.c1(x:AV):(AV.dv x).cells[1]? = some (.l K0 (x.BS.l.map I) x.BS.t):=rfl
@[simp] def AV.c2(x:AV):(AV.dv x).cells[2]? = some (.l K0 (x.BV.l.map I) x.BV.t):=rfl
structure Aq where
 Name:List UInt8
 Typ:Int
def Aq.cells(x:Aq):Cy:=[.s x.Name,I x.Typ]
def Aq.dv(x:Aq):DV:=.a [.s x.Name,I x.Typ]
@[simp] def Aq.fits(x:Aq):Sim.fits (K1 2) (.d (Aq.dv x))=true:=rfl
@[simp] def Aq.AC(x:Aq)(H:CW):Sim.AC H (.d (Aq.dv x))=some (.d (Aq.dv x),false):=rfl
@[simp] def Aq.clen(x:Aq):(Aq.dv x).cells.length=2:=rfl
@[simp] def Aq.aof(x:Aq):DV.a (Aq.cells x)=Aq.dv x:=rfl
@[simp] def Aq.ccl(x:Aq):(Aq.cells x).length=2:=rfl
@[simp] def Aq.c0(x:Aq):(Aq.dv x).cells[0]? = some (.s x.Name):=rfl
@[simp] def Aq.c1(x:Aq):(Aq.dv x).cells[1]? = some (I x.Typ):=rfl
structure Br where
 From:Int
 Ppm:Int
def Br.cells(x:Br):Cy:=[I x.From,I x.Ppm]
def Br.dv(x:Br):DV:=.a [I x.From,I x.Ppm]
structure AX where
 Bt:SL Br
 BX:Bool
 BU:Int
 Mode:Int
 Keep:Bool
def AX.cells(x:AX):Cy:=[.l (K1 2) (x.Bt.l.map Br.dv) x.Bt.t,.b x.BX,I x.BU,I x.Mode,.b x.Keep]
def AX.dv(x:AX):DV:=.a [.l (K1 2) (x.Bt.l.map Br.dv) x.Bt.t,.b x.BX,I x.BU,I x.Mode,.b x.Keep]
@[simp] def AX.fits(x:AX):Sim.fits (K1 5) (.d (AX.dv x))=true:=rfl
@[simp] def AX.AC(x:AX)(H:CW):Sim.AC H (.d (AX.dv x))=some (.d (AX.dv x),false):=rfl
@[simp] def AX.clen(x:AX):(AX.dv x).cells.length=5:=rfl
@[simp] def AX.aof(x:AX):DV.a (AX.cells x)=AX.dv x:=rfl
@[simp] def AX.ccl(x:AX):(AX.cells x).length=5:=rfl
@[simp] def AX.c0(x:AX):(AX.dv x).cells[0]? = some (.l (K1 2) (x.Bt.l.map Br.dv) x.Bt.t):=rfl
@[simp] def AX.c1(x:AX):(AX.dv x).cells[1]? = some (.b x.BX):=rfl
@[simp] def AX.c2(x:AX):(AX.dv x).cells[2]? = some (I x.BU):=rfl
@[simp] def AX.c3(x:AX):(AX.dv x).cells[3]? = some (I x.Mode):=rfl
@[simp] def AX.c4(x:AX):(AX.dv x).cells[4]? = some (.b x.Keep):=rfl
structure Ae where
 (Op N:Int)
 S:List UInt8
 AR:SL DV
def Ae.cells(x:Ae):Cy:=[I x.Op,I x.N,.s x.S,.l (K1 4) x.AR.l x.AR.t]
def Ae.dv(x:Ae):DV:=.a [I x.Op,I x.N,.s x.S,.l (K1 4) x.AR.l x.AR.t]
@[simp] def Ae.fits(x:Ae):Sim.fits (K1 4) (.d (Ae.dv x))=true:=rfl
@[simp] def Ae.AC(x:Ae)(H:CW):Sim.AC H (.d (Ae.dv x))=some (.d (Ae.dv x),false):=rfl
@[simp] def Ae.clen(x:Ae):(Ae.dv x).cells.length=4:=rfl
@[simp] def Ae.aof(x:Ae):DV.a (Ae.cells x)=Ae.dv x:=rfl
@[simp] def Ae.ccl(x:Ae):(Ae.cells x).length=4:=rfl
@[simp] def Ae.c0(x:Ae):(Ae.dv x).cells[0]? = some (I x.Op):=rfl
@[simp] def Ae.c1(x:Ae):(Ae.dv x).cells[1]? = some (I x.N):=rfl
@[simp] def Ae.c2(x:Ae):(Ae.dv x).cells[2]? = some (.s x.S):=rfl
@[simp] def Ae.c3(x:Ae):(Ae.dv x).cells[3]? = some (.l (K1 4) x.AR.l x.AR.t):=rfl
structure Ao where
 Name:List UInt8
 Event:Int
 When:Ae
 Amount:Ae
def Ao.cells(x:Ao):Cy:=[.s x.Name,I x.Event,I x.When.Op,I x.When.N,.s x.When.S,.l (K1 4) x.When.AR.l x.When.AR.t,I x.Amount.Op,I x.Amount.N,.s x.Amount.S,.l (K1 4) x.Amount.AR.l x.Amount.AR.t]
def Ao.dv(x:Ao):DV:=.a [.s x.Name,I x.Event,I x.When.Op,I x.When.N,.s x.When.S,.l (K1 4) x.When.AR.l x.When.AR.t,I x.Amount.Op,I x.Amount.N,.s x.Amount.S,.l (K1 4) x.Amount.AR.l x.Amount.AR.t]
@[simp] def Ao.fits(x:Ao):Sim.fits (K1 10) (.d (Ao.dv x))=true:=rfl
@[simp] def Ao.AC(x:Ao)(H:CW):Sim.AC H (.d (Ao.dv x))=some (.d (Ao.dv x),false):=rfl
@[simp] def Ao.clen(x:Ao):(Ao.dv x).cells.length=10:=rfl
@[simp] def Ao.aof(x:Ao):DV.a (Ao.cells x)=Ao.dv x:=rfl
@[simp] def Ao.ccl(x:Ao):(Ao.cells x).length=10:=rfl
@[simp] def Ao.n2_4(x:Ao):((Ao.dv x).cells.drop 2).take 4=Ae.cells x.When:=rfl
@[simp] def Ao.n6_4(x:Ao):((Ao.dv x).cells.drop 6).take 4=Ae.cells x.Amount:=rfl
@[simp] def Ao.c0(x:Ao):(Ao.dv x).cells[0]? = some (.s x.Name):=rfl
@[simp] def Ao.c1(x:Ao):(Ao.dv x).cells[1]? = some (I x.Event):=rfl
@[simp] def Ao.c2(x:Ao):(Ao.dv x).cells[2]? = some (I x.When.Op):=rfl
@[simp] def Ao.c3(x:Ao):(Ao.dv x).cells[3]? = some (I x.When.N):=rfl
@[simp] def Ao.c4(x:Ao):(Ao.dv x).cells[4]? = some (.s x.When.S):=rfl
@[simp] def Ao.c5(x:Ao):(Ao.dv x).cells[5]? = some (.l (K1 4) x.When.AR.l x.When.AR.t):=rfl
@[simp] def Ao.c6(x:Ao):(Ao.dv x).cells[6]? = some (I x.Amount.Op):=rfl
@[simp] def Ao.c7(x:Ao):(Ao.dv x).cells[7]? = some (I x.Amount.N):=rfl
@[simp] def Ao.c8(x:Ao):(Ao.dv x).cells[8]? = some (.s x.Amount.S):=rfl
@[simp] def Ao.c9(x:Ao):(Ao.dv x).cells[9]? = some (.l (K1 4) x.Amount.AR.l x.Amount.AR.t):=rfl
structure AP where
 Name:List UInt8
 Window:Int
 Amount:Ae
def AP.cells(x:AP):Cy:=[.s x.Name,I x.Window,I x.Amount.Op,I x.Amount.N,.s x.Amount.S,.l (K1 4) x.Amount.AR.l x.Amount.AR.t]
def AP.dv(x:AP):DV:=.a [.s x.Name,I x.Window,I x.Amount.Op,I x.Amount.N,.s x.Amount.S,.l (K1 4) x.Amount.AR.l x.Amount.AR.t]
@[simp] def AP.fits(x:AP):Sim.fits (K1 6) (.d (AP.dv x))=true:=rfl
@[simp] def AP.AC(x:AP)(H:CW):Sim.AC H (.d (AP.dv x))=some (.d (AP.dv x),false):=rfl
@[simp] def AP.clen(x:AP):(AP.dv x).cells.length=6:=rfl
@[simp] def AP.aof(x:AP):DV.a (AP.cells x)=AP.dv x:=rfl
@[simp] def AP.ccl(x:AP):(AP.cells x).length=6:=rfl
@[simp] def AP.n2_4(x:AP):((AP.dv x).cells.drop 2).take 4=Ae.cells x.Amount:=rfl
@[simp] def AP.c0(x:AP):(AP.dv x).cells[0]? = some (.s x.Name):=rfl
@[simp] def AP.c1(x:AP):(AP.dv x).cells[1]? = some (I x.Window):=rfl
@[simp] def AP.c2(x:AP):(AP.dv x).cells[2]? = some (I x.Amount.Op):=rfl
@[simp] def AP.c3(x:AP):(AP.dv x).cells[3]? = some (I x.Amount.N):=rfl
@[simp] def AP.c4(x:AP):(AP.dv x).cells[4]? = some (.s x.Amount.S):=rfl
@[simp] def AP.c5(x:AP):(AP.dv x).cells[5]? = some (.l (K1 4) x.Amount.AR.l x.Amount.AR.t):=rfl
structure Aj where
 Name:List UInt8
 Au:List UInt8
 Cn:List UInt8
 From:Int
 Every:Int
 Cr:Int
 TaxPpm:Int
 Bv:AX
 Bu:AX
 AQ:SL Ao
 BA:SL AP
def Aj.cells(x:Aj):Cy:=[.s x.Name,.s x.Au,.s x.Cn,I x.From,I x.Every,I x.Cr,I x.TaxPpm,.l (K1 2) (x.Bv.Bt.l.map Br.dv) x.Bv.Bt.t,.b x.Bv.BX,I x.Bv.BU,I x.Bv.Mode,.b x.Bv.Keep,.l (K1 2) (x.Bu.Bt.l.map Br.dv) x.Bu.Bt.t,.b x.Bu.BX,I x.Bu.BU,I x.Bu.Mode,.b x.Bu.Keep,.l (K1 10) (x.AQ.l.map Ao.dv) x.AQ.t,.l (K1 6) (x.BA.l.map AP.dv) x.BA.t]
def Aj.dv(x:Aj):DV:=.a [.s x.Name,.s x.Au,.s x.Cn,I x.From,I x.Every,I x.Cr,I x.TaxPpm,.l (K1 2) (x.Bv.Bt.l.map Br.dv) x.Bv.Bt.t,.b x.Bv.BX,I x.Bv.BU,I x.Bv.Mode,.b x.Bv.Keep,.l (K1 2) (x.Bu.Bt.l.map Br.dv) x.Bu.Bt.t,.b x.Bu.BX,I x.Bu.BU,I x.Bu.Mode,.b x.Bu.Keep,.l (K1 10) (x.AQ.l.map Ao.dv) x.AQ.t,.l (K1 6) (x.BA.l.map AP.dv) x.BA.t]
@[simp] def Aj.fits(x:Aj):Sim.fits (K1 19) (.d (Aj.dv x))=true:=rfl
@[simp] def Aj.AC(x:Aj)(H:CW):Sim.AC H (.d (Aj.dv x))=some (.d (Aj.dv x),false):=rfl
@[simp] def Aj.clen(x:Aj):(Aj.dv x).cells.length=19:=rfl
@[simp] def Aj.aof(x:Aj):DV.a (Aj.cells x)=Aj.dv x:=rfl
@[simp] def Aj.ccl(x:Aj):(Aj.cells x).length=19:=rfl
@[simp] def Aj.n7_5(x:Aj):((Aj.dv x).cells.drop 7).take 5=AX.cells x.Bv:=rfl
@[simp] def Aj.n12_5(x:Aj):((Aj.dv x).cells.drop 12).take 5=AX.cells x.Bu:=rfl
@[simp] def Aj.c0(x:Aj):(Aj.dv x).cells[0]? = some (.s x.Name):=rfl
@[simp] def Aj.c1(x:Aj):(Aj.dv x).cells[1]? = some (.s x.Au):=rfl
@[simp] def Aj.c2(x:Aj):(Aj.dv x).cells[2]? = some (.s x.Cn):=rfl
@[simp] def Aj.c3(x:Aj):(Aj.dv x).cells[3]? = some (I x.From):=rfl
@[simp] def Aj.c4(x:Aj):(Aj.dv x).cells[4]? = some (I x.Every):=rfl
@[simp] def Aj.c5(x:Aj):(Aj.dv x).cells[5]? = some (I x.Cr):=rfl
@[simp] def Aj.c6(x:Aj):(Aj.dv x).cells[6]? = some (I x.TaxPpm):=rfl
@[simp] def Aj.c7(x:Aj):(Aj.dv x).cells[7]? = some (.l (K1 2) (x.Bv.Bt.l.map Br.dv) x.Bv.Bt.t):=rfl
@[simp] def Aj.c8(x:Aj):(Aj.dv x).cells[8]? = some (.b x.Bv.BX):=rfl
@[simp] def Aj.c9(x:Aj):(Aj.dv x).cells[9]? = some (I x.Bv.BU):=rfl
@[simp] def Aj.c10(x:Aj):(Aj.dv x).cells[10]? = some (I x.Bv.Mode):=rfl
@[simp] def Aj.c11(x:Aj):(Aj.dv x).cells[11]? = some (.b x.Bv.Keep):=rfl
@[simp] def Aj.c12(x:Aj):(Aj.dv x).cells[12]? = some (.l (K1 2) (x.Bu.Bt.l.map Br.dv) x.Bu.Bt.t):=rfl
@[simp] def Aj.c13(x:Aj):(Aj.dv x).cells[13]? = some (.b x.Bu.BX):=rfl
@[simp] def Aj.c14(x:Aj):(Aj.dv x).cells[14]? = some (I x.Bu.BU):=rfl
@[simp] def Aj.c15(x:Aj):(Aj.dv x).cells[15]? = some (I x.Bu.Mode):=rfl
@[simp] def Aj.c16(x:Aj):(Aj.dv x).cells[16]? = some (.b x.Bu.Keep):=rfl
@[simp] def Aj.c17(x:Aj):(Aj.dv x).cells[17]? = some (.l (K1 10) (x.AQ.l.map Ao.dv) x.AQ.t):=rfl
@[simp] def Aj.c18(x:Aj):(Aj.dv x).cells[18]? = some (.l (K1 6) (x.BA.l.map AP.dv) x.BA.t):=rfl
structure AGl where
 Id:Int
 Ck:Int
 Kind:Int
 Name:List UInt8
def AGl.cells(x:AGl):Cy:=[I x.Id,I x.Ck,I x.Kind,.s x.Name]
def AGl.dv(x:AGl):DV:=.a [I x.Id,I x.Ck,I x.Kind,.s x.Name]
@[simp] def AGl.fits(x:AGl):Sim.fits (K1 4) (.d (AGl.dv x))=true:=rfl
@[simp] def AGl.AC(x:AGl)(H:CW):Sim.AC H (.d (AGl.dv x))=some (.d (AGl.dv x),false):=rfl
@[simp] def AGl.clen(x:AGl):(AGl.dv x).cells.length=4:=rfl
@[simp] def AGl.aof(x:AGl):DV.a (AGl.cells x)=AGl.dv x:=rfl
@[simp] def AGl.ccl(x:AGl):(AGl.cells x).length=4:=rfl
@[simp] def AGl.c0(x:AGl):(AGl.dv x).cells[0]? = some (I x.Id):=rfl
@[simp] def AGl.c1(x:AGl):(AGl.dv x).cells[1]? = some (I x.Ck):=rfl
@[simp] def AGl.c2(x:AGl):(AGl.dv x).cells[2]? = some (I x.Kind):=rfl
@[simp] def AGl.c3(x:AGl):(AGl.dv x).cells[3]? = some (.s x.Name):=rfl
structure Ad where
 AL:Int
 Amount:Int
 Au:List UInt8
def Ad.cells(x:Ad):Cy:=[I x.AL,I x.Amount,.s x.Au]
def Ad.dv(x:Ad):DV:=.a [I x.AL,I x.Amount,.s x.Au]
@[simp] def Ad.fits(x:Ad):Sim.fits (K1 3) (.d (Ad.dv x))=true:=rfl
@[simp] def Ad.AC(x:Ad)(H:CW):Sim.AC H (.d (Ad.dv x))=some (.d (Ad.dv x),false):=rfl
@[simp] def Ad.clen(x:Ad):(Ad.dv x).cells.length=3:=rfl
@[simp] def Ad.aof(x:Ad):DV.a (Ad.cells x)=Ad.dv x:=rfl
@[simp] def Ad.ccl(x:Ad):(Ad.cells x).length=3:=rfl
@[simp] def Ad.c0(x:Ad):(Ad.dv x).cells[0]? = some (I x.AL):=rfl
@[simp] def Ad.c1(x:Ad):(Ad.dv x).cells[1]? = some (I x.Amount):=rfl
@[simp] def Ad.c2(x:Ad):(Ad.dv x).cells[2]? = some (.s x.Au):=rfl
structure Ag where
 Id:Int
 BK:Int
 Value:Int
 Kind:Int
 Auth:Int
 BP:Int
 Key:List UInt8
 Text:List UInt8
 Ai:SL Ad
 Chain:Int
def Ag.cells(x:Ag):Cy:=[I x.Id,I x.BK,I x.Value,I x.Kind,I x.Auth,I x.BP,.s x.Key,.s x.Text,.l (K1 3) (x.Ai.l.map Ad.dv) x.Ai.t,.i .u64 x.Chain]
def Ag.dv(x:Ag):DV:=.a [I x.Id,I x.BK,I x.Value,I x.Kind,I x.Auth,I x.BP,.s x.Key,.s x.Text,.l (K1 3) (x.Ai.l.map Ad.dv) x.Ai.t,.i .u64 x.Chain]
@[simp] def Ag.fits(x:Ag):Sim.fits (K1 10) (.d (Ag.dv x))=true:=rfl
@[simp] def Ag.AC(x:Ag)(H:CW):Sim.AC H (.d (Ag.dv x))=some (.d (Ag.dv x),false):=rfl
@[simp] def Ag.clen(x:Ag):(Ag.dv x).cells.length=10:=rfl
@[simp] def Ag.aof(x:Ag):DV.a (Ag.cells x)=Ag.dv x:=rfl
@[simp] def Ag.ccl(x:Ag):(Ag.cells x).length=10:=rfl
@[simp] def Ag.c0(x:Ag):(Ag.dv x).cells[0]? = some (I x.Id):=rfl
@[simp] def Ag.c1(x:Ag):(Ag.dv x).cells[1]? = some (I x.BK):=rfl
@[simp] def Ag.c2(x:Ag):(Ag.dv x).cells[2]? = some (I x.Value):=rfl
@[simp] def Ag.c3(x:Ag):(Ag.dv x).cells[3]? = some (I x.Kind):=rfl
@[simp] def Ag.c4(x:Ag):(Ag.dv x).cells[4]? = some (I x.Auth):=rfl
@[simp] def Ag.c5(x:Ag):(Ag.dv x).cells[5]? = some (I x.BP):=rfl
@[simp] def Ag.c6(x:Ag):(Ag.dv x).cells[6]? = some (.s x.Key):=rfl
@[simp] def Ag.c7(x:Ag):(Ag.dv x).cells[7]? = some (.s x.Text):=rfl
@[simp] def Ag.c8(x:Ag):(Ag.dv x).cells[8]? = some (.l (K1 3) (x.Ai.l.map Ad.dv) x.Ai.t):=rfl
@[simp] def Ag.c9(x:Ag):(Ag.dv x).cells[9]? = some (.i .u64 x.Chain):=rfl
structure BB where
 Id:Int
 AL:Int
 Amount:Int
 From:Int
 To:Int
 Key:List UInt8
def BB.cells(x:BB):Cy:=[I x.Id,I x.AL,I x.Amount,I x.From,I x.To,.s x.Key]
def BB.dv(x:BB):DV:=.a [I x.Id,I x.AL,I x.Amount,I x.From,I x.To,.s x.Key]
structure BF where
 Id:Int
 AL:Int
 Kind:Int
 Amount:Int
 From:Int
 To:Int
 Source:List UInt8
def BF.cells(x:BF):Cy:=[I x.Id,I x.AL,I x.Kind,I x.Amount,I x.From,I x.To,.s x.Source]
def BF.dv(x:BF):DV:=.a [I x.Id,I x.AL,I x.Kind,I x.Amount,I x.From,I x.To,.s x.Source]
structure AB where
 Id:Int
 BQ:Int
 Closed:Int
 Extra:Int
 Owner:List UInt8
 Cq:List UInt8
 Number:List UInt8
def AB.cells(x:AB):Cy:=[I x.Id,I x.BQ,I x.Closed,I x.Extra,.s x.Owner,.s x.Cq,.s x.Number]
def AB.dv(x:AB):DV:=.a [I x.Id,I x.BQ,I x.Closed,I x.Extra,.s x.Owner,.s x.Cq,.s x.Number]
@[simp] def AB.fits(x:AB):Sim.fits (K1 7) (.d (AB.dv x))=true:=rfl
@[simp] def AB.AC(x:AB)(H:CW):Sim.AC H (.d (AB.dv x))=some (.d (AB.dv x),false):=rfl
@[simp] def AB.clen(x:AB):(AB.dv x).cells.length=7:=rfl
@[simp] def AB.aof(x:AB):DV.a (AB.cells x)=AB.dv x:=rfl
@[simp] def AB.ccl(x:AB):(AB.cells x).length=7:=rfl
@[simp] def AB.c0(x:AB):(AB.dv x).cells[0]? = some (I x.Id):=rfl
@[simp] def AB.c1(x:AB):(AB.dv x).cells[1]? = some (I x.BQ):=rfl
@[simp] def AB.c2(x:AB):(AB.dv x).cells[2]? = some (I x.Closed):=rfl
@[simp] def AB.c3(x:AB):(AB.dv x).cells[3]? = some (I x.Extra):=rfl
@[simp] def AB.c4(x:AB):(AB.dv x).cells[4]? = some (.s x.Owner):=rfl
@[simp] def AB.c5(x:AB):(AB.dv x).cells[5]? = some (.s x.Cq):=rfl
@[simp] def AB.c6(x:AB):(AB.dv x).cells[6]? = some (.s x.Number):=rfl
structure Aw where
 Cash:Int
 Cg:Int
 Ci:Int
 Cf:Int
 Bl:Int
 Tax:Int
 BZ:Int
 Loans:Int
 Cc:Int
 Cb:Int
 Cj:Int
 Ca:Int
 Loss:Int
 Ce:Int
def Aw.cells(x:Aw):Cy:=[I x.Cash,I x.Cg,I x.Ci,I x.Cf,I x.Bl,I x.Tax,I x.BZ,I x.Loans,I x.Cc,I x.Cb,I x.Cj,I x.Ca,I x.Loss,I x.Ce]
def Aw.dv(x:Aw):DV:=.a [I x.Cash,I x.Cg,I x.Ci,I x.Cf,I x.Bl,I x.Tax,I x.BZ,I x.Loans,I x.Cc,I x.Cb,I x.Cj,I x.Ca,I x.Loss,I x.Ce]
@[simp] def Aw.fits(x:Aw):Sim.fits (K1 14) (.d (Aw.dv x))=true:=rfl
@[simp] def Aw.AC(x:Aw)(H:CW):Sim.AC H (.d (Aw.dv x))=some (.d (Aw.dv x),false):=rfl
@[simp] def Aw.clen(x:Aw):(Aw.dv x).cells.length=14:=rfl
@[simp] def Aw.aof(x:Aw):DV.a (Aw.cells x)=Aw.dv x:=rfl
@[simp] def Aw.ccl(x:Aw):(Aw.cells x).length=14:=rfl
@[simp] def Aw.c0(x:Aw):(Aw.dv x).cells[0]? = some (I x.Cash):=rfl
@[simp] def Aw.c1(x:Aw):(Aw.dv x).cells[1]? = some (I x.Cg):=rfl
@[simp] def Aw.c2(x:Aw):(Aw.dv x).cells[2]? = some (I x.Ci):=rfl
@[simp] def Aw.c3(x:Aw):(Aw.dv x).cells[3]? = some (I x.Cf):=rfl
@[simp] def Aw.c4(x:Aw):(Aw.dv x).cells[4]? = some (I x.Bl):=rfl
@[simp] def Aw.c5(x:Aw):(Aw.dv x).cells[5]? = some (I x.Tax):=rfl
@[simp] def Aw.c6(x:Aw):(Aw.dv x).cells[6]? = some (I x.BZ):=rfl
@[simp] def Aw.c7(x:Aw):(Aw.dv x).cells[7]? = some (I x.Loans):=rfl
@[simp] def Aw.c8(x:Aw):(Aw.dv x).cells[8]? = some (I x.Cc):=rfl
@[simp] def Aw.c9(x:Aw):(Aw.dv x).cells[9]? = some (I x.Cb):=rfl
@[simp] def Aw.c10(x:Aw):(Aw.dv x).cells[10]? = some (I x.Cj):=rfl
@[simp] def Aw.c11(x:Aw):(Aw.dv x).cells[11]? = some (I x.Ca):=rfl
@[simp] def Aw.c12(x:Aw):(Aw.dv x).cells[12]? = some (I x.Loss):=rfl
@[simp] def Aw.c13(x:Aw):(Aw.dv x).cells[13]? = some (I x.Ce):=rfl
structure Af where
 Bh:SL AO
 Bf:SL AV
 BD:SL AGl
 AA:Aw
 AZ:SL Aj
 A7:SL AB
 Bc:SL Ag
 Holds:SL BB
 BG:SL BF
def Af.cells(x:Af):Cy:=[.l (K1 2) (x.Bh.l.map AO.dv) x.Bh.t,.l (K1 3) (x.Bf.l.map AV.dv) x.Bf.t,.l (K1 4) (x.BD.l.map AGl.dv) x.BD.t,I x.AA.Cash,I x.AA.Cg,I x.AA.Ci,I x.AA.Cf,I x.AA.Bl,I x.AA.Tax,I x.AA.BZ,I x.AA.Loans,I x.AA.Cc,I x.AA.Cb,I x.AA.Cj,I x.AA.Ca,I x.AA.Loss,I x.AA.Ce,.l (K1 19) (x.AZ.l.map Aj.dv) x.AZ.t,.l (K1 7) (x.A7.l.map AB.dv) x.A7.t,.l (K1 10) (x.Bc.l.map Ag.dv) x.Bc.t,.l (K1 6) (x.Holds.l.map BB.dv) x.Holds.t,.l (K1 7) (x.BG.l.map BF.dv) x.BG.t]
def Af.dv(x:Af):DV:=.a [.l (K1 2) (x.Bh.l.map AO.dv) x.Bh.t,.l (K1 3) (x.Bf.l.map AV.dv) x.Bf.t,.l (K1 4) (x.BD.l.map AGl.dv) x.BD.t,I x.AA.Cash,I x.AA.Cg,I x.AA.Ci,I x.AA.Cf,I x.AA.Bl,I x.AA.Tax,I x.AA.BZ,I x.AA.Loans,I x.AA.Cc,I x.AA.Cb,I x.AA.Cj,I x.AA.Ca,I x.AA.Loss,I x.AA.Ce,.l (K1 19) (x.AZ.l.map Aj.dv) x.AZ.t,.l (K1 7) (x.A7.l.map AB.dv) x.A7.t,.l (K1 10) (x.Bc.l.map Ag.dv) x.Bc.t,.l (K1 6) (x.Holds.l.map BB.dv) x.Holds.t,.l (K1 7) (x.BG.l.map BF.dv) x.BG.t]
@[simp] def Af.fits(x:Af):Sim.fits (K1 22) (.d (Af.dv x))=true:=rfl
@[simp] def Af.AC(x:Af)(H:CW):Sim.AC H (.d (Af.dv x))=some (.d (Af.dv x),false):=rfl
@[simp] def Af.clen(x:Af):(Af.dv x).cells.length=22:=rfl
@[simp] def Af.aof(x:Af):DV.a (Af.cells x)=Af.dv x:=rfl
@[simp] def Af.ccl(x:Af):(Af.cells x).length=22:=rfl
@[simp] def Af.n3_14(x:Af):((Af.dv x).cells.drop 3).take 14=Aw.cells x.AA:=rfl
@[simp] def Af.c0(x:Af):(Af.dv x).cells[0]? = some (.l (K1 2) (x.Bh.l.map AO.dv) x.Bh.t):=rfl
@[simp] def Af.c1(x:Af):(Af.dv x).cells[1]? = some (.l (K1 3) (x.Bf.l.map AV.dv) x.Bf.t):=rfl
@[simp] def Af.c2(x:Af):(Af.dv x).cells[2]? = some (.l (K1 4) (x.BD.l.map AGl.dv) x.BD.t):=rfl
@[simp] def Af.c3(x:Af):(Af.dv x).cells[3]? = some (I x.AA.Cash):=rfl
@[simp] def Af.c4(x:Af):(Af.dv x).cells[4]? = some (I x.AA.Cg):=rfl
@[simp] def Af.c5(x:Af):(Af.dv x).cells[5]? = some (I x.AA.Ci):=rfl
@[simp] def Af.c6(x:Af):(Af.dv x).cells[6]? = some (I x.AA.Cf):=rfl
@[simp] def Af.c7(x:Af):(Af.dv x).cells[7]? = some (I x.AA.Bl):=rfl
@[simp] def Af.c8(x:Af):(Af.dv x).cells[8]? = some (I x.AA.Tax):=rfl
@[simp] def Af.c9(x:Af):(Af.dv x).cells[9]? = some (I x.AA.BZ):=rfl
@[simp] def Af.c10(x:Af):(Af.dv x).cells[10]? = some (I x.AA.Loans):=rfl
@[simp] def Af.c11(x:Af):(Af.dv x).cells[11]? = some (I x.AA.Cc):=rfl
@[simp] def Af.c12(x:Af):(Af.dv x).cells[12]? = some (I x.AA.Cb):=rfl
@[simp] def Af.c13(x:Af):(Af.dv x).cells[13]? = some (I x.AA.Cj):=rfl
@[simp] def Af.c14(x:Af):(Af.dv x).cells[14]? = some (I x.AA.Ca):=rfl
@[simp] def Af.c15(x:Af):(Af.dv x).cells[15]? = some (I x.AA.Loss):=rfl
@[simp] def Af.c16(x:Af):(Af.dv x).cells[16]? = some (I x.AA.Ce):=rfl
@[simp] def Af.c17(x:Af):(Af.dv x).cells[17]? = some (.l (K1 19) (x.AZ.l.map Aj.dv) x.AZ.t):=rfl
@[simp] def Af.c18(x:Af):(Af.dv x).cells[18]? = some (.l (K1 7) (x.A7.l.map AB.dv) x.A7.t):=rfl
@[simp] def Af.c19(x:Af):(Af.dv x).cells[19]? = some (.l (K1 10) (x.Bc.l.map Ag.dv) x.Bc.t):=rfl
@[simp] def Af.c20(x:Af):(Af.dv x).cells[20]? = some (.l (K1 6) (x.Holds.l.map BB.dv) x.Holds.t):=rfl
@[simp] def Af.c21(x:Af):(Af.dv x).cells[21]? = some (.l (K1 7) (x.BG.l.map BF.dv) x.BG.t):=rfl
structure Ah where
 Typ:Int
 N:Int
def Ah.cells(x:Ah):Cy:=[I x.Typ,I x.N]
def Ah.dv(x:Ah):DV:=.a [I x.Typ,I x.N]
@[simp] def Ah.fits(x:Ah):Sim.fits (K1 2) (.d (Ah.dv x))=true:=rfl
@[simp] def Ah.AC(x:Ah)(H:CW):Sim.AC H (.d (Ah.dv x))=some (.d (Ah.dv x),false):=rfl
@[simp] def Ah.clen(x:Ah):(Ah.dv x).cells.length=2:=rfl
@[simp] def Ah.aof(x:Ah):DV.a (Ah.cells x)=Ah.dv x:=rfl
@[simp] def Ah.ccl(x:Ah):(Ah.cells x).length=2:=rfl
@[simp] def Ah.c0(x:Ah):(Ah.dv x).cells[0]? = some (I x.Typ):=rfl
@[simp] def Ah.c1(x:Ah):(Ah.dv x).cells[1]? = some (I x.N):=rfl
def qez{t:Ty}{ts:CL Ty}{xs:Cy}(h:qaD (t::ts) xs):∃x r,xs=x::r/\Has t x/\qaD ts r:=by
 cases xs with
 |nil=>simp[qaD]at h
 |cons x r=>rw[qaD]at h;exact⟨x,r,rfl,h.1,h.2⟩
def qda{xs:Cy}(h:qaD [] xs):xs=[]:=by
 cases xs with
 |nil=>rfl
 |cons x r=>simp[qaD]at h
def qkG{k:IntKind}{x:DV}(h:Has (.i k) x):∃n,x=.i k n/\(Lit.int k n).wf=true:=by rw[Has]at h;exact h
def qGJ{x:DV}(h:Has .b x):∃c,x=.b c:=by rw[Has]at h;exact h
def qGK{x:DV}(h:Has .s x):∃l,x=.s l/\l.length<=maxLen:=by rw[Has]at h;exact h
def qtu{n:Nat}{xs:Cy}{e:DV}(h:mkD (some n) xs=some e):e=.a xs:=by
 simp only[mkD]at h;split at h
 ·cases h;rfl
 ·cases h
def inK(k:IntKind)(n:Int):Prop:=(Lit.int k n).wf=true
def qpI{α:Type}{f:α->DV}{p:α->Prop}:∀{es:Cy},(∀e∈es,∃a,e=f a/\p a)->∃l:CL α,es=l.map f/\∀a∈l,p a
 |[],_=>⟨[],rfl,λa h=>by cases h⟩
 |e::es,h=>by
  obtain⟨a,ha,hp⟩:=h e (zzr ..);obtain⟨l,hl,hq⟩:=qpI (λx hx=>h x (zzi _ hx));refine⟨a::l,by rw[ha,hl];rfl,λb hb=>?_⟩;rcases List.mem_cons.1 hb with rfl|hb
  ·exact hp
  ·exact hq b hb
def qQj{α:Type}{f:α->DV}{p q:α->Prop}{n b:Nat}{ts:CL Ty}{x:DV}(h:Has (.l (some n) b ts) x)(hf:∀cs,qaD ts cs->∃a,DV.a cs=f a/\p a/\q a):∃s:SL α,x=.l (some n) (s.l.map f) s.t/\(s.l.length<=maxLen/\∀a∈s.l,p a)/\s.t=false/\s.l.length*b<=qbt/\∀a∈s.l,q a:=by
 rw[Has]at h;obtain⟨es,rfl,h1,hb,h2⟩:=h;obtain⟨l,rfl,hp⟩:=qpI (f:=f) (p:=λa=>p a/\q a) (es:=es) λe he=>by obtain⟨cs,h3,h4⟩:=h2 e he;obtain⟨a,ha,hp⟩:=hf cs h4;exact⟨a,by rw[qtu h3];exact ha,hp⟩
 exact⟨⟨l,false⟩,rfl,⟨by simpa using h1,λa ha=>(hp a ha).1⟩,rfl,by simpa using hb,λa ha=>(hp a ha).2⟩
def qQk{α:Type}{f:α->DV}{p:α->Prop}{t:Ty}{b:Nat}{x:DV}(h:Has (.l none b [t]) x)(hf:∀y,Has t y->∃a,y=f a/\p a):∃s:SL α,x=.l none (s.l.map f) s.t/\(s.l.length<=maxLen/\∀a∈s.l,p a)/\s.t=false/\s.l.length*b<=qbt:=by
 rw[Has]at h;obtain⟨es,rfl,h1,hb,h2⟩:=h;obtain⟨l,rfl,hp⟩:=qpI (f:=f) (p:=p) (es:=es) λe he=>by obtain⟨cs,h3,h4⟩:=h2 e he;obtain⟨y,r,rfl,h5,h6⟩:=qez h4;obtain rfl:=qda h6;simp only[mkD,zzb]at h3;subst h3;exact hf y h5
 exact⟨⟨l,false⟩,rfl,⟨by simpa using h1,hp⟩,rfl,by simpa using hb⟩
def qQl{x:DV}(h:Has .e x):∃s:SL DV,x=.l (K1 4) s.l s.t/\XL (.l (K1 4) s.l s.t):=by
 rw[Has]at h;cases h with
 |mk es h1 h2 h3=>exact⟨⟨es,false⟩,rfl,.mk es h1 h2 h3⟩
def qaG{k:IntKind}{ts:CL Ty}{xs:Cy}(g:qaD (.i k::ts) xs):∃n r,xs=.i k n::r/\inK k n/\qaD ts r:=by obtain⟨_,r,rfl,h0,h⟩:=qez g;obtain⟨n,rfl,p⟩:=qkG h0;exact⟨n,r,rfl,p,h⟩
def qcz{ts:CL Ty}{xs:Cy}(g:qaD (.s::ts) xs):∃n r,xs=.s n::r/\n.length<=maxLen/\qaD ts r:=by obtain⟨_,r,rfl,h0,h⟩:=qez g;obtain⟨n,rfl,p⟩:=qGK h0;exact⟨n,r,rfl,p,h⟩
def qpi{ts:CL Ty}{xs:Cy}(g:qaD (.b::ts) xs):∃n r,xs=.b n::r/\True/\qaD ts r:=by obtain⟨_,r,rfl,h0,h⟩:=qez g;obtain⟨n,rfl⟩:=qGJ h0;exact⟨n,r,rfl,trivial,h⟩
def qsD{ts:CL Ty}{xs:Cy}(g:qaD (.e::ts) xs):∃(s:SL DV) (r:Cy),xs=.l (K1 4) s.l s.t::r/\XL (.l (K1 4) s.l s.t)/\qaD ts r:=by obtain⟨_,r,rfl,h0,h⟩:=qez g;obtain⟨n,rfl,p⟩:=qQl h0;exact⟨n,r,rfl,p,h⟩
def qyv{b:Nat}{ts:CL Ty}{xs:Cy}(g:qaD (.l none b [.i .i64]::ts) xs):∃(s:SL Int) (r:Cy),xs=.l none (s.l.map I) s.t::r/\(s.l.length<=maxLen/\∀y∈s.l,inK .i64 y)/\(s.t=false/\s.l.length*b<=qbt)/\qaD ts r:=by obtain⟨_,r,rfl,h0,h⟩:=qez g;obtain⟨n,rfl,p,q⟩:=qQk (f:=I) (p:=λy=>inK .i64 y) h0 λy hy=>qkG hy;exact⟨n,r,rfl,p,q,h⟩
def qdH{α:Type}{f:α->DV}{p q:α->Prop}{n b:Nat}{us ts:CL Ty}{xs:Cy}(hf:∀cs,qaD us cs->∃a,DV.a cs=f a/\p a/\q a)(g:qaD (.l (some n) b us::ts) xs):∃(s:SL α) (r:Cy),xs=.l (some n) (s.l.map f) s.t::r/\(s.l.length<=maxLen/\∀a∈s.l,p a)/\(s.t=false/\s.l.length*b<=qbt/\∀a∈s.l,q a)/\qaD ts r:=by obtain⟨_,r,rfl,h0,h⟩:=qez g;obtain⟨n,rfl,p,q⟩:=qQj h0 hf;exact⟨n,r,rfl,p,q,h⟩
def Be.ok(x:Be):Prop:=inK .i64 x.Hi/\inK .u64 x.Lo
def Be.fit(_:Be):Prop:=True
def Be.ty:CL Ty:=[.i .i64,.i .u64]
def AO.ok(x:AO):Prop:=x.Code.length<=maxLen/\inK .i64 x.Cm
def AO.fit(_:AO):Prop:=True
def AO.ty:CL Ty:=[.s,.i .i64]
def AO.ofB(cs:Cy)(h:qaD AO.ty cs):∃x:AO,DV.a cs=x.dv/\x.ok/\x.fit:=by obtain⟨a0,_,rfl,p0,h⟩:=qcz h;obtain⟨a1,_,rfl,p1,h⟩:=qaG h;obtain rfl:=qda h;exact⟨⟨a0,a1⟩,rfl,⟨p0,p1⟩,trivial⟩
def AV.ok(x:AV):Prop:=x.Name.length<=maxLen/\(x.BS.l.length<=maxLen/\∀y∈x.BS.l,inK .i64 y)/\(x.BV.l.length<=maxLen/\∀y∈x.BV.l,inK .i64 y)
def AV.fit(x:AV):Prop:=(x.BS.t=false/\x.BS.l.length*8<=qbt)/\(x.BV.t=false/\x.BV.l.length*8<=qbt)
def AV.ty:CL Ty:=[.s,.l none 8 [.i .i64],.l none 8 [.i .i64]]
def AV.ofB(cs:Cy)(h:qaD AV.ty cs):∃x:AV,DV.a cs=x.dv/\x.ok/\x.fit:=by obtain⟨a0,_,rfl,p0,h⟩:=qcz h;obtain⟨a1,_,rfl,p1,q1,h⟩:=qyv h;obtain⟨a2,_,rfl,p2,q2,h⟩:=qyv h;obtain rfl:=qda h;exact⟨⟨a0,a1,a2⟩,rfl,⟨p0,p1,p2⟩,⟨q1,q2⟩⟩
def Aq.ok(x:Aq):Prop:=x.Name.length<=maxLen/\inK .i64 x.Typ
def Aq.fit(_:Aq):Prop:=True
def Aq.ty:CL Ty:=[.s,.i .i64]
def Br.ok(x:Br):Prop:=inK .i64 x.From/\inK .i64 x.Ppm
def Br.fit(_:Br):Prop:=True
def Br.ty:CL Ty:=[.i .i64,.i .i64]
def Br.ofB(cs:Cy)(h:qaD Br.ty cs):∃x:Br,DV.a cs=x.dv/\x.ok/\x.fit:=by obtain⟨a0,_,rfl,p0,h⟩:=qaG h;obtain⟨a1,_,rfl,p1,h⟩:=qaG h;obtain rfl:=qda h;exact⟨⟨a0,a1⟩,rfl,⟨p0,p1⟩,trivial⟩
def AX.ok(x:AX):Prop:=(x.Bt.l.length<=maxLen/\∀y∈x.Bt.l,y.ok)/\inK .i64 x.BU/\inK .i64 x.Mode
def AX.fit(x:AX):Prop:=(x.Bt.t=false/\x.Bt.l.length*16<=qbt/\∀y∈x.Bt.l,y.fit)
def AX.ty:CL Ty:=[.l (K1 2) 16 Br.ty,.b,.i .i64,.i .i64,.b]
def Ae.ok(x:Ae):Prop:=inK .i64 x.Op/\inK .i64 x.N/\x.S.length<=maxLen/\XL (.l (K1 4) x.AR.l x.AR.t)
def Ao.ok(x:Ao):Prop:=x.Name.length<=maxLen/\inK .i64 x.Event/\x.When.ok/\x.Amount.ok
def Ao.fit(_:Ao):Prop:=True
def Ao.ty:CL Ty:=[.s,.i .i64,.i .i64,.i .i64,.s,.e,.i .i64,.i .i64,.s,.e]
def Ao.ofB(cs:Cy)(h:qaD Ao.ty cs):∃x:Ao,DV.a cs=x.dv/\x.ok/\x.fit:=by obtain⟨a0,_,rfl,p0,h⟩:=qcz h;obtain⟨a1,_,rfl,p1,h⟩:=qaG h;obtain⟨a2,_,rfl,p2,h⟩:=qaG h;obtain⟨a3,_,rfl,p3,h⟩:=qaG h;obtain⟨a4,_,rfl,p4,h⟩:=qcz h;obtain⟨a5,_,rfl,p5,h⟩:=qsD h;obtain⟨a6,_,rfl,p6,h⟩:=qaG h;obtain⟨a7,_,rfl,p7,h⟩:=qaG h;obtain⟨a8,_,rfl,p8,h⟩:=qcz h;obtain⟨a9,_,rfl,p9,h⟩:=qsD h;obtain rfl:=qda h;exact⟨⟨a0,a1,⟨a2,a3,a4,a5⟩,⟨a6,a7,a8,a9⟩⟩,rfl,⟨p0,p1,⟨p2,p3,p4,p5⟩,⟨p6,p7,p8,p9⟩⟩,trivial⟩
def AP.ok(x:AP):Prop:=x.Name.length<=maxLen/\inK .i64 x.Window/\x.Amount.ok
def AP.fit(_:AP):Prop:=True
def AP.ty:CL Ty:=[.s,.i .i64,.i .i64,.i .i64,.s,.e]
def AP.ofB(cs:Cy)(h:qaD AP.ty cs):∃x:AP,DV.a cs=x.dv/\x.ok/\x.fit:=by obtain⟨a0,_,rfl,p0,h⟩:=qcz h;obtain⟨a1,_,rfl,p1,h⟩:=qaG h;obtain⟨a2,_,rfl,p2,h⟩:=qaG h;obtain⟨a3,_,rfl,p3,h⟩:=qaG h;obtain⟨a4,_,rfl,p4,h⟩:=qcz h;obtain⟨a5,_,rfl,p5,h⟩:=qsD h;obtain rfl:=qda h;exact⟨⟨a0,a1,⟨a2,a3,a4,a5⟩⟩,rfl,⟨p0,p1,⟨p2,p3,p4,p5⟩⟩,trivial⟩
def Aj.ok(x:Aj):Prop:=x.Name.length<=maxLen/\x.Au.length<=maxLen/\x.Cn.length<=maxLen/\inK .i64 x.From/\inK .i64 x.Every/\inK .i64 x.Cr/\inK .i64 x.TaxPpm/\x.Bv.ok/\x.Bu.ok/\(x.AQ.l.length<=maxLen/\∀y∈x.AQ.l,y.ok)/\(x.BA.l.length<=maxLen/\∀y∈x.BA.l,y.ok)
def Aj.fit(x:Aj):Prop:=x.Bv.fit/\x.Bu.fit/\(x.AQ.t=false/\x.AQ.l.length*136<=qbt/\∀y∈x.AQ.l,y.fit)/\(x.BA.t=false/\x.BA.l.length*80<=qbt/\∀y∈x.BA.l,y.fit)
def Aj.ty:CL Ty:=[.s,.s,.s,.i .i64,.i .i64,.i .i64,.i .i64,.l (K1 2) 16 Br.ty,.b,.i .i64,.i .i64,.b,.l (K1 2) 16 Br.ty,.b,.i .i64,.i .i64,.b,.l (K1 10) 136 Ao.ty,.l (K1 6) 80 AP.ty]
def Aj.ofB(cs:Cy)(h:qaD Aj.ty cs):∃x:Aj,DV.a cs=x.dv/\x.ok/\x.fit:=by obtain⟨a0,_,rfl,p0,h⟩:=qcz h;obtain⟨a1,_,rfl,p1,h⟩:=qcz h;obtain⟨a2,_,rfl,p2,h⟩:=qcz h;obtain⟨a3,_,rfl,p3,h⟩:=qaG h;obtain⟨a4,_,rfl,p4,h⟩:=qaG h;obtain⟨a5,_,rfl,p5,h⟩:=qaG h;obtain⟨a6,_,rfl,p6,h⟩:=qaG h;obtain⟨a7,_,rfl,p7,q7,h⟩:=qdH Br.ofB h;obtain⟨a8,_,rfl,-,h⟩:=qpi h;obtain⟨a9,_,rfl,p9,h⟩:=qaG h;obtain⟨a10,_,rfl,p10,h⟩:=qaG h;obtain⟨a11,_,rfl,-,h⟩:=qpi h;obtain⟨a12,_,rfl,p12,q12,h⟩:=qdH Br.ofB h;obtain⟨a13,_,rfl,-,h⟩:=qpi h;obtain⟨a14,_,rfl,p14,h⟩:=qaG h;obtain⟨a15,_,rfl,p15,h⟩:=qaG h;obtain⟨a16,_,rfl,-,h⟩:=qpi h;obtain⟨a17,_,rfl,p17,q17,h⟩:=qdH Ao.ofB h;obtain⟨a18,_,rfl,p18,q18,h⟩:=qdH AP.ofB h;obtain rfl:=qda h;exact⟨⟨a0,a1,a2,a3,a4,a5,a6,⟨a7,a8,a9,a10,a11⟩,⟨a12,a13,a14,a15,a16⟩,a17,a18⟩,rfl,⟨p0,p1,p2,p3,p4,p5,p6,⟨p7,p9,p10⟩,⟨p12,p14,p15⟩,p17,p18⟩,⟨q7,q12,q17,q18⟩⟩
def AGl.ok(x:AGl):Prop:=inK .i64 x.Id/\inK .i64 x.Ck/\inK .i64 x.Kind/\x.Name.length<=maxLen
def AGl.fit(_:AGl):Prop:=True
def AGl.ty:CL Ty:=[.i .i64,.i .i64,.i .i64,.s]
def AGl.ofB(cs:Cy)(h:qaD AGl.ty cs):∃x:AGl,DV.a cs=x.dv/\x.ok/\x.fit:=by obtain⟨a0,_,rfl,p0,h⟩:=qaG h;obtain⟨a1,_,rfl,p1,h⟩:=qaG h;obtain⟨a2,_,rfl,p2,h⟩:=qaG h;obtain⟨a3,_,rfl,p3,h⟩:=qcz h;obtain rfl:=qda h;exact⟨⟨a0,a1,a2,a3⟩,rfl,⟨p0,p1,p2,p3⟩,trivial⟩
def Ad.ok(x:Ad):Prop:=inK .i64 x.AL/\inK .i64 x.Amount/\x.Au.length<=maxLen
def Ad.fit(_:Ad):Prop:=True
def Ad.ty:CL Ty:=[.i .i64,.i .i64,.s]
def Ad.ofB(cs:Cy)(h:qaD Ad.ty cs):∃x:Ad,DV.a cs=x.dv/\x.ok/\x.fit:=by obtain⟨a0,_,rfl,p0,h⟩:=qaG h;obtain⟨a1,_,rfl,p1,h⟩:=qaG h;obtain⟨a2,_,rfl,p2,h⟩:=qcz h;obtain rfl:=qda h;exact⟨⟨a0,a1,a2⟩,rfl,⟨p0,p1,p2⟩,trivial⟩
def Ag.ok(x:Ag):Prop:=inK .i64 x.Id/\inK .i64 x.BK/\inK .i64 x.Value/\inK .i64 x.Kind/\inK .i64 x.Auth/\inK .i64 x.BP/\x.Key.length<=maxLen/\x.Text.length<=maxLen/\(x.Ai.l.length<=maxLen/\∀y∈x.Ai.l,y.ok)/\inK .u64 x.Chain
def Ag.fit(x:Ag):Prop:=(x.Ai.t=false/\x.Ai.l.length*32<=qbt/\∀y∈x.Ai.l,y.fit)
def Ag.ty:CL Ty:=[.i .i64,.i .i64,.i .i64,.i .i64,.i .i64,.i .i64,.s,.s,.l (K1 3) 32 Ad.ty,.i .u64]
def Ag.ofB(cs:Cy)(h:qaD Ag.ty cs):∃x:Ag,DV.a cs=x.dv/\x.ok/\x.fit:=by obtain⟨a0,_,rfl,p0,h⟩:=qaG h;obtain⟨a1,_,rfl,p1,h⟩:=qaG h;obtain⟨a2,_,rfl,p2,h⟩:=qaG h;obtain⟨a3,_,rfl,p3,h⟩:=qaG h;obtain⟨a4,_,rfl,p4,h⟩:=qaG h;obtain⟨a5,_,rfl,p5,h⟩:=qaG h;obtain⟨a6,_,rfl,p6,h⟩:=qcz h;obtain⟨a7,_,rfl,p7,h⟩:=qcz h;obtain⟨a8,_,rfl,p8,q8,h⟩:=qdH Ad.ofB h;obtain⟨a9,_,rfl,p9,h⟩:=qaG h;obtain rfl:=qda h;exact⟨⟨a0,a1,a2,a3,a4,a5,a6,a7,a8,a9⟩,rfl,⟨p0,p1,p2,p3,p4,p5,p6,p7,p8,p9⟩,q8⟩
def BB.ok(x:BB):Prop:=inK .i64 x.Id/\inK .i64 x.AL/\inK .i64 x.Amount/\inK .i64 x.From/\inK .i64 x.To/\x.Key.length<=maxLen
def BB.fit(_:BB):Prop:=True
def BB.ty:CL Ty:=[.i .i64,.i .i64,.i .i64,.i .i64,.i .i64,.s]
def BB.ofB(cs:Cy)(h:qaD BB.ty cs):∃x:BB,DV.a cs=x.dv/\x.ok/\x.fit:=by obtain⟨a0,_,rfl,p0,h⟩:=qaG h;obtain⟨a1,_,rfl,p1,h⟩:=qaG h;obtain⟨a2,_,rfl,p2,h⟩:=qaG h;obtain⟨a3,_,rfl,p3,h⟩:=qaG h;obtain⟨a4,_,rfl,p4,h⟩:=qaG h;obtain⟨a5,_,rfl,p5,h⟩:=qcz h;obtain rfl:=qda h;exact⟨⟨a0,a1,a2,a3,a4,a5⟩,rfl,⟨p0,p1,p2,p3,p4,p5⟩,trivial⟩
def BF.ok(x:BF):Prop:=inK .i64 x.Id/\inK .i64 x.AL/\inK .i64 x.Kind/\inK .i64 x.Amount/\inK .i64 x.From/\inK .i64 x.To/\x.Source.length<=maxLen
def BF.fit(_:BF):Prop:=True
def BF.ty:CL Ty:=[.i .i64,.i .i64,.i .i64,.i .i64,.i .i64,.i .i64,.s]
def BF.ofB(cs:Cy)(h:qaD BF.ty cs):∃x:BF,DV.a cs=x.dv/\x.ok/\x.fit:=by obtain⟨a0,_,rfl,p0,h⟩:=qaG h;obtain⟨a1,_,rfl,p1,h⟩:=qaG h;obtain⟨a2,_,rfl,p2,h⟩:=qaG h;obtain⟨a3,_,rfl,p3,h⟩:=qaG h;obtain⟨a4,_,rfl,p4,h⟩:=qaG h;obtain⟨a5,_,rfl,p5,h⟩:=qaG h;obtain⟨a6,_,rfl,p6,h⟩:=qcz h;obtain rfl:=qda h;exact⟨⟨a0,a1,a2,a3,a4,a5,a6⟩,rfl,⟨p0,p1,p2,p3,p4,p5,p6⟩,trivial⟩
def AB.ok(x:AB):Prop:=inK .i64 x.Id/\inK .i64 x.BQ/\inK .i64 x.Closed/\inK .i64 x.Extra/\x.Owner.length<=maxLen/\x.Cq.length<=maxLen/\x.Number.length<=maxLen
def AB.fit(_:AB):Prop:=True
def AB.ty:CL Ty:=[.i .i64,.i .i64,.i .i64,.i .i64,.s,.s,.s]
def AB.ofB(cs:Cy)(h:qaD AB.ty cs):∃x:AB,DV.a cs=x.dv/\x.ok/\x.fit:=by obtain⟨a0,_,rfl,p0,h⟩:=qaG h;obtain⟨a1,_,rfl,p1,h⟩:=qaG h;obtain⟨a2,_,rfl,p2,h⟩:=qaG h;obtain⟨a3,_,rfl,p3,h⟩:=qaG h;obtain⟨a4,_,rfl,p4,h⟩:=qcz h;obtain⟨a5,_,rfl,p5,h⟩:=qcz h;obtain⟨a6,_,rfl,p6,h⟩:=qcz h;obtain rfl:=qda h;exact⟨⟨a0,a1,a2,a3,a4,a5,a6⟩,rfl,⟨p0,p1,p2,p3,p4,p5,p6⟩,trivial⟩
def Aw.ok(x:Aw):Prop:=inK .i64 x.Cash/\inK .i64 x.Cg/\inK .i64 x.Ci/\inK .i64 x.Cf/\inK .i64 x.Bl/\inK .i64 x.Tax/\inK .i64 x.BZ/\inK .i64 x.Loans/\inK .i64 x.Cc/\inK .i64 x.Cb/\inK .i64 x.Cj/\inK .i64 x.Ca/\inK .i64 x.Loss/\inK .i64 x.Ce
def Aw.fit(_:Aw):Prop:=True
def Aw.ty:CL Ty:=[.i .i64,.i .i64,.i .i64,.i .i64,.i .i64,.i .i64,.i .i64,.i .i64,.i .i64,.i .i64,.i .i64,.i .i64,.i .i64,.i .i64]
def Af.ok(x:Af):Prop:=(x.Bh.l.length<=maxLen/\∀y∈x.Bh.l,y.ok)/\(x.Bf.l.length<=maxLen/\∀y∈x.Bf.l,y.ok)/\(x.BD.l.length<=maxLen/\∀y∈x.BD.l,y.ok)/\x.AA.ok/\(x.AZ.l.length<=maxLen/\∀y∈x.AZ.l,y.ok)/\(x.A7.l.length<=maxLen/\∀y∈x.A7.l,y.ok)/\(x.Bc.l.length<=maxLen/\∀y∈x.Bc.l,y.ok)/\(x.Holds.l.length<=maxLen/\∀y∈x.Holds.l,y.ok)/\(x.BG.l.length<=maxLen/\∀y∈x.BG.l,y.ok)
def Af.fit(x:Af):Prop:=(x.Bh.t=false/\x.Bh.l.length*24<=qbt/\∀y∈x.Bh.l,y.fit)/\(x.Bf.t=false/\x.Bf.l.length*64<=qbt/\∀y∈x.Bf.l,y.fit)/\(x.BD.t=false/\x.BD.l.length*40<=qbt/\∀y∈x.BD.l,y.fit)/\(x.AZ.t=false/\x.AZ.l.length*240<=qbt/\∀y∈x.AZ.l,y.fit)/\(x.A7.t=false/\x.A7.l.length*80<=qbt/\∀y∈x.A7.l,y.fit)/\(x.Bc.t=false/\x.Bc.l.length*112<=qbt/\∀y∈x.Bc.l,y.fit)/\(x.Holds.t=false/\x.Holds.l.length*56<=qbt/\∀y∈x.Holds.l,y.fit)/\(x.BG.t=false/\x.BG.l.length*64<=qbt/\∀y∈x.BG.l,y.fit)
def Af.ty:CL Ty:=[.l (K1 2) 24 AO.ty,.l (K1 3) 64 AV.ty,.l (K1 4) 40 AGl.ty,.i .i64,.i .i64,.i .i64,.i .i64,.i .i64,.i .i64,.i .i64,.i .i64,.i .i64,.i .i64,.i .i64,.i .i64,.i .i64,.i .i64,.l (K1 19) 240 Aj.ty,.l (K1 7) 80 AB.ty,.l (K1 10) 112 Ag.ty,.l (K1 6) 56 BB.ty,.l (K1 7) 64 BF.ty]
def Af.ofB(cs:Cy)(h:qaD Af.ty cs):∃x:Af,DV.a cs=x.dv/\x.ok/\x.fit:=by
 obtain⟨a0,_,rfl,p0,q0,h⟩:=qdH AO.ofB h;obtain⟨a1,_,rfl,p1,q1,h⟩:=qdH AV.ofB h;obtain⟨a2,_,rfl,p2,q2,h⟩:=qdH AGl.ofB h;obtain⟨a3,_,rfl,p3,h⟩:=qaG h;obtain⟨a4,_,rfl,p4,h⟩:=qaG h;obtain⟨a5,_,rfl,p5,h⟩:=qaG h;obtain⟨a6,_,rfl,p6,h⟩:=qaG h;obtain⟨a7,_,rfl,p7,h⟩:=qaG h;obtain⟨a8,_,rfl,p8,h⟩:=qaG h;obtain⟨a9,_,rfl,p9,h⟩:=qaG h;obtain⟨a10,_,rfl,p10,h⟩:=qaG h;obtain⟨a11,_,rfl,p11,h⟩:=qaG h;obtain⟨a12,_,rfl,p12,h⟩:=qaG h;obtain⟨a13,_,rfl,p13,h⟩:=qaG h;obtain⟨a14,_,rfl,p14,h⟩:=qaG h;obtain⟨a15,_,rfl,p15,h⟩:=qaG h;obtain⟨a16,_,rfl,p16,h⟩:=qaG h;obtain⟨a17,_,rfl,p17,q17,h⟩:=qdH Aj.ofB h;obtain⟨a18,_,rfl,p18,q18,h⟩:=qdH AB.ofB h;obtain⟨a19,_,rfl,p19,q19,h⟩:=qdH Ag.ofB h;obtain⟨a20,_,rfl,p20,q20,h⟩:=qdH BB.ofB h;obtain⟨a21,_,rfl,p21,q21,h⟩:=qdH BF.ofB h;obtain rfl:=qda h;exact⟨⟨a0,a1,a2,⟨a3,a4,a5,a6,a7,a8,a9,a10,a11,a12,a13,a14,a15,a16⟩,a17,a18,a19,a20,a21⟩,rfl,⟨p0,p1,p2,⟨p3,p4,p5,p6,p7,p8,p9,p10,p11,p12,p13,p14,p15,p16⟩,p17,p18,p19,p20,p21⟩,⟨q0,q1,q2,q17,q18,q19,q20,q21⟩⟩
def Af.of(cs:Cy)(h:qaD Af.ty cs):∃x:Af,DV.a cs=x.dv/\x.ok:=let ⟨x,a,b,_⟩:=Af.ofB cs h; ⟨x,a,b⟩
def Ah.ok(x:Ah):Prop:=inK .i64 x.Typ/\inK .i64 x.N
def Ah.fit(_:Ah):Prop:=True
def Ah.ty:CL Ty:=[.i .i64,.i .i64]
def qHc(T:Tab){f:Nat}{F:PF}(hF:T.F f=some F)(Y:Nat->Cz->CW->CJ){args:Cz}{H:CW}(ha:args.length=F.Bn):T.it Y f args H=kC (T.Bb Y) H.length (Fr.Aa 0 args) H (.h (F.body,qeR (T.Bb Y) F.results H.length)):=by
 rw[qyS T hF];unfold qbr;rw[if_pos ha];simp only[kC];cases qag (T.Bb Y) lpI H.length F.body ⟨Fr.Aa 0 args,H⟩with
 |none=>rfl
 |some x=>
  obtain⟨e,s⟩:=x;cases e with
  |exit id=>rfl
  |norm=>
   simp only[qeR];cases Bj (T.Bb Y) (qao s.fr) s.H with
   |none=>rfl
   |some H'=>simp only[bo];cases results s.fr H' F.results<;>rfl
  |ret=>
   simp only[qeR];cases Bj (T.Bb Y) (qao s.fr) s.H with
   |none=>rfl
   |some H'=>simp only[bo];cases results s.fr H' F.results<;>rfl
section
variable {R:Type}{E:Env}{base:Nat}{fr:Fr}{H:CW}{k:KC R}
noncomputable def qih(E:Env)(a x:PC)(fr:Fr)(o:Nat)(ps:CF):Nat->Cz->CW->CJ:=qdy (λb s=>qag E lpI b a s) (λb s=>qag E lpI b x s) fr o ps E.yld
def qla(k:KC R)(fr:Fr)(g o:Nat)(H:CW):CK R:=match H.obj o with
 |some (.lp 0 none)=>k .norm (fr.set g (.g (.h (o+1)))) (H.put o none)
 |some (.lp 1 (some e))=>k e (fr.set g (.g (.h (o+1)))) (H.put o none)
 |_=>none
noncomputable def rngS(E:Env)(fr:Fr)(H:CW)(a x:PC)(live ps:CF)(g:Nat)(v w:PV){k:KC R}(_:Hd k):CK R:=match v,w with
 |.f n caps,.u=>bo (E.it (qih E a x (Fr.only live fr) H.length ps) n (.h H.length::caps) (H++[some (.lp 0 none),some .df])) (.h λp=>qla k fr g H.length p.2)
 |_,_=>none
def quj{a x:PC}{live ps:CF}{g n:Nat}{caps:Cz}:rngS E fr H a x live ps g (.f n caps) .u (.h k)=bo (E.it (qih E a x (Fr.only live fr) H.length ps) n (.h H.length::caps) (H++[some (.lp 0 none),some .df])) (.h λp=>qla k fr g H.length p.2):=rfl
def qsQ{f:Ab}{g:Nat}{ps live:CF}{a x:PC}:kC E base fr H (.h (.rng f g ps live a x,k))=rngS E fr H a x live ps g (rd E fr f) (fr.get g) (.h k):=by
 simp only[kC,qag,rngS,qih];cases rd E fr f with
 |f n caps=>
  cases fr.get g with
  |u=>
   simp only;cases E.it (qdy (λb s=>qag E lpI b a s) (λb s=>qag E lpI b x s) (Fr.only live fr) H.length ps E.yld) n (.h H.length::caps) (H++[some (.lp 0 none),some .df])with
   |none=>rfl
   |some p=>
    obtain⟨v,H'⟩:=p;simp only[bo,qla];cases hh:H'.obj H.length with
    |none=>rfl
    |some y=>
     cases y with
     |lp st j=>match st,j with
      |0,none=>rfl
      |0,some _=>rfl
      |1,none=>rfl
      |1,some e=>rfl
      | (n+2),_=>rfl
     |_=>rfl
  |_=>rfl
 |_=>rfl
def qui{a x:PC}{o:Nat}{ps:CF}{args:Cz}(hl:args.length=ps.length)(ho:H.obj o=some (.lp 0 none)):qih E a x fr o ps o args H =
  kC E H.length (qdR fr ps args) H (.h (a,λe fr1 H1=>match e with
   |.norm=>match H1.obj o with
    |some (.lp 0 none)=>kC E H.length fr1 (H1.put o (some (.lp 2 none))) (.h (x,λe2 _ H2=>match H2.obj o with
     |some (.lp 2 none)=>some (gcV H.length (.d (.b (isN e2))) (H2.put o (some (if isN e2 then .lp 0 none else .lp 1 (some e2)))))
     |_=>none))
    |_=>none
   |_=>none)):=by
 simp only[qih,qdy,if_pos hl,if_true,ho,kC];cases qag E lpI H.length a ⟨qdR fr ps args,H⟩with
 |none=>rfl
 |some p=>
  obtain⟨e,s1⟩:=p;cases e with
  |norm=>
   simp only;cases hh:s1.H.obj o with
   |none=>rfl
   |some y=>
    cases y with
    |lp st j=>match st,j with
     |0,none=>
      simp only;cases qag E lpI H.length x ⟨s1.fr,s1.H.put o (some (.lp 2 none))⟩with
      |none=>rfl
      |some q=>rfl
     |0,some _=>rfl
     | (n+1),_=>rfl
    |_=>rfl
  |_=>rfl
def qFP(T:Tab)(Y:Nat->Cz->CW->CJ):(T.Bb Y).yld=Y:=rfl
def qsa(T:Tab)(Y:Nat->Cz->CW->CJ):T.env.it Y=T.it Y:=rfl
def qEM{o:Nat}{as0:Cz}{q:PV->CW->CK R}:qmG E H (.h o) as0 (.h q)=bo2 (E.yld o as0 H) (.h q):=rfl
end
def qua(H:CW)(m:Nat):∀(n:Nat) (todo:CF),(∀r∈todo,r<=m)->qaH H m n [m] todo=[m]
 |0,_,_=>rfl
 |n+1,[],_=>rfl
 |n+1,o::todo,h=>by
  rw[qaH];have h1:=h o (zzr ..);by_cases g:o<m
  ·rw[if_pos g];exact qua H m n todo λr hr=>h r (zzi _ hr)
  ·have:o=m:=by omega
   subst this;rw[if_neg g,if_pos (by simp)];exact qua H o n todo λr hr=>h r (zzi _ hr)
def qBF(H:CW)(m:Nat)(hm:qaO (H.obj m)=[]):∀(fs low:CF) (n:Nat),fs.length<n->(∀r∈fs,r<=m)->(∀r∈low,r<=m)->m∈fs->qaH H m n [] (fs++low)=[m]
 |[],_,_,_,_,_,h=>by cases h
 |o::fs,low,0,hn,_,_,_=>absurd hn (zzm _)
 |o::fs,low,n+1,hn,h1,h2,h=>by
  rw[List.cons_append,qaH];have ho:=h1 o (zzr ..);by_cases g:o<m
  ·rw[if_pos g];refine qBF H m hm fs low n (by simp at hn;omega) (λr hr=>h1 r (zzi _ hr)) h2 ?_;rcases List.mem_cons.1 h with h|h
   ·omega
   ·exact h
  ·have:o=m:=by omega
   subst this;rw[if_neg g,if_neg (by simp),hm,List.nil_append,List.nil_append];exact qua H o n _ λr hr=>by
    rcases zzB.1 hr with hr|hr
    ·exact h1 r (zzi _ hr)
    ·exact h2 r hr
def qst(live:CF){H J:CW}{y:CK Obj}{fr:Fr}(hH:Cl H)(hy:qaO y=[])(hn:(qaw (Fr.keep live fr)).length<1000)(hf:∀r∈qaw (Fr.keep live fr),r<=H.length)(hmem:H.length∈qaw (Fr.keep live fr)):gc live H.length ⟨fr,H++y::J⟩=⟨Fr.keep live fr,H++[y]⟩:=by
 have ht:(H++y::J).take H.length=H:=by simp
 have hobj:(H++y::J).obj H.length=y:=qk3 H (y::J);have hr:qaH (H++y::J) H.length 1000 [] (qaw (Fr.keep live fr)++qat H)=[H.length]:=qBF _ _ (by rw[hobj];exact hy) _ _ _ hn hf (λr hr=>Nat.le_of_lt (hH r hr)) hmem;have hp:∀r,r<=H.length->qaJ H.length [H.length] r=some r:=λr h=>by
  by_cases g:r<H.length
  ·simp[qaJ,g]
  ·have:r=H.length:=by omega
   subst this;simp[qaJ,zzd]
 simp only[gc,ht,hr,gcH,zzu,List.map_nil,hobj];rw[qsp (λr h=>hp r (hf r h)),qpj (λr h=>hp r (Nat.le_of_lt (hH r h))),qA0 (λr h=>by rw[hy]at h;cases h)]
section
variable {R:Type}{E:Env}{ρ:Ab->PV}{H:CW}{id:Nat}{q:PV->CW->CK R}{base:Nat}
def qcu{K K':Sim.K}{o off len:Nat}{t:CO}{kk:IntKind}{n:Int}{y:PV->CK R}:bo (AJ H K (.r o K' off len t) (.d (.i kk n))) (.h y)=chk (0<=n/\n<len) (.h (match H.obj o with|some (.sl K2 _ es)=>chk ((K.eq K'&&K.eq K2&&decide (off+len<=es.length))=true) (.h (y (.p o (off+n.toNat) 0)))|_=>none)):=by
 simp only[AJ,asI,inR,chk];by_cases h:0<=n/\n<len
 ·rw[if_pos h,if_pos h];cases H.obj o with
  |none=>rfl
  |some x=>
   cases x with
   |sl k2 ro es=>simp only;split<;>rfl
   |_=>rfl
 ·rw[if_neg h,if_neg h];simp only;rfl
def qEv{len:Nat}{k:Sim.K}{x i:Ab}:bo2 (qaa E ρ H id (.BM len k x i)) (.h q)=bo (asI (ρ i)) (.h λ(n:Int)=>chk (0<=n/\n<len) (.h (bo (qdJ (n.toNat*k.size) (ρ x)) (.h λv=>q v H)))):=by
 simp only[qaa];cases asI (ρ i)with
 |none=>rfl
 |some n=>
  simp only[bo,inR,chk];by_cases h:0<=n/\n<len
  ·rw[if_pos h,if_pos h];simp only;cases qdJ (n.toNat*k.size) (ρ x)<;>rfl
  ·rw[if_neg h,if_neg h];rfl
def qwL{kk:IntKind}{n:Int}{y:Int->CK R}:bo (asI (.d (.i kk n))) (.h y)=y n:=rfl
def qEw{k:Sim.K}{b:Nat}{z:DV}{len cap:Ab}:bo2 (qaa E ρ H id (.mksl k b z len cap)) (.h q)=bo (asI (ρ len)) (.h λ(n:Int)=>bo (asI (ρ cap)) (.h λ(c:Int)=>chk (0<=n/\n<=c/\c*b<=2^47) (.h (q (.r id k 0 n.toNat false) (H.put id (some (.sl k 0 (List.replicate n.toNat z)))))))):=by
 simp only[qaa];cases asI (ρ len)with
 |none=>rfl
 |some n=>
  cases asI (ρ cap)with
  |none=>rfl
  |some c=>simp only[bo,chk];split<;>rfl
def qdD{k:Sim.K}{z:DV}{len:Nat}{ps:CL (Nat×Ab)}:bo2 (qaa E ρ H id (.bsl k z len ps)) (.h q)=bo (qbN H k (List.replicate len z) (ps.map λx=>(x.1,ρ x.2))) (.h λp=>q (.r id k 0 len true) ((frz H p.2).put id (some (.sl k 0 p.1)))):=by simp only[qaa];cases qbN H k (List.replicate len z) (ps.map λx=>(x.1,ρ x.2))<;>rfl
def qdF{k:Sim.K}{es:Cy}{y:Cy×CF->CK R}:bo (qbN H k es []) (.h y)=y (es,[]):=rfl
def qdE{k:Sim.K}{es:Cy}{j:Nat}{v:DV}{r:CL (Nat×PV)}{y:Cy×CF->CK R}:bo (qbN H k es ((j,.d v)::r)) (.h y)=chk ((fits k (.d v)&&decide (j<es.length))=true) (.h (bo (qbN H k (es.set j v) r) (.h y))):=by
 simp only[qbN,chk];by_cases h:(fits k (.d v)&&decide (j<es.length))=true
 ·simp only[h,if_true,pur,qaW];cases qbN H k (es.set j v) r with
  |none=>rfl
  |some p=>simp[bo]
 ·simp only[h,if_false,zzg];rfl
def qwO{k:IntKind}{a b:Int}{y:PV->CK R}:bo (mm2 false (.d (.i k a)) (.d (.i k b))) (.h y)=y (.d (.i k (min a b))):=by
 have h:(if b<a then b else a)=min a b:=by rw[Int.min_def];split<;>split<;>omega
 simp only[mm2,if_true,zzg,if_false,h];rfl
def qh9{σ:Type}{live:CF}{body:PC}{k:KC R}(st:σ->St)(f:Nat->σ)(n:Nat){r:CK R}
  (hend:∀B,B=body->kC E base (st (f n)).fr (st (f n)).H (.h (body,lpK E base live B k))=r)
  (hround:∀B,B=body->∀i,i<n->∀c,(∀fr H,gc live base ⟨fr,H⟩=st (f (i+1))->kC E base fr H (.h (.loop live B,k))=c)->kC E base (st (f i)).fr (st (f i)).H (.h (body,lpK E base live B k))=c)
  {fr:Fr} {H:CW} (h0:gc live base ⟨fr,H⟩=st (f 0)):kC E base fr H (.h (.loop live body,k))=r:=by
 rw[qcr (List.replicate n ()) (λi (_:Unit)=>st (f i)) (λ_ _=>True) (λ_ _ _ c=>c ()) (λ_=>r) ?_ ?_ h0 trivial]
 ·have:∀(i:Nat) (l:CL Unit),rounds (λ_ _ _ c=>c ()) (λ_=>r) i () l=r:=by
   intro i l;induction l generalizing i with
   |nil=>rfl
   |cons x l ih=>exact ih (i+1)
  exact this _ _
 ·intro B hB _ _;simpa using hend B hB
 ·intro B hB i _ hi _ c hc;exact hround B hB i (by simpa using hi) (c ()) λfr H hg=>hc () fr H trivial hg
end
def qi5(o off len:Nat)(k:K)(t:CO):fits none (.r o k off len t)=true:=rfl
def qsl(f:Nat)(cs:Cz):fits none (.f f cs)=true:=rfl
section
variable {R:Type}{H:CW}
def stM(H:CW)(k:K)(o i c:Nat)(v:PV)(x:CK Obj){hy:CW->CK R}(_:Hd hy):CK R:=match x with
 |some (.box kb w)=>chk (fits k v=true) (.h (chk (i=0) (.h (if (c==0&&K.eq k kb)=true then hy (H.put o (some (.box kb v)))else chk (c+k.size<=w.cells.length) (.h (bo (mkP kb (putAt w.cells c v.cells)) (.h λw'=>hy (H.put o (some (.box kb w'))))))))))
 |some (.sl kb ro es)=>chk (fits k v=true) (.h (bo es[i]? (.h λe=>chk (ro<=i) (.h (bo (pur H v) (.h λp=>chk (p.2.contains o=false) (.h (if (c==0&&K.eq k kb)=true then hy ((frz H p.2).put o (some (.sl kb ro (es.set i p.1))))else chk (c+k.size<=e.cells.length) (.h (bo (mkD kb (putAt e.cells c p.1.cells)) (.h λe'=>hy ((frz H p.2).put o (some (.sl kb ro (es.set i e')))))))))))))))
 |_=>none
def qlf(k:K)(o i c:Nat)(v:PV){hy:CW->CK R}:bo (qbY H k (.p o i c) v) (.h hy)=stM H k o i c v (H.obj o) (.h hy):=by
 unfold stM;split
 ·rename_i kb w ho;exact qCl kb k o i c v w ho
 ·rename_i kb ro es ho;simp only[qbY,ho,chk];by_cases hf:fits k v=true
  ·simp only[hf,if_true];cases es[i]? with
   |none=>rfl
   |some e=>
    simp only[bo];by_cases hr:ro<=i
    ·simp only[hr,if_true];cases pur H v with
     |none=>rfl
     |some p=>
      obtain⟨x,os⟩:=p;simp only;cases hc:os.contains o with
      |true=>simp
      |false=>
       simp only[zzg,if_false,if_true];by_cases hk:(c==0&&K.eq k kb)=true
       ·simp only[hk,if_true]
       ·simp only[hk,if_false,zzg];by_cases hs:c+k.size<=e.cells.length
        ·simp only[hs,if_true];cases mkD kb (putAt e.cells c x.cells)<;>rfl
        ·simp only[hs,if_false]
    ·simp only[hr,if_false]
  ·simp only[hf,zzg,if_false];rfl
 ·rename_i h1 h2;simp only[qbY];cases hx:H.obj o with
  |none=>by_cases hf:fits k v=true<;>simp[hf,bo]
  |some y=>
   cases y with
   |box kb w=>exact absurd hx (h1 kb w)
   |sl kb ro es=>exact absurd hx (h2 kb ro es)
   |_=>by_cases hf:fits k v=true<;>simp[hf,bo]
def qnM(kb k:K)(o i c:Nat)(v w:PV){hy:CW->CK R}:stM H k o i c v (some (.box kb w)) (.h hy)=chk (fits k v=true) (.h (chk (i=0) (.h (if (c==0&&K.eq k kb)=true then hy (H.put o (some (.box kb v)))else chk (c+k.size<=w.cells.length) (.h (bo (mkP kb (putAt w.cells c v.cells)) (.h λw'=>hy (H.put o (some (.box kb w')))))))))):=rfl
def qle(kb k:K)(o i c ro:Nat)(v:PV)(es:Cy){hy:CW->CK R}:stM H k o i c v (some (.sl kb ro es)) (.h hy)=chk (fits k v=true) (.h (bo es[i]? (.h λe=>chk (ro<=i) (.h (bo (pur H v) (.h λp=>chk (p.2.contains o=false) (.h (if (c==0&&K.eq k kb)=true then hy ((frz H p.2).put o (some (.sl kb ro (es.set i p.1))))else chk (c+k.size<=e.cells.length) (.h (bo (mkD kb (putAt e.cells c p.1.cells)) (.h λe'=>hy ((frz H p.2).put o (some (.sl kb ro (es.set i e'))))))))))))))):=rfl
def qcS(k:K)(v:DV){z:DV->CK R}:bo (qcI k v 0 k) (.h z)=z v:=by
 have:K.eq k k=true:=by cases k<;>simp[K.eq]
 simp[qcI,this,bo]
end
section
variable {R:Type}{E:Env}{fr:Fr}{H:CW}{bf:CF}{acc:CL (CF × CF)}{id:Nat}{j:KO R}
def qmt(b:Nat):Nat->Nat->CO
 |_,0=>true
 |i,n+1=>b.testBit i&&qmt b (i+1) n
def qA6(b:Nat)(t w:CF):∀(acc:CL (CF×CF)) (i:Nat),qmt b i acc.length=true->qaM b i acc t w=true
 |[],_,_=>rfl
 |x::r,i,h=>by simp only[zzn,qmt,zzf]at h;simp only[qaM,h.1,Bool.true_or,Bool.true_and];exact qA6 b t w r (i+1) h.2
def qIE{d:Nat}{z:Ab}:kD E id fr H bf acc (.h ([⟨some d,.mov z,none⟩],j))=j (fr.set d (rd E fr z)) H:=by
 rw[qkR];simp only[Bi,qaq,IOp.okD,if_true,qaa];have hw:Ar E ⟨some d,.mov z,none⟩ id ⟨fr,H⟩ ⟨fr.set d (rd E fr z),H⟩=[]:=by simp[Ar,runs,IOp.adds,IOp.okD,qaP,qas,chg]
 have ht:Az E ⟨some d,.mov z,none⟩ ⟨fr,H⟩=[]:=by simp[Az,runs,IOp.okD,qas]
 simp only[qdm,nfp,qa3,chk,hw,ht,List.nil_append,qA5,if_true];rfl
def qyZ{d d2:Nat}{k:K}{b:Nat}{x y z:Ab}(h:qmt (bf.headD 0) 0 acc.length=true):kD E id fr H bf acc (.h ([⟨some d,.app k b x y,none⟩,⟨some d2,.mov z,none⟩],j))=bo2 (qaa E (rd E fr) H id (.app k b x y)) (.h λv H'=>j ((fr.set d v).set d2 (rd E (fr.set d v) z)) H'):=by
 rw[qkR];simp only[Bi,qaq,IOp.okD,if_true];cases qaa E (rd E fr) H id (.app k b x y)with
 |none=>rfl
 |some p=>obtain⟨v,H'⟩:=p;simp only[bo2,qdm,nfp,qa3,chk,qA6 _ _ _ _ _ h,if_true];rw[qIE]
def qrQ(E:Env)(H:CW)(v:PV)(ds:CK (Cy)){x:CK R}{q:PV->CW->CK R}(_:Hd (x,q)):CK R:=match v,ds with
 |.f n [],some ds=>bo (E.val n ds) (.h λr=>q r.1 H)
 |_,_=>x
def qoR{ρ:Ab->PV}{q:PV->CW->CK R}{x:Ab}{as0:CL Ab}:bo2 (qaq E ρ H id (.BI x as0)) (.h q)=qrQ E H (ρ x) (qac (as0.map ρ)) (.h (bo2 (qaq E ρ H id (.BI x as0)) (.h q),q)):=by
 unfold qrQ;split
 ·rename_i n ds hx hd;have hk:IOp.okD ρ (.BI x as0)=true:=by simp[IOp.okD,hx,hd]
  rw[qEC hk];simp only[qaa,hx,List.isEmpty_nil,if_true,hd];cases E.val n ds<;>rfl
 ·rfl
def qoH{n:Nat}{ds:Cy}{x:CK R}{q:PV->CW->CK R}:qrQ E H (.f n []) (some ds) (.h (x,q))=bo (E.val n ds) (.h λr=>q r.1 H):=rfl
end
section
variable {R:Type}{E:Env}{ρ:Ab->PV}{H:CW}{id:Nat}{q:PV->CW->CK R}{base:Nat}
def qc8(k:IntKind)(x:PV){q:PV->CK R}(_:Hd q):CK R:=match x with|.d (.i _ n)=>q (.d (.i k (k.wrap n)))|_=>none
def qaR{k kk:IntKind}{n:Int}{q:PV->CK R}:qc8 k (.d (.i kk n)) (.h q)=q (.d (.i k (k.wrap n))):=rfl
def qay{k:IntKind}{x:Ab}:bo2 (qaa E ρ H id (.conv k x)) (.h q)=qc8 k (ρ x) (.h λv=>q v H):=by
 simp only[qaa,qc8];cases ρ x with
 |d v=>cases v<;>rfl
 |_=>rfl
def qED{k k':IntKind}{a b:Int}{y:DV->CK R}:bo (qaL .shr (.d (.i k a)) (.d (.i k' b))) (.h y)=chk (0<=b) (.h (y (.i k (a.fdiv (2^min b.toNat k.bits))))):=by
 simp only[qaL,qjE,chk];by_cases h:b<0
 ·rw[if_pos h,if_neg (by omega)];rfl
 ·rw[if_neg h,if_pos (by omega)];rfl
def qGH(n:Nat):Int.fdiv (n:Int) (2^min (Int.toNat 1) IntKind.u64.bits)=((n/2:Nat):Int):=by show Int.fdiv (n:Int) 2=_;rw[Int.fdiv_eq_ediv_of_nonneg _ (by omega)];omega
def wrU{n:Int}(h:0<=n)(h':n<18446744073709551616):IntKind.u64.wrap n=n:=by
 have e:IntKind.u64.wrap n=n%18446744073709551616:=by unfold IntKind.wrap;simp[IntKind.bits,IntKind.signed]
 rw[e];omega
def qrE{k k':Sim.K}{o off len:Nat}{t:CO}{lo hi:CK PV}{y:PV->CK R}:bo (slA H k (.r o k' off len t) lo hi none) (.h y)=match H.obj o with
  |some (.sl _ _ es)=>chk ((K.eq k k'&&decide (off+len<=es.length))=true) (.h (bo (bnd len len hi) (.h λh=>bo (bnd 0 h lo) (.h λl=>y (.r o k (off+l) (h-l) (t&&h==len))))))
  |_=>none:=by
 simp only[slA];cases H.obj o with
 |none=>rfl
 |some x=>
  cases x with
  |sl k2 ro es=>
   simp only[chk];by_cases hc:(K.eq k k'&&decide (off+len<=es.length))=true
   ·have e:bnd len len none=some len:=rfl;simp only[hc,if_true,e,Option.isSome_none,zzg,if_false];cases bnd len len hi with
    |none=>rfl
    |some h=>simp only[bo];cases bnd 0 h lo<;>rfl
   ·simp only[hc,if_false,zzg];rfl
  |_=>rfl
def qEE{k k':Sim.K}{es:Cy}{t:CO}{lo hi:CK PV}{y:PV->CK R}:bo (slA H k (.d (.l k' es t)) lo hi none) (.h y)=chk ((K.eq k k'||es.isEmpty)=true) (.h (bo (bnd es.length es.length hi) (.h λh=>bo (bnd 0 h lo) (.h λl=>y (.d (.l k ((es.take h).drop l) (t&&h==es.length))))))):=by
 simp only[slA,chk];by_cases hc:(K.eq k k'||es.isEmpty)=true
 ·have e:bnd es.length es.length none=some es.length:=rfl;simp only[hc,if_true,e,Option.isSome_none,zzg,if_false];cases bnd es.length es.length hi with
  |none=>rfl
  |some h=>simp only[bo];cases bnd 0 h lo<;>rfl
 ·simp only[hc,if_false,zzg];rfl
def qcq{σ:Type}{live:CF}{body:PC}{k:KC R}(st:σ->St)(inv:σ->Prop)(μ:σ->Nat){r:CK R}
  (hround:∀B,B=body->∀s,inv s->(∀s',inv s'->μ s'<μ s->∀fr H,gc live base ⟨fr,H⟩=st s'->kC E base fr H (.h (.loop live B,k))=r)->kC E base (st s).fr (st s).H (.h (body,lpK E base live B k))=r)
  (s:σ) (hs:inv s) {fr:Fr} {H:CW} (h0:gc live base ⟨fr,H⟩=st s):kC E base fr H (.h (.loop live body,k))=r:=by
 have key:∀(n:Nat) (s:σ),μ s<n->inv s->∀fr H,gc live base ⟨fr,H⟩=st s->kC E base fr H (.h (.loop live body,k))=r:=by
  intro n;induction n with
  |zero=>intro s h;exact absurd h (zzm _)
  |succ n ih=>intro s hn hv fr H hg;rw[qji,hg];exact hround body rfl s hv λs' hv' hm fr' H' hg'=>ih s' (by omega) hv' fr' H' hg'
 exact key (μ s+1) s (Nat.lt_succ_self _) hs fr H h0
end
def Wd(z:Int):Be:=⟨z/18446744073709551616,z%18446744073709551616⟩
def qeG(z:Int):∃a,Wd z=a/\a.Hi=z/18446744073709551616/\a.Lo=z%18446744073709551616:=⟨_,rfl,rfl,rfl⟩
def wd0{A B z:Int}(h1:A=z/18446744073709551616)(h2:B=z%18446744073709551616):DV.a [I A,.i .u64 B]=(Wd z).dv:=by subst h1;subst h2;rfl
structure ASz where
 h:Int
 l:Int
def ASz.cells(x:ASz):Cy:=[.i .u64 x.h,.i .u64 x.l]
def ASz.dv(x:ASz):DV:=.a [.i .u64 x.h,.i .u64 x.l]
@[simp] def ASz.fits(x:ASz):Sim.fits (K1 2) (.d (ASz.dv x))=true:=rfl
@[simp] def ASz.AC(x:ASz)(H:CW):Sim.AC H (.d (ASz.dv x))=some (.d (ASz.dv x),false):=rfl
@[simp] def ASz.clen(x:ASz):(ASz.dv x).cells.length=2:=rfl
@[simp] def ASz.aof(x:ASz):DV.a (ASz.cells x)=ASz.dv x:=rfl
@[simp] def ASz.ccl(x:ASz):(ASz.cells x).length=2:=rfl
@[simp] def ASz.c0(x:ASz):(ASz.dv x).cells[0]? = some (.i .u64 x.h):=rfl
@[simp] def ASz.c1(x:ASz):(ASz.dv x).cells[1]? = some (.i .u64 x.l):=rfl
def Sz(z:Int):ASz:=⟨z/18446744073709551616,z%18446744073709551616⟩
def qnO(z:Int):∃a,Sz z=a/\a.h=z/18446744073709551616/\a.l=z%18446744073709551616:=⟨_,rfl,rfl,rfl⟩
def sz0{A B z:Int}(h1:A=z/18446744073709551616)(h2:B=z%18446744073709551616):DV.a [.i .u64 A,.i .u64 B]=(Sz z).dv:=by subst h1;subst h2;rfl
def wU(n:Int):IntKind.u64.wrap n=n%18446744073709551616:=IntKind.wrap_u64 n
def wI(n:Int):IntKind.i64.wrap n=(n+9223372036854775808)%18446744073709551616-9223372036854775808:=IntKind.wrap_i64 n
def aI(n:Int):Int:=if n<0 then -n else n
def qhQ{n:Int}(h:n<0):aI n=-n:=if_pos h
def qov{n:Int}(h:¬n<0):aI n=n:=if_neg h
def ngW(z:Int):Int:=if z=-170141183460469231731687303715884105728 then z else -z
def qaT{α R:Type}{x:CK α}{v:α}{d:α->CK R}(h:x=some v):bo x (.h d)=d v:=by rw[h];rfl
def qnm(a b:Int):qaL .mul (.d (.i .u64 a)) (.d (.i .u64 b))=some (.i .u64 (a*b%18446744073709551616)):=by rw[<-wU];rfl
def qow(a b:Int):qaL .add (.d (.i .u64 a)) (.d (.i .u64 b))=some (.i .u64 ((a+b)%18446744073709551616)):=by rw[<-wU];rfl
def qP9(a b:Int):qaL .sub (.d (.i .u64 a)) (.d (.i .u64 b))=some (.i .u64 ((a-b)%18446744073709551616)):=by rw[<-wU];rfl
def qmu(a:Int)(h0:0<=a)(h1:a<18446744073709551616):qaL .and (.d (.i .u64 a)) (.d (.i .u64 4294967295))=some (.i .u64 (a%4294967296)):=by rw[<-Go.and_low32 a h0 h1];rfl
def qu5(a:Int)(s:Nat)(h:s<=64):qaL .shl (.d (.i .u64 a)) (.d (.i .u64 (s:Int)))=some (.i .u64 (a*2^s%18446744073709551616)):=by rw[<-wU];show (if (s:Int)<0 then none else some (DV.i .u64 (IntKind.u64.wrap (a*2^min (Int.toNat (s:Int)) 64))))=_;rw[if_neg (by omega),Int.toNat_natCast,Nat.min_eq_left h]
def qnL(a:Int)(s:Nat)(h:s<=64):qaL .shr (.d (.i .u64 a)) (.d (.i .u64 (s:Int)))=some (.i .u64 (a/2^s)):=by show (if (s:Int)<0 then none else some (DV.i .u64 (a.fdiv (2^min (Int.toNat (s:Int)) 64))))=_;rw[if_neg (by omega),Int.toNat_natCast,Nat.min_eq_left h,Int.fdiv_eq_ediv_of_nonneg _ (Int.le_of_lt (Int.pow_pos (by decide)))]
def qik(a:Int):qaL .shr (.d (.i .u64 a)) (.d (.i .u64 32))=some (.i .u64 (a/4294967296)):=qnL a 32 (by omega)
def qSq{n:Int}(h0:0<=n)(h1:n<18446744073709551616):unA .xor (.d (.i .u64 n))=some (.i .u64 (18446744073709551615-n)):=by
 obtain⟨m,rfl⟩:=Int.eq_ofNat_of_zero_le h0;show some (DV.i .u64 (IntKind.u64.wrap (BitVec.ofInt 64 18446744073709551615 ^^^ BitVec.ofInt 64 (m:Int)).toNat))=_;have e:BitVec.ofInt 64 18446744073709551615=BitVec.allOnes 64:=by decide
 rw[e,BitVec.allOnes_xor,BitVec.toNat_not,BitVec.ofInt_natCast,BitVec.toNat_ofNat,wU];congr 2;omega
def qSp{n:Int}(h0 : -9223372036854775808<=n)(h1:n<9223372036854775808):unA .xor (.d (I n))=some (I (-1-n)):=by
 show some (DV.i .i64 (IntKind.i64.wrap (BitVec.ofInt 64 (-1) ^^^ BitVec.ofInt 64 n).toNat))=_;have e:BitVec.ofInt 64 (-1)=BitVec.allOnes 64:=by decide
 rw[e,BitVec.allOnes_xor,BitVec.toNat_not,BitVec.toNat_ofInt,wI];refine congrArg (λz=>some (DV.i .i64 z)) ?_;omega
def qpU{a b c d:Int}(h1:a<=c)(h2:b<=d)(h3:0<=b)(h4:0<=c):a*b<=c*d:=Int.le_trans (Int.mul_le_mul_of_nonneg_right h1 h3) (Int.mul_le_mul_of_nonneg_left h2 h4)
structure Dig (v u x q r:Int):Prop where
 v0:9223372036854775808<=v
 v1:v<18446744073709551616
 u0:0<=u
 u1:u<v
 x0:0<=x
 x1:x<4294967296
 e:q*(v/4294967296)+r=u
 r0:0<=r
 q0:(u*4294967296+x)/v<=q
 q1:q<=4294967297
def qer{v u x:Int}(h0:9223372036854775808<=v)(u0:0<=u)(u1:u<v)(x0:0<=x)(x1:x<4294967296):0<=(u*4294967296+x)/v/\(u*4294967296+x)/v<4294967296/\(u*4294967296+x)/v*v<=u*4294967296+x/\u*4294967296+x<(u*4294967296+x)/v*v+v:=by
 have hv:0<v:=by omega
 refine⟨Int.ediv_nonneg (by omega) (by omega),?_,?_,?_⟩
 ·apply Int.ediv_lt_of_lt_mul hv;omega
 ·exact Int.ediv_mul_le _ (by omega)
 ·exact Int.lt_ediv_add_one_mul_self _ hv |> λh=>by rw[Int.add_mul,Int.one_mul]at h;exact h
def qFw{v u x:Int}(h0:9223372036854775808<=v)(h1:v<18446744073709551616)(u0:0<=u)(u1:u<v)(x0:0<=x)(x1:x<4294967296):Dig v u x (u/(v/4294967296)) (u-u/(v/4294967296)*(v/4294967296))/\u-u/(v/4294967296)*(v/4294967296)<4294967296:=by
 obtain⟨n1,n2,n3,n4⟩:=qer h0 u0 u1 x0 x1;obtain⟨w,hw⟩:∃w,w=v/4294967296:=⟨_,rfl⟩;have w0:2147483648<=w:=by omega
 have w1:w<4294967296:=by omega
 have a1:u/w*w<=u:=Int.ediv_mul_le _ (by omega);have a2:u<u/w*w+w:=by have h:=Int.lt_ediv_add_one_mul_self u (b:=w) (by omega);rw[Int.add_mul,Int.one_mul]at h;exact h
 rw[<-hw];refine⟨⟨h0,h1,u0,u1,x0,x1,by rw[<-hw];omega,by omega,?_,?_⟩,by omega⟩
 ·apply Int.le_ediv_of_mul_le (by omega);generalize (u*4294967296+x)/v=Q at *
  have b1:Q*(w*4294967296)<=Q*v:=Int.mul_le_mul_of_nonneg_left (by omega) n1;rw[<-Int.mul_assoc]at b1;omega
 ·have:u/w<4294967298:=by apply Int.ediv_lt_of_lt_mul (by omega);omega
  omega
def qxm{v u x q r:Int}(h:Dig v u x q r)(hc:4294967296<=q\/4294967296*r+x<q*(v%4294967296)):Dig v u x (q-1) (r+v/4294967296):=by
 obtain⟨v0,v1,u0,u1,x0,x1,e,r0,q0,q1⟩:=h;obtain⟨n1,n2,n3,n4⟩:=qer v0 u0 u1 x0 x1;refine⟨v0,v1,u0,u1,x0,x1,by rw[Int.sub_mul,Int.one_mul];omega,by omega,?_,by omega⟩;generalize (u*4294967296+x)/v=Q at *
 rcases hc with hc|hc
 ·omega
 ·have hne:Q≠q:=by
   intro hq;subst hq;have ev:Q*v=Q*(v/4294967296)*4294967296+Q*(v%4294967296):=by
    have:v=v/4294967296*4294967296+v%4294967296:=by omega
    conv=>lhs;rw[this]
    rw[Int.mul_add,Int.mul_assoc]
   omega
  omega
def qr6{v u x q r:Int}(h:Dig v u x q r)(hc:q*(v%4294967296)<=4294967296*r+x):q=(u*4294967296+x)/v:=by
 obtain⟨v0,v1,u0,u1,x0,x1,e,r0,q0,q1⟩:=h;refine Int.le_antisymm ?_ q0;apply Int.le_ediv_of_mul_le (by omega);have ev:q*v=q*(v/4294967296)*4294967296+q*(v%4294967296):=by
  have:v=v/4294967296*4294967296+v%4294967296:=by omega
  conv=>lhs;rw[this]
  rw[Int.mul_add,Int.mul_assoc]
 omega
def qxk{v u x q r:Int}(h:Dig v u x q r)(hr:4294967296<=r)(hq:q<=4294967296):q=(u*4294967296+x)/v:=by apply qr6 h;have q0:0<=q:=Int.le_trans (qer h.v0 h.u0 h.u1 h.x0 h.x1).1 h.q0;have:q*(v%4294967296)<=4294967296*4294967295:=qpU hq (by omega) (by omega) (by omega);have:=h.x0;omega
def qxn{v u x q r:Int}(h:Dig v u x q r)(hq:q<4294967296):0<=q*(v%4294967296)/\q*(v%4294967296)<18446744073709551616:=by have q0:0<=q:=Int.le_trans (qer h.v0 h.u0 h.u1 h.x0 h.x1).1 h.q0;have:q*(v%4294967296)<=4294967295*4294967295:=qpU (by omega) (by omega) (by omega) (by omega);exact⟨Int.mul_nonneg q0 (by omega),by omega⟩
def qFx{v U u a b Q w:Int}(h0:9223372036854775808<=v)(hU:0<=U)(hu:u=U/18446744073709551616)(h1:u<v)(ha:a=U%18446744073709551616/4294967296)(hb:b=U%18446744073709551616%4294967296)(hQ:Q=(u*4294967296+a)/v)(hw:w=u*4294967296+a-Q*v) :
  0<=w/\w<v/\Q*4294967296+(w*4294967296+b)/v=U/v/\w*4294967296+b-(w*4294967296+b)/v*v=U%v:=by
 have hv:0<v:=by omega
 obtain⟨n1,n2,n3,n4⟩:=qer (v:=v) (u:=u) (x:=a) h0 (by omega) h1 (by omega) (by omega);rw[<-hQ]at n1 n2 n3 n4;have w0:0<=w:=by omega
 have w1:w<v:=by omega
 have eU:U=w*4294967296+b+Q*4294967296*v:=by
  have:U=(u*4294967296+a)*4294967296+b:=by omega
  rw[Int.mul_right_comm];omega
 refine⟨w0,w1,?_,?_⟩
 ·have:U/v=(w*4294967296+b)/v+Q*4294967296:=by rw[eU,Int.add_mul_ediv_right _ _ (by omega:v≠0)]
  omega
 ·have e:=Int.mul_ediv_add_emod (w*4294967296+b) v;have e2:U%v=(w*4294967296+b)%v:=by rw[eU,Int.add_mul_emod_self_right]
  rw[e2];rw[Int.mul_comm]at e;omega
def qt1(a b:Int)(h0:0<=a)(h1:a<18446744073709551616)(hb:0<b):qaL .quo (.d (.i .u64 a)) (.d (.i .u64 b))=some (.i .u64 (a/b)):=by show (if b=0 then none else some (DV.i .u64 (IntKind.u64.wrap (a.tdiv b))))=_;rw[if_neg (by omega),Int.tdiv_eq_ediv_of_nonneg h0,wU];have:0<=a/b:=Int.ediv_nonneg h0 (by omega);have:a/b<=a:=Int.ediv_le_self b h0;congr 2;omega
def qBJ(a b:Int)(h0:0<=a)(hb:0<b):qaL .rem (.d (.i .u64 a)) (.d (.i .u64 b))=some (.i .u64 (a%b)):=by show (if b=0 then none else some (DV.i .u64 (a.tmod b)))=_;rw[if_neg (by omega),Int.tmod_eq_emod_of_nonneg h0]
def orU(x y:Int)(i:Nat)(x0:0<=x)(x1:x<18446744073709551616)(hx:x%2^i=0)(y0:0<=y)(hy:y<2^i)(hi:i<=64):qaL .or (.d (.i .u64 x)) (.d (.i .u64 y))=some (.i .u64 (x+y)):=by
 have hp:(2:Int)^i<=2^64:=by exact_mod_cast Nat.pow_le_pow_right (by decide:0<2) hi
 have e64:(2:Int)^64=18446744073709551616:=by decide
 rw[<-Go.bits_join .u64 64 (by decide) (λn a b=>wrU a (by rw[<-e64];exact b)) i x y x0 hx (by rw[e64];exact x1) y0 hy (by omega)];rfl
def qxl{v u x:Int}(h0:9223372036854775808<=v)(h1:v<18446744073709551616)(u0:0<=u)(u1:u<v)(x0:0<=x)(x1:x<4294967296):∃q r,Dig v u x q r/\r<4294967296/\qaL .quo (.d (.i .u64 u)) (.d (.i .u64 (v/4294967296)))=some (.i .u64 q)/\IntKind.u64.wrap (q*(v/4294967296))=q*(v/4294967296)/\IntKind.u64.wrap (u-q*(v/4294967296))=r:=by obtain⟨d,hr⟩:=qFw h0 h1 u0 u1 x0 x1;have e:=d.e;have r0:=d.r0;have q0:0<=u/(v/4294967296):=Int.ediv_nonneg u0 (by omega);have m0:0<=u/(v/4294967296)*(v/4294967296):=Int.mul_nonneg q0 (by omega);exact⟨_,_,d,hr,qt1 u _ u0 (by omega) (by omega),wrU m0 (by omega),wrU (by omega) (by omega)⟩
def qPR{hi lo y:Int}{s:Nat}(hs:s<=63)(h0:0<=hi)(l0:0<=lo)(l1:lo<18446744073709551616)(hy:hi<y)(hv:y*2^s<18446744073709551616) :
  ∃A L c,hi*2^s%18446744073709551616=A/\lo/2^(64-s)=L/\lo*2^s%18446744073709551616=c/\0<=A/\A%2^s=0/\0<=L/\L<2^s/\A+L<y*2^s/\(hi*18446744073709551616+lo)*2^s=(A+L)*18446744073709551616+c/\0<=c/\c<18446744073709551616:=by
 refine⟨_,_,_,rfl,rfl,rfl,?_⟩;have hp:(0:Int)<2^s:=Int.pow_pos (by decide);have hr:(0:Int)<2^(64-s):=Int.pow_pos (by decide);have hm:(2:Int)^(64-s)*2^s=18446744073709551616:=by rw[<-Int.pow_add,show 64-s+s=64 by omega];decide
 generalize (2:Int)^s=P at *
 generalize (2:Int)^(64-s)=R at *
 have a0:0<=hi*P:=Int.mul_nonneg h0 (by omega);have a1:(hi+1)*P<=y*P:=Int.mul_le_mul_of_nonneg_right (by omega) (by omega);rw[Int.add_mul,Int.one_mul]at a1;have eA:hi*P%18446744073709551616=hi*P:=Int.emod_eq_of_lt a0 (by omega);have L0:0<=lo/R:=Int.ediv_nonneg l0 (by omega);have L1:lo/R<P:=by apply Int.ediv_lt_of_lt_mul hr;rw[Int.mul_comm,hm];exact l1
 have eL:lo*P/18446744073709551616=lo/R:=by rw[<-hm,Int.mul_ediv_mul_of_pos_left _ _ hp]
 rw[eA];refine⟨a0,Int.mul_emod_left _ _,L0,L1,by omega,?_,by omega,by omega⟩;have e2:lo*P=lo/R*18446744073709551616+lo*P%18446744073709551616:=by rw[<-eL];omega
 rw[Int.add_mul,Int.mul_right_comm];omega
def qEk(a:Int)(h0:0<=a)(h1:a<18446744073709551616):qaL .and (.d (.i .u64 a)) (.d (.i .u64 1))=some (.i .u64 (a%2)):=by
 have e64:(2:Int)^64=18446744073709551616:=by decide
 have e:=Go.bits_mask .u64 64 (by decide) (λn a b=>wrU a (by rw[<-e64];exact b)) 1 (by omega) a h0 (by rw[e64];exact h1);have e2:Go.bits .and .u64 a 1=a%2:=e;rw[<-e2];rfl
def qyu{x n:Int}(h0:0<=x)(h:2<=n):x/n<=x/2:=by apply Int.le_ediv_of_mul_le (by omega);have q0:0<=x/n:=Int.ediv_nonneg h0 (by omega);exact Int.le_trans (Int.mul_le_mul_of_nonneg_left h q0) (Int.ediv_mul_le x (by omega))
def qFy{s n:Int}(h0:0<=s)(hn:0<n):s/18446744073709551616/n=s/n/18446744073709551616/\(s/18446744073709551616%n*18446744073709551616+s%18446744073709551616)/n=s/n%18446744073709551616/\(s/18446744073709551616%n*18446744073709551616+s%18446744073709551616)%n=s%n:=by
 have e:=Int.mul_ediv_add_emod (s/18446744073709551616) n;have hs:s=s/18446744073709551616*18446744073709551616+s%18446744073709551616:=by omega
 have r0:=Int.emod_nonneg (s/18446744073709551616) (b:=n) (by omega);have r1:=Int.emod_lt_of_pos (s/18446744073709551616) hn;have l0:0<=s%18446744073709551616:=by omega
 have l1:s%18446744073709551616<18446744073709551616:=by omega
 have hh:0<=s/18446744073709551616:=by omega
 generalize s/18446744073709551616=h at *
 generalize s%18446744073709551616=l at *
 have q0:0<=h/n:=Int.ediv_nonneg hh (by omega);generalize h/n=q at *
 generalize h%n=ρ at *
 have e2:s=ρ*18446744073709551616+l+q*18446744073709551616*n:=by rw[Int.mul_right_comm,Int.mul_comm q n];omega
 have t0:0<=(ρ*18446744073709551616+l)/n:=Int.ediv_nonneg (by omega) (by omega);have t1:(ρ*18446744073709551616+l)/n<18446744073709551616:=by apply Int.ediv_lt_of_lt_mul hn;omega
 have d:s/n=(ρ*18446744073709551616+l)/n+q*18446744073709551616:=by rw[e2,Int.add_mul_ediv_right _ _ (by omega:n≠0)]
 have m:s%n=(ρ*18446744073709551616+l)%n:=by rw[e2,Int.add_mul_emod_self_right]
 refine⟨by omega,by omega,m.symm⟩
def qKF{m n:Int}(hn:0<n)(h:m%n≠0):(-m)/n=-(m/n+1)/\(-m)%n=n-m%n:=by
 have e:=Int.mul_ediv_add_emod m n;have r0:=Int.emod_nonneg m (b:=n) (by omega);have r1:=Int.emod_lt_of_pos m hn;generalize m/n=q at *
 generalize m%n=ρ at *
 have e2 : -m=n-ρ + -(q+1)*n:=by rw[Int.neg_mul,Int.add_mul,Int.one_mul,Int.mul_comm q n];omega
 rw[e2,Int.add_mul_ediv_right _ _ (by omega:n≠0),Int.add_mul_emod_self_right,Int.ediv_eq_zero_of_lt (by omega) (by omega),Int.emod_eq_of_lt (by omega) (by omega)];omega
def qKE{m n:Int}(hn:0<n)(h:m%n=0):(-m)/n=-(m/n)/\(-m)%n=0:=by
 have e:=Int.mul_ediv_add_emod m n;generalize m/n=q at *
 have e2 : -m=0 + -q*n:=by rw[Int.neg_mul,Int.mul_comm q n];omega
 rw[e2,Int.add_mul_ediv_right _ _ (by omega:n≠0),Int.add_mul_emod_self_right];simp
def qbs(v:Int)(h0:0<=v)(h1:v<18446744073709551616):qaL .and (.d (.i .u64 v)) (.d (.i .u64 9223372036854775808))=some (.i .u64 (if 9223372036854775808<=v then 9223372036854775808 else 0)):=by
 obtain⟨k,rfl⟩:=Int.eq_ofNat_of_zero_le h0;show some (DV.i .u64 (IntKind.u64.wrap (BitVec.ofInt 64 (k:Int) &&& BitVec.ofInt 64 9223372036854775808).toNat))=_;have e:BitVec.ofInt 64 9223372036854775808=BitVec.ofNat 64 (2^63):=by decide
 have e2:k &&& 2^63=if 2^63<=k then 2^63 else 0:=by
  apply Nat.eq_of_testBit_eq;intro i;rw[Nat.testBit_and,Nat.testBit_two_pow];by_cases hi:63=i
  ·subst hi;have e3:k.testBit 63=decide (2^63<=k):=by rw[Nat.testBit_eq_decide_div_mod_eq];exact decide_eq_decide.2 (by omega)
   rw[e3];by_cases h:2^63<=k
   ·rw[if_pos h,Nat.testBit_two_pow];simp[h]
   ·rw[if_neg h];simp[h]
  ·by_cases h:2^63<=k
   ·rw[if_pos h,Nat.testBit_two_pow];simp[hi]
   ·rw[if_neg h];simp[hi]
 rw[e,BitVec.ofInt_natCast,BitVec.toNat_and,BitVec.toNat_ofNat,BitVec.toNat_ofNat,Nat.mod_eq_of_lt (by omega),Nat.mod_eq_of_lt (by decide),e2,wU];by_cases h:9223372036854775808<=(k:Int)
 ·rw[if_pos h,if_pos (by omega)];rfl
 ·rw[if_neg h,if_neg (by omega)];rfl
noncomputable def tabU:PT:=
 (.bin 683 qjY (.bin 24 F24 (.bin 18 F18 (.bin 16 F16 (.bin 12 F12 .nil .nil) .nil) (.bin 19 F19 .nil .nil)) (.bin 59 F59 (.bin 50 F50 (.bin 30 F30 .nil .nil) .nil) (.bin 603 qjX .nil .nil))) (.bin 1090 F1090 (.bin 950 F950 (.bin 919 qhI (.bin 715 qlZ .nil .nil) .nil) (.bin 1023 qjM .nil .nil)) (.bin 1095 F1095 (.bin 1094 qhD .nil .nil) (.bin 1096 qjN .nil .nil))))
noncomputable def tabV:PT:=
 (.bin 801 F801 (.bin 72 F72 (.bin 65 F65 (.bin 39 F39 (.bin 22 F22 .nil .nil) .nil) (.bin 71 F71 (.bin 66 F66 .nil .nil) .nil)) (.bin 684 qjZ (.bin 544 qfb (.bin 265 qlr .nil .nil) .nil) (.bin 708 qlY .nil .nil))) (.bin 883 ql3 (.bin 881 F881 (.bin 880 qj1 (.bin 879 ql1 .nil .nil) .nil) (.bin 882 ql2 .nil .nil)) (.bin 933 F933 (.bin 885 ql5 (.bin 884 ql4 .nil .nil) .nil) (.bin 934 qmd .nil .nil))))
abbrev HV(T:Tab):Prop:=∀n F,tabV.get n=some F->T.F n=some F
noncomputable def tabS:PT:=
 (.bin 679 F679 (.bin 545 qiy (.bin 512 qlG (.bin 504 F504 (.bin 259 qlq (.bin 177 qhE (.bin 106 F106 .nil .nil) .nil) (.bin 260 F260 .nil .nil)) (.bin 510 qlE (.bin 508 F508 (.bin 506 qfa .nil .nil) .nil) (.bin 511 qlF .nil .nil))) (.bin 540 F540 (.bin 538 qlI (.bin 537 F537 (.bin 513 qlH .nil .nil) .nil) (.bin 539 qlJ .nil .nil)) (.bin 543 F543 (.bin 542 qlK (.bin 541 qix .nil .nil) .nil) (.bin 544 qfb .nil .nil)))) (.bin 599 F599 (.bin 552 qlP (.bin 550 qlN (.bin 549 qlM (.bin 546 qlL .nil .nil) .nil) (.bin 551 qlO .nil .nil)) (.bin 597 qlS (.bin 596 qlR (.bin 595 qlQ .nil .nil) .nil) (.bin 598 F598 .nil .nil))) (.bin 607 qfc (.bin 602 qlU (.bin 601 qiz (.bin 600 qlT .nil .nil) .nil) (.bin 603 qjX .nil .nil)) (.bin 677 qlW (.bin 676 qlV .nil .nil) (.bin 678 qlX .nil .nil))))) (.bin 952 qmf (.bin 919 qhI (.bin 770 qj0 (.bin 685 F685 (.bin 684 qjZ (.bin 683 qjY .nil .nil) .nil) (.bin 769 ql0 .nil .nil)) (.bin 860 F860 (.bin 859 F859 (.bin 771 F771 .nil .nil) .nil) (.bin 861 F861 .nil .nil))) (.bin 924 qmb (.bin 922 F922 (.bin 921 ql9 (.bin 920 ql8 .nil .nil) .nil) (.bin 923 qma .nil .nil)) (.bin 950 F950 (.bin 925 qmc .nil .nil) (.bin 951 qme .nil .nil)))) (.bin 1093 F1093 (.bin 969 qmj (.bin 955 qmh (.bin 954 qmg (.bin 953 F953 .nil .nil) .nil) (.bin 968 qmi .nil .nil)) (.bin 1023 qjM (.bin 985 qml (.bin 970 qmk .nil .nil) .nil) (.bin 1090 F1090 .nil .nil))) (.bin 1100 qlm (.bin 1096 qjN (.bin 1095 F1095 (.bin 1094 qhD .nil .nil) .nil) (.bin 1099 qll .nil .nil)) (.bin 1102 qln (.bin 1101 F1101 .nil .nil) (.bin 1103 F1103 .nil .nil))))))
abbrev HS(T:Tab):Prop:=∀n F,tabS.get n=some F->T.F n=some F
noncomputable def tabN:PT:=
 (.bin 268 qlt (.bin 265 qlr .nil .nil) (.bin 344 qlu .nil .nil))
abbrev HN(T:Tab):Prop:=∀n F,tabN.get n=some F->T.F n=some F
noncomputable def tabA28:PT:=
 (.bin 886 ql6 (.bin 802 qfd (.bin 800 qdC (.bin 717 F717 .nil .nil) .nil) (.bin 878 F878 .nil .nil)) (.bin 932 F932 (.bin 887 ql7 .nil .nil) (.bin 1124 qqK .nil .nil)))
def H8(T:Tab):Prop:=∀n F,tabA28.get n=some F->T.F n=some F
noncomputable def tabE28:PT:=
 (.bin 1126 F1126 (.bin 633 F633 .nil .nil) .nil)
def H10(T:Tab):Prop:=∀n F,tabE28.get n=some F->T.F n=some F
noncomputable def tabP:PT:=
 (.bin 266 F266 (.bin 183 F183 (.bin 111 F111 (.bin 14 F14 (.bin 9 F9 .nil .nil) .nil) (.bin 182 qjO .nil .nil)) (.bin 185 F185 (.bin 184 qlo .nil .nil) (.bin 186 F186 .nil .nil))) (.bin 685 F685 (.bin 607 qfc (.bin 544 qfb (.bin 267 qls .nil .nil) .nil) (.bin 679 F679 .nil .nil)) (.bin 771 F771 (.bin 770 qj0 .nil .nil) (.bin 861 F861 .nil .nil))))
abbrev HP(T:Tab):Prop:=∀n F,tabP.get n=some F->T.F n=some F
noncomputable def tabC28:PT:=
 (.bin 1132 qek .nil .nil)
def HCh(T:Tab):Prop:=∀n F,tabC28.get n=some F->T.F n=some F
def Anx{R:Type}(Q:R->Prop)(x:CK R):Prop:=∃r,x=some r/\Q r
def qcg{R:Type}{Q:R->Prop}{c:CO}{x y:CK R}(h1:c=true->Anx Q x)(h2:c=false->Anx Q y):Anx Q (brn c (.h (x,y))):=by
 cases c with
 |true=>exact h1 rfl
 |false=>exact h2 rfl
def qaf{R:Type}{Q:R->Prop}{r:R}(h:Q r):Anx Q (some r):=⟨r,rfl,h⟩
section
variable {R:Type}{E:Env}{base:Nat}
def qb8{σ:Type}{live:CF}{body:PC}{k:KC R}{Q:R->Prop}(st:σ->St)(inv:σ->Prop)(μ:σ->Nat)
  (hround:∀B,B=body->∀s,inv s->(∀s',inv s'->μ s'<μ s->∀fr H,gc live base ⟨fr,H⟩=st s'->Anx Q (kC E base fr H (.h (.loop live B,k))))->Anx Q (kC E base (st s).fr (st s).H (.h (body,lpK E base live B k))))
  (s:σ) (hs:inv s) {fr:Fr} {H:CW} (h0:gc live base ⟨fr,H⟩=st s):Anx Q (kC E base fr H (.h (.loop live body,k))):=by
 have key:∀(n:Nat) (s:σ),μ s<n->inv s->∀fr H,gc live base ⟨fr,H⟩=st s->Anx Q (kC E base fr H (.h (.loop live body,k))):=by
  intro n;induction n with
  |zero=>intro s h;exact absurd h (zzm _)
  |succ n ih=>intro s hn hv fr H hg;rw[qji,hg];exact hround body rfl s hv λs' hv' hm fr' H' hg'=>ih s' (by omega) hv' fr' H' hg'
 exact key (μ s+1) s (Nat.lt_succ_self _) hs fr H h0
end
def qbV{x y:Int}(h:¬x=y):(x==y)=false:=by simpa using h
mutual
def DV.ins(ρ:Nat->DV):DV->DV
 |.tok n=>ρ n
 |.a cs=>.a (DV.Ak ρ cs)
 |.l k es x=>.l k (DV.Ak ρ es) x
 |.ifc x v=>.ifc x (DV.ins ρ v)
 |.b x=>.b x
 |.i k n=>.i k n
 |.s x=>.s x
 |.np=>.np
 |.nf=>.nf
 |.ni=>.ni
 |.nm=>.nm
def DV.Ak(ρ:Nat->DV):Cy->Cy
 |[]=>[]
 |v::vs=>DV.ins ρ v::DV.Ak ρ vs
end
mutual
def PV.ins(ρ:Nat->DV):PV->PV
 |.u=>.u
 |.d v=>.d (v.ins ρ)
 |.a cs=>.a (PV.Ak ρ cs)
 |.t vs=>.t (PV.Ak ρ vs)
 |.r o k off len tt=>.r o k off len tt
 |.p o i c=>.p o i c
 |.q v k c=>.q (v.ins ρ) k c
 |.f n cs=>.f n (PV.Ak ρ cs)
 |.h o=>.h o
 |.g v=>.g (PV.ins ρ v)
 |.m n cs=>.m n (PV.Ak ρ cs)
 |.w x v=>.w x (PV.ins ρ v)
def PV.Ak(ρ:Nat->DV):Cz->Cz
 |[]=>[]
 |v::vs=>PV.ins ρ v::PV.Ak ρ vs
end
def Obj.ins(ρ:Nat->DV):Obj->Obj
 |.box k v=>.box k (v.ins ρ)
 |.sl k ro es=>.sl k ro (DV.Ak ρ es)
 |.mp es=>.mp (es.map λx=>(x.1.ins ρ,x.2.ins ρ))
 |.si s n=>.si s n
 |.lp n j=>.lp n j
 |.df=>.df
def Heap.ins(ρ:Nat->DV)(H:CW):CW:=H.map (·.map (·.ins ρ))
def Fr.ins(ρ:Nat->DV):Fr->Fr
 |[]=>[]
 | (j,v)::r=>(j,v.ins ρ)::Fr.ins ρ r
def St.ins(ρ:Nat->DV)(s:St):St:=⟨s.fr.ins ρ,s.H.ins ρ⟩
def Sc(ρ:Nat->DV):Prop:=∀n cs,ρ n≠.a cs
mutual
def DV.noT:DV->CO
 |.tok _=>false
 |.a cs=>DV.noTL cs
 |.l _ es _=>DV.noTL es
 |.ifc _ v=>v.noT
 |_=>true
def DV.noTL:Cy->CO
 |[]=>true
 |v::vs=>v.noT&&DV.noTL vs
end
inductive TA where
 |b
 |i (k:IntKind)
 |s
 |e (n:Nat)
 |l (k:K) (m:Nat) (ts:List TA)
mutual
def TA.sub:TA->TA->CO
 |.b,.b=>true
 |.i k,.i k1=>decide (k=k1)
 |.s,.s=>true
 |.e n,.e m=>Nat.ble n m
 |.l k m ts,.l k1 m1 us=>K.eq k k1&&(Nat.ble m1 m&&TA.subL ts us)
 |_,_=>false
def TA.subL:CL TA->CL TA->CO
 |[],[]=>true
 |t::ts,u::us=>TA.sub t u&&TA.subL ts us
 |_,_=>false
end
def XD:Nat->DV->Prop
 |0,x=>x=.l (some 4) [] false
 |n+1,x=>∃es,x=.l (some 4) es false/\es.length*56<=qbt/\∀e∈es,∃o m s a,e=.a [.i .i64 o,.i .i64 m,.s s,a]/\(Lit.int .i64 o).wf=true/\(Lit.int .i64 m).wf=true/\s.length<=maxLen/\XD n a
def XT(d:Nat):Nat->DV->Prop
 |0,x=>∃n,XD n x
 |1,x=>XD d x
 |_,x=>∃n,n<d/\XD n x
mutual
def Hs(d:Nat):TA->DV->Prop
 |.e n,x=>XT d n x
 |.b,x=>∃c,x=.b c
 |.i k,x=>∃n,x=.i k n/\(Lit.int k n).wf=true
 |.s,x=>∃l,x=.s l/\l.length<=maxLen
 |.l k m ts,x=>∃es t,x=.l k es t/\es.length<=maxLen/\es.length<=m/\∀e∈es,∃cs,mkD k cs=some e/\HsL d ts cs
def HsL(d:Nat):CL TA->Cy->Prop
 |[],[]=>True
 |t::ts,x::xs=>Hs d t x/\HsL d ts xs
 |_,_=>False
end
def vI:DV->Int
 |.i _ n=>n
 |.l _ es _=>es.length
 |.s x=>x.length
 |_=>0
abbrev Fact:=Nat×Nat×Int
def Fact.ok(ρ:Nat->DV)(f:Fact):Prop:=vI (ρ f.1)+f.2.2<=vI (ρ f.2.1)
def prv(fx:CL Fact):Nat->Nat->Nat->Int->CO
 |0,a,b,c=>Nat.beq a b&&decide (c<=0)
 |n+1,a,b,c=>(Nat.beq a b&&decide (c<=0))||fx.any λf=>Nat.beq f.1 a&&prv fx n f.2.1 b (c-f.2.2)
def qBf{ρ:Nat->DV}{fx:CL Fact}(h:∀f∈fx,Fact.ok ρ f):∀(n a b:Nat) (c:Int),prv fx n a b c=true->vI (ρ a)+c<=vI (ρ b)
 |0,a,b,c,e=>by simp only[prv,zzf,zzq]at e;rw[zzy e.1];omega
 |n+1,a,b,c,e=>by
  simp only[prv,Bool.or_eq_true,zzf,zzq,List.any_eq_true]at e;rcases e with e|⟨f,hf,e1,e2⟩
  ·rw[zzy e.1];omega
  ·have h1:=h f hf;have h2:=qBf h n _ _ _ e2;unfold Fact.ok at h1;rw[zzy e1]at h1;omega
def qed(ρ:Nat->DV):∀l:Cy,DV.Ak ρ l=l.map (DV.ins ρ)
 |[]=>rfl
 |v::vs=>by rw[DV.Ak,qed ρ vs];rfl
def qie(ρ:Nat->DV):∀l:Cz,PV.Ak ρ l=l.map (PV.ins ρ)
 |[]=>rfl
 |v::vs=>by rw[PV.Ak,qie ρ vs];rfl
mutual
def qpu(ρ:Nat->DV):∀v:DV,v.noT=true->v.ins ρ=v
 |.tok _,h=>by cases h
 |.a cs,h=>by rw[DV.ins,qpv ρ cs h]
 |.l _ es _,h=>by rw[DV.ins,qpv ρ es h]
 |.ifc _ v,h=>by rw[DV.ins,qpu ρ v h]
 |.b _,_|.i _ _,_|.s _,_|.np,_|.nf,_|.ni,_|.nm,_=>rfl
def qpv(ρ:Nat->DV):∀l:Cy,DV.noTL l=true->DV.Ak ρ l=l
 |[],_=>rfl
 |v::vs,h=>by rw[DV.noTL,zzf]at h;rw[DV.Ak,qpu ρ v h.1,qpv ρ vs h.2]
end
def qje(ρ:Nat->DV)(t:Nat):∀fr:Fr,(fr.ins ρ).get t=(fr.get t).ins ρ
 |[]=>rfl
 | (j,v)::r=>by
  simp only[Fr.ins,Fr.get];split
  ·rfl
  ·exact qje ρ t r
def qpx(ρ:Nat->DV)(t:Nat)(v:PV):∀fr:Fr,(fr.set t v).ins ρ=(fr.ins ρ).set t (v.ins ρ)
 |[]=>rfl
 | (j,x)::r=>by
  simp only[Fr.ins,Fr.set];split
  ·rfl
  ·split
   ·rfl
   ·simp only[Fr.ins];rw[qpx ρ t v r]
def qm0(ρ:Nat->DV)(l:CF):∀fr:Fr,(fr.drop l).ins ρ=(fr.ins ρ).drop l
 |[]=>rfl
 | (j,x)::r=>by
  simp only[Fr.ins,Fr.drop];split
  ·exact qm0 ρ l r
  ·simp only[Fr.ins];rw[qm0 ρ l r]
def qpt(ρ:Nat->DV)(l:CF):∀fr:Fr,(fr.keep l).ins ρ=(fr.ins ρ).keep l
 |[]=>rfl
 | (j,x)::r=>by
  simp only[Fr.ins,Fr.keep];split
  ·simp only[Fr.ins];rw[qpt ρ l r]
  ·exact qpt ρ l r
def qgC(ρ:Nat->DV)(H:CW)(o:Nat):(H.ins ρ).obj o=(H.obj o).map (·.ins ρ):=by
 unfold Heap.obj Heap.ins;rw[zzj];cases H[o]? with
 |none=>rfl
 |some x=>cases x<;>rfl
def qh2(ρ:Nat->DV)(H:CW)(o:Nat)(x:CK Obj):(H.put o x).ins ρ=(H.ins ρ).put o (x.map (·.ins ρ)):=by unfold Heap.put Heap.ins;rw[List.map_set]
def qG4(ρ:Nat->DV)(H:CW):(H.ins ρ).length=H.length:=by unfold Heap.ins;rw[zzo]
def qps(ρ:Nat->DV)(H H':CW):(H++H').ins ρ=H.ins ρ++H'.ins ρ:=by unfold Heap.ins;rw[List.map_append]
mutual
def qkN(ρ:Nat->DV):∀v:PV,(v.ins ρ).refs=v.refs
 |.u|.d _|.r .. |.p .. |.q .. |.h _=>rfl
 |.a cs=>by simp only[PV.ins,PV.refs];exact qm1 ρ cs
 |.t cs=>by simp only[PV.ins,PV.refs];exact qm1 ρ cs
 |.f _ cs=>by simp only[PV.ins,PV.refs];exact qm1 ρ cs
 |.m _ cs=>by simp only[PV.ins,PV.refs];exact qm1 ρ cs
 |.g v=>by simp only[PV.ins,PV.refs];exact qkN ρ v
 |.w _ v=>by simp only[PV.ins,PV.refs];exact qkN ρ v
def qm1(ρ:Nat->DV):∀l:Cz,PV.Av (PV.Ak ρ l)=PV.Av l
 |[]=>rfl
 |v::vs=>by simp only[PV.Ak,PV.Av];rw[qkN ρ v,qm1 ρ vs]
end
mutual
def qm2(ρ:Nat->DV)(σ:Nat->CK Nat):∀v:PV,(v.ren σ).ins ρ=(v.ins ρ).ren σ
 |.u|.d _|.q .. =>rfl
 |.r o _ _ _ _=>by simp only[PV.ins,PV.ren];cases σ o<;>rfl
 |.p o _ _=>by simp only[PV.ins,PV.ren];cases σ o<;>rfl
 |.h o=>by simp only[PV.ins,PV.ren];cases σ o<;>rfl
 |.a cs=>by simp only[PV.ins,PV.ren];rw[qm3 ρ σ cs]
 |.t cs=>by simp only[PV.ins,PV.ren];rw[qm3 ρ σ cs]
 |.f _ cs=>by simp only[PV.ins,PV.ren];rw[qm3 ρ σ cs]
 |.m _ cs=>by simp only[PV.ins,PV.ren];rw[qm3 ρ σ cs]
 |.g v=>by simp only[PV.ins,PV.ren];rw[qm2 ρ σ v]
 |.w _ v=>by simp only[PV.ins,PV.ren];rw[qm2 ρ σ v]
def qm3(ρ:Nat->DV)(σ:Nat->CK Nat):∀l:Cz,PV.Ak ρ (PV.Bp σ l)=PV.Bp σ (PV.Ak ρ l)
 |[]=>rfl
 |v::vs=>by simp only[PV.Ak,PV.Bp];rw[qm2 ρ σ v,qm3 ρ σ vs]
end
def qyI(ρ:Nat->DV):∀fr:Fr,qaw (fr.ins ρ)=qaw fr
 |[]=>rfl
 | (_,v)::r=>by simp only[Fr.ins,qaw];rw[qkN ρ v,qyI ρ r]
def qyJ(ρ:Nat->DV)(σ:Nat->CK Nat):∀fr:Fr,(fr.ren σ).ins ρ=(fr.ins ρ).ren σ
 |[]=>rfl
 | (_,v)::r=>by simp only[Fr.ins,Fr.ren];rw[qm2 ρ σ v,qyJ ρ σ r]
def qyL(ρ:Nat->DV):∀x:CK Obj,qaO (x.map (·.ins ρ))=qaO x
 |none=>rfl
 |some (.box _ v)=>qkN ρ v
 |some (.sl ..)|some (.mp _)|some (.si ..)|some (.lp ..)|some .df=>rfl
def qyM(ρ:Nat->DV)(σ:Nat->CK Nat):∀x:Obj,(x.ren σ).ins ρ=(x.ins ρ).ren σ
 |.box k v=>by simp only[Obj.ren,Obj.ins];rw[qm2]
 |.sl .. |.mp _|.si .. |.lp .. |.df=>rfl
def qyK(ρ:Nat->DV):∀H:CW,qat (H.ins ρ)=qat H
 |[]=>rfl
 |x::r=>by show qaO (x.map (·.ins ρ))++qat (Heap.ins ρ r)=qaO x++qat r;rw[qyL,qyK ρ r]
def qpw(ρ:Nat->DV)(H:CW)(base:Nat):∀(n:Nat) (acc todo:CF),qaH (H.ins ρ) base n acc todo=qaH H base n acc todo
 |0,_,_=>rfl
 |n+1,acc,[]=>rfl
 |n+1,acc,o::todo=>by simp only[qaH];rw[qpw ρ H base n acc todo,qgC,qyL,qpw ρ H base n]
def qG2(ρ:Nat->DV)(σ:Nat->CK Nat)(H:CW)(base:Nat)(ids:CF):(gcH σ H base ids).ins ρ=gcH σ (H.ins ρ) base ids:=by
 unfold gcH;rw[qps];congr 1
 ·unfold Heap.ins;rw[<-List.map_take,List.map_map,List.map_map];apply List.map_congr_left;intro x _;cases x with
  |none=>rfl
  |some x=>exact congrArg some (qyM ρ σ x)
 ·unfold Heap.ins;rw[List.map_map];apply List.map_congr_left;intro o _;show ((H.obj o).map _).map _=(Heap.obj (Heap.ins ρ H) o).map _;rw[qgC];cases H.obj o with
  |none=>rfl
  |some x=>exact congrArg some (qyM ρ σ x)
def qG1(ρ:Nat->DV)(live:CF)(base:Nat)(s:St):(gc live base s).ins ρ=gc live base (s.ins ρ):=by
 have h1:qaw (Fr.keep live (s.ins ρ).fr)++qat ((s.ins ρ).H.take base)=qaw (Fr.keep live s.fr)++qat (s.H.take base):=by show qaw (Fr.keep live (s.fr.ins ρ))++qat ((s.H.ins ρ).take base)=_;rw[<-qpt,qyI];congr 1;unfold Heap.ins;rw[<-List.map_take];exact qyK ρ _
 unfold gc;simp only;rw[h1];show St.mk _ _=St.mk _ _;congr 1
 ·rw[qyJ,qpt];show _=Fr.ren (qaJ base (qaH (s.H.ins ρ) base 1000 [] _)) (Fr.keep live (s.fr.ins ρ));rw[qpw]
 ·rw[qG2];show _=gcH (qaJ base (qaH (s.H.ins ρ) base 1000 [] _)) (s.H.ins ρ) base (qaH (s.H.ins ρ) base 1000 [] _);rw[qpw]
section
variable {ρ:Nat->DV}
def qcX(l:Cy):(DV.Ak ρ l).length=l.length:=by rw[qed,zzo]
def qnu(l:Cz):(PV.Ak ρ l).length=l.length:=by rw[qie,zzo]
def qsK(l:Cy)(i:Nat):(DV.Ak ρ l)[i]? = (l[i]?).map (DV.ins ρ):=by rw[qed,zzj]
def qsL(l:Cy)(a b:Nat):DV.Ak ρ ((l.drop a).take b)=((DV.Ak ρ l).drop a).take b:=by rw[qed,qed,List.map_take,List.map_drop]
def qA9(l:Cz)(a b:Nat):PV.Ak ρ ((l.drop a).take b)=((PV.Ak ρ l).drop a).take b:=by rw[qie,qie,List.map_take,List.map_drop]
def qtN(l:Cy):PV.Ak ρ (l.map .d)=(DV.Ak ρ l).map .d:=by rw[qie,qed,List.map_map,List.map_map];rfl
def qrI(hρ:Sc ρ)(v:DV):(v.ins ρ).cells=DV.Ak ρ v.cells:=by
 cases v with
 |tok n=>show (ρ n).cells=[ρ n];have:=hρ n;cases h:ρ n<;>first|rfl|exact absurd h (this _)
 |_=>rfl
def qp9(hρ:Sc ρ)(v:PV):(v.ins ρ).cells=PV.Ak ρ v.cells:=by
 cases v with
 |d v=>
  cases v with
  |tok n=>show (PV.d (ρ n)).cells=[.d (ρ n)];have:=hρ n;cases h:ρ n<;>first|rfl|exact absurd h (this _)
  |a cs=>exact (qtN cs).symm
  |_=>rfl
 |_=>rfl
def qts{k:K}{cs:Cy}{v:DV}(h:mkD k cs=some v):mkD k (DV.Ak ρ cs)=some (v.ins ρ):=by
 cases k with
 |none=>
  match cs,h with
  |[x],h=>cases h;rfl
 |some n=>
  simp only[mkD]at h⊢;rw[qcX];split at h
  ·rename_i e;rw[if_pos e];cases h;rfl
  ·cases h
def qBc:∀l:Cz,∀{vs:Cy},qac l=some vs->qac (PV.Ak ρ l)=some (DV.Ak ρ vs)
 |[],vs,h=>by cases h;rfl
 |.d v::r,vs,h=>by
  simp only[qac]at h;split at h
  ·rename_i ws e;cases h;simp only[PV.Ak,PV.ins,qac];rw[qBc r e];rfl
  ·cases h
 |.u::_,_,h|.a _::_,_,h|.t _::_,_,h|.r .. :: _,_,h|.p .. :: _,_,h|.q .. :: _,_,h|.f .. :: _,_,h|.h _::_,_,h|.g _::_,_,h|.m .. :: _,_,h|.w .. :: _,_,h=>by cases h
def qBd:∀l:Cz,qac l=none->qac (PV.Ak ρ l)=none
 |[],h=>by cases h
 |.d v::r,h=>by
  simp only[qac]at h;split at h
  ·cases h
  ·rename_i e;simp only[PV.Ak,PV.ins,qac];rw[qBd r e]
 |.u::_,_|.a _::_,_|.t _::_,_|.r .. :: _,_|.p .. :: _,_|.q .. :: _,_|.f .. :: _,_|.h _::_,_|.g _::_,_|.m .. :: _,_|.w .. :: _,_=>rfl
def qAp(cs:Cz):mkA (PV.Ak ρ cs)=(mkA cs).ins ρ:=by
 unfold mkA;cases h:qac cs with
 |none=>rw[qBd cs h];rfl
 |some vs=>rw[qBc cs h];rfl
def qtw{k:K}{cs:Cz}{v:PV}(h:mkP k cs=some v):mkP k (PV.Ak ρ cs)=some (v.ins ρ):=by
 cases k with
 |none=>
  match cs,h with
  |[x],h=>cases h;rfl
 |some n=>
  simp only[mkP]at h⊢;rw[qnu];split at h
  ·rename_i e;rw[if_pos e];cases h;rw[qAp]
  ·cases h
def qo4(hρ:Sc ρ)(k:K)(v:PV):fits k (v.ins ρ)=fits k v:=by
 cases v with
 |d v=>
  cases v with
  |tok n=>show fits k (.d (ρ n))=fits k (.d (.tok n));have:=hρ n;cases h:ρ n<;>first|exact absurd h (this _)|(cases k<;>rfl)
  |a cs=>cases k with
   |none=>rfl
   |some m=>show ((DV.Ak ρ cs).length==m)=(cs.length==m);rw[qcX]
  |_=>cases k<;>rfl
 |a cs=>cases k with
  |none=>rfl
  |some m=>show ((PV.Ak ρ cs).length==m)=(cs.length==m);rw[qnu]
 |_=>cases k<;>rfl
def qCn(hρ:Sc ρ){kv:K}{v:DV}{c:Nat}{k:K}{x:DV}(h:qcI kv v c k=some x):qcI kv (v.ins ρ) c k=some (x.ins ρ):=by
 unfold qcI at h⊢;split at h
 ·rename_i e;rw[if_pos e];cases h;rfl
 ·rename_i e;rw[if_neg e];split at h
  ·rename_i e;rw[if_pos e,qrI hρ,<-qsL];exact qts h
  ·cases h
def qP7(hρ:Sc ρ){kv:K}{v:PV}{c:Nat}{k:K}{x:PV}(h:qdi kv v c k=some x):qdi kv (v.ins ρ) c k=some (x.ins ρ):=by
 unfold qdi at h⊢;split at h
 ·rename_i e;rw[if_pos e];cases h;rfl
 ·rename_i e;rw[if_neg e];split at h
  ·rename_i e;rw[if_pos e,qp9 hρ,<-qA9];exact qtw h
  ·cases h
def qz4(hρ:Sc ρ){H:CW}{k:K}{p v:PV}(h:qbT H k p=some v):qbT (H.ins ρ) k (p.ins ρ)=some (v.ins ρ):=by
 unfold qbT at h;split at h
 ·rename_i o i c;simp only[PV.ins,qbT];rw[qgC];split at h
  ·rename_i kb w e;rw[e];simp only[Option.map,Obj.ins];split at h
   ·rename_i e;rw[if_pos e];exact qP7 hρ h
   ·cases h
  ·rename_i kb ro es e;rw[e];simp only[Option.map,Obj.ins];rw[qsK];split at h
   ·rename_i e' he;rw[he];simp only[Option.map];split at h
    ·rename_i x hx;rw[qCn hρ hx];cases h;rfl
    ·cases h
   ·cases h
  ·cases h
 ·rename_i w kv c;simp only[PV.ins,qbT];split at h
  ·rename_i x hx;rw[qCn hρ hx];cases h;rfl
  ·cases h
 ·cases h
def qKo{off:Nat}{p v:PV}(h:qdJ off p=some v):qdJ off (p.ins ρ)=some (v.ins ρ):=by cases p<;>first|(cases h;rfl)|cases h
def qF1{off:Nat}{k:K}{p v:PV}(h:qew off k p=some v):qew off k (p.ins ρ)=some (v.ins ρ):=by
 unfold qew at h;split at h
 ·rename_i cs;simp only[PV.ins,DV.ins,qew];rw[qcX];split at h
  ·rename_i e;rw[if_pos e];split at h
   ·rename_i x hx;rw[<-qsL,qts hx];cases h;rfl
   ·cases h
  ·cases h
 ·rename_i cs;simp only[PV.ins,qew];rw[qnu];split at h
  ·rename_i e;rw[if_pos e,<-qA9];exact qtw h
  ·cases h
 ·cases h
def qBv(l:Cz)(c:Nat)(xs:Cz):PV.Ak ρ (putAt l c xs)=putAt (PV.Ak ρ l) c (PV.Ak ρ xs):=by unfold putAt;simp only[qie,List.map_append,List.map_take,List.map_drop,zzo]
def qOR(l:Cy)(c:Nat)(xs:Cy):DV.Ak ρ (putAt l c xs)=putAt (DV.Ak ρ l) c (DV.Ak ρ xs):=by unfold putAt;simp only[qed,List.map_append,List.map_take,List.map_drop,zzo]
def qwt(hρ:Sc ρ):∀(ps:CL (Nat×K×PV)) {z cs:Cz},qcl z ps=some cs->qcl (PV.Ak ρ z) (ps.map λx=>(x.1,x.2.1,x.2.2.ins ρ))=some (PV.Ak ρ cs)
 |[],z,cs,h=>by cases h;rfl
 | (off,k,v)::r,z,cs,h=>by
  simp only[qcl]at h;simp only[List.map,qcl];rw[qo4 hρ,qnu];split at h
  ·rename_i e;rw[if_pos e,qp9 hρ,<-qBv];exact qwt hρ r h
  ·cases h
def qtR{H:CW}{v:PV}{x:DV}{os:CF}(h:qaW H v=some (x,os)):qaW (H.ins ρ) (v.ins ρ)=some (x.ins ρ,os):=by
 unfold qaW at h;split at h
 ·cases h;rfl
 ·rename_i o k off len t;simp only[PV.ins,qaW];rw[qgC];split at h
  ·rename_i k' ro es e;rw[e];simp only[Option.map,Obj.ins];rw[qcX];split at h
   ·rename_i e;rw[if_pos e];cases h;simp only[DV.ins,qsL]
   ·cases h
  ·cases h
 ·cases h
def qtT{H:CW}:∀(l:Cz) {xs:Cy} {os:CF},qcd H l=some (xs,os)->qcd (H.ins ρ) (PV.Ak ρ l)=some (DV.Ak ρ xs,os)
 |[],xs,os,h=>by cases h;rfl
 |v::r,xs,os,h=>by
  simp only[qcd]at h;split at h
  ·rename_i x os1 ys os2 e1 e2;cases h;simp only[PV.Ak,qcd];rw[qtR e1,qtT r e2];rfl
  ·cases h
def qtU{H:CW}{v:PV}{x:DV}{os:CF}(h:pur H v=some (x,os)):pur (H.ins ρ) (v.ins ρ)=some (x.ins ρ,os):=by
 unfold pur at h;split at h
 ·rename_i cs;simp only[PV.ins,pur];split at h
  ·rename_i xs os' e;rw[qtT cs e];cases h;rfl
  ·cases h
 ·rename_i hn;have:pur (H.ins ρ) (v.ins ρ)=qaW (H.ins ρ) (v.ins ρ):=by
   cases v with
   |a cs=>exact absurd rfl (hn cs)
   |_=>rfl
  rw[this];exact qtR h
def qwP(hρ:Sc ρ){H:CW}{k:K}:∀(ps:CL (Nat×PV)) {es es':Cy} {os:CF},qbN H k es ps=some (es',os)->qbN (H.ins ρ) k (DV.Ak ρ es) (ps.map λx=>(x.1,x.2.ins ρ))=some (DV.Ak ρ es',os)
 |[],es,es',os,h=>by cases h;rfl
 | (j,v)::r,es,es',os,h=>by
  simp only[qbN]at h;simp only[List.map,qbN];rw[qo4 hρ,qcX];split at h
  ·rename_i e;rw[if_pos e];split at h
   ·rename_i x os1 e1;rw[qtU e1];simp only;have hs:(DV.Ak ρ es).set j (x.ins ρ)=DV.Ak ρ (es.set j x):=by rw[qed,qed,List.map_set]
    rw[hs];split at h
    ·rename_i es2 os2 e2;rw[qwP hρ r e2];cases h;rfl
    ·cases h
   ·cases h
  ·cases h
def qGd(H:CW)(o:Nat):(qc9 H o).ins ρ=qc9 (H.ins ρ) o:=by
 unfold qc9;rw[qgC];cases h:H.obj o with
 |none=>rfl
 |some x=>cases x with
  |sl k ro es=>simp only[Option.map,Obj.ins];rw[qh2,qcX];rfl
  |_=>rfl
def qo7:∀(os:CF) (H:CW),(frz H os).ins ρ=frz (H.ins ρ) os
 |[],_=>rfl
 |o::r,H=>by simp only[frz];rw[qo7 r,qGd]
