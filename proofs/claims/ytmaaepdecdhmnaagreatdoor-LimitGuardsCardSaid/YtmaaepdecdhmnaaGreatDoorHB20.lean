/- Part 20 of the proof. -/
import Derived.Test.YtmaaepdecdhmnaaGreatDoorHB12
set_option linter.all false
namespace Go.Sim
set_option maxRecDepth 100000
set_option maxHeartbeats 8000000
inductive Hd {α:Type}:α->Type where
 |h (x:α):Hd x
section
variable {R α β:Type}
def bo(x:CE α){k:α->CE R}(_:Hd k):CE R:=match x with|some a=>k a|none=>none
def bo2(x:CB){k:PV->CP->CE R}(_:Hd k):CE R:=match x with|some (v,H)=>k v H|none=>none
def brn(b:CG){x y:CE R}(_:Hd (x,y)):CE R:=match b with|true=>x|false=>y
def chk(p:Prop)[Decidable p]{x:CE R}(_:Hd x):CE R:=if p then x else none
def qga(x y:CE R):brn true (.h (x,y))=x:=rfl
def qf8(x y:CE R):brn false (.h (x,y))=y:=rfl
def qf9(b:CG)(x y:CE R):brn (!b) (.h (x,y))=brn b (.h (y,x)):=by cases b<;>rfl
def qaX{b:CG}{x y z:CE R}(h1:b=true->x=z)(h2:b=false->y=z):brn b (.h (x,y))=z:=by cases b;exact h2 rfl;exact h1 rfl
def qgd(x:CE R):chk True (.h x)=x:=rfl
def qf6(a:α)(k:α->CE R):bo (some a) (.h k)=k a:=rfl
def qf3(k:α->CE R):bo none (.h k)=none:=rfl
def qfJ(v:PV)(H:CP)(k:PV->CP->CE R):bo2 (some (v,H)) (.h k)=k v H:=rfl
def qfI(k:PV->CP->CE R):bo2 none (.h k)=none:=rfl
def qi3(x:CE PV)(H:CP)(k:PV->CP->CE R):bo2 (opt x H) (.h k)=bo x (.h λv=>k v H):=by cases x<;>rfl
def qwX(x:CE DV)(H:CP)(k:PV->CP->CE R):bo2 (qez x H) (.h k)=bo x (.h λv=>k (.d v) H):=by cases x<;>rfl
abbrev KC(R:Type):=Ex->Fr->CP->CE R
abbrev KO(R:Type):=Fr->CP->CE R
noncomputable def kC(E:Env)(base:Nat)(fr:Fr)(H:CP){c:PC}{k:KC R}(_:Hd (c,k)):CE R:=match qah E lpI base c ⟨fr,H⟩with|some (e,s)=>k e s.fr s.H|none=>none
def kO(E:Env)(id:Nat)(fr:Fr)(H:CP){ops:CF Ao}{k:KO R}(_:Hd (ops,k)):CE R:=match qaM E ops id ⟨fr,H⟩with|some s=>k s.fr s.H|none=>none
def kD(E:Env)(id:Nat)(fr:Fr)(H:CP)(bf:Cy)(acc:CF (Cy×Cy)){ops:CF Ao}{k:KO R}(_:Hd (ops,k)):CE R:=match qbu E ops bf acc id ⟨fr,H⟩with|some s=>k s.fr s.H|none=>none
variable {E:Env}{base:Nat}{fr:Fr}{H:CP}{k:KC R}{j:KO R}
def qgU:kC E base fr H (.h (.skip,k))=k .norm fr H:=rfl
def qgS:kC E base fr H (.h (.ret,k))=k .ret fr H:=rfl
def qgJ{id:Nat}:kC E base fr H (.h (.exit id,k))=k (.exit id) fr H:=rfl
noncomputable def sqK(E:Env)(base:Nat)(b:PC)(k:KC R):KC R
 |.norm,fr,H=>kC E base fr H (.h (b,k))
 |.exit id,fr,H=>k (.exit id) fr H
 |.ret,fr,H=>k .ret fr H
def blK(id:Nat)(k:KC R):KC R
 |.exit i,fr,H=>if i=id then k .norm fr H else k (.exit i) fr H
 |.norm,fr,H=>k .norm fr H
 |.ret,fr,H=>k .ret fr H
def rgK(kill:Cy)(k:KC R):KO R:=λfr H=>k .norm (fr.drop kill) H
def qgT{a b:PC}:kC E base fr H (.h (.seq a b,k))=kC E base fr H (.h (a,sqK E base b k)):=by
 simp only[kC,qah];cases qah E lpI base a ⟨fr,H⟩with
 |none=>rfl
 |some x=>obtain⟨e,s⟩:=x;cases e<;>rfl
def qgG{id:Nat}{x:PC}:kC E base fr H (.h (.block id x,k))=kC E base fr H (.h (x,blK id k)):=by
 simp only[kC,qah];cases qah E lpI base x ⟨fr,H⟩with
 |none=>rfl
 |some y=>
  obtain⟨e,s⟩:=y;cases e with
  |norm=>rfl
  |ret=>rfl
  |exit i=>
   by_cases h:i=id
   ·subst h;simp[blK]
   ·simp[blK,h]
def qgL{ops:CF Ao}{kill:Cy}:kC E base fr H (.h (.reg ops kill,k))=kO E H.length fr (H++List.replicate (qao ops) none) (.h (ops,rgK kill k)):=by
 simp only[kC,qah,qcu,kO];cases qaM E ops H.length ⟨fr,H++List.replicate (qao ops) none⟩<;>rfl
def qcp{ops:CF Ao}{bf kill:Cy}:kC E base fr H (.h (.A7 ops bf kill,k))=kD E H.length fr (H++List.replicate (qao ops) none) bf [] (.h (ops,rgK kill k)):=by
 simp only[kC,qah,qc4,kD];cases qbu E ops bf [] H.length ⟨fr,H++List.replicate (qao ops) none⟩<;>rfl
def Fr.fix:Fr->Nat->CG->Fr
 |[],_,_=>[]
 | (j,v)::r,t,b=>if j=t then (j,.d (.b b))::r else (j,v)::Fr.fix r t b
def qet:∀{fr:Fr} {t:Nat} {b:CG},fr.get t=.d (.b b)->fr.fix t b=fr
 |[],t,b,h=>rfl
 | (j,x)::r,t,b,h=>by
  simp only[Fr.get]at h;simp only[Fr.fix];split
  ·rename_i hj;rw[if_pos hj]at h;rw[h]
  ·rename_i hj;rw[if_neg hj]at h;rw[qet h]
def tst(v:PV){x y:CE R}(_:Hd (x,y)):CE R:=match v with|.d (.b true)=>x|.d (.b false)=>y|_=>none
def qhC(b:CG)(x y:CE R):tst (.d (.b b)) (.h (x,y))=brn b (.h (x,y)):=by cases b<;>rfl
def qgH{t:Nat}{x y:PC}:kC E base fr H (.h (.cond (.t t) x y,k))=tst (fr.get t) (.h (kC E base (fr.fix t true) H (.h (x,k)),kC E base (fr.fix t false) H (.h (y,k)))):=by
 simp only[kC,qah,rd];cases h:fr.get t with
 |d v=>
  cases v with
  |b b=>cases b with
   |true=>simp only[tst];rw[qet h]
   |false=>simp only[tst];rw[qet h]
  |_=>rfl
 |_=>rfl
def qgI{b:CG}{x y:PC}:kC E base fr H (.h (.cond (.c (.b b)) x y,k))=brn b (.h (kC E base fr H (.h (x,k)),kC E base fr H (.h (y,k)))):=by
 cases b<;>rfl
def qgZ{id:Nat}:kO E id fr H (.h ([],j))=j fr H:=rfl
def nid(op:IOp)(id:Nat):Nat:=if op.adds=true then id+1 else id
def qgX{d:Nat}{op:IOp}{r:CF Ao}{id:Nat}:kO E id fr H (.h (⟨some d,op,none⟩::r,j))=bo2 (qaa E (rd E fr) H id op) (.h λv H=>kO E (nid op id) (fr.set d v) H (.h (r,j))):=by
 simp only[kO,qaM,bo2];cases qaa E (rd E fr) H id op<;>rfl
def qgV{op:IOp}{r:CF Ao}{id:Nat}:kO E id fr H (.h (⟨none,op,none⟩::r,j))=bo2 (qaa E (rd E fr) H id op) (.h λ_ H=>kO E (nid op id) fr H (.h (r,j))):=by
 simp only[kO,qaM,bo2];cases qaa E (rd E fr) H id op<;>rfl
def grd(v:PV)(w:CG){x y z:CE R}(_:Hd (x,y,z)):CE R:=match v with|.d (.b b)=>if b=w then x else y|.t []=>z|_=>none
def qgz(b:CG)(x y z:CE R):grd (.d (.b b)) true (.h (x,y,z))=brn b (.h (x,y)):=by cases b<;>rfl
def qgA(b:CG)(x y z:CE R):grd (.d (.b b)) false (.h (x,y,z))=brn b (.h (y,x)):=by cases b<;>rfl
def qgB(w:CG)(x y z:CE R):grd (.t []) w (.h (x,y,z))=z:=rfl
def qgY{d t:Nat}{w:CG}{op:IOp}{r:CF Ao}{id:Nat}:kO E id fr H (.h (⟨some d,op,some (t,w)⟩::r,j)) =
  grd (fr.get t) w (.h (bo2 (qaa E (rd E (fr.fix t w)) H id op) (.h λv H=>kO E (nid op id) ((fr.fix t w).set d v) H (.h (r,j))),kO E (nid op id) ((fr.fix t (!w)).set d (.t [])) H (.h (r,j)),kO E (nid op id) (fr.set d (.t [])) H (.h (r,j)))):=by
 simp only[kO,qaM];cases h:fr.get t with
 |d v=>
  cases v with
  |b b=>
   by_cases hb:b=w
   ·subst hb;rw[qet h];simp only[grd,beq_self_eq_true,if_true];cases qaa E (rd E fr) H id op<;>rfl
   ·have e:(b==w)=false:=by simpa using hb
    have e2:b=!w:=by cases b<;>cases w<;>simp_all
    rw[e2]at h;simp only[grd,e,if_neg hb,zzg,if_false];rw[qet h];rfl
  |_=>rfl
 |t vs=>cases vs<;>rfl
 |_=>rfl
def qgW{t:Nat}{w:CG}{op:IOp}{r:CF Ao}{id:Nat}:kO E id fr H (.h (⟨none,op,some (t,w)⟩::r,j)) =
  grd (fr.get t) w (.h (bo2 (qaa E (rd E (fr.fix t w)) H id op) (.h λ_ H=>kO E (nid op id) (fr.fix t w) H (.h (r,j))),kO E (nid op id) (fr.fix t (!w)) H (.h (r,j)),kO E (nid op id) fr H (.h (r,j)))):=by
 simp only[kO,qaM];cases h:fr.get t with
 |d v=>
  cases v with
  |b b=>
   by_cases hb:b=w
   ·subst hb;rw[qet h];simp only[grd,beq_self_eq_true,if_true];cases qaa E (rd E fr) H id op<;>rfl
   ·have e:(b==w)=false:=by simpa using hb
    have e2:b=!w:=by cases b<;>cases w<;>simp_all
    rw[e2]at h;simp only[grd,e,if_neg hb,zzg,if_false];rw[qet h];rfl
  |_=>rfl
 |t vs=>cases vs<;>rfl
 |_=>rfl
variable {ρ:Ab->PV}{id:Nat}{q:PV->CP->CE R}
def qfC{x:Ab}:bo2 (qaa E ρ H id (.mov x)) (.h q)=q (ρ x) H:=rfl
def qfD{c x y:Ab}:bo2 (qaa E ρ H id (.pick c x y)) (.h q)=tst (ρ c) (.h (q (ρ x) H,q (ρ y) H)):=by
 simp only[qaa];cases ρ c with
 |d v=>
  cases v with
  |b b=>cases b<;>rfl
  |_=>rfl
 |_=>rfl
def qfn{K:Sim.K}{z:DV}:bo2 (qaa E ρ H id (.alloc K z)) (.h q)=q (.p id 0 0) (H.put id (some (.box K (.d z)))):=rfl
def qfq{K:Sim.K}{x:Ab}:bo2 (qaa E ρ H id (.box K x)) (.h q)=chk (fits K (ρ x)=true) (.h (q (.p id 0 0) (H.put id (some (.box K (ρ x)))))):=by
 simp only[qaa,chk];split<;>rfl
def qfB{K:Sim.K}{x:Ab}:bo2 (qaa E ρ H id (.load K x)) (.h q)=bo (qbp H K (ρ x)) (.h λv=>q v H):=by
 simp only[qaa];exact qi3 _ _ _
def qfF{K:Sim.K}{x y:Ab}:bo2 (qaa E ρ H id (.store K x y)) (.h q)=bo (qby H K (ρ x) (ρ y)) (.h λH'=>q .u H'):=by
 simp only[qaa];cases qby H K (ρ x) (ρ y)<;>rfl
def qfp{op:BinOp}{x y:Ab}:bo2 (qaa E ρ H id (.bin op x y)) (.h q)=bo (qaI op (ρ x) (ρ y)) (.h λv=>q (.d v) H):=by
 simp only[qaa];exact qwX _ _ _
def qfG{op:UnOp}{x:Ab}:bo2 (qaa E ρ H id (.un op x)) (.h q)=bo (unA op (ρ x)) (.h λv=>q (.d v) H):=by
 simp only[qaa];exact qwX _ _ _
def qfv{neg:CG}{n:Cy}{x y:Ab}:bo2 (qaa E ρ H id (.eqv neg n x y)) (.h q)=bo (eqA n (ρ x) (ρ y)) (.h λe=>q (.d (.b (if neg=true then !e else e))) H):=by
 simp only[qaa];cases eqA n (ρ x) (ρ y)<;>rfl
def qfx{o:Nat}{x:Ab}:bo2 (qaa E ρ H id (.Be o x)) (.h q)=bo (qdq o (ρ x)) (.h λv=>q v H):=by
 simp only[qaa];exact qi3 _ _ _
def qfy{o:Nat}{K:Sim.K}{x:Ab}:bo2 (qaa E ρ H id (.field o K x)) (.h q)=bo (qes o K (ρ x)) (.h λv=>q v H):=by
 simp only[qaa];exact qi3 _ _ _
def qfz{K:Sim.K}{x i:Ab}:bo2 (qaa E ρ H id (.Az K x i)) (.h q)=bo (Az H K (ρ x) (ρ i)) (.h λv=>q v H):=by
 simp only[qaa];exact qi3 _ _ _
def qfE{K:Sim.K}{x:Ab}{lo hi mx:CE Ab}:bo2 (qaa E ρ H id (.sl K x lo hi mx)) (.h q)=bo (slA H K (ρ x) (lo.map ρ) (hi.map ρ) (mx.map ρ)) (.h λv=>q v H):=by
 simp only[qaa];exact qi3 _ _ _
def qfA{s:CG}{x:Ab}:bo2 (qaa E ρ H id (.len s x)) (.h q)=bo (qbB H s (ρ x)) (.h λn:Nat=>q (.d (.i .i64 (n:Int))) H):=by
 simp only[qaa];cases qbB H s (ρ x)<;>rfl
def qfo{K:Sim.K}{b:Nat}{x y:Ab}:bo2 (qaa E ρ H id (.app K b x y)) (.h q)=bo2 (qbU H id K b (ρ x) (ρ y)) (.h q):=rfl
def qfr{f:Nat}{as0:CF Ab}:bo2 (qaa E ρ H id (.call 0 f as0)) (.h q)=bo (qaK H (as0.map ρ)) (.h λd=>bo (E.val f d.1) (.h λr=>q r.1 (if (d.2.isEmpty||r.1.AX)=true then H else frz H d.2))):=by
 simp only[qaa];cases qaK H (as0.map ρ)with
 |none=>rfl
 |some d=>
  simp only[bo];cases E.val f d.1 with
  |none=>rfl
  |some r=>rfl
def qBk(x:PV×CG){q:K->Ct->CE R}(_:Hd q):CE R:=match x with|(.d (.l k es _),true)=>q k es|_=>none
def qe4{k:K}{es:Ct}{t:CG}{q:K->Ct->CE R}:qBk (.d (.l k es t),true) (.h q)=q k es:=rfl
def qeK{f:Nat}{as0:CF Ab}:bo2 (qaa E ρ H id (.call 1 f as0)) (.h q)=bo (qaK H (as0.map ρ)) (.h λd=>bo (E.val f d.1) (.h λr=>qBk r (.h λk es=>q (.r id k 0 es.length false) ((if d.2.isEmpty=true then H else frz H d.2).put id (some (.sl k 0 es)))))):=by
 simp only[qaa];cases qaK H (as0.map ρ)with
 |none=>rfl
 |some d=>
  simp only[bo];cases E.val f d.1 with
  |none=>rfl
  |some r=>
   obtain⟨r,o⟩:=r;cases r with
   |d v=>cases v with
    |l k es t=>cases o<;>rfl
    |_=>rfl
   |_=>rfl
def qfs{m f:Nat}{as0:CF Ab}:bo2 (qaa E ρ H id (.call (m+2) f as0)) (.h q)=bo2 (E.ref f (as0.map ρ) H) (.h q):=rfl
def qsu(x:PV)(i:Nat){q:PV->CE R}(_:Hd q):CE R:=match x with|.t vs=>bo vs[i]? (.h q)|_=>none
def qgq{vs:Cu}{i:Nat}{q:PV->CE R}:qsu (.t vs) i (.h q)=bo vs[i]? (.h q):=rfl
def qfw{x:Ab}{i:Nat}:bo2 (qaa E ρ H id (.ext x i)) (.h q)=qsu (ρ x) i (.h λv=>q v H):=by
 simp only[qaa,qsu];cases ρ x with
 |t vs=>exact qi3 _ _ _
 |_=>rfl
def qvn(x:PV)(lo hi:CE PV){q:PV->CE R}(_:Hd q):CE R:=match x with|.d (.s s)=>bo (bnd s.length s.length hi) (.h λh=>bo (bnd 0 h lo) (.h λl=>q (.d (.s ((s.take h).drop l)))))|_=>none
def qe7{s:Cv}{lo hi:CE PV}{q:PV->CE R}:qvn (.d (.s s)) lo hi (.h q)=bo (bnd s.length s.length hi) (.h λh=>bo (bnd 0 h lo) (.h λl=>q (.d (.s ((s.take h).drop l))))):=rfl
def qeL{x:Ab}{lo hi:CE Ab}:bo2 (qaa E ρ H id (.slS x lo hi)) (.h q)=qvn (ρ x) (lo.map ρ) (hi.map ρ) (.h λv=>q v H):=by
 simp only[qaa,qvn];cases ρ x with
 |d v=>cases v with
  |s s=>
   simp only;cases bnd s.length s.length (hi.map ρ)with
   |none=>rfl
   |some h=>simp only[bo];cases bnd 0 h (lo.map ρ)<;>rfl
  |_=>rfl
 |_=>rfl
def qdE(x i:PV){q:PV->CE R}(_:Hd q):CE R:=match x,i with|.d (.s s),.d (.i _ n)=>chk (0<=n) (.h (bo s[n.toNat]? (.h λb=>q (.d (.i .u8 b.toNat)))))|_,_=>none
def qbe{s:Cv}{kk:IntKind}{n:Int}{q:PV->CE R}:qdE (.d (.s s)) (.d (.i kk n)) (.h q)=chk (0<=n) (.h (bo s[n.toNat]? (.h λb=>q (.d (.i .u8 b.toNat))))):=rfl
def qwO{x i:Ab}{s:Cv}{kk:IntKind}{n:Int}(hx:ρ x=.d (.s s))(hi:ρ i=.d (.i kk n)):bo2 (qaa E ρ H id (.idxS x i)) (.h q)=chk (0<=n) (.h (bo s[n.toNat]? (.h λb=>q (.d (.i .u8 b.toNat)) H))):=by
 simp only[qaa,hx,hi,asI,chk];split
 ·cases s[n.toNat]? <;> rfl
 ·rfl
variable {kk:IntKind}
def qfL{d top:Nat}{n:Int}{y:Nat->CE R}:bo (bnd d top (some (.d (.i kk n)))) (.h y)=chk (0<=n/\n<=top) (.h (y n.toNat)):=by
 simp only[bnd,asI,chk];split<;>rfl
def qfM{d top:Nat}{y:Nat->CE R}:bo (bnd d top none) (.h y)=y d:=rfl
def qfR{K K':Sim.K}{es:Ct}{t:CG}{n:Int}{y:PV->CE R}(hK:K.eq K'=true):bo (Az H K (.d (.l K' es t)) (.d (.i kk n))) (.h y)=chk (0<=n/\n<es.length) (.h (bo es[n.toNat]? (.h λe=>y (.q e K 0)))):=by
 simp only[Az,asI,inR,chk];by_cases h:0<=n/\n<es.length
 ·rw[if_pos h,if_pos h];simp only
  cases es[n.toNat]? with
  |none=>rfl
  |some e=>simp only[hK,if_true];rfl
 ·rw[if_neg h,if_neg h];rfl
def qfK{x y:Cv}{z:DV->CE R}:bo (qaI .add (.d (.s x)) (.d (.s y))) (.h z)=chk (x.length+y.length<4611686018427387904) (.h (z (.s (x++y)))):=by
 simp only[qaI,qkC,chk];by_cases h:x.length+y.length<4611686018427387904
 ·rw[if_pos h,if_pos (by exact h)];rfl
 ·rw[if_neg h,if_neg (by exact h)];rfl
def qcZ{x y:Int}{z:DV->CE R}:bo (qaI .quo (.d (.i kk x)) (.d (.i kk y))) (.h z)=chk (y≠0) (.h (z (.i kk (kk.wrap (x.tdiv y))))):=by
 simp only[qaI,qbN,if_true,chk];by_cases h:y=0<;>simp[h,bo]
def qdA{x y:Int}{z:DV->CE R}:bo (qaI .rem (.d (.i kk x)) (.d (.i kk y))) (.h z)=chk (y≠0) (.h (z (.i kk (x.tmod y)))):=by
 simp only[qaI,qbN,if_true,chk];by_cases h:y=0<;>simp[h,bo]
end
noncomputable def fin(E:Env)(rs:CF RV):KC (PV×CG)
 |.exit _,_,_=>none
 |_,fr,H=>bo (Bo E (qan fr) H) (.h λH=>bo (results fr H rs) (.h λvs=>AJ H (qa5 vs)))
def qab(T:Tab){f:Nat}{F:PF}(hF:T.F f=some F){args:Ct}(ha:args.length=F.Bp):T.val f args=kC T.env 0 (Fr.Aa 0 (args.map .d)) [] (.h (F.body,fin T.env F.results)):=by
 rw[qDy T hF];unfold qbb;rw[if_pos (by simpa using ha)]
 simp only[kC,List.length_nil];cases qah T.env lpI 0 F.body ⟨Fr.Aa 0 (args.map .d),[]⟩with
 |none=>rfl
 |some x=>
  obtain⟨e,s⟩:=x;cases e with
  |exit id=>rfl
  |norm=>
   simp only[fin];cases Bo T.env (qan s.fr) s.H with
   |none=>rfl
   |some H'=>simp only[bo];cases results s.fr H' F.results<;>rfl
  |ret=>
   simp only[fin];cases Bo T.env (qan s.fr) s.H with
   |none=>rfl
   |some H'=>simp only[bo];cases results s.fr H' F.results<;>rfl
section
variable {R:Type}{E:Env}{base:Nat}{live:Cy}{body:PC}
noncomputable def lpK(E:Env)(base:Nat)(live:Cy)(body:PC)(k:KC R):KC R
 |.norm,fr,H=>kC E base fr H (.h (.loop live body,k))
 |.exit id,fr,H=>k (.exit id) fr H
 |.ret,fr,H=>k .ret fr H
def qgK{fr:Fr}{H:CP}{k:KC R}:kC E base fr H (.h (.loop live body,k))=kC E base (gc live base ⟨fr,H⟩).fr (gc live base ⟨fr,H⟩).H (.h (body,lpK E base live body k)):=by
 have h:qah E lpI base (.loop live body) ⟨fr,H⟩=lpI (λs=>qah E lpI base body (gc live base s)) ⟨fr,H⟩:=rfl
 simp only[kC,h];rw[qtC];cases hb:qah E lpI base body (gc live base ⟨fr,H⟩)with
 |none=>simp only
 |some x=>
  obtain⟨e,s⟩:=x;simp only;cases e with
  |norm=>rfl
  |exit id=>rfl
  |ret=>rfl
def rounds{α β:Type}(step:Nat->β->α->(β->CE R)->CE R)(done:β->CE R):Nat->β->CF α->CE R
 |_,b,[]=>done b
 |i,b,x::r=>step i b x λb'=>rounds step done (i+1) b' r
def qbi{α β:Type}(ls:CF α)(st:Nat->β->St)(inv:Nat->β->Prop)(step:Nat->β->α->(β->CE R)->CE R)(done:β->CE R){k:KC R}
  (hend:∀B,B=body->∀b,inv ls.length b->kC E base (st ls.length b).fr (st ls.length b).H (.h (body,lpK E base live B k))=done b)
  (hround:∀B,B=body->∀i b (h:i<ls.length),inv i b->∀c:β->CE R,(∀b' fr H,inv (i+1) b'->gc live base ⟨fr,H⟩=st (i+1) b'->kC E base fr H (.h (.loop live B,k))=c b')->kC E base (st i b).fr (st i b).H (.h (body,lpK E base live B k))=step i b ls[i] c)
  {fr:Fr} {H:CP} {b0:β} (h0:gc live base ⟨fr,H⟩=st 0 b0) (hi:inv 0 b0):kC E base fr H (.h (.loop live body,k))=rounds step done 0 b0 ls:=by
 have key:∀(n i:Nat) (b:β) (fr:Fr) (H:CP),i+n=ls.length->inv i b->gc live base ⟨fr,H⟩=st i b->kC E base fr H (.h (.loop live body,k))=rounds step done i b (ls.drop i):=by
  intro n;induction n with
  |zero=>
   intro i b fr H hn hv hg;have hi:i=ls.length:=by omega
   subst hi;rw[qgK,hg,hend body rfl b hv,List.drop_length];rfl
  |succ n ih=>
   intro i b fr H hn hv hg;have hlt:i<ls.length:=by omega
   rw[qgK,hg,zzz hlt];exact hround body rfl i b hlt hv _ λb' fr' H' hv' hg'=>ih (i+1) b' fr' H' (by omega) hv' hg'
 have:=key ls.length 0 b0 fr H (by omega) hi h0
 simpa using this
def qht{α:Type}(p:α->CG)(r:CE R)(done:Unit->CE R)(step:Nat->Unit->α->(Unit->CE R)->CE R)(hs:∀i b x c,step i b x c=if p x=true then c ()else r):∀(i:Nat) (ls:CF α),rounds step done i () ls=if ls.all p=true then done ()else r
 |i,[]=>by simp[rounds]
 |i,x::l=>by
  rw[rounds,hs,qht p r done step hs (i+1) l];cases h:p x<;>simp[h]
end
section
variable {R:Type}{y:PV->CE R}{H:CP}
def qw8(v:DV):(PV.d v).cells=v.cells.map .d:=by cases v<;>rfl
def qvB{α:Type}(l:CF α)(c:Nat):(l.drop c).take 1=match l[c]? with|some x=>[x]|none=>[]:=by
 cases h:l[c]? with
 |none=>rw[List.getElem?_eq_none_iff]at h;rw[List.drop_eq_nil_iff.2 h];rfl
 |some x=>
  obtain⟨hc,rfl⟩:=zzk.1 h;rw[zzz hc];rfl
def qhz(n:Nat)(v:DV)(c:Nat):bo (qcU (some n) (.d v) c none) (.h y)=chk (c<n) (.h (bo v.cells[c]? (.h λx=>y (.d x)))):=by
 unfold chk;simp only[qcU,K.eq,Bool.and_false,zzg,if_false];change bo (@ite _ (c+1<=n) (Nat.decLe _ _) (mkP none ((List.drop c (PV.d v).cells).take 1)) none) (.h y)=_
 by_cases h:c<n
 ·rw[if_pos h,if_pos (by omega),qvB,qw8,zzj]
  cases v.cells[c]? <;> rfl
 ·rw[if_neg h,if_neg (by omega)];rfl
def qhy(n:Nat)(v:DV)(c:Nat){z:DV->CE R}:bo (qch (some n) v c none) (.h z)=chk (c<n) (.h (bo v.cells[c]? (.h z))):=by
 unfold chk;simp only[qch,K.eq,Bool.and_false,zzg,if_false];change bo (@ite _ (c+1<=n) (Nat.decLe _ _) (mkD none ((List.drop c v.cells).take 1)) none) (.h z)=_
 by_cases h:c<n
 ·rw[if_pos h,if_pos (by omega),qvB]
  cases v.cells[c]? <;> rfl
 ·rw[if_neg h,if_neg (by omega)];rfl
def qg1(n:Nat)(v:DV)(c:Nat):bo (qbp H none (.q v (some n) c)) (.h y)=chk (c<n) (.h (bo v.cells[c]? (.h λx=>y (.d x)))):=by
 have h:=qhy (R:=R) n v c (z:=λx=>y (.d x))
 rw[<-h];simp only[qbp];cases qch (some n) v c none<;>rfl
def qeX(k:K)(v:DV):bo (qbp H k (.q v k 0)) (.h y)=y (.d v):=by
 have:K.eq k k=true:=by cases k<;>simp[K.eq]
 simp[qbp,qch,this,bo]
def qg7(x:CE Obj)(H:CP):Heap.obj (x::H) 0=x:=rfl
def qg9(x:CE Obj)(H:CP)(n:Nat):Heap.obj (x::H) (n+1)=Heap.obj H n:=rfl
def qg0(k:K)(o i c:Nat):bo (qbp H k (.p o i c)) (.h y)=match H.obj o with
  |some (.box kb v)=>chk (i=0) (.h (bo (qcU kb v c k) (.h y)))
  |some (.sl kb _ es)=>bo es[i]? (.h λe=>bo (qch kb e c k) (.h λx=>y (.d x)))
  |_=>none:=by
 simp only[qbp];cases H.obj o with
 |none=>rfl
 |some x=>cases x with
  |box kb v=>
   simp only;by_cases h:i=0
   ·subst h;simp[chk]
   ·have:(i==0)=false:=by simpa using h
    simp[h,this,bo,chk]
  |sl kb ro es=>
   simp only;cases es[i]? with
   |none=>rfl
   |some e=>simp only[bo];cases qch kb e c k<;>rfl
  |_=>rfl
def qe8(k:K)(v:PV):bo (qcU k v 0 k) (.h y)=y v:=by
 have:K.eq k k=true:=by cases k<;>simp[K.eq]
 simp[qcU,this,bo]
def qfY(off o i c:Nat):bo (qdq off (.p o i c)) (.h y)=y (.p o i (c+off)):=rfl
def qfZ(off:Nat)(v:DV)(k:K)(c:Nat):bo (qdq off (.q v k c)) (.h y)=y (.q v k (c+off)):=rfl
variable {z:Nat->CE R}
def qfS(k:K)(es:Ct)(t:CG):bo (qbB H false (.d (.l k es t))) (.h z)=z es.length:=rfl
def qfU(s:Cv):bo (qbB H true (.d (.s s))) (.h z)=z s.length:=rfl
def qfT(o:Nat)(k:K)(off len:Nat)(t:CG):bo (qbB H false (.r o k off len t)) (.h z)=match H.obj o with|some (.sl _ _ es)=>chk (off+len<=es.length) (.h (z len))|_=>none:=by
 simp only[qbB,chk];cases H.obj o with
 |none=>rfl
 |some x=>cases x with
  |sl kb ro es=>simp only[zzg,if_false];split<;>rfl
  |_=>rfl
variable {d:DV->CE R}
section
variable (k:IntKind)(a b:Int)
def qeM:bo (qaI .add (.d (.i k a)) (.d (.i k b))) (.h d)=d (.i k (k.wrap (a+b))):=by simp[qaI,qbN,bo]
def qf7:bo (qaI .sub (.d (.i k a)) (.d (.i k b))) (.h d)=d (.i k (k.wrap (a-b))):=by simp[qaI,qbN,bo]
def qeN:bo (qaI .mul (.d (.i k a)) (.d (.i k b))) (.h d)=d (.i k (k.wrap (a*b))):=by simp[qaI,qbN,bo]
def qfO:bo (qaI .eql (.d (.i k a)) (.d (.i k b))) (.h d)=d (.b (a==b)):=by simp[qaI,qbN,bo]
def qf2:bo (qaI .neq (.d (.i k a)) (.d (.i k b))) (.h d)=d (.b (a != b)):=by simp[qaI,qbN,bo]
def qfW:bo (qaI .lss (.d (.i k a)) (.d (.i k b))) (.h d)=d (.b (decide (a<b))):=by simp[qaI,qbN,bo]
def qfV:bo (qaI .leq (.d (.i k a)) (.d (.i k b))) (.h d)=d (.b (decide (a<=b))):=by simp[qaI,qbN,bo]
def qfQ:bo (qaI .gtr (.d (.i k a)) (.d (.i k b))) (.h d)=d (.b (decide (b<a))):=by simp[qaI,qbN,bo]
def qfP:bo (qaI .geq (.d (.i k a)) (.d (.i k b))) (.h d)=d (.b (decide (b<=a))):=by simp[qaI,qbN,bo]
def qf1:bo (unA .neg (.d (.i k a))) (.h d)=d (.i k (k.wrap (-a))):=by simp[unA,bo]
end
def qf4(b:CG):bo (unA .not (.d (.b b))) (.h d)=d (.b (!b)):=rfl
def qfN(a b:Cv):bo (qaI .eql (.d (.s a)) (.d (.s b))) (.h d)=d (.b (a==b)):=rfl
def qf0(a b:Cv):bo (qaI .neq (.d (.s a)) (.d (.s b))) (.h d)=d (.b (!(a==b))):=rfl
def qfh(n m:Nat):K.eq (some n) (some m)=(n==m):=rfl
def qff(n:Nat):K.eq none (some n)=false:=rfl
def qfg(n:Nat):K.eq (some n) none=false:=rfl
def qck(k:K):K.eq k k=true:=by cases k<;>simp[K.eq]
def qgv(j t:Nat)(v:PV)(r:Fr):Fr.get ((j,v)::r) t=if j=t then v else Fr.get r t:=rfl
def qgw(t:Nat):Fr.get [] t=.u:=rfl
def qgl(l:Cy)(j:Nat)(v:PV)(r:Fr):Fr.drop l ((j,v)::r)=if (l.contains j&&Nat.blt j gh)=true then Fr.drop l r else (j,v)::Fr.drop l r:=rfl
def qgm(l:Cy):Fr.drop l []=[]:=rfl
def qhv(j t:Nat)(x v:PV)(r:Fr):Fr.set ((j,x)::r) t v=if j=t then (t,v)::r else if j<t then (t,v)::(j,x)::r else (j,x)::Fr.set r t v:=rfl
def qhw(t:Nat)(v:PV):Fr.set [] t v=[(t,v)]:=rfl
def qgs(j t:Nat)(v:PV)(r:Fr)(b:CG):Fr.fix ((j,v)::r) t b=if j=t then (j,.d (.b b))::r else (j,v)::Fr.fix r t b:=rfl
def qgt(t:Nat)(b:CG):Fr.fix [] t b=[]:=rfl
def wrI{n:Int}(h : -9223372036854775808<=n)(h':n<9223372036854775808):IntKind.i64.wrap n=n:=by
 rw[IntKind.wrap_i64];omega
def qgx(j:Nat)(v:PV)(r:Fr):qan ((j,v)::r)=if Nat.ble gh j=true then v::qan r else qan r:=rfl
def qgy:qan []=[]:=rfl
def qb4{E:Env}{rs:CF RV}{fr:Fr}(h:qan fr=[]):fin E rs .ret fr H=bo (results fr H rs) (.h λvs=>AJ H (qa5 vs)):=by
 simp only[fin,h];rfl
def qgr{E:Env}{rs:CF RV}{fr:Fr}(h:qan fr=[]):fin E rs .norm fr H=bo (results fr H rs) (.h λvs=>AJ H (qa5 vs)):=by
 simp only[fin,h];rfl
def qeO{fr:Fr}{y:Cu->CE R}:bo (results fr H []) (.h y)=y []:=rfl
def qeP{fr:Fr}{n:Nat}{r:CF RV}{y:Cu->CE R}:bo (results fr H (.t n::r)) (.h y)=bo (results fr H r) (.h λvs=>y (fr.get n::vs)):=by
 simp only[results];cases results fr H r<;>rfl
def qf5{fr:Fr}{n:Nat}{k:K}{r:CF RV}{y:Cu->CE R}:bo (results fr H (.c n k::r)) (.h y)=bo (qbp H k (fr.get n)) (.h λv=>bo (results fr H r) (.h λvs=>y (v::vs))):=by
 simp only[results];cases qbp H k (fr.get n)with
 |none=>rfl
 |some v=>simp only[bo];cases results fr H r<;>rfl
def qhd(v:PV):qa5 [v]=v:=rfl
def qhe(v w:PV)(r:Cu):qa5 (v::w::r)=.t (v::w::r):=rfl
def qhj(b:CG):AJ H (.d (.b b))=some (.d (.b b),false):=rfl
def qhk(k:IntKind)(n:Int):AJ H (.d (.i k n))=some (.d (.i k n),false):=rfl
def qhn(s:Cv):AJ H (.d (.s s))=some (.d (.s s),false):=rfl
def qhi(cs:Ct):AJ H (.d (.a cs))=some (.d (.a cs),false):=rfl
def qhm(k:K)(es:Ct):AJ H (.d (.l k es true))=some (.d (.l k es false),es.isEmpty):=rfl
def qhl(k:K)(es:Ct):AJ H (.d (.l k es false))=some (.d (.l k es false),false):=rfl
variable {hy:CP->CE R}
def qCD(kb k:K)(o i c:Nat)(v w:PV)(ho:H.obj o=some (.box kb w)):bo (qby H k (.p o i c) v) (.h hy)=chk (fits k v=true) (.h (chk (i=0) (.h (if (c==0&&K.eq k kb)=true then hy (H.put o (some (.box kb v)))else chk (c+k.size<=w.cells.length) (.h (bo (mkP kb (putAt w.cells c v.cells)) (.h λw'=>hy (H.put o (some (.box kb w')))))))))):=by
 simp only[qby,ho,chk];by_cases hf:fits k v=true
 ·simp only[hf,if_true];by_cases hi:i=0
  ·subst hi;simp only[beq_self_eq_true,if_true];by_cases hc:(c==0&&K.eq k kb)=true
   ·simp only[hc,if_true];rfl
   ·simp only[hc,zzg,if_false];by_cases hs:c+k.size<=w.cells.length
    ·simp only[hs,if_true];cases mkP kb (putAt w.cells c v.cells)<;>rfl
    ·simp only[hs,if_false];rfl
  ·have:(i==0)=false:=by simpa using hi
   simp only[this,hi,zzg,if_false];rfl
 ·simp only[hf,zzg,if_false];rfl
def stK(H:CP)(k:K)(o i c:Nat)(v:PV)(x:CE Obj){hy:CP->CE R}(_:Hd hy):CE R:=match x with
 |some (.box kb w)=>chk (fits k v=true) (.h (chk (i=0) (.h (if (c==0&&K.eq k kb)=true then hy (H.put o (some (.box kb v)))else chk (c+k.size<=w.cells.length) (.h (bo (mkP kb (putAt w.cells c v.cells)) (.h λw'=>hy (H.put o (some (.box kb w'))))))))))
 |_=>bo (qby H k (.p o i c) v) (.h hy)
def qcs(k:K)(o i c:Nat)(v:PV):bo (qby H k (.p o i c) v) (.h hy)=stK H k o i c v (H.obj o) (.h hy):=by
 unfold stK;split
 ·rename_i kb w ho;exact qCD kb k o i c v w ho
 ·rfl
def qhx(kb k:K)(o i c:Nat)(v w:PV):stK H k o i c v (some (.box kb w)) (.h hy)=chk (fits k v=true) (.h (chk (i=0) (.h (if (c==0&&K.eq k kb)=true then hy (H.put o (some (.box kb v)))else chk (c+k.size<=w.cells.length) (.h (bo (mkP kb (putAt w.cells c v.cells)) (.h λw'=>hy (H.put o (some (.box kb w')))))))))):=rfl
def qm4(E:Env)(H:CP)(v:PV)(as0:Cu){q:PV->CP->CE R}(_:Hd q):CE R:=match v with
 |.f n caps=>match (if caps.isEmpty=true then qaf as0 else none)with
  |some ds=>bo (E.val n ds) (.h λr=>q r.1 H)
  |none=>bo2 (E.ref n (as0++caps) H) (.h q)
 |.m n firsts=>match qaf (firsts++as0)with
  |some ds=>bo (E.val n ds) (.h λr=>q r.1 H)
  |none=>bo2 (E.ref n (firsts++as0) H) (.h q)
 |.h o=>bo2 (E.yld o as0 H) (.h q)
 |_=>none
def qft{E:Env}{ρ:Ab->PV}{id:Nat}{x:Ab}{as0:CF Ab}{q:PV->CP->CE R}:bo2 (qaa E ρ H id (.BH x as0)) (.h q)=qm4 E H (ρ x) (as0.map ρ) (.h q):=by
 simp only[qaa,qm4];cases ρ x with
 |f n caps=>
  simp only;cases (if caps.isEmpty=true then qaf (as0.map ρ)else none)with
  |none=>rfl
  |some ds=>simp only;cases E.val n ds<;>rfl
 |m n firsts=>
  simp only;cases qaf (firsts++as0.map ρ)with
  |none=>rfl
  |some ds=>simp only;cases E.val n ds<;>rfl
 |_=>rfl
def qgb{E:Env}{n:Nat}{as0:Cu}{q:PV->CP->CE R}:qm4 E H (.f n []) as0 (.h q)=match qaf as0 with|some ds=>bo (E.val n ds) (.h λr=>q r.1 H)|none=>bo2 (E.ref n (as0++[]) H) (.h q):=rfl
def qgc{E:Env}{n:Nat}{c:PV}{cs:Cu}{as0:Cu}{q:PV->CP->CE R}:qm4 E H (.f n (c::cs)) as0 (.h q)=bo2 (E.ref n (as0++c::cs) H) (.h q):=rfl
def qhh:qaf []=some []:=rfl
def qhg(v:DV)(r:Cu):qaf (.d v::r)=match qaf r with|some vs=>some (v::vs)|none=>none:=rfl
def qgo(T:Tab)(f:Nat)(ds:Ct):T.env.val f ds=T.val f ds:=rfl
def qgn(T:Tab)(f:Nat)(as0:Cu)(H:CP):T.env.ref f as0 H=T.ref f as0 H:=rfl
def qhp:qaK H []=some ([],[]):=rfl
def qho(v:DV)(r:Cu):qaK H (.d v::r)=match qaK H r with|some (xs,ps)=>some (v::xs,ps)|none=>none:=by
 simp only[qaK,pur,qaW];cases qaK H r<;>rfl
def qg5{E:Env}{ρ:Ab->PV}{id f:Nat}{cs:CF Ab}{q:PV->CP->CE R}:bo2 (qaa E ρ H id (.mkf f cs)) (.h q)=q (.f f (cs.map ρ)) H:=rfl
def qBs:∀l:Ct,qaf (l.map PV.d)=some l
 |[]=>rfl
 |v::l=>by simp[qaf,qBs l]
def qhA(n m:Nat)(v:DV)(c:Nat):bo (qcU (some n) (.d v) c (some m)) (.h y)=if (c==0&&m==n)=true then y (.d v)else chk (c+m<=n/\((v.cells.drop c).take m).length=m) (.h (y (.d (.a ((v.cells.drop c).take m))))):=by
 by_cases h:(c==0&&m==n)=true
 ·have h':=h
  simp only[zzf,beq_iff_eq]at h';obtain⟨rfl,rfl⟩:=h';rw[qe8];simp
 ·rw[if_neg h];have h':(c==0&&K.eq (some m) (some n))=false:=by simpa[K.eq]using h
  simp only[qcU,h',zzg,if_false,chk];change bo (@ite _ (c+m<=n) (Nat.decLe _ _) (mkP (some m) ((List.drop c (PV.d v).cells).take m)) none) (.h y)=_
  rw[qw8,<-List.map_drop,<-List.map_take];by_cases h1:c+m<=n
  ·rw[if_pos h1];by_cases h2:((v.cells.drop c).take m).length=m
   ·rw[if_pos ⟨h1,h2⟩];simp only[mkP,zzo,h2,if_true,mkA,qBs];rfl
   ·rw[if_neg (λh=>h2 h.2)]
    simp only[mkP,zzo,h2,if_false];rfl
  ·rw[if_neg h1,if_neg (λh=>h1 h.1)];rfl
def qg2(n m:Nat)(v:DV)(c:Nat):bo (qbp H (some m) (.q v (some n) c)) (.h y)=if (c==0&&m==n)=true then y (.d v)else chk (c+m<=n/\((v.cells.drop c).take m).length=m) (.h (y (.d (.a ((v.cells.drop c).take m))))):=by
 by_cases h:(c==0&&m==n)=true
 ·have h':=h
  simp only[zzf,beq_iff_eq]at h';obtain⟨rfl,rfl⟩:=h';rw[qeX];simp
 ·rw[if_neg h];have h':(c==0&&K.eq (some m) (some n))=false:=by simpa[K.eq]using h
  simp only[qbp,qch,h',zzg,if_false,chk];change bo (match @ite _ (c+m<=n) (Nat.decLe _ _) (mkD (some m) ((List.drop c v.cells).take m)) none with|some x=>some (PV.d x)|none=>none) (.h y)=_
  by_cases h1:c+m<=n
  ·rw[if_pos h1];by_cases h2:((v.cells.drop c).take m).length=m
   ·rw[if_pos ⟨h1,h2⟩];simp only[mkD,h2,if_true];rfl
   ·rw[if_neg (λh=>h2 h.2)]
    simp only[mkD,h2,if_false];rfl
  ·rw[if_neg h1,if_neg (λh=>h1 h.1)];rfl
end
def wr1{i:Nat}(h:(i:Int)+1<9223372036854775808):IntKind.i64.wrap ((i:Int)+1)=(i:Int)+1:=wrI (by omega) h
def mxl:maxLen=9223372036854775807:=rfl
section
variable {R:Type}{E:Env}{fr:Fr}{H:CP}{bf:Cy}{acc:CF (Cy × Cy)}{id:Nat}{j:KO R}
def qxE:∀a:Cy,qbg a []=true
 |[]=>rfl
 |x::r=>by have:=qxE r;unfold qbg at this⊢;simp
def qBm(b:Nat):∀(acc:CF (Cy×Cy)) (i:Nat),qa6 b i acc [] []=true
 |[],_=>rfl
 |x::r,i=>by simp only[qa6,qBm b r (i+1),qxE,Bool.and_true];simp[qbg]
def rdS:IOp->CG
 |.mov _|.pick _ _ _|.load _ _|.bin _ _ _|.eqv _ _ _ _|.eqb _ _ _|.BI _ _ _|.un _ _|.conv _ _|.slS _ _ _|.sl _ _ _ _ _|.Be _ _|.field _ _ _|.Az _ _ _|.BM _ _ _ _|.idxS _ _|.idxA _ _ _ _|.len _ _|.ext _ _|.BQ _|.minmax _ _|.call 0 _ _=>true
 |_=>false
def qg6:CP->CG
 |[]=>true
 |some (.sl _ _ _)::_=>false
 |_::r=>qg6 r
def qA2:∀{H:CP} {o:Nat},qg6 H=true->∀k ro es,H.obj o≠some (.sl k ro es)
 |[],o,_,k,ro,es,h=>by simp[Heap.obj]at h
 |x::r,0,hn,k,ro,es,h=>by
  have:x=some (.sl k ro es):=h
  subst this;simp[qg6]at hn
 |x::r,o+1,hn,k,ro,es,h=>by
  have hn':qg6 r=true:=by
   cases x with
   |none=>exact hn
   |some y=>cases y<;>first|exact hn|(simp[qg6]at hn)
  exact qA2 (H:=r) (o:=o) hn' k ro es h
def qyo{H:CP}(hn:qg6 H=true):∀os:Cy,frz H os=H
 |[]=>rfl
 |o::r=>by
  have h1:qcM H o=H:=by
   unfold qcM;split
   ·rename_i k ro es h;exact absurd h (qA2 hn k ro es)
   ·rfl
  rw[frz,h1,qyo hn r]
def qha{x:CE PV}{H H':CP}{v:PV}(h:opt x H=some (v,H')):H'=H:=by
 cases x with
 |none=>cases h
 |some y=>cases h;rfl
def qBf{x:CE DV}{H H':CP}{v:PV}(h:qez x H=some (v,H')):H'=H:=by
 cases x with
 |none=>cases h
 |some y=>cases h;rfl
def qPv{ρ:Ab->PV}{op:IOp}(hs:rdS op=true)(hn:qg6 H=true){v:PV}{H':CP}(h:qaa E ρ H id op=some (v,H')):H'=H:=by
 cases op with
 |call m f as0=>
  match m with
  |0=>
   simp only[qaa]at h;split at h
   ·split at h
    ·simp only[zzb,zzc]at h;rw[<-h.2,qyo hn];split<;>rfl
    ·cases h
   ·cases h
  |m+1=>simp[rdS]at hs
 |mov x=>cases h;rfl
 |pick c a b=>simp only[qaa]at h;split at h<;>first|(cases h;rfl)|cases h
 |load k x=>exact qha h
 |bin op x y=>exact qBf h
 |eqv neg ks x y=>simp only[qaa]at h;split at h<;>first|(cases h;rfl)|cases h
 |eqb neg x y=>simp only[qaa]at h;split at h<;>first|(cases h;rfl)|cases h
 |BI neg kd x=>simp only[qaa]at h;split at h<;>first|(cases h;rfl)|cases h
 |un op x=>exact qBf h
 |conv k x=>simp only[qaa]at h;split at h<;>first|(cases h;rfl)|cases h
 |slS x lo hi=>simp only[qaa]at h; (repeat' split at h)<;>first|(cases h;rfl)|cases h
 |sl k x lo hi mx=>exact qha h
 |Be o x=>exact qha h
 |field o k x=>exact qha h
 |Az k x i=>exact qha h
 |BM n k x i=>simp only[qaa]at h; (repeat' split at h)<;>first|exact qha h|cases h
 |idxS x i=>simp only[qaa]at h; (repeat' split at h)<;>first|(cases h;rfl)|cases h
 |idxA n k x i=>simp only[qaa]at h; (repeat' split at h)<;>first|exact qha h|cases h
 |len s x=>simp only[qaa]at h;split at h<;>first|(cases h;rfl)|cases h
 |ext x i=>simp only[qaa]at h;split at h<;>first|exact qha h|cases h
 |BQ x=>simp only[qaa]at h;split at h<;>first|(cases h;rfl)|cases h
 |minmax m as0=>simp only[qaa]at h;split at h<;>first|exact qha h|cases h
 |_=>simp[rdS]at hs
def qBQ{op:IOp}(hs:rdS op=true)(ρ:Ab->PV):op.adds=false/\op.okD ρ=true/\qa8 ρ op=[]:=by
 cases op with
 |call m f as0=>
  match m with
  |0=>exact⟨rfl,rfl,rfl⟩
  |m+1=>simp[rdS]at hs
 |_=>first|exact⟨rfl,rfl,rfl⟩|simp[rdS]at hs
def qxc(H:CP):∀l,chg H H l=[]
 |[]=>rfl
 |o::r=>by simp only[chg,Nat.beq_refl,if_true];exact qxc H r
def qt2(b:Nat)(t:Cy):∀(acc:CF (Cy×Cy)) (i:Nat),(∀x∈acc,x.2=[])->qa6 b i acc t []=true
 |[],_,_=>rfl
 |x::r,i,h=>by
  simp only[qa6,qt2 b t r (i+1) (λy hy=>h y (zzi _ hy)),h x (zzr ..),Bool.and_true]
  simp[qbg]
def qe6(dst:CE Nat)(fr:Fr)(v:PV):Fr:=match dst with|some t=>fr.set t v|none=>fr
def qsr:∀(ops:CF Ao) (bf:Cy) (acc:CF (Cy×Cy)) (id:Nat) (fr:Fr) (H:CP),(ops.all λo=>rdS o.op)=true->qg6 H=true->(∀x∈acc,x.2=[])->qbu E ops bf acc id ⟨fr,H⟩=qaM E ops id ⟨fr,H⟩
 |[],_,_,_,_,_,_,_,_=>rfl
 |o::r,bf,acc,id,fr,H,ho,hn,ha=>by
  simp only[List.all_cons,zzf]at ho;obtain⟨h1,h2,h3⟩:=qBQ ho.1 (rd E fr);have hid:(if o.op.adds=true then id+1 else id)=id:=by rw[h1];rfl
  have ha':∀(t:Cy),∀x∈acc++[(t,([]:Cy))],x.2=[]:=λt x hx=>by
   rcases zzB.1 hx with h|h
   ·exact ha x h
   ·rw[zzH.1 h]
  have step:∀(v:PV) (H':CP),qaa E (rd E fr) H id o.op=some (v,H')->∀fr',qbu E r bf.tail (acc++[(AA E o id ⟨fr,H⟩ ⟨fr',H'⟩++AP E o ⟨fr,H⟩,AA E o id ⟨fr,H⟩ ⟨fr',H'⟩)]) id ⟨fr',H'⟩=qaM E r id ⟨fr',H'⟩/\qa6 (bf.headD 0) 0 acc (AA E o id ⟨fr,H⟩ ⟨fr',H'⟩++AP E o ⟨fr,H⟩) (AA E o id ⟨fr,H⟩ ⟨fr',H'⟩)=true:=by
   intro v H' he fr'
   have:=qPv ho.1 hn he
   subst this;have hw:AA E o id ⟨fr,H'⟩ ⟨fr',H'⟩=[]:=by
    unfold AA;split
    ·simp[h1,h3,qxc]
    ·rfl
   rw[hw];exact⟨qsr r _ _ id fr' H' ho.2 hn (ha' _),qt2 _ _ _ _ ha⟩
  have skip:runs o fr=false->∀fr',qbu E r bf.tail (acc++[(AA E o id ⟨fr,H⟩ ⟨fr',H⟩++AP E o ⟨fr,H⟩,AA E o id ⟨fr,H⟩ ⟨fr',H⟩)]) id ⟨fr',H⟩=qaM E r id ⟨fr',H⟩/\qa6 (bf.headD 0) 0 acc (AA E o id ⟨fr,H⟩ ⟨fr',H⟩++AP E o ⟨fr,H⟩) (AA E o id ⟨fr,H⟩ ⟨fr',H⟩)=true:=by
   intro hr fr';have hw:AA E o id ⟨fr,H⟩ ⟨fr',H⟩=[]:=by unfold AA;rw[hr];rfl
   rw[hw];exact⟨qsr r _ _ id fr' H ho.2 hn (ha' _),qt2 _ _ _ _ ha⟩
  obtain⟨dst,op,g⟩:=o;simp only at h1 h2 h3 hid;have go:(match (match qal E (rd E fr) H id op with|some (v,H')=>some (⟨qe6 dst fr v,H'⟩:St)|none=>none)with
    |some s'=>if qa6 (bf.headD 0) 0 acc (AA E ⟨dst,op,g⟩ id ⟨fr,H⟩ s'++AP E ⟨dst,op,g⟩ ⟨fr,H⟩) (AA E ⟨dst,op,g⟩ id ⟨fr,H⟩ s')=true then qbu E r bf.tail (acc++[(AA E ⟨dst,op,g⟩ id ⟨fr,H⟩ s'++AP E ⟨dst,op,g⟩ ⟨fr,H⟩,AA E ⟨dst,op,g⟩ id ⟨fr,H⟩ s')]) id s' else none
    |none=>none)=match qaa E (rd E fr) H id op with|some (v,H')=>qaM E r id ⟨qe6 dst fr v,H'⟩|none=>none:=by
   simp only[qal,h2,if_true];cases he:qaa E (rd E fr) H id op with
   |none=>rfl
   |some x=>
    obtain⟨v,H'⟩:=x;obtain⟨q1,q2⟩:=step v H' he (qe6 dst fr v);simp only[q2,if_true,q1]
  have no:runs ⟨dst,op,g⟩ fr=false->(if qa6 (bf.headD 0) 0 acc (AA E ⟨dst,op,g⟩ id ⟨fr,H⟩ ⟨qe6 dst fr (.t []),H⟩++AP E ⟨dst,op,g⟩ ⟨fr,H⟩) (AA E ⟨dst,op,g⟩ id ⟨fr,H⟩ ⟨qe6 dst fr (.t []),H⟩)=true then qbu E r bf.tail (acc++[(AA E ⟨dst,op,g⟩ id ⟨fr,H⟩ ⟨qe6 dst fr (.t []),H⟩++AP E ⟨dst,op,g⟩ ⟨fr,H⟩,AA E ⟨dst,op,g⟩ id ⟨fr,H⟩ ⟨qe6 dst fr (.t []),H⟩)]) id ⟨qe6 dst fr (.t []),H⟩else none)=qaM E r id ⟨qe6 dst fr (.t []),H⟩:=by
   intro hr;obtain⟨q1,q2⟩:=skip hr (qe6 dst fr (.t []));simp only[q2,if_true,q1]
  simp only[qbu,Bn,qaM,hid];cases g with
  |none=>exact go
  |some g=>
   obtain⟨t,w⟩:=g;simp only;cases hg:fr.get t with
   |d v=>
    cases v with
    |b b=>
     simp only;by_cases hb:(b==w)=true
     ·simp only[hb,if_true];exact go
     ·have hb':(b==w)=false:=by simpa using hb
      simp only[hb',zzg,if_false];exact no (by simp[runs,hg,hb'])
    |_=>rfl
   |t vs=>
    cases vs with
    |nil=>simp only;exact no (by simp[runs,hg])
    |cons=>rfl
   |_=>rfl
def qkX{base:Nat}{k:KC R}{ops:CF Ao}{kill:Cy}(ho:(ops.all λo=>rdS o.op)=true)(hn:qg6 H=true):kC E base fr H (.h (.A7 ops bf kill,k))=kO E H.length fr H (.h (ops,rgK kill k)):=by
 have hz:qao ops=0:=by
  clear hn
  induction ops with
  |nil=>rfl
  |cons o r ih=>
   simp only[List.all_cons,zzf]at ho;simp only[qao,(qBQ ho.1 (λ_=>.u)).1,ih ho.2];rfl
 simp only[kC,qah,qc4,kO,hz,List.replicate_zero,List.append_nil];rw[qsr ops bf [] H.length fr H ho hn (λx hx=>by cases hx)]
 cases qaM E ops H.length ⟨fr,H⟩<;>rfl
def qgM{base:Nat}{k:KC R}{ops:CF Ao}{kill:Cy}(ho:(ops.all λo=>rdS o.op)=true):kC E base fr [] (.h (.A7 ops bf kill,k))=kO E 0 fr [] (.h (ops,rgK kill k)):=qkX ho rfl
def qgN{base:Nat}{k:KC R}{ops:CF Ao}{kill:Cy}{k0:K}{v0:PV}(ho:(ops.all λo=>rdS o.op)=true):kC E base fr [some (.box k0 v0)] (.h (.A7 ops bf kill,k))=kO E 1 fr [some (.box k0 v0)] (.h (ops,rgK kill k)):=qkX ho rfl
def qgO{base:Nat}{k:KC R}{ops:CF Ao}{kill:Cy}{k0 k1:K}{v0 v1:PV}(ho:(ops.all λo=>rdS o.op)=true):kC E base fr [some (.box k0 v0),some (.box k1 v1)] (.h (.A7 ops bf kill,k))=kO E 2 fr [some (.box k0 v0),some (.box k1 v1)] (.h (ops,rgK kill k)):=qkX ho rfl
def qgP{base:Nat}{k:KC R}{ops:CF Ao}{kill:Cy}{k0 k1 k2:K}{v0 v1 v2:PV}(ho:(ops.all λo=>rdS o.op)=true):kC E base fr [some (.box k0 v0),some (.box k1 v1),some (.box k2 v2)] (.h (.A7 ops bf kill,k))=kO E 3 fr [some (.box k0 v0),some (.box k1 v1),some (.box k2 v2)] (.h (ops,rgK kill k)):=qkX ho rfl
def qgQ{base:Nat}{k:KC R}{ops:CF Ao}{kill:Cy}{k0 k1 k2 k3:K}{v0 v1 v2 v3:PV}(ho:(ops.all λo=>rdS o.op)=true):kC E base fr [some (.box k0 v0),some (.box k1 v1),some (.box k2 v2),some (.box k3 v3)] (.h (.A7 ops bf kill,k))=kO E 4 fr [some (.box k0 v0),some (.box k1 v1),some (.box k2 v2),some (.box k3 v3)] (.h (ops,rgK kill k)):=qkX ho rfl
def qgR{base:Nat}{k:KC R}{ops:CF Ao}{kill:Cy}{k0 k1 k2 k3 k4:K}{v0 v1 v2 v3 v4:PV}(ho:(ops.all λo=>rdS o.op)=true):kC E base fr [some (.box k0 v0),some (.box k1 v1),some (.box k2 v2),some (.box k3 v3),some (.box k4 v4)] (.h (.A7 ops bf kill,k))=kO E 5 fr [some (.box k0 v0),some (.box k1 v1),some (.box k2 v2),some (.box k3 v3),some (.box k4 v4)] (.h (ops,rgK kill k)):=qkX ho rfl
end
mutual
def qlh(ρ:Nat->CE Nat):∀v:PV,(∀r∈v.refs,ρ r=some r)->v.ren ρ=v
 |.u,_=>rfl
 |.d _,_=>rfl
 |.a cs,h=>by rw[PV.ren,qn2 ρ cs (by simpa[PV.refs]using h)]
 |.t cs,h=>by rw[PV.ren,qn2 ρ cs (by simpa[PV.refs]using h)]
 |.r o k off len t,h=>by rw[PV.ren,h o (by simp[PV.refs])]
 |.p o i c,h=>by rw[PV.ren,h o (by simp[PV.refs])]
 |.q _ _ _,_=>rfl
 |.f n cs,h=>by rw[PV.ren,qn2 ρ cs (by simpa[PV.refs]using h)]
 |.h o,h=>by rw[PV.ren,h o (by simp[PV.refs])]
 |.g v,h=>by rw[PV.ren,qlh ρ v (by simpa[PV.refs]using h)]
 |.m n cs,h=>by rw[PV.ren,qn2 ρ cs (by simpa[PV.refs]using h)]
 |.w t v,h=>by rw[PV.ren,qlh ρ v (by simpa[PV.refs]using h)]
def qn2(ρ:Nat->CE Nat):∀cs:Cu,(∀r∈PV.AL cs,ρ r=some r)->PV.Bt ρ cs=cs
 |[],_=>rfl
 |v::cs,h=>by
  simp only[PV.AL,zzB]at h;rw[PV.Bt,qlh ρ v (λr hr=>h r (.inl hr)),qn2 ρ cs (λr hr=>h r (.inr hr))]
end
def qBh{ρ:Nat->CE Nat}{x:CE Obj}(h:∀r∈qav x,ρ r=some r):x.map (·.ren ρ)=x:=by
 cases x with
 |none=>rfl
 |some y=>
  cases y with
  |box k v=>simp only[Option.map,Obj.ren,qlh ρ v (by simpa[qav,Obj.refs]using h)]
  |_=>rfl
def qpB{ρ:Nat->CE Nat}:∀{H:CP},(∀r∈qae H,ρ r=some r)->H.map (·.map (·.ren ρ))=H
 |[],_=>rfl
 |x::H,h=>by
  simp only[qae,zzB]at h;rw[zzu,qBh (λr hr=>h r (.inl hr)),qpB (λr hr=>h r (.inr hr))]
def qsC{ρ:Nat->CE Nat}:∀{fr:Fr},(∀r∈qam fr,ρ r=some r)->Fr.ren ρ fr=fr
 |[],_=>rfl
 | (j,v)::fr,h=>by
  simp only[qam,zzB]at h;rw[Fr.ren,qlh ρ v (λr hr=>h r (.inl hr)),qsC (λr hr=>h r (.inr hr))]
def qus(H:CP)(base:Nat):∀(n:Nat) (acc todo:Cy),(∀o∈todo,o<base)->qap H base n acc todo=acc
 |0,_,_,_=>rfl
 |n+1,acc,[],_=>rfl
 |n+1,acc,o::todo,h=>by
  rw[qap,if_pos (h o (zzr ..))];exact qus H base n acc todo λx hx=>h x (zzi _ hx)
def Cl(H:CP):Prop:=∀r∈qae H,r<H.length
def qyr(live:Cy){H J:CP}{fr:Fr}(hH:Cl H)(hf:∀r∈qam (Fr.keep live fr),r<H.length):gc live H.length ⟨fr,H++J⟩=⟨Fr.keep live fr,H⟩:=by
 have ht:(H++J).take H.length=H:=by simp
 have hr:qap (H++J) H.length 1000 [] (qam (Fr.keep live fr)++qae H)=[]:=qus _ _ _ _ _ λo ho=>by
  rcases zzB.1 ho with h|h
  ·exact hf o h
  ·exact hH o h
 have hp:∀r,r<H.length->qaG H.length [] r=some r:=λr h=>by simp[qaG,h]
 simp only[gc,ht,hr,gcH,List.map_nil,List.append_nil];rw[qsC (λr h=>hp r (hf r h)),qpB (λr h=>hp r (hH r h))]
def qnk(live:Cy){H:CP}{fr:Fr}(hH:Cl H)(hf:∀r∈qam (Fr.keep live fr),r<H.length):gc live H.length ⟨fr,H⟩=⟨Fr.keep live fr,H⟩:=by
 have:=qyr live (J:=[]) hH hf
 rwa [List.append_nil]at this
def qdl{H J:CP}{v:PV}(hH:Cl H)(hf:∀r∈v.refs,r<H.length):gcV H.length v (H++J)=(v,H):=by
 have ht:(H++J).take H.length=H:=by simp
 have hr:qap (H++J) H.length 1000 [] (v.refs++qae H)=[]:=qus _ _ _ _ _ λo ho=>by
  rcases zzB.1 ho with h|h
  ·exact hf o h
  ·exact hH o h
 have hp:∀r,r<H.length->qaG H.length [] r=some r:=λr h=>by simp[qaG,h]
 simp only[gcV,ht,hr,gcH,List.map_nil,List.append_nil];rw[qlh _ v (λr h=>hp r (hf r h)),qpB (λr h=>hp r (hH r h))]
def qkP{H:CP}{v:PV}(hH:Cl H)(hf:∀r∈v.refs,r<H.length):gcV H.length v H=(v,H):=by
 have:=qdl (J:=[]) hH hf
 rwa [List.append_nil]at this
def qeT{H:CP}(hH:Cl H)(J:CP)(v:DV):gcV H.length (.d v) (H++J)=(.d v,H):=qdl hH (by simp[PV.refs])
def qnj{H:CP}(hH:Cl H)(v:DV):gcV H.length (.d v) H=(.d v,H):=qkP hH (by simp[PV.refs])
noncomputable def qeQ(E:Env)(rs:CF RV)(base:Nat):KC (PV×CP)
 |.exit _,_,_=>none
 |_,fr,H=>bo (Bo E (qan fr) H) (.h λH=>bo (results fr H rs) (.h λvs=>some (gcV base (qa5 vs) H)))
def qbW(T:Tab){f:Nat}{F:PF}(hF:T.F f=some F){args:Cu}{H:CP}(ha:args.length=F.Bp):T.ref f args H=kC T.env H.length (Fr.Aa 0 args) H (.h (F.body,qeQ T.env F.results H.length)):=by
 rw[qPP T hF];unfold qbb;rw[if_pos ha];simp only[kC];cases qah T.env lpI H.length F.body ⟨Fr.Aa 0 args,H⟩with
 |none=>rfl
 |some x=>
  obtain⟨e,s⟩:=x;cases e with
  |exit id=>rfl
  |norm=>
   simp only[qeQ];cases Bo T.env (qan s.fr) s.H with
   |none=>rfl
   |some H'=>simp only[bo];cases results s.fr H' F.results<;>rfl
  |ret=>
   simp only[qeQ];cases Bo T.env (qan s.fr) s.H with
   |none=>rfl
   |some H'=>simp only[bo];cases results s.fr H' F.results<;>rfl
section
variable {E:Env}{rs:CF RV}{base:Nat}{fr:Fr}{H:CP}
def qbh(h:qan fr=[]):qeQ E rs base .ret fr H=bo (results fr H rs) (.h λvs=>some (gcV base (qa5 vs) H)):=by
 simp only[qeQ,h];rfl
def qsx(h:qan fr=[]):qeQ E rs base .norm fr H=bo (results fr H rs) (.h λvs=>some (gcV base (qa5 vs) H)):=by
 simp only[qeQ,h];rfl
def qhq(y x:CE Obj)(H:CP):Heap.put (y::H) 0 x=x::H:=rfl
def qhr(y x:CE Obj)(H:CP)(n:Nat):Heap.put (y::H) (n+1) x=y::Heap.put H n x:=rfl
def qir(H:CP)(J:CP)(x:CE Obj)(i:Nat):Heap.put (H++J) (H.length+i) x=H++Heap.put J i x:=by
 simp[Heap.put]
def qjM(H:CP)(J:CP)(x:CE Obj):Heap.put (H++J) H.length x=H++Heap.put J 0 x:=qir H J x 0
def qin(H J:CP)(i:Nat):Heap.obj (H++J) (H.length+i)=Heap.obj J i:=by
 simp[Heap.obj,List.getElem?_append_right]
def qg8(H J:CP):Heap.obj (H++J) H.length=Heap.obj J 0:=qin H J 0
end
def qfk{R:Type}(n:Nat)(k:KC R)(r:CE R):Prop:=∀fr H,fr.get n=.d (.b false)->qan fr=[]->k .ret fr H=r
def qoI{R:Type}{n id:Nat}{k:KC R}{r:CE R}:qfk n (blK id k) r=qfk n k r:=rfl
def qoK{R:Type}{n:Nat}{E:Env}{base:Nat}{b:PC}{k:KC R}{r:CE R}:qfk n (sqK E base b k) r=qfk n k r:=rfl
def qoJ{n:Nat}{E:Env}:qfk n (fin E [.t n]) (some (.d (.b false),false))=True:=by
 refine eq_true ?_;intro fr H h1 h2;rw[qb4 h2,qeP,qeO,h1];rfl
def qq2:Cl []:=λr h=>by cases h
def qoj(k k':K)(v w:DV):Cl [some (.box k (.d v)),some (.box k' (.d w))]:=λr h=>by simp[qae,qav,Obj.refs,PV.refs]at h
section
variable {R:Type}{E:Env}{ρ:Ab->PV}{H:CP}{id:Nat}{q:PV->CP->CE R}
def qsq(neg:CG)(x y:PV){q:PV->CE R}(_:Hd q):CE R:=match x,y with
 |.d (.b a),.d (.b b)=>q (.d (.b (if neg=true then !(a==b)else a==b)))
 |_,_=>none
def qgp(neg a b:CG){q:PV->CE R}:qsq neg (.d (.b a)) (.d (.b b)) (.h q)=q (.d (.b (if neg=true then !(a==b)else a==b))):=rfl
def qfu{neg:CG}{x y:Ab}:bo2 (qaa E ρ H id (.eqb neg x y)) (.h q)=qsq neg (ρ x) (ρ y) (.h λv=>q v H):=by
 simp only[qaa,qsq];cases ρ x with
 |d v=>
  cases v with
  |b a=>
   cases ρ y with
   |d w=>cases w<;>rfl
   |_=>rfl
  |_=>rfl
 |_=>rfl
end
section
variable {R α:Type}{E:Env}{fr:Fr}{H:CP}{bf:Cy}{acc:CF (Cy × Cy)}{id:Nat}{j:KO R}
def nfp(x:α){k:α->CE R}(_:Hd k):CE R:=k x
def qb9(x:α)(k:α->CE R):nfp x (.h k)=k x:=rfl
def qbr(bf:Cy)(acc:CF (Cy×Cy))(W T:Cy):CG×CF (Cy×Cy):=(qa6 (bf.headD 0) 0 acc (W++T) W,acc++[(W++T,W)])
noncomputable def qcX(E:Env)(id:Nat)(fr:Fr)(H:CP)(bf:Cy)(acc:CF (Cy×Cy))(o:Ao)(fr':Fr)(H':CP){r:CF Ao}{j:KO R}(_:Hd (r,j)):CE R:=
 nfp (qbr bf acc (AA E o id ⟨fr,H⟩ ⟨fr',H'⟩) (AP E o ⟨fr,H⟩)) (.h λw=>chk (w.1=true) (.h (kD E (nid o.op id) fr' H' bf.tail w.2 (.h (r,j)))))
def qcq:kD E id fr H bf acc (.h ([],j))=j fr H:=rfl
def qkY(o:Ao)(r:CF Ao):kD E id fr H bf acc (.h (o::r,j))=match Bn E o id ⟨fr,H⟩with|some s'=>qcX E id fr H bf acc o s'.fr s'.H (.h (r,j))|none=>none:=by
 simp only[kD,qbu];cases Bn E o id ⟨fr,H⟩with
 |none=>rfl
 |some s'=>
  obtain⟨f,h⟩:=s';by_cases hp:qa6 (bf.headD 0) 0 acc (AA E o id ⟨fr,H⟩ ⟨f,h⟩++AP E o ⟨fr,H⟩) (AA E o id ⟨fr,H⟩ ⟨f,h⟩)=true
  ·simp only[qcX,nfp,qbr,chk,nid,hp,if_true,kD]
  ·simp only[qcX,nfp,qbr,chk,hp,if_false,zzg]
def qb7{d:Nat}{op:IOp}{r:CF Ao}:kD E id fr H bf acc (.h (⟨some d,op,none⟩::r,j))=bo2 (qal E (rd E fr) H id op) (.h λv H'=>qcX E id fr H bf acc ⟨some d,op,none⟩ (fr.set d v) H' (.h (r,j))):=by
 rw[qkY];simp only[Bn,bo2]
 cases qal E (rd E fr) H id op<;>rfl
def qdH{op:IOp}{r:CF Ao}:kD E id fr H bf acc (.h (⟨none,op,none⟩::r,j))=bo2 (qal E (rd E fr) H id op) (.h λ_ H'=>qcX E id fr H bf acc ⟨none,op,none⟩ fr H' (.h (r,j))):=by
 rw[qkY];simp only[Bn,bo2]
 cases qal E (rd E fr) H id op<;>rfl
def qcN{d t:Nat}{w:CG}{op:IOp}{r:CF Ao}:kD E id fr H bf acc (.h (⟨some d,op,some (t,w)⟩::r,j)) =
  grd (fr.get t) w (.h (bo2 (qal E (rd E (fr.fix t w)) H id op) (.h λv H'=>qcX E id (fr.fix t w) H bf acc ⟨some d,op,some (t,w)⟩ ((fr.fix t w).set d v) H' (.h (r,j))),qcX E id (fr.fix t (!w)) H bf acc ⟨some d,op,some (t,w)⟩ ((fr.fix t (!w)).set d (.t [])) H (.h (r,j)),qcX E id fr H bf acc ⟨some d,op,some (t,w)⟩ (fr.set d (.t [])) H (.h (r,j)))):=by
 rw[qkY];simp only[Bn]
 cases h:fr.get t with
 |d v=>
  cases v with
  |b b=>
   by_cases hb:b=w
   ·subst hb;rw[qet h];simp only[grd,beq_self_eq_true,if_true,bo2];cases qal E (rd E fr) H id op<;>rfl
   ·have e:(b==w)=false:=by simpa using hb
    have e2:b=!w:=by cases b<;>cases w<;>simp_all
    have hf:fr.fix t (!w)=fr:=qet (by rw[h,e2])
    simp only[grd,e,if_neg hb,zzg,if_false,hf]
  |_=>rfl
 |t vs=>cases vs<;>rfl
 |_=>rfl
def qew{t:Nat}{w:CG}{op:IOp}{r:CF Ao}:kD E id fr H bf acc (.h (⟨none,op,some (t,w)⟩::r,j)) =
  grd (fr.get t) w (.h (bo2 (qal E (rd E (fr.fix t w)) H id op) (.h λ_ H'=>qcX E id (fr.fix t w) H bf acc ⟨none,op,some (t,w)⟩ (fr.fix t w) H' (.h (r,j))),qcX E id (fr.fix t (!w)) H bf acc ⟨none,op,some (t,w)⟩ (fr.fix t (!w)) H (.h (r,j)),qcX E id fr H bf acc ⟨none,op,some (t,w)⟩ fr H (.h (r,j)))):=by
 rw[qkY];simp only[Bn]
 cases h:fr.get t with
 |d v=>
  cases v with
  |b b=>
   by_cases hb:b=w
   ·subst hb;rw[qet h];simp only[grd,beq_self_eq_true,if_true,bo2];cases qal E (rd E fr) H id op<;>rfl
   ·have e:(b==w)=false:=by simpa using hb
    have e2:b=!w:=by cases b<;>cases w<;>simp_all
    have hf:fr.fix t (!w)=fr:=qet (by rw[h,e2])
    simp only[grd,e,if_neg hb,zzg,if_false,hf]
  |_=>rfl
 |t vs=>cases vs<;>rfl
 |_=>rfl
def qbY{o:Ao}{fr':Fr}{H':CP}{r:CF Ao}:qcX E id fr H bf acc o fr' H' (.h (r,j))=nfp (qbr bf acc (AA E o id ⟨fr,H⟩ ⟨fr',H'⟩) (AP E o ⟨fr,H⟩)) (.h λw=>chk (w.1=true) (.h (kD E (nid o.op id) fr' H' bf.tail w.2 (.h (r,j))))):=rfl
def qGo{ρ:Ab->PV}{x:IOp}(h:x.okD ρ=true):qal E ρ H id x=qaa E ρ H id x:=by simp[qal,h]
def qFa{ρ:Ab->PV}{x:IOp}{k:PV->CP->CE R}(h:x.okD ρ=true):bo2 (qal E ρ H id x) (.h k)=bo2 (qaa E ρ H id x) (.h k):=by rw[qGo h]
def qb1{ρ:Ab->PV}{k:PV->CP->CE R}{x:Ab}:bo2 (qal E ρ H id (.mov x)) (.h k)=bo2 (qaa E ρ H id (.mov x)) (.h k):=rfl
def qdj{ρ:Ab->PV}{k:PV->CP->CE R}{cx a b:Ab}:bo2 (qal E ρ H id (.pick cx a b)) (.h k)=bo2 (qaa E ρ H id (.pick cx a b)) (.h k):=rfl
def qdV{ρ:Ab->PV}{k:PV->CP->CE R}{kx:Sim.K}{z:DV}:bo2 (qal E ρ H id (.alloc kx z)) (.h k)=bo2 (qaa E ρ H id (.alloc kx z)) (.h k):=rfl
def qdW{ρ:Ab->PV}{k:PV->CP->CE R}{kx:Sim.K}{x:Ab}:bo2 (qal E ρ H id (.box kx x)) (.h k)=bo2 (qaa E ρ H id (.box kx x)) (.h k):=rfl
def qdh{ρ:Ab->PV}{k:PV->CP->CE R}{z:Ct}{parts:CF (Nat×Sim.K×Ab)}:bo2 (qal E ρ H id (.agg z parts)) (.h k)=bo2 (qaa E ρ H id (.agg z parts)) (.h k):=rfl
def qdi{ρ:Ab->PV}{k:PV->CP->CE R}{kx:Sim.K}{z:DV}{len:Nat}{parts:CF (Nat×Ab)}:bo2 (qal E ρ H id (.bsl kx z len parts)) (.h k)=bo2 (qaa E ρ H id (.bsl kx z len parts)) (.h k):=rfl
def qb0{ρ:Ab->PV}{k:PV->CP->CE R}{kx:Sim.K}{x:Ab}:bo2 (qal E ρ H id (.load kx x)) (.h k)=bo2 (qaa E ρ H id (.load kx x)) (.h k):=rfl
def qdB{ρ:Ab->PV}{k:PV->CP->CE R}{kx:Sim.K}{x y:Ab}:bo2 (qal E ρ H id (.store kx x y)) (.h k)=bo2 (qaa E ρ H id (.store kx x y)) (.h k):=rfl
def qcd{ρ:Ab->PV}{k:PV->CP->CE R}{op:BinOp}{x y:Ab}:bo2 (qal E ρ H id (.bin op x y)) (.h k)=bo2 (qaa E ρ H id (.bin op x y)) (.h k):=rfl
def qd1{ρ:Ab->PV}{k:PV->CP->CE R}{neg:CG}{ks:Cy}{x y:Ab}:bo2 (qal E ρ H id (.eqv neg ks x y)) (.h k)=bo2 (qaa E ρ H id (.eqv neg ks x y)) (.h k):=rfl
def qd0{ρ:Ab->PV}{k:PV->CP->CE R}{neg:CG}{x y:Ab}:bo2 (qal E ρ H id (.eqb neg x y)) (.h k)=bo2 (qaa E ρ H id (.eqb neg x y)) (.h k):=rfl
def qd7{ρ:Ab->PV}{k:PV->CP->CE R}{neg:CG}{kd:Nat}{x:Ab}:bo2 (qal E ρ H id (.BI neg kd x)) (.h k)=bo2 (qaa E ρ H id (.BI neg kd x)) (.h k):=rfl
def qej{ρ:Ab->PV}{k:PV->CP->CE R}{op:UnOp}{x:Ab}:bo2 (qal E ρ H id (.un op x)) (.h k)=bo2 (qaa E ρ H id (.un op x)) (.h k):=rfl
def qdZ{ρ:Ab->PV}{k:PV->CP->CE R}{kx:IntKind}{x:Ab}:bo2 (qal E ρ H id (.conv kx x)) (.h k)=bo2 (qaa E ρ H id (.conv kx x)) (.h k):=rfl
def qeh{ρ:Ab->PV}{k:PV->CP->CE R}{x:Ab}{lo hi:CE Ab}:bo2 (qal E ρ H id (.slS x lo hi)) (.h k)=bo2 (qaa E ρ H id (.slS x lo hi)) (.h k):=rfl
def qeg{ρ:Ab->PV}{k:PV->CP->CE R}{kx:Sim.K}{x:Ab}{lo hi mx:CE Ab}:bo2 (qal E ρ H id (.sl kx x lo hi mx)) (.h k)=bo2 (qaa E ρ H id (.sl kx x lo hi mx)) (.h k):=rfl
def qcm{ρ:Ab->PV}{k:PV->CP->CE R}{off:Nat}{x:Ab}:bo2 (qal E ρ H id (.Be off x)) (.h k)=bo2 (qaa E ρ H id (.Be off x)) (.h k):=rfl
def qd3{ρ:Ab->PV}{k:PV->CP->CE R}{off:Nat}{kx:Sim.K}{x:Ab}:bo2 (qal E ρ H id (.field off kx x)) (.h k)=bo2 (qaa E ρ H id (.field off kx x)) (.h k):=rfl
def qc2{ρ:Ab->PV}{k:PV->CP->CE R}{kx:Sim.K}{x i:Ab}:bo2 (qal E ρ H id (.Az kx x i)) (.h k)=bo2 (qaa E ρ H id (.Az kx x i)) (.h k):=rfl
def qd4{ρ:Ab->PV}{k:PV->CP->CE R}{len:Nat}{kx:Sim.K}{x i:Ab}:bo2 (qal E ρ H id (.BM len kx x i)) (.h k)=bo2 (qaa E ρ H id (.BM len kx x i)) (.h k):=rfl
def qd6{ρ:Ab->PV}{k:PV->CP->CE R}{x i:Ab}:bo2 (qal E ρ H id (.idxS x i)) (.h k)=bo2 (qaa E ρ H id (.idxS x i)) (.h k):=rfl
def qd5{ρ:Ab->PV}{k:PV->CP->CE R}{len:Nat}{kx:Sim.K}{x i:Ab}:bo2 (qal E ρ H id (.idxA len kx x i)) (.h k)=bo2 (qaa E ρ H id (.idxA len kx x i)) (.h k):=rfl
def qd8{ρ:Ab->PV}{k:PV->CP->CE R}{str:CG}{x:Ab}:bo2 (qal E ρ H id (.len str x)) (.h k)=bo2 (qaa E ρ H id (.len str x)) (.h k):=rfl
def qd2{ρ:Ab->PV}{k:PV->CP->CE R}{x:Ab}{i:Nat}:bo2 (qal E ρ H id (.ext x i)) (.h k)=bo2 (qaa E ρ H id (.ext x i)) (.h k):=rfl
def qea{ρ:Ab->PV}{k:PV->CP->CE R}{f:Nat}{caps:CF Ab}:bo2 (qal E ρ H id (.mkf f caps)) (.h k)=bo2 (qaa E ρ H id (.mkf f caps)) (.h k):=rfl
def qec{ρ:Ab->PV}{k:PV->CP->CE R}{f:Nat}{caps:CF Ab}:bo2 (qal E ρ H id (.mkm f caps)) (.h k)=bo2 (qaa E ρ H id (.mkm f caps)) (.h k):=rfl
def qef{ρ:Ab->PV}{k:PV->CP->CE R}{p:Nat}{args:CF Ab}:bo2 (qal E ρ H id (.prim p args)) (.h k)=bo2 (qaa E ρ H id (.prim p args)) (.h k):=rfl
def qee{ρ:Ab->PV}{k:PV->CP->CE R}{x:Ab}:bo2 (qal E ρ H id (.BQ x)) (.h k)=bo2 (qaa E ρ H id (.BQ x)) (.h k):=rfl
def qed{ρ:Ab->PV}{k:PV->CP->CE R}{kx:Sim.K}{bytes:Nat}{z:DV}{len cap:Ab}:bo2 (qal E ρ H id (.mksl kx bytes z len cap)) (.h k)=bo2 (qaa E ρ H id (.mksl kx bytes z len cap)) (.h k):=rfl
def qd9{ρ:Ab->PV}{k:PV->CP->CE R}{mx:CG}{args:CF Ab}:bo2 (qal E ρ H id (.minmax mx args)) (.h k)=bo2 (qaa E ρ H id (.minmax mx args)) (.h k):=rfl
def qeb{ρ:Ab->PV}{k:PV->CP->CE R}{t:Nat}{x:Ab}:bo2 (qal E ρ H id (.mkif t x)) (.h k)=bo2 (qaa E ρ H id (.mkif t x)) (.h k):=rfl
def qei{ρ:Ab->PV}{k:PV->CP->CE R}{t:Nat}{z:DV}{ok:CG}{x:Ab}:bo2 (qal E ρ H id (.tas t z ok x)) (.h k)=bo2 (qaa E ρ H id (.tas t z ok x)) (.h k):=rfl
def qxu{ρ:Ab->PV}{k:PV->CP->CE R}{kx:Sim.K}{b:Nat}{x y:Ab}:bo2 (qal E ρ H id (.app kx b x y)) (.h k)=bo2 (qaa E ρ H id (.app kx b x y)) (.h k):=rfl
def qdX{ρ:Ab->PV}{k:PV->CP->CE R}{f:Nat}{args:CF Ab}:bo2 (qal E ρ H id (.call 0 f args)) (.h k)=bo2 (qaa E ρ H id (.call 0 f args)) (.h k):=rfl
def qdY{ρ:Ab->PV}{k:PV->CP->CE R}{f:Nat}{args:CF Ab}:bo2 (qal E ρ H id (.call 1 f args)) (.h k)=bo2 (qaa E ρ H id (.call 1 f args)) (.h k):=rfl
end
def qia(k:IntKind)(n:Int):fits none (.d (.i k n))=true:=rfl
def qh8(b:CG):fits none (.d (.b b))=true:=rfl
def qic(l:Cv):fits none (.d (.s l))=true:=rfl
def qib(k:K)(l:Ct)(t:CG):fits none (.d (.l k l t))=true:=rfl
def qdk(n:Nat)(l:Ct):fits (some n) (.d (.a l))=(l.length==n):=rfl
def qiq{H:CP}{vs:Cu}:AJ H (.t vs)=match qaK H vs with|some (xs,_)=>some (.t (xs.map .d),false)|none=>none:=rfl
def qim(j:Nat):((j:Int)<0)=False:=by simp
section
variable {R:Type}{E:Env}{ρ:Ab->PV}{H:CP}{id:Nat}{q:PV->CP->CE R}
def qBt:∀z:Ct,qaf (z.map .d)=some z
 |[]=>rfl
 |x::z=>by simp[qaf,qBt z]
def qh0{z:Ct}:bo2 (qaa E ρ H id (.agg z [])) (.h q)=q (.d (.a z)) H:=by
 simp only[qaa,List.map_nil,qbS,mkA,qBt];rfl
end
section
variable {R:Type}{E:Env}{ρ:Ab->PV}{H:CP}{id:Nat}{q:PV->CP->CE R}{k:K}{b:Nat}
def qjL(v:DV):pur H (.d v)=some (v,[]):=rfl
def qjk:frz H []=H:=rfl
def qiZ{z:DV}:bo2 (qaa E ρ H id (.bsl k z 0 [])) (.h q)=q (.r id k 0 0 true) (H.put id (some (.sl k 0 []))):=rfl
def qi0{z:DV}{r:Ab}:bo2 (qaa E ρ H id (.bsl k z 1 [(0,r)])) (.h q)=chk (fits k (ρ r)=true) (.h (bo (pur H (ρ r)) (.h λp=>q (.r id k 0 1 true) ((frz H p.2).put id (some (.sl k 0 [p.1])))))):=by
 simp only[qaa,zzu,List.map_nil,qbt,chk];by_cases h:fits k (ρ r)=true
 ·simp only[h,if_true,Bool.true_and];cases pur H (ρ r)with
  |none=>simp[bo,bo2]
  |some p=>obtain⟨x,os⟩:=p;simp[bo,bo2]
 ·simp[h,bo2]
def qcI(H:CP)(id:Nat)(k:K)(bytes:Nat)(x:PV)(ys:Ct):CB:=qbU H id k bytes x (.d (.l k ys true))
def qiX{x:PV}{k':K}{ys:Ct}{t:CG}:bo2 (qbU H id k b x (.d (.l k' ys t))) (.h q)=chk ((K.eq k k'||ys.isEmpty)=true) (.h (bo2 (qcI H id k b x ys) (.h q))):=by
 simp only[qbU,qcI,qa4,chk,qck,Bool.true_or,if_true];by_cases h:(K.eq k k'||ys.isEmpty)=true
 ·simp only[h,if_true]
 ·simp only[h,if_false,zzg];rfl
def qiY{x:PV}{o off len:Nat}{k':K}{t:CG}:bo2 (qbU H id k b x (.r o k' off len t)) (.h q)=match H.obj o with|some (.sl k'' _ es)=>chk ((K.eq k k'&&K.eq k k''&&decide (off+len<=es.length))=true) (.h (bo2 (qcI H id k b x ((es.drop off).take len)) (.h q)))|_=>none:=by
 simp only[qbU,qcI,qa4];cases H.obj o with
 |none=>rfl
 |some y=>
  cases y with
  |sl k'' ro es=>
   simp only[chk];by_cases h:(K.eq k k'&&K.eq k k''&&decide (off+len<=es.length))=true
   ·simp only[h,if_true,qck,Bool.true_or]
   ·simp only[h,if_false,zzg];rfl
  |_=>rfl
def qiV{k':K}{ys:Ct}:bo2 (qcI H id k b (.d (.l k' [] true)) ys) (.h q)=chk (ys.length*b<=2^47) (.h (q (.r id k 0 ys.length false) (H.put id (some (.sl k 0 ys))))):=by
 simp only[qcI,qbU,qa4,qck,Bool.true_or,if_true,chk,List.length_nil,Nat.zero_add];by_cases h:ys.length*b<=2^47
 ·simp only[h,if_true];rfl
 ·simp only[h,if_false];rfl
def qhX{o off len:Nat}{k':K}{t:CG}{y:DV}{ys:Ct}:bo2 (qcI H id k b (.r o k' off len t) (y::ys)) (.h q)=match H.obj o with
  |some (.sl k'' ro es)=>chk ((K.eq k k'&&K.eq k k''&&decide (off+len<=es.length)&&decide ((len+(ys.length+1))*b<=2^47))=true) (.h (brn t (.h (q (.r id k 0 (len+(ys.length+1)) false) (H.put id (some (.sl k 0 ((es.drop off).take len++y::ys)))),chk (ro<=off+len) (.h (q (.r id k 0 (len+(ys.length+1)) false) ((H.put o none).put id (some (.sl k (ro-off) ((es.drop off).take len++y::ys))))))))))
  |_=>none:=by
 simp only[qcI,qbU,qa4,qck,Bool.true_or,if_true,zzn];cases H.obj o with
 |none=>rfl
 |some w=>
  cases w with
  |sl k'' ro es=>
   simp only[chk];by_cases h:(K.eq k k'&&K.eq k k''&&decide (off+len<=es.length)&&decide ((len+(ys.length+1))*b<=2^47))=true
   ·simp only[h,if_true];cases t with
    |true=>rfl
    |false=>
     simp only[zzg,if_false,brn];by_cases g:ro<=off+len
     ·simp only[g,if_true];rfl
     ·simp only[g,if_false];rfl
   ·simp only[h,if_false,zzg];rfl
  |_=>rfl
def qtO(t:Nat)(x:PV)(H:CP){q:PV->CP->CE R}(_:Hd q):CE R:=match pur H x with
 |some (v,os)=>q (.d (.ifc t v)) (frz H os)
 |none=>q (.w t x) H
def qjA{t:Nat}{v:DV}:qtO t (.d v) H (.h q)=q (.d (.ifc t v)) H:=rfl
def qi1{t:Nat}{x:Ab}:bo2 (qaa E ρ H id (.mkif t x)) (.h q)=qtO t (ρ x) H (.h q):=by
 simp only[qaa,qtO];cases pur H (ρ x)with
 |none=>rfl
 |some p=>rfl
def qvD(t:Nat)(z:DV)(ok:CG)(x:PV){q:PV->CE R}(_:Hd q):CE R:=match x with
 |.d (.ifc u v)=>if u=t then q (if ok then .t [.d v,.d (.b true)]else .d v)else if ok then q (.t [.d z,.d (.b false)])else none
 |.w u v=>if u=t then q (if ok then .t [v,.d (.b true)]else v)else if ok then q (.t [.d z,.d (.b false)])else none
 |.d .ni=>if ok then q (.t [.d z,.d (.b false)])else none
 |_=>none
def qjU{t u:Nat}{z v:DV}{ok:CG}{q:PV->CE R}:qvD t z ok (.d (.ifc u v)) (.h q)=if u=t then q (if ok then .t [.d v,.d (.b true)]else .d v)else if ok then q (.t [.d z,.d (.b false)])else none:=rfl
def qi2{t:Nat}{z:DV}{ok:CG}{x:Ab}:bo2 (qaa E ρ H id (.tas t z ok x)) (.h q)=qvD t z ok (ρ x) (.h λv=>q v H):=by
 simp only[qaa,qvD];cases ρ x with
 |d v=>
  cases v with
  |ifc u w=>by_cases h:u=t<;>cases ok<;>simp[h,bo2]
  |ni=>cases ok<;>rfl
  |_=>rfl
 |w u v=>by_cases h:u=t<;>cases ok<;>simp[h,bo2]
 |_=>rfl
def qay{z:Ct}{ps:CF (Nat×Sim.K×Ab)}:bo2 (qaa E ρ H id (.agg z ps)) (.h q)=bo (qbS (z.map .d) (ps.map λx=>(x.1,x.2.1,ρ x.2.2))) (.h λcs=>q (mkA cs) H):=by
 simp only[qaa];cases qbS (z.map .d) (ps.map λx=>(x.1,x.2.1,ρ x.2.2))<;>rfl
def qaC{z:Cu}{y:Cu->CE R}:bo (qbS z []) (.h y)=y z:=rfl
def qaB{z:Cu}{off:Nat}{v:PV}{k:Sim.K}{r:CF (Nat×Sim.K×PV)}{y:Cu->CE R}:bo (qbS z ((off,k,v)::r)) (.h y)=chk ((fits k v&&decide (off+k.size<=z.length))=true) (.h (bo (qbS (putAt z off v.cells) r) (.h y))):=by
 simp only[qbS,chk];split<;>simp_all[bo]
def qaw{k:IntKind}{n:Int}:PV.cells (.d (.i k n))=[.d (.i k n)]:=rfl
def qbZ{l:Cv}:PV.cells (.d (.s l))=[.d (.s l)]:=rfl
def qau:K.size none=1:=rfl
def qaQ(n:Nat):K.size (some n)=n:=rfl
def qkA{mx:CG}{x y:Ab}:bo2 (qaa E ρ H id (.minmax mx [x,y])) (.h q)=bo (mm2 mx (ρ x) (ρ y)) (.h λv=>q v H):=by
 simp only[qaa,zzu,List.map_nil,mmA];cases mm2 mx (ρ x) (ρ y)<;>rfl
def qfX{k:IntKind}{a b:Int}{y:PV->CE R}:bo (mm2 true (.d (.i k a)) (.d (.i k b))) (.h y)=y (.d (.i k (max a b))):=by
 have h:(if b>a then b else a)=max a b:=by rw[Int.max_def];split<;>split<;>omega
 simp only[mm2,if_true,h];rfl
def qjJ{t:Nat}{v:DV}:AJ H (.d (.ifc t v))=some (.d (.ifc t v),false):=rfl
def qjK{o off len:Nat}{k:K}{t:CG}:AJ H (.r o k off len t)=match H.obj o with
  |some (.sl k' ro es)=>if k'=k/\off+len<=es.length then some (.d (.l k ((es.drop off).take len) false),decide (ro<=off))else none
  |_=>none:=rfl
def qi4{o off len:Nat}{k:K}{t:CG}{y:Nat->CE R}:bo (qbB H false (.r o k off len t)) (.h y)=match H.obj o with
  |some (.sl _ _ es)=>chk (off+len<=es.length) (.h (y len))
  |_=>none:=by
 simp only[qbB,zzg,if_false];cases H.obj o with
 |none=>rfl
 |some w=>
  cases w with
  |sl k' ro es=>
   simp only[chk];by_cases h:off+len<=es.length
   ·simp only[h,if_true];rfl
   ·simp only[h,if_false];rfl
  |_=>rfl
end
def qHC(T:Tab){f:Nat}{F:PF}(hF:T.F f=some F)(Y:Nat->Cu->CP->CB){args:Cu}{H:CP}(ha:args.length=F.Bp):T.it Y f args H=kC (T.Bb Y) H.length (Fr.Aa 0 args) H (.h (F.body,qeQ (T.Bb Y) F.results H.length)):=by
 rw[qzb T hF];unfold qbb;rw[if_pos ha];simp only[kC];cases qah (T.Bb Y) lpI H.length F.body ⟨Fr.Aa 0 args,H⟩with
 |none=>rfl
 |some x=>
  obtain⟨e,s⟩:=x;cases e with
  |exit id=>rfl
  |norm=>
   simp only[qeQ];cases Bo (T.Bb Y) (qan s.fr) s.H with
   |none=>rfl
   |some H'=>simp only[bo];cases results s.fr H' F.results<;>rfl
  |ret=>
   simp only[qeQ];cases Bo (T.Bb Y) (qan s.fr) s.H with
   |none=>rfl
   |some H'=>simp only[bo];cases results s.fr H' F.results<;>rfl
section
variable {R:Type}{E:Env}{base:Nat}{fr:Fr}{H:CP}{k:KC R}
noncomputable def qit(E:Env)(a x:PC)(fr:Fr)(o:Nat)(ps:Cy):Nat->Cu->CP->CB:=qda (λb s=>qah E lpI b a s) (λb s=>qah E lpI b x s) fr o ps E.yld
def qli(k:KC R)(fr:Fr)(g o:Nat)(H:CP):CE R:=match H.obj o with
 |some (.lp 0 none)=>k .norm (fr.set g (.g (.h (o+1)))) (H.put o none)
 |some (.lp 1 (some e))=>k e (fr.set g (.g (.h (o+1)))) (H.put o none)
 |_=>none
noncomputable def rngS(E:Env)(fr:Fr)(H:CP)(a x:PC)(live ps:Cy)(g:Nat)(v w:PV){k:KC R}(_:Hd k):CE R:=match v,w with
 |.f n caps,.u=>bo (E.it (qit E a x (Fr.only live fr) H.length ps) n (.h H.length::caps) (H++[some (.lp 0 none),some .df])) (.h λp=>qli k fr g H.length p.2)
 |_,_=>none
def quA{a x:PC}{live ps:Cy}{g n:Nat}{caps:Cu}:rngS E fr H a x live ps g (.f n caps) .u (.h k)=bo (E.it (qit E a x (Fr.only live fr) H.length ps) n (.h H.length::caps) (H++[some (.lp 0 none),some .df])) (.h λp=>qli k fr g H.length p.2):=rfl
def qs6{f:Ab}{g:Nat}{ps live:Cy}{a x:PC}:kC E base fr H (.h (.rng f g ps live a x,k))=rngS E fr H a x live ps g (rd E fr f) (fr.get g) (.h k):=by
 simp only[kC,qah,rngS,qit];cases rd E fr f with
 |f n caps=>
  cases fr.get g with
  |u=>
   simp only;cases E.it (qda (λb s=>qah E lpI b a s) (λb s=>qah E lpI b x s) (Fr.only live fr) H.length ps E.yld) n (.h H.length::caps) (H++[some (.lp 0 none),some .df])with
   |none=>rfl
   |some p=>
    obtain⟨v,H'⟩:=p;simp only[bo,qli];cases hh:H'.obj H.length with
    |none=>rfl
    |some y=>
     cases y with
     |lp st j=>match st,j with
      |0,none=>rfl
      |0,some _=>rfl
      |1,none=>rfl
      |1,some e=>rfl
      | (n+2),_=>rfl
     |_=>rfl
  |_=>rfl
 |_=>rfl
def quz{a x:PC}{o:Nat}{ps:Cy}{args:Cu}(hl:args.length=ps.length)(ho:H.obj o=some (.lp 0 none)):qit E a x fr o ps o args H =
  kC E H.length (qdx fr ps args) H (.h (a,λe fr1 H1=>match e with
   |.norm=>match H1.obj o with
    |some (.lp 0 none)=>kC E H.length fr1 (H1.put o (some (.lp 2 none))) (.h (x,λe2 _ H2=>match H2.obj o with
     |some (.lp 2 none)=>some (gcV H.length (.d (.b (isN e2))) (H2.put o (some (if isN e2 then .lp 0 none else .lp 1 (some e2)))))
     |_=>none))
    |_=>none
   |_=>none)):=by
 simp only[qit,qda,if_pos hl,if_true,ho,kC];cases qah E lpI H.length a ⟨qdx fr ps args,H⟩with
 |none=>rfl
 |some p=>
  obtain⟨e,s1⟩:=p;cases e with
  |norm=>
   simp only;cases hh:s1.H.obj o with
   |none=>rfl
   |some y=>
    cases y with
    |lp st j=>match st,j with
     |0,none=>
      simp only;cases qah E lpI H.length x ⟨s1.fr,s1.H.put o (some (.lp 2 none))⟩with
      |none=>rfl
      |some q=>rfl
     |0,some _=>rfl
     | (n+1),_=>rfl
    |_=>rfl
  |_=>rfl
def qGj(T:Tab)(Y:Nat->Cu->CP->CB):(T.Bb Y).yld=Y:=rfl
def qsn(T:Tab)(Y:Nat->Cu->CP->CB):T.env.it Y=T.it Y:=rfl
def qFl{o:Nat}{as0:Cu}{q:PV->CP->CE R}:qm4 E H (.h o) as0 (.h q)=bo2 (E.yld o as0 H) (.h q):=rfl
end
def qur(H:CP)(m:Nat):∀(n:Nat) (todo:Cy),(∀r∈todo,r<=m)->qap H m n [m] todo=[m]
 |0,_,_=>rfl
 |n+1,[],_=>rfl
 |n+1,o::todo,h=>by
  rw[qap];have h1:=h o (zzr ..)
  by_cases g:o<m
  ·rw[if_pos g];exact qur H m n todo λr hr=>h r (zzi _ hr)
  ·have:o=m:=by omega
   subst this;rw[if_neg g,if_pos (by simp)]
   exact qur H o n todo λr hr=>h r (zzi _ hr)
def qBS(H:CP)(m:Nat)(hm:qav (H.obj m)=[]):∀(fs low:Cy) (n:Nat),fs.length<n->(∀r∈fs,r<=m)->(∀r∈low,r<=m)->m∈fs->qap H m n [] (fs++low)=[m]
 |[],_,_,_,_,_,h=>by cases h
 |o::fs,low,0,hn,_,_,_=>absurd hn (zzm _)
 |o::fs,low,n+1,hn,h1,h2,h=>by
  rw[List.cons_append,qap];have ho:=h1 o (zzr ..)
  by_cases g:o<m
  ·rw[if_pos g];refine qBS H m hm fs low n (by simp at hn;omega) (λr hr=>h1 r (zzi _ hr)) h2 ?_
   rcases List.mem_cons.1 h with h|h
   ·omega
   ·exact h
  ·have:o=m:=by omega
   subst this;rw[if_neg g,if_neg (by simp),hm,List.nil_append,List.nil_append]
   exact qur H o n _ λr hr=>by
    rcases zzB.1 hr with hr|hr
    ·exact h1 r (zzi _ hr)
    ·exact h2 r hr
def qsH(live:Cy){H J:CP}{y:CE Obj}{fr:Fr}(hH:Cl H)(hy:qav y=[])(hn:(qam (Fr.keep live fr)).length<1000)(hf:∀r∈qam (Fr.keep live fr),r<=H.length)(hmem:H.length∈qam (Fr.keep live fr)):gc live H.length ⟨fr,H++y::J⟩=⟨Fr.keep live fr,H++[y]⟩:=by
 have ht:(H++y::J).take H.length=H:=by simp
 have hobj:(H++y::J).obj H.length=y:=qg8 H (y::J)
 have hr:qap (H++y::J) H.length 1000 [] (qam (Fr.keep live fr)++qae H)=[H.length]:=qBS _ _ (by rw[hobj];exact hy) _ _ _ hn hf (λr hr=>Nat.le_of_lt (hH r hr)) hmem
 have hp:∀r,r<=H.length->qaG H.length [H.length] r=some r:=λr h=>by
  by_cases g:r<H.length
  ·simp[qaG,g]
  ·have:r=H.length:=by omega
   subst this;simp[qaG,zzd]
 simp only[gc,ht,hr,gcH,zzu,List.map_nil,hobj];rw[qsC (λr h=>hp r (hf r h)),qpB (λr h=>hp r (Nat.le_of_lt (hH r h))),qBh (λr h=>by rw[hy]at h;cases h)]
section
variable {R:Type}{E:Env}{ρ:Ab->PV}{H:CP}{id:Nat}{q:PV->CP->CE R}{base:Nat}
def qbJ{K K':Sim.K}{o off len:Nat}{t:CG}{kk:IntKind}{n:Int}{y:PV->CE R}:bo (Az H K (.r o K' off len t) (.d (.i kk n))) (.h y)=chk (0<=n/\n<len) (.h (match H.obj o with|some (.sl K2 _ es)=>chk ((K.eq K'&&K.eq K2&&decide (off+len<=es.length))=true) (.h (y (.p o (off+n.toNat) 0)))|_=>none)):=by
 simp only[Az,asI,inR,chk];by_cases h:0<=n/\n<len
 ·rw[if_pos h,if_pos h];cases H.obj o with
  |none=>rfl
  |some x=>
   cases x with
   |sl k2 ro es=>simp only;split<;>rfl
   |_=>rfl
 ·rw[if_neg h,if_neg h];simp only;rfl
def qE2{len:Nat}{k:Sim.K}{x i:Ab}:bo2 (qaa E ρ H id (.BM len k x i)) (.h q)=bo (asI (ρ i)) (.h λ(n:Int)=>chk (0<=n/\n<len) (.h (bo (qdq (n.toNat*k.size) (ρ x)) (.h λv=>q v H)))):=by
 simp only[qaa];cases asI (ρ i)with
 |none=>rfl
 |some n=>
  simp only[bo,inR,chk];by_cases h:0<=n/\n<len
  ·rw[if_pos h,if_pos h];simp only
   cases qdq (n.toNat*k.size) (ρ x)<;>rfl
  ·rw[if_neg h,if_neg h];rfl
def qwY{kk:IntKind}{n:Int}{y:Int->CE R}:bo (asI (.d (.i kk n))) (.h y)=y n:=rfl
def qE3{k:Sim.K}{b:Nat}{z:DV}{len cap:Ab}:bo2 (qaa E ρ H id (.mksl k b z len cap)) (.h q)=bo (asI (ρ len)) (.h λ(n:Int)=>bo (asI (ρ cap)) (.h λ(c:Int)=>chk (0<=n/\n<=c/\c*b<=2^47) (.h (q (.r id k 0 n.toNat false) (H.put id (some (.sl k 0 (List.replicate n.toNat z)))))))):=by
 simp only[qaa];cases asI (ρ len)with
 |none=>rfl
 |some n=>
  cases asI (ρ cap)with
  |none=>rfl
  |some c=>simp only[bo,chk];split<;>rfl
def qcY{k:Sim.K}{z:DV}{len:Nat}{ps:CF (Nat×Ab)}:bo2 (qaa E ρ H id (.bsl k z len ps)) (.h q)=bo (qbt H k (List.replicate len z) (ps.map λx=>(x.1,ρ x.2))) (.h λp=>q (.r id k 0 len true) ((frz H p.2).put id (some (.sl k 0 p.1)))):=by
 simp only[qaa];cases qbt H k (List.replicate len z) (ps.map λx=>(x.1,ρ x.2))<;>rfl
def qc1{k:Sim.K}{es:Ct}{y:Ct×Cy->CE R}:bo (qbt H k es []) (.h y)=y (es,[]):=rfl
def qc0{k:Sim.K}{es:Ct}{j:Nat}{v:DV}{r:CF (Nat×PV)}{y:Ct×Cy->CE R}:bo (qbt H k es ((j,.d v)::r)) (.h y)=chk ((fits k (.d v)&&decide (j<es.length))=true) (.h (bo (qbt H k (es.set j v) r) (.h y))):=by
 simp only[qbt,chk];by_cases h:(fits k (.d v)&&decide (j<es.length))=true
 ·simp only[h,if_true,pur,qaW];cases qbt H k (es.set j v) r with
  |none=>rfl
  |some p=>simp[bo]
 ·simp only[h,if_false,zzg];rfl
def qFc{k:IntKind}{a b:Int}{y:PV->CE R}:bo (mm2 false (.d (.i k a)) (.d (.i k b))) (.h y)=y (.d (.i k (min a b))):=by
 have h:(if b<a then b else a)=min a b:=by rw[Int.min_def];split<;>split<;>omega
 simp only[mm2,if_true,zzg,if_false,h];rfl
def qil{σ:Type}{live:Cy}{body:PC}{k:KC R}(st:σ->St)(f:Nat->σ)(n:Nat){r:CE R}
  (hend:∀B,B=body->kC E base (st (f n)).fr (st (f n)).H (.h (body,lpK E base live B k))=r)
  (hround:∀B,B=body->∀i,i<n->∀c,(∀fr H,gc live base ⟨fr,H⟩=st (f (i+1))->kC E base fr H (.h (.loop live B,k))=c)->kC E base (st (f i)).fr (st (f i)).H (.h (body,lpK E base live B k))=c)
  {fr:Fr} {H:CP} (h0:gc live base ⟨fr,H⟩=st (f 0)):kC E base fr H (.h (.loop live body,k))=r:=by
 rw[qbi (List.replicate n ()) (λi (_:Unit)=>st (f i)) (λ_ _=>True) (λ_ _ _ c=>c ()) (λ_=>r) ?_ ?_ h0 trivial]
 ·have:∀(i:Nat) (l:CF Unit),rounds (λ_ _ _ c=>c ()) (λ_=>r) i () l=r:=by
   intro i l;induction l generalizing i with
   |nil=>rfl
   |cons x l ih=>exact ih (i+1)
  exact this _ _
 ·intro B hB _ _;simpa using hend B hB
 ·intro B hB i _ hi _ c hc;exact hround B hB i (by simpa using hi) (c ()) λfr H hg=>hc () fr H trivial hg
end
def qpp(o off len:Nat)(k:K)(t:CG):fits none (.r o k off len t)=true:=rfl
def qh9(f:Nat)(cs:Cu):fits none (.f f cs)=true:=rfl
section
variable {R:Type}{H:CP}
def stM(H:CP)(k:K)(o i c:Nat)(v:PV)(x:CE Obj){hy:CP->CE R}(_:Hd hy):CE R:=match x with
 |some (.box kb w)=>chk (fits k v=true) (.h (chk (i=0) (.h (if (c==0&&K.eq k kb)=true then hy (H.put o (some (.box kb v)))else chk (c+k.size<=w.cells.length) (.h (bo (mkP kb (putAt w.cells c v.cells)) (.h λw'=>hy (H.put o (some (.box kb w'))))))))))
 |some (.sl kb ro es)=>chk (fits k v=true) (.h (bo es[i]? (.h λe=>chk (ro<=i) (.h (bo (pur H v) (.h λp=>chk (p.2.contains o=false) (.h (if (c==0&&K.eq k kb)=true then hy ((frz H p.2).put o (some (.sl kb ro (es.set i p.1))))else chk (c+k.size<=e.cells.length) (.h (bo (mkD kb (putAt e.cells c p.1.cells)) (.h λe'=>hy ((frz H p.2).put o (some (.sl kb ro (es.set i e')))))))))))))))
 |_=>none
def qiy(k:K)(o i c:Nat)(v:PV){hy:CP->CE R}:bo (qby H k (.p o i c) v) (.h hy)=stM H k o i c v (H.obj o) (.h hy):=by
 unfold stM;split
 ·rename_i kb w ho;exact qCD kb k o i c v w ho
 ·rename_i kb ro es ho;simp only[qby,ho,chk];by_cases hf:fits k v=true
  ·simp only[hf,if_true];cases es[i]? with
   |none=>rfl
   |some e=>
    simp only[bo];by_cases hr:ro<=i
    ·simp only[hr,if_true];cases pur H v with
     |none=>rfl
     |some p=>
      obtain⟨x,os⟩:=p;simp only;cases hc:os.contains o with
      |true=>simp
      |false=>
       simp only[zzg,if_false,if_true];by_cases hk:(c==0&&K.eq k kb)=true
       ·simp only[hk,if_true]
       ·simp only[hk,if_false,zzg];by_cases hs:c+k.size<=e.cells.length
        ·simp only[hs,if_true];cases mkD kb (putAt e.cells c x.cells)<;>rfl
        ·simp only[hs,if_false]
    ·simp only[hr,if_false]
  ·simp only[hf,zzg,if_false];rfl
 ·rename_i h1 h2;simp only[qby];cases hx:H.obj o with
  |none=>by_cases hf:fits k v=true<;>simp[hf,bo]
  |some y=>
   cases y with
   |box kb w=>exact absurd hx (h1 kb w)
   |sl kb ro es=>exact absurd hx (h2 kb ro es)
   |_=>by_cases hf:fits k v=true<;>simp[hf,bo]
def qjR(kb k:K)(o i c:Nat)(v w:PV){hy:CP->CE R}:stM H k o i c v (some (.box kb w)) (.h hy)=chk (fits k v=true) (.h (chk (i=0) (.h (if (c==0&&K.eq k kb)=true then hy (H.put o (some (.box kb v)))else chk (c+k.size<=w.cells.length) (.h (bo (mkP kb (putAt w.cells c v.cells)) (.h λw'=>hy (H.put o (some (.box kb w')))))))))):=rfl
def qix(kb k:K)(o i c ro:Nat)(v:PV)(es:Ct){hy:CP->CE R}:stM H k o i c v (some (.sl kb ro es)) (.h hy)=chk (fits k v=true) (.h (bo es[i]? (.h λe=>chk (ro<=i) (.h (bo (pur H v) (.h λp=>chk (p.2.contains o=false) (.h (if (c==0&&K.eq k kb)=true then hy ((frz H p.2).put o (some (.sl kb ro (es.set i p.1))))else chk (c+k.size<=e.cells.length) (.h (bo (mkD kb (putAt e.cells c p.1.cells)) (.h λe'=>hy ((frz H p.2).put o (some (.sl kb ro (es.set i e'))))))))))))))):=rfl
def qbX(k:K)(v:DV){z:DV->CE R}:bo (qch k v 0 k) (.h z)=z v:=by
 have:K.eq k k=true:=by cases k<;>simp[K.eq]
 simp[qch,this,bo]
end
section
variable {R:Type}{E:Env}{fr:Fr}{H:CP}{bf:Cy}{acc:CF (Cy × Cy)}{id:Nat}{j:KO R}
def qoQ(b:Nat):Nat->Nat->CG
 |_,0=>true
 |i,n+1=>b.testBit i&&qoQ b (i+1) n
def qBn(b:Nat)(t w:Cy):∀(acc:CF (Cy×Cy)) (i:Nat),qoQ b i acc.length=true->qa6 b i acc t w=true
 |[],_,_=>rfl
 |x::r,i,h=>by
  simp only[zzn,qoQ,zzf]at h;simp only[qa6,h.1,Bool.true_or,Bool.true_and];exact qBn b t w r (i+1) h.2
def qI2{d:Nat}{z:Ab}:kD E id fr H bf acc (.h ([⟨some d,.mov z,none⟩],j))=j (fr.set d (rd E fr z)) H:=by
 rw[qkY];simp only[Bn,qal,IOp.okD,if_true,qaa];have hw:AA E ⟨some d,.mov z,none⟩ id ⟨fr,H⟩ ⟨fr.set d (rd E fr z),H⟩=[]:=by simp[AA,runs,IOp.adds,IOp.okD,qa8,qaE,chg]
 have ht:AP E ⟨some d,.mov z,none⟩ ⟨fr,H⟩=[]:=by simp[AP,runs,IOp.okD,qaE]
 simp only[qcX,nfp,qbr,chk,hw,ht,List.nil_append,qBm,if_true];rfl
def qI1{d d2:Nat}{k:K}{b:Nat}{x y z:Ab}(h:qoQ (bf.headD 0) 0 acc.length=true):kD E id fr H bf acc (.h ([⟨some d,.app k b x y,none⟩,⟨some d2,.mov z,none⟩],j))=bo2 (qaa E (rd E fr) H id (.app k b x y)) (.h λv H'=>j ((fr.set d v).set d2 (rd E (fr.set d v) z)) H'):=by
 rw[qkY];simp only[Bn,qal,IOp.okD,if_true];cases qaa E (rd E fr) H id (.app k b x y)with
 |none=>rfl
 |some p=>
  obtain⟨v,H'⟩:=p;simp only[bo2,qcX,nfp,qbr,chk,qBn _ _ _ _ _ h,if_true];rw[qI2]
def qr4(E:Env)(H:CP)(v:PV)(ds:CE (Ct)){x:CE R}{q:PV->CP->CE R}(_:Hd (x,q)):CE R:=match v,ds with
 |.f n [],some ds=>bo (E.val n ds) (.h λr=>q r.1 H)
 |_,_=>x
def qh3{ρ:Ab->PV}{q:PV->CP->CE R}{x:Ab}{as0:CF Ab}:bo2 (qal E ρ H id (.BH x as0)) (.h q)=qr4 E H (ρ x) (qaf (as0.map ρ)) (.h (bo2 (qal E ρ H id (.BH x as0)) (.h q),q)):=by
 unfold qr4;split
 ·rename_i n ds hx hd;have hk:IOp.okD ρ (.BH x as0)=true:=by simp[IOp.okD,hx,hd]
  rw[qFa hk];simp only[qaa,hx,List.isEmpty_nil,if_true,hd];cases E.val n ds<;>rfl
 ·rfl
def qh1{n:Nat}{ds:Ct}{x:CE R}{q:PV->CP->CE R}:qr4 E H (.f n []) (some ds) (.h (x,q))=bo (E.val n ds) (.h λr=>q r.1 H):=rfl
end
section
variable {R:Type}{E:Env}{ρ:Ab->PV}{H:CP}{id:Nat}{q:PV->CP->CE R}{base:Nat}
def qcJ(k:IntKind)(x:PV){q:PV->CE R}(_:Hd q):CE R:=match x with|.d (.i _ n)=>q (.d (.i k (k.wrap n)))|_=>none
def qa7{k kk:IntKind}{n:Int}{q:PV->CE R}:qcJ k (.d (.i kk n)) (.h q)=q (.d (.i k (k.wrap n))):=rfl
def qaS{k:IntKind}{x:Ab}:bo2 (qaa E ρ H id (.conv k x)) (.h q)=qcJ k (ρ x) (.h λv=>q v H):=by
 simp only[qaa,qcJ];cases ρ x with
 |d v=>cases v<;>rfl
 |_=>rfl
def qw0{k k':IntKind}{a b:Int}{y:DV->CE R}:bo (qaI .shr (.d (.i k a)) (.d (.i k' b))) (.h y)=chk (0<=b) (.h (y (.i k (a.fdiv (2^min b.toNat k.bits))))):=by
 simp only[qaI,qjQ,chk];by_cases h:b<0
 ·rw[if_pos h,if_neg (by omega)];rfl
 ·rw[if_neg h,if_pos (by omega)];rfl
def qyI(n:Nat):Int.fdiv (n:Int) (2^min (Int.toNat 1) IntKind.u64.bits)=((n/2:Nat):Int):=by
 show Int.fdiv (n:Int) 2=_
 rw[Int.fdiv_eq_ediv_of_nonneg _ (by omega)];omega
def wrU{n:Int}(h:0<=n)(h':n<18446744073709551616):IntKind.u64.wrap n=n:=by
 have e:IntKind.u64.wrap n=n%18446744073709551616:=by
  unfold IntKind.wrap;simp[IntKind.bits,IntKind.signed]
 rw[e];omega
def qoZ{k k':Sim.K}{o off len:Nat}{t:CG}{lo hi:CE PV}{y:PV->CE R}:bo (slA H k (.r o k' off len t) lo hi none) (.h y)=match H.obj o with
  |some (.sl _ _ es)=>chk ((K.eq k k'&&decide (off+len<=es.length))=true) (.h (bo (bnd len len hi) (.h λh=>bo (bnd 0 h lo) (.h λl=>y (.r o k (off+l) (h-l) (t&&h==len))))))
  |_=>none:=by
 simp only[slA];cases H.obj o with
 |none=>rfl
 |some x=>
  cases x with
  |sl k2 ro es=>
   simp only[chk];by_cases hc:(K.eq k k'&&decide (off+len<=es.length))=true
   ·have e:bnd len len none=some len:=rfl
    simp only[hc,if_true,e,Option.isSome_none,zzg,if_false];cases bnd len len hi with
    |none=>rfl
    |some h=>
     simp only[bo];cases bnd 0 h lo<;>rfl
   ·simp only[hc,if_false,zzg];rfl
  |_=>rfl
def qFd{k k':Sim.K}{es:Ct}{t:CG}{lo hi:CE PV}{y:PV->CE R}:bo (slA H k (.d (.l k' es t)) lo hi none) (.h y)=chk ((K.eq k k'||es.isEmpty)=true) (.h (bo (bnd es.length es.length hi) (.h λh=>bo (bnd 0 h lo) (.h λl=>y (.d (.l k ((es.take h).drop l) (t&&h==es.length))))))):=by
 simp only[slA,chk];by_cases hc:(K.eq k k'||es.isEmpty)=true
 ·have e:bnd es.length es.length none=some es.length:=rfl
  simp only[hc,if_true,e,Option.isSome_none,zzg,if_false];cases bnd es.length es.length hi with
  |none=>rfl
  |some h=>
   simp only[bo];cases bnd 0 h lo<;>rfl
 ·simp only[hc,if_false,zzg];rfl
def qr3(k:Sim.K)(z:DV)(x:PV)(H:CP){q:PV->CP->CE R}(_:Hd q):CE R:=match x with
 |.r o k' off len _=>match H.obj o with
  |some (.sl k'' ro es)=>chk ((K.eq k k'&&K.eq k k''&&decide (off+len<=es.length)&&decide (ro<=off))=true) (.h (q (.t []) (H.put o (some (.sl k ro (putAt es off (List.replicate len z)))))))
  |_=>none
 |.d (.l _ [] _)=>q (.t []) H
 |_=>none
def qE1{k:Sim.K}{z:DV}{x:Ab}:bo2 (qaa E ρ H id (.clr k z x)) (.h q)=qr3 k z (ρ x) H (.h q):=by
 simp only[qaa,qr3];cases ρ x with
 |r o k' off len t=>
  simp only;cases H.obj o with
  |none=>rfl
  |some y=>
   cases y with
   |sl k'' ro es=>
    simp only[chk];by_cases hc:(K.eq k k'&&K.eq k k''&&decide (off+len<=es.length)&&decide (ro<=off))=true
    ·simp only[hc,if_true];rfl
    ·simp only[hc,if_false,zzg];rfl
   |_=>rfl
 |d v=>
  cases v with
  |l k' es t=>cases es<;>rfl
  |_=>rfl
 |_=>rfl
def qFG{k k':Sim.K}{z:DV}{o off len:Nat}{t:CG}{q:PV->CP->CE R}:qr3 k z (.r o k' off len t) H (.h q)=match H.obj o with
  |some (.sl k'' ro es)=>chk ((K.eq k k'&&K.eq k k''&&decide (off+len<=es.length)&&decide (ro<=off))=true) (.h (q (.t []) (H.put o (some (.sl k ro (putAt es off (List.replicate len z)))))))
  |_=>none:=rfl
def qc7{σ:Type}{live:Cy}{body:PC}{k:KC R}(st:σ->St)(inv:σ->Prop)(μ:σ->Nat){r:CE R}
  (hround:∀B,B=body->∀s,inv s->(∀s',inv s'->μ s'<μ s->∀fr H,gc live base ⟨fr,H⟩=st s'->kC E base fr H (.h (.loop live B,k))=r)->kC E base (st s).fr (st s).H (.h (body,lpK E base live B k))=r)
  (s:σ) (hs:inv s) {fr:Fr} {H:CP} (h0:gc live base ⟨fr,H⟩=st s):kC E base fr H (.h (.loop live body,k))=r:=by
 have key:∀(n:Nat) (s:σ),μ s<n->inv s->∀fr H,gc live base ⟨fr,H⟩=st s->kC E base fr H (.h (.loop live body,k))=r:=by
  intro n;induction n with
  |zero=>intro s h;exact absurd h (zzm _)
  |succ n ih=>
   intro s hn hv fr H hg;rw[qgK,hg];exact hround body rfl s hv λs' hv' hm fr' H' hg'=>ih s' (by omega) hv' fr' H' hg'
 exact key (μ s+1) s (Nat.lt_succ_self _) hs fr H h0
end
def Anx{R:Type}(Q:R->Prop)(x:CE R):Prop:=∃r,x=some r/\Q r
def qbk{R:Type}{Q:R->Prop}{c:CG}{x y:CE R}(h1:c=true->Anx Q x)(h2:c=false->Anx Q y):Anx Q (brn c (.h (x,y))):=by
 cases c with
 |true=>exact h1 rfl
 |false=>exact h2 rfl
def qag{R:Type}{Q:R->Prop}{r:R}(h:Q r):Anx Q (some r):=⟨r,rfl,h⟩
section
variable {R:Type}{E:Env}{base:Nat}
def qbV{σ:Type}{live:Cy}{body:PC}{k:KC R}{Q:R->Prop}(st:σ->St)(inv:σ->Prop)(μ:σ->Nat)
  (hround:∀B,B=body->∀s,inv s->(∀s',inv s'->μ s'<μ s->∀fr H,gc live base ⟨fr,H⟩=st s'->Anx Q (kC E base fr H (.h (.loop live B,k))))->Anx Q (kC E base (st s).fr (st s).H (.h (body,lpK E base live B k))))
  (s:σ) (hs:inv s) {fr:Fr} {H:CP} (h0:gc live base ⟨fr,H⟩=st s):Anx Q (kC E base fr H (.h (.loop live body,k))):=by
 have key:∀(n:Nat) (s:σ),μ s<n->inv s->∀fr H,gc live base ⟨fr,H⟩=st s->Anx Q (kC E base fr H (.h (.loop live body,k))):=by
  intro n;induction n with
  |zero=>intro s h;exact absurd h (zzm _)
  |succ n ih=>
   intro s hn hv fr H hg;rw[qgK,hg];exact hround body rfl s hv λs' hv' hm fr' H' hg'=>ih s' (by omega) hv' fr' H' hg'
 exact key (μ s+1) s (Nat.lt_succ_self _) hs fr H h0
end
def qbA{x y:Int}(h:¬x=y):(x==y)=false:=by simpa using h
noncomputable def tabP:PT:=
 (.bin 267 qlC (.bin 184 qly (.bin 182 qj2 (.bin 111 F111 .nil .nil) (.bin 183 F183 .nil .nil)) (.bin 186 F186 (.bin 185 F185 .nil .nil) (.bin 266 F266 .nil .nil))) (.bin 685 F685 (.bin 607 qfd (.bin 544 qfc .nil .nil) (.bin 679 F679 .nil .nil)) (.bin 771 F771 (.bin 770 qke .nil .nil) (.bin 861 F861 .nil .nil))))
abbrev HP(T:Tab):Prop:=∀n F,tabP.get n=some F->T.F n=some F
structure SL (α:Type) where
 l:List α
 t:Bool
structure Bf where
 Hi:Int
 Lo:Int
def Bf.cells(x:Bf):Ct:=[I x.Hi,.i .u64 x.Lo]
def Bf.dv(x:Bf):DV:=.a [I x.Hi,.i .u64 x.Lo]
@[simp] def Bf.fits(x:Bf):Sim.fits (K1 2) (.d (Bf.dv x))=true:=rfl
@[simp] def Bf.AJ(x:Bf)(H:CP):Sim.AJ H (.d (Bf.dv x))=some (.d (Bf.dv x),false):=rfl
@[simp] def Bf.clen(x:Bf):(Bf.dv x).cells.length=2:=rfl
@[simp] def Bf.aof(x:Bf):DV.a (Bf.cells x)=Bf.dv x:=rfl
@[simp] def Bf.ccl(x:Bf):(Bf.cells x).length=2:=rfl
@[simp] def Bf.c0(x:Bf):(Bf.dv x).cells[0]? = some (I x.Hi):=rfl
@[simp] def Bf.c1(x:Bf):(Bf.dv x).cells[1]? = some (.i .u64 x.Lo):=rfl
structure Bv where
 Code:List UInt8
 Digits:Int
def Bv.cells(x:Bv):Ct:=[.s x.Code,I x.Digits]
def Bv.dv(x:Bv):DV:=.a [.s x.Code,I x.Digits]
structure AR where
 Name:List UInt8
 BS:SL Int
 BR:SL Int
def AR.cells(x:AR):Ct:=[.s x.Name,.l K0 (x.BS.l.map I) x.BS.t,.l K0 (x.BR.l.map I) x.BR.t]
def AR.dv(x:AR):DV:=.a [.s x.Name,.l K0 (x.BS.l.map I) x.BS.t,.l K0 (x.BR.l.map I) x.BR.t]
@[simp] def AR.fits(x:AR):Sim.fits (K1 3) (.d (AR.dv x))=true:=rfl
@[simp] def AR.AJ(x:AR)(H:CP):Sim.AJ H (.d (AR.dv x))=some (.d (AR.dv x),false):=rfl
@[simp] def AR.clen(x:AR):(AR.dv x).cells.length=3:=rfl
@[simp] def AR.aof(x:AR):DV.a (AR.cells x)=AR.dv x:=rfl
@[simp] def AR.ccl(x:AR):(AR.cells x).length=3:=rfl
@[simp] def AR.c0(x:AR):(AR.dv x).cells[0]? = some (.s x.Name):=rfl
@[simp] def AR.c1(x:AR):(AR.dv x).cells[1]? = some (.l K0 (x.BS.l.map I) x.BS.t):=rfl
@[simp] def AR.c2(x:AR):(AR.dv x).cells[2]? = some (.l K0 (x.BR.l.map I) x.BR.t):=rfl
structure Au where
 Name:List UInt8
 Typ:Int
def Au.cells(x:Au):Ct:=[.s x.Name,I x.Typ]
def Au.dv(x:Au):DV:=.a [.s x.Name,I x.Typ]
@[simp] def Au.fits(x:Au):Sim.fits (K1 2) (.d (Au.dv x))=true:=rfl
@[simp] def Au.AJ(x:Au)(H:CP):Sim.AJ H (.d (Au.dv x))=some (.d (Au.dv x),false):=rfl
@[simp] def Au.clen(x:Au):(Au.dv x).cells.length=2:=rfl
@[simp] def Au.aof(x:Au):DV.a (Au.cells x)=Au.dv x:=rfl
@[simp] def Au.ccl(x:Au):(Au.cells x).length=2:=rfl
@[simp] def Au.c0(x:Au):(Au.dv x).cells[0]? = some (.s x.Name):=rfl
@[simp] def Au.c1(x:Au):(Au.dv x).cells[1]? = some (I x.Typ):=rfl
structure Br where
 From:Int
 Ppm:Int
def Br.cells(x:Br):Ct:=[I x.From,I x.Ppm]
def Br.dv(x:Br):DV:=.a [I x.From,I x.Ppm]
structure AQ where
 BA:SL Br
 BV:Bool
 BU:Int
 Mode:Int
 Keep:Bool
def AQ.cells(x:AQ):Ct:=[.l (K1 2) (x.BA.l.map Br.dv) x.BA.t,.b x.BV,I x.BU,I x.Mode,.b x.Keep]
def AQ.dv(x:AQ):DV:=.a [.l (K1 2) (x.BA.l.map Br.dv) x.BA.t,.b x.BV,I x.BU,I x.Mode,.b x.Keep]
@[simp] def AQ.fits(x:AQ):Sim.fits (K1 5) (.d (AQ.dv x))=true:=rfl
@[simp] def AQ.AJ(x:AQ)(H:CP):Sim.AJ H (.d (AQ.dv x))=some (.d (AQ.dv x),false):=rfl
@[simp] def AQ.clen(x:AQ):(AQ.dv x).cells.length=5:=rfl
@[simp] def AQ.aof(x:AQ):DV.a (AQ.cells x)=AQ.dv x:=rfl
@[simp] def AQ.ccl(x:AQ):(AQ.cells x).length=5:=rfl
@[simp] def AQ.c0(x:AQ):(AQ.dv x).cells[0]? = some (.l (K1 2) (x.BA.l.map Br.dv) x.BA.t):=rfl
@[simp] def AQ.c1(x:AQ):(AQ.dv x).cells[1]? = some (.b x.BV):=rfl
@[simp] def AQ.c2(x:AQ):(AQ.dv x).cells[2]? = some (I x.BU):=rfl
@[simp] def AQ.c3(x:AQ):(AQ.dv x).cells[3]? = some (I x.Mode):=rfl
@[simp] def AQ.c4(x:AQ):(AQ.dv x).cells[4]? = some (.b x.Keep):=rfl
structure Ag where
 (Op N:Int)
 S:List UInt8
 A8:SL DV
def Ag.cells(x:Ag):Ct:=[I x.Op,I x.N,.s x.S,.l (K1 4) x.A8.l x.A8.t]
def Ag.dv(x:Ag):DV:=.a [I x.Op,I x.N,.s x.S,.l (K1 4) x.A8.l x.A8.t]
@[simp] def Ag.fits(x:Ag):Sim.fits (K1 4) (.d (Ag.dv x))=true:=rfl
@[simp] def Ag.AJ(x:Ag)(H:CP):Sim.AJ H (.d (Ag.dv x))=some (.d (Ag.dv x),false):=rfl
@[simp] def Ag.clen(x:Ag):(Ag.dv x).cells.length=4:=rfl
@[simp] def Ag.aof(x:Ag):DV.a (Ag.cells x)=Ag.dv x:=rfl
@[simp] def Ag.ccl(x:Ag):(Ag.cells x).length=4:=rfl
@[simp] def Ag.c0(x:Ag):(Ag.dv x).cells[0]? = some (I x.Op):=rfl
@[simp] def Ag.c1(x:Ag):(Ag.dv x).cells[1]? = some (I x.N):=rfl
@[simp] def Ag.c2(x:Ag):(Ag.dv x).cells[2]? = some (.s x.S):=rfl
@[simp] def Ag.c3(x:Ag):(Ag.dv x).cells[3]? = some (.l (K1 4) x.A8.l x.A8.t):=rfl
structure AY where
 Name:List UInt8
 Event:Int
 When:Ag
 Amount:Ag
def AY.cells(x:AY):Ct:=[.s x.Name,I x.Event,I x.When.Op,I x.When.N,.s x.When.S,.l (K1 4) x.When.A8.l x.When.A8.t,I x.Amount.Op,I x.Amount.N,.s x.Amount.S,.l (K1 4) x.Amount.A8.l x.Amount.A8.t]
def AY.dv(x:AY):DV:=.a [.s x.Name,I x.Event,I x.When.Op,I x.When.N,.s x.When.S,.l (K1 4) x.When.A8.l x.When.A8.t,I x.Amount.Op,I x.Amount.N,.s x.Amount.S,.l (K1 4) x.Amount.A8.l x.Amount.A8.t]
@[simp] def AY.fits(x:AY):Sim.fits (K1 10) (.d (AY.dv x))=true:=rfl
@[simp] def AY.AJ(x:AY)(H:CP):Sim.AJ H (.d (AY.dv x))=some (.d (AY.dv x),false):=rfl
@[simp] def AY.clen(x:AY):(AY.dv x).cells.length=10:=rfl
@[simp] def AY.aof(x:AY):DV.a (AY.cells x)=AY.dv x:=rfl
@[simp] def AY.ccl(x:AY):(AY.cells x).length=10:=rfl
@[simp] def AY.n2_4(x:AY):((AY.dv x).cells.drop 2).take 4=Ag.cells x.When:=rfl
@[simp] def AY.n6_4(x:AY):((AY.dv x).cells.drop 6).take 4=Ag.cells x.Amount:=rfl
@[simp] def AY.c0(x:AY):(AY.dv x).cells[0]? = some (.s x.Name):=rfl
structure AO where
 Name:List UInt8
 BX:Int
 Amount:Ag
def AO.cells(x:AO):Ct:=[.s x.Name,I x.BX,I x.Amount.Op,I x.Amount.N,.s x.Amount.S,.l (K1 4) x.Amount.A8.l x.Amount.A8.t]
def AO.dv(x:AO):DV:=.a [.s x.Name,I x.BX,I x.Amount.Op,I x.Amount.N,.s x.Amount.S,.l (K1 4) x.Amount.A8.l x.Amount.A8.t]
@[simp] def AO.fits(x:AO):Sim.fits (K1 6) (.d (AO.dv x))=true:=rfl
@[simp] def AO.AJ(x:AO)(H:CP):Sim.AJ H (.d (AO.dv x))=some (.d (AO.dv x),false):=rfl
@[simp] def AO.clen(x:AO):(AO.dv x).cells.length=6:=rfl
@[simp] def AO.aof(x:AO):DV.a (AO.cells x)=AO.dv x:=rfl
@[simp] def AO.ccl(x:AO):(AO.cells x).length=6:=rfl
@[simp] def AO.n2_4(x:AO):((AO.dv x).cells.drop 2).take 4=Ag.cells x.Amount:=rfl
@[simp] def AO.c0(x:AO):(AO.dv x).cells[0]? = some (.s x.Name):=rfl
@[simp] def AO.c1(x:AO):(AO.dv x).cells[1]? = some (I x.BX):=rfl
@[simp] def AO.c2(x:AO):(AO.dv x).cells[2]? = some (I x.Amount.Op):=rfl
@[simp] def AO.c3(x:AO):(AO.dv x).cells[3]? = some (I x.Amount.N):=rfl
@[simp] def AO.c4(x:AO):(AO.dv x).cells[4]? = some (.s x.Amount.S):=rfl
@[simp] def AO.c5(x:AO):(AO.dv x).cells[5]? = some (.l (K1 4) x.Amount.A8.l x.Amount.A8.t):=rfl
structure Ak where
 Name:List UInt8
 Aw:List UInt8
 Cc:List UInt8
 From:Int
 Every:Int
 BK:Int
 TaxPpm:Int
 BD:AQ
 BB:AQ
 Fees:SL AY
 Bg:SL AO
def Ak.cells(x:Ak):Ct:=[.s x.Name,.s x.Aw,.s x.Cc,I x.From,I x.Every,I x.BK,I x.TaxPpm,.l (K1 2) (x.BD.BA.l.map Br.dv) x.BD.BA.t,.b x.BD.BV,I x.BD.BU,I x.BD.Mode,.b x.BD.Keep,.l (K1 2) (x.BB.BA.l.map Br.dv) x.BB.BA.t,.b x.BB.BV,I x.BB.BU,I x.BB.Mode,.b x.BB.Keep,.l (K1 10) (x.Fees.l.map AY.dv) x.Fees.t,.l (K1 6) (x.Bg.l.map AO.dv) x.Bg.t]
def Ak.dv(x:Ak):DV:=.a [.s x.Name,.s x.Aw,.s x.Cc,I x.From,I x.Every,I x.BK,I x.TaxPpm,.l (K1 2) (x.BD.BA.l.map Br.dv) x.BD.BA.t,.b x.BD.BV,I x.BD.BU,I x.BD.Mode,.b x.BD.Keep,.l (K1 2) (x.BB.BA.l.map Br.dv) x.BB.BA.t,.b x.BB.BV,I x.BB.BU,I x.BB.Mode,.b x.BB.Keep,.l (K1 10) (x.Fees.l.map AY.dv) x.Fees.t,.l (K1 6) (x.Bg.l.map AO.dv) x.Bg.t]
@[simp] def Ak.fits(x:Ak):Sim.fits (K1 19) (.d (Ak.dv x))=true:=rfl
@[simp] def Ak.AJ(x:Ak)(H:CP):Sim.AJ H (.d (Ak.dv x))=some (.d (Ak.dv x),false):=rfl
@[simp] def Ak.clen(x:Ak):(Ak.dv x).cells.length=19:=rfl
@[simp] def Ak.aof(x:Ak):DV.a (Ak.cells x)=Ak.dv x:=rfl
@[simp] def Ak.ccl(x:Ak):(Ak.cells x).length=19:=rfl
@[simp] def Ak.n7_5(x:Ak):((Ak.dv x).cells.drop 7).take 5=AQ.cells x.BD:=rfl
@[simp] def Ak.n12_5(x:Ak):((Ak.dv x).cells.drop 12).take 5=AQ.cells x.BB:=rfl
@[simp] def Ak.c0(x:Ak):(Ak.dv x).cells[0]? = some (.s x.Name):=rfl
@[simp] def Ak.c1(x:Ak):(Ak.dv x).cells[1]? = some (.s x.Aw):=rfl
@[simp] def Ak.c2(x:Ak):(Ak.dv x).cells[2]? = some (.s x.Cc):=rfl
@[simp] def Ak.c3(x:Ak):(Ak.dv x).cells[3]? = some (I x.From):=rfl
@[simp] def Ak.c4(x:Ak):(Ak.dv x).cells[4]? = some (I x.Every):=rfl
@[simp] def Ak.c5(x:Ak):(Ak.dv x).cells[5]? = some (I x.BK):=rfl
@[simp] def Ak.c6(x:Ak):(Ak.dv x).cells[6]? = some (I x.TaxPpm):=rfl
@[simp] def Ak.c7(x:Ak):(Ak.dv x).cells[7]? = some (.l (K1 2) (x.BD.BA.l.map Br.dv) x.BD.BA.t):=rfl
@[simp] def Ak.c8(x:Ak):(Ak.dv x).cells[8]? = some (.b x.BD.BV):=rfl
@[simp] def Ak.c9(x:Ak):(Ak.dv x).cells[9]? = some (I x.BD.BU):=rfl
@[simp] def Ak.c10(x:Ak):(Ak.dv x).cells[10]? = some (I x.BD.Mode):=rfl
@[simp] def Ak.c11(x:Ak):(Ak.dv x).cells[11]? = some (.b x.BD.Keep):=rfl
@[simp] def Ak.c12(x:Ak):(Ak.dv x).cells[12]? = some (.l (K1 2) (x.BB.BA.l.map Br.dv) x.BB.BA.t):=rfl
@[simp] def Ak.c13(x:Ak):(Ak.dv x).cells[13]? = some (.b x.BB.BV):=rfl
@[simp] def Ak.c14(x:Ak):(Ak.dv x).cells[14]? = some (I x.BB.BU):=rfl
@[simp] def Ak.c15(x:Ak):(Ak.dv x).cells[15]? = some (I x.BB.Mode):=rfl
@[simp] def Ak.c16(x:Ak):(Ak.dv x).cells[16]? = some (.b x.BB.Keep):=rfl
@[simp] def Ak.c17(x:Ak):(Ak.dv x).cells[17]? = some (.l (K1 10) (x.Fees.l.map AY.dv) x.Fees.t):=rfl
@[simp] def Ak.c18(x:Ak):(Ak.dv x).cells[18]? = some (.l (K1 6) (x.Bg.l.map AO.dv) x.Bg.t):=rfl
structure AGl where
 Id:Int
 Parent:Int
 Kind:Int
 Name:List UInt8
def AGl.cells(x:AGl):Ct:=[I x.Id,I x.Parent,I x.Kind,.s x.Name]
def AGl.dv(x:AGl):DV:=.a [I x.Id,I x.Parent,I x.Kind,.s x.Name]
@[simp] def AGl.fits(x:AGl):Sim.fits (K1 4) (.d (AGl.dv x))=true:=rfl
@[simp] def AGl.AJ(x:AGl)(H:CP):Sim.AJ H (.d (AGl.dv x))=some (.d (AGl.dv x),false):=rfl
@[simp] def AGl.clen(x:AGl):(AGl.dv x).cells.length=4:=rfl
@[simp] def AGl.aof(x:AGl):DV.a (AGl.cells x)=AGl.dv x:=rfl
@[simp] def AGl.ccl(x:AGl):(AGl.cells x).length=4:=rfl
@[simp] def AGl.c0(x:AGl):(AGl.dv x).cells[0]? = some (I x.Id):=rfl
@[simp] def AGl.c1(x:AGl):(AGl.dv x).cells[1]? = some (I x.Parent):=rfl
@[simp] def AGl.c2(x:AGl):(AGl.dv x).cells[2]? = some (I x.Kind):=rfl
@[simp] def AGl.c3(x:AGl):(AGl.dv x).cells[3]? = some (.s x.Name):=rfl
structure Ac where
 Ai:Int
 Amount:Int
 Aw:List UInt8
def Ac.cells(x:Ac):Ct:=[I x.Ai,I x.Amount,.s x.Aw]
def Ac.dv(x:Ac):DV:=.a [I x.Ai,I x.Amount,.s x.Aw]
@[simp] def Ac.fits(x:Ac):Sim.fits (K1 3) (.d (Ac.dv x))=true:=rfl
@[simp] def Ac.AJ(x:Ac)(H:CP):Sim.AJ H (.d (Ac.dv x))=some (.d (Ac.dv x),false):=rfl
@[simp] def Ac.clen(x:Ac):(Ac.dv x).cells.length=3:=rfl
@[simp] def Ac.aof(x:Ac):DV.a (Ac.cells x)=Ac.dv x:=rfl
@[simp] def Ac.ccl(x:Ac):(Ac.cells x).length=3:=rfl
@[simp] def Ac.c0(x:Ac):(Ac.dv x).cells[0]? = some (I x.Ai):=rfl
@[simp] def Ac.c1(x:Ac):(Ac.dv x).cells[1]? = some (I x.Amount):=rfl
@[simp] def Ac.c2(x:Ac):(Ac.dv x).cells[2]? = some (.s x.Aw):=rfl
structure Af where
 Id:Int
 AU:Int
 Value:Int
 Kind:Int
 Auth:Int
 BL:Int
 Key:List UInt8
 Text:List UInt8
 Ad:SL Ac
 Chain:Int
def Af.cells(x:Af):Ct:=[I x.Id,I x.AU,I x.Value,I x.Kind,I x.Auth,I x.BL,.s x.Key,.s x.Text,.l (K1 3) (x.Ad.l.map Ac.dv) x.Ad.t,.i .u64 x.Chain]
def Af.dv(x:Af):DV:=.a [I x.Id,I x.AU,I x.Value,I x.Kind,I x.Auth,I x.BL,.s x.Key,.s x.Text,.l (K1 3) (x.Ad.l.map Ac.dv) x.Ad.t,.i .u64 x.Chain]
@[simp] def Af.fits(x:Af):Sim.fits (K1 10) (.d (Af.dv x))=true:=rfl
@[simp] def Af.AJ(x:Af)(H:CP):Sim.AJ H (.d (Af.dv x))=some (.d (Af.dv x),false):=rfl
@[simp] def Af.clen(x:Af):(Af.dv x).cells.length=10:=rfl
@[simp] def Af.aof(x:Af):DV.a (Af.cells x)=Af.dv x:=rfl
@[simp] def Af.ccl(x:Af):(Af.cells x).length=10:=rfl
@[simp] def Af.c0(x:Af):(Af.dv x).cells[0]? = some (I x.Id):=rfl
@[simp] def Af.c1(x:Af):(Af.dv x).cells[1]? = some (I x.AU):=rfl
@[simp] def Af.c2(x:Af):(Af.dv x).cells[2]? = some (I x.Value):=rfl
@[simp] def Af.c3(x:Af):(Af.dv x).cells[3]? = some (I x.Kind):=rfl
@[simp] def Af.c4(x:Af):(Af.dv x).cells[4]? = some (I x.Auth):=rfl
@[simp] def Af.c5(x:Af):(Af.dv x).cells[5]? = some (I x.BL):=rfl
@[simp] def Af.c6(x:Af):(Af.dv x).cells[6]? = some (.s x.Key):=rfl
@[simp] def Af.c7(x:Af):(Af.dv x).cells[7]? = some (.s x.Text):=rfl
@[simp] def Af.c8(x:Af):(Af.dv x).cells[8]? = some (.l (K1 3) (x.Ad.l.map Ac.dv) x.Ad.t):=rfl
@[simp] def Af.c9(x:Af):(Af.dv x).cells[9]? = some (.i .u64 x.Chain):=rfl
structure Av where
 Id:Int
 Ai:Int
 Amount:Int
 From:Int
 To:Int
 Key:List UInt8
def Av.cells(x:Av):Ct:=[I x.Id,I x.Ai,I x.Amount,I x.From,I x.To,.s x.Key]
def Av.dv(x:Av):DV:=.a [I x.Id,I x.Ai,I x.Amount,I x.From,I x.To,.s x.Key]
@[simp] def Av.fits(x:Av):Sim.fits (K1 6) (.d (Av.dv x))=true:=rfl
@[simp] def Av.AJ(x:Av)(H:CP):Sim.AJ H (.d (Av.dv x))=some (.d (Av.dv x),false):=rfl
@[simp] def Av.clen(x:Av):(Av.dv x).cells.length=6:=rfl
@[simp] def Av.aof(x:Av):DV.a (Av.cells x)=Av.dv x:=rfl
@[simp] def Av.ccl(x:Av):(Av.cells x).length=6:=rfl
@[simp] def Av.c0(x:Av):(Av.dv x).cells[0]? = some (I x.Id):=rfl
@[simp] def Av.c1(x:Av):(Av.dv x).cells[1]? = some (I x.Ai):=rfl
@[simp] def Av.c2(x:Av):(Av.dv x).cells[2]? = some (I x.Amount):=rfl
@[simp] def Av.c3(x:Av):(Av.dv x).cells[3]? = some (I x.From):=rfl
@[simp] def Av.c4(x:Av):(Av.dv x).cells[4]? = some (I x.To):=rfl
@[simp] def Av.c5(x:Av):(Av.dv x).cells[5]? = some (.s x.Key):=rfl
structure Aq where
 Id:Int
 Ai:Int
 Kind:Int
 Amount:Int
 From:Int
 To:Int
 Source:List UInt8
def Aq.cells(x:Aq):Ct:=[I x.Id,I x.Ai,I x.Kind,I x.Amount,I x.From,I x.To,.s x.Source]
def Aq.dv(x:Aq):DV:=.a [I x.Id,I x.Ai,I x.Kind,I x.Amount,I x.From,I x.To,.s x.Source]
@[simp] def Aq.fits(x:Aq):Sim.fits (K1 7) (.d (Aq.dv x))=true:=rfl
@[simp] def Aq.AJ(x:Aq)(H:CP):Sim.AJ H (.d (Aq.dv x))=some (.d (Aq.dv x),false):=rfl
@[simp] def Aq.clen(x:Aq):(Aq.dv x).cells.length=7:=rfl
@[simp] def Aq.aof(x:Aq):DV.a (Aq.cells x)=Aq.dv x:=rfl
@[simp] def Aq.ccl(x:Aq):(Aq.cells x).length=7:=rfl
@[simp] def Aq.c0(x:Aq):(Aq.dv x).cells[0]? = some (I x.Id):=rfl
@[simp] def Aq.c1(x:Aq):(Aq.dv x).cells[1]? = some (I x.Ai):=rfl
@[simp] def Aq.c2(x:Aq):(Aq.dv x).cells[2]? = some (I x.Kind):=rfl
@[simp] def Aq.c3(x:Aq):(Aq.dv x).cells[3]? = some (I x.Amount):=rfl
@[simp] def Aq.c4(x:Aq):(Aq.dv x).cells[4]? = some (I x.From):=rfl
@[simp] def Aq.c5(x:Aq):(Aq.dv x).cells[5]? = some (I x.To):=rfl
@[simp] def Aq.c6(x:Aq):(Aq.dv x).cells[6]? = some (.s x.Source):=rfl
structure AC where
 Id:Int
 BN:Int
 Closed:Int
 Extra:Int
 Owner:List UInt8
 Co:List UInt8
 Number:List UInt8
def AC.cells(x:AC):Ct:=[I x.Id,I x.BN,I x.Closed,I x.Extra,.s x.Owner,.s x.Co,.s x.Number]
def AC.dv(x:AC):DV:=.a [I x.Id,I x.BN,I x.Closed,I x.Extra,.s x.Owner,.s x.Co,.s x.Number]
@[simp] def AC.fits(x:AC):Sim.fits (K1 7) (.d (AC.dv x))=true:=rfl
@[simp] def AC.AJ(x:AC)(H:CP):Sim.AJ H (.d (AC.dv x))=some (.d (AC.dv x),false):=rfl
@[simp] def AC.clen(x:AC):(AC.dv x).cells.length=7:=rfl
@[simp] def AC.aof(x:AC):DV.a (AC.cells x)=AC.dv x:=rfl
@[simp] def AC.ccl(x:AC):(AC.cells x).length=7:=rfl
@[simp] def AC.c0(x:AC):(AC.dv x).cells[0]? = some (I x.Id):=rfl
@[simp] def AC.c1(x:AC):(AC.dv x).cells[1]? = some (I x.BN):=rfl
@[simp] def AC.c2(x:AC):(AC.dv x).cells[2]? = some (I x.Closed):=rfl
@[simp] def AC.c3(x:AC):(AC.dv x).cells[3]? = some (I x.Extra):=rfl
@[simp] def AC.c4(x:AC):(AC.dv x).cells[4]? = some (.s x.Owner):=rfl
@[simp] def AC.c5(x:AC):(AC.dv x).cells[5]? = some (.s x.Co):=rfl
@[simp] def AC.c6(x:AC):(AC.dv x).cells[6]? = some (.s x.Number):=rfl
structure AB where
 Cash:Int
 Cm:Int
 Ci:Int
 Cf:Int
 Ca:Int
 Tax:Int
 Ce:Int
 Loans:Int
 BZ:Int
 Cn:Int
 Cj:Int
 Cg:Int
 Loss:Int
 Cb:Int
def AB.cells(x:AB):Ct:=[I x.Cash,I x.Cm,I x.Ci,I x.Cf,I x.Ca,I x.Tax,I x.Ce,I x.Loans,I x.BZ,I x.Cn,I x.Cj,I x.Cg,I x.Loss,I x.Cb]
def AB.dv(x:AB):DV:=.a [I x.Cash,I x.Cm,I x.Ci,I x.Cf,I x.Ca,I x.Tax,I x.Ce,I x.Loans,I x.BZ,I x.Cn,I x.Cj,I x.Cg,I x.Loss,I x.Cb]
@[simp] def AB.fits(x:AB):Sim.fits (K1 14) (.d (AB.dv x))=true:=rfl
@[simp] def AB.AJ(x:AB)(H:CP):Sim.AJ H (.d (AB.dv x))=some (.d (AB.dv x),false):=rfl
@[simp] def AB.clen(x:AB):(AB.dv x).cells.length=14:=rfl
@[simp] def AB.aof(x:AB):DV.a (AB.cells x)=AB.dv x:=rfl
@[simp] def AB.ccl(x:AB):(AB.cells x).length=14:=rfl
@[simp] def AB.c0(x:AB):(AB.dv x).cells[0]? = some (I x.Cash):=rfl
@[simp] def AB.c1(x:AB):(AB.dv x).cells[1]? = some (I x.Cm):=rfl
@[simp] def AB.c2(x:AB):(AB.dv x).cells[2]? = some (I x.Ci):=rfl
@[simp] def AB.c3(x:AB):(AB.dv x).cells[3]? = some (I x.Cf):=rfl
@[simp] def AB.c4(x:AB):(AB.dv x).cells[4]? = some (I x.Ca):=rfl
@[simp] def AB.c5(x:AB):(AB.dv x).cells[5]? = some (I x.Tax):=rfl
@[simp] def AB.c6(x:AB):(AB.dv x).cells[6]? = some (I x.Ce):=rfl
@[simp] def AB.c7(x:AB):(AB.dv x).cells[7]? = some (I x.Loans):=rfl
@[simp] def AB.c8(x:AB):(AB.dv x).cells[8]? = some (I x.BZ):=rfl
@[simp] def AB.c9(x:AB):(AB.dv x).cells[9]? = some (I x.Cn):=rfl
@[simp] def AB.c10(x:AB):(AB.dv x).cells[10]? = some (I x.Cj):=rfl
@[simp] def AB.c11(x:AB):(AB.dv x).cells[11]? = some (I x.Cg):=rfl
@[simp] def AB.c12(x:AB):(AB.dv x).cells[12]? = some (I x.Loss):=rfl
@[simp] def AB.c13(x:AB):(AB.dv x).cells[13]? = some (I x.Cb):=rfl
structure Ap where
 Bu:SL Bv
 Bi:SL AR
 BG:SL AGl
 Bj:AB
 Bh:SL Ak
 AZ:SL AC
 Ar:SL Af
 Holds:SL Av
 Bc:SL Aq
def Ap.cells(x:Ap):Ct:=[.l (K1 2) (x.Bu.l.map Bv.dv) x.Bu.t,.l (K1 3) (x.Bi.l.map AR.dv) x.Bi.t,.l (K1 4) (x.BG.l.map AGl.dv) x.BG.t,I x.Bj.Cash,I x.Bj.Cm,I x.Bj.Ci,I x.Bj.Cf,I x.Bj.Ca,I x.Bj.Tax,I x.Bj.Ce,I x.Bj.Loans,I x.Bj.BZ,I x.Bj.Cn,I x.Bj.Cj,I x.Bj.Cg,I x.Bj.Loss,I x.Bj.Cb,.l (K1 19) (x.Bh.l.map Ak.dv) x.Bh.t,.l (K1 7) (x.AZ.l.map AC.dv) x.AZ.t,.l (K1 10) (x.Ar.l.map Af.dv) x.Ar.t,.l (K1 6) (x.Holds.l.map Av.dv) x.Holds.t,.l (K1 7) (x.Bc.l.map Aq.dv) x.Bc.t]
def Ap.dv(x:Ap):DV:=.a [.l (K1 2) (x.Bu.l.map Bv.dv) x.Bu.t,.l (K1 3) (x.Bi.l.map AR.dv) x.Bi.t,.l (K1 4) (x.BG.l.map AGl.dv) x.BG.t,I x.Bj.Cash,I x.Bj.Cm,I x.Bj.Ci,I x.Bj.Cf,I x.Bj.Ca,I x.Bj.Tax,I x.Bj.Ce,I x.Bj.Loans,I x.Bj.BZ,I x.Bj.Cn,I x.Bj.Cj,I x.Bj.Cg,I x.Bj.Loss,I x.Bj.Cb,.l (K1 19) (x.Bh.l.map Ak.dv) x.Bh.t,.l (K1 7) (x.AZ.l.map AC.dv) x.AZ.t,.l (K1 10) (x.Ar.l.map Af.dv) x.Ar.t,.l (K1 6) (x.Holds.l.map Av.dv) x.Holds.t,.l (K1 7) (x.Bc.l.map Aq.dv) x.Bc.t]
@[simp] def Ap.fits(x:Ap):Sim.fits (K1 22) (.d (Ap.dv x))=true:=rfl
@[simp] def Ap.AJ(x:Ap)(H:CP):Sim.AJ H (.d (Ap.dv x))=some (.d (Ap.dv x),false):=rfl
@[simp] def Ap.clen(x:Ap):(Ap.dv x).cells.length=22:=rfl
@[simp] def Ap.aof(x:Ap):DV.a (Ap.cells x)=Ap.dv x:=rfl
@[simp] def Ap.ccl(x:Ap):(Ap.cells x).length=22:=rfl
@[simp] def Ap.n3_14(x:Ap):((Ap.dv x).cells.drop 3).take 14=AB.cells x.Bj:=rfl
@[simp] def Ap.c0(x:Ap):(Ap.dv x).cells[0]? = some (.l (K1 2) (x.Bu.l.map Bv.dv) x.Bu.t):=rfl
@[simp] def Ap.c1(x:Ap):(Ap.dv x).cells[1]? = some (.l (K1 3) (x.Bi.l.map AR.dv) x.Bi.t):=rfl
@[simp] def Ap.c2(x:Ap):(Ap.dv x).cells[2]? = some (.l (K1 4) (x.BG.l.map AGl.dv) x.BG.t):=rfl
@[simp] def Ap.c17(x:Ap):(Ap.dv x).cells[17]? = some (.l (K1 19) (x.Bh.l.map Ak.dv) x.Bh.t):=rfl
@[simp] def Ap.c18(x:Ap):(Ap.dv x).cells[18]? = some (.l (K1 7) (x.AZ.l.map AC.dv) x.AZ.t):=rfl
@[simp] def Ap.c19(x:Ap):(Ap.dv x).cells[19]? = some (.l (K1 10) (x.Ar.l.map Af.dv) x.Ar.t):=rfl
@[simp] def Ap.c20(x:Ap):(Ap.dv x).cells[20]? = some (.l (K1 6) (x.Holds.l.map Av.dv) x.Holds.t):=rfl
@[simp] def Ap.c21(x:Ap):(Ap.dv x).cells[21]? = some (.l (K1 7) (x.Bc.l.map Aq.dv) x.Bc.t):=rfl
structure Ah where
 Typ:Int
 N:Int
def Ah.cells(x:Ah):Ct:=[I x.Typ,I x.N]
def Ah.dv(x:Ah):DV:=.a [I x.Typ,I x.N]
@[simp] def Ah.fits(x:Ah):Sim.fits (K1 2) (.d (Ah.dv x))=true:=rfl
@[simp] def Ah.AJ(x:Ah)(H:CP):Sim.AJ H (.d (Ah.dv x))=some (.d (Ah.dv x),false):=rfl
@[simp] def Ah.clen(x:Ah):(Ah.dv x).cells.length=2:=rfl
@[simp] def Ah.aof(x:Ah):DV.a (Ah.cells x)=Ah.dv x:=rfl
@[simp] def Ah.ccl(x:Ah):(Ah.cells x).length=2:=rfl
@[simp] def Ah.c0(x:Ah):(Ah.dv x).cells[0]? = some (I x.Typ):=rfl
@[simp] def Ah.c1(x:Ah):(Ah.dv x).cells[1]? = some (I x.N):=rfl
def qjn{t:Ty}{ts:CF Ty}{xs:Ct}(h:qaA (t::ts) xs):∃x r,xs=x::r/\Has t x/\qaA ts r:=by
 cases xs with
 |nil=>simp[qaA]at h
 |cons x r=>rw[qaA]at h;exact⟨x,r,rfl,h.1,h.2⟩
def qc6{xs:Ct}(h:qaA [] xs):xs=[]:=by
 cases xs with
 |nil=>rfl
 |cons x r=>simp[qaA]at h
def qyL{k:IntKind}{x:DV}(h:Has (.i k) x):∃n,x=.i k n/\(Lit.int k n).wf=true:=by rw[Has]at h;exact h
def qG8{x:DV}(h:Has .b x):∃c,x=.b c:=by rw[Has]at h;exact h
def qG9{x:DV}(h:Has .s x):∃l,x=.s l/\l.length<=maxLen:=by rw[Has]at h;exact h
def qtL{n:Nat}{xs:Ct}{e:DV}(h:mkD (some n) xs=some e):e=.a xs:=by
 simp only[mkD]at h;split at h
 ·cases h;rfl
 ·cases h
def inK(k:IntKind)(n:Int):Prop:=(Lit.int k n).wf=true
def qpZ{α:Type}{f:α->DV}{p:α->Prop}:∀{es:Ct},(∀e∈es,∃a,e=f a/\p a)->∃l:CF α,es=l.map f/\∀a∈l,p a
 |[],_=>⟨[],rfl,λa h=>by cases h⟩
 |e::es,h=>by
  obtain⟨a,ha,hp⟩:=h e (zzr ..);obtain⟨l,hl,hq⟩:=qpZ (λx hx=>h x (zzi _ hx))
  refine⟨a::l,by rw[ha,hl];rfl,λb hb=>?_⟩
  rcases List.mem_cons.1 hb with rfl|hb
  ·exact hp
  ·exact hq b hb
def qQX{α:Type}{f:α->DV}{p q:α->Prop}{n b:Nat}{ts:CF Ty}{x:DV}(h:Has (.l (some n) b ts) x)(hf:∀cs,qaA ts cs->∃a,DV.a cs=f a/\p a/\q a):∃s:SL α,x=.l (some n) (s.l.map f) s.t/\(s.l.length<=maxLen/\∀a∈s.l,p a)/\s.t=false/\s.l.length*b<=qbf/\∀a∈s.l,q a:=by
 rw[Has]at h;obtain⟨es,rfl,h1,hb,h2⟩:=h;obtain⟨l,rfl,hp⟩:=qpZ (f:=f) (p:=λa=>p a/\q a) (es:=es) λe he=>by
  obtain⟨cs,h3,h4⟩:=h2 e he;obtain⟨a,ha,hp⟩:=hf cs h4;exact⟨a,by rw[qtL h3];exact ha,hp⟩
 exact⟨⟨l,false⟩,rfl,⟨by simpa using h1,λa ha=>(hp a ha).1⟩,rfl,by simpa using hb,λa ha=>(hp a ha).2⟩
def qQY{α:Type}{f:α->DV}{p:α->Prop}{t:Ty}{b:Nat}{x:DV}(h:Has (.l none b [t]) x)(hf:∀y,Has t y->∃a,y=f a/\p a):∃s:SL α,x=.l none (s.l.map f) s.t/\(s.l.length<=maxLen/\∀a∈s.l,p a)/\s.t=false/\s.l.length*b<=qbf:=by
 rw[Has]at h;obtain⟨es,rfl,h1,hb,h2⟩:=h;obtain⟨l,rfl,hp⟩:=qpZ (f:=f) (p:=p) (es:=es) λe he=>by
  obtain⟨cs,h3,h4⟩:=h2 e he;obtain⟨y,r,rfl,h5,h6⟩:=qjn h4;obtain rfl:=qc6 h6;simp only[mkD,zzb]at h3;subst h3;exact hf y h5
 exact⟨⟨l,false⟩,rfl,⟨by simpa using h1,hp⟩,rfl,by simpa using hb⟩
def qQZ{x:DV}(h:Has .e x):∃s:SL DV,x=.l (K1 4) s.l s.t/\XL (.l (K1 4) s.l s.t):=by
 rw[Has]at h;cases h with
 |mk es h1 h2 h3=>exact⟨⟨es,false⟩,rfl,.mk es h1 h2 h3⟩
def qaF{k:IntKind}{ts:CF Ty}{xs:Ct}(g:qaA (.i k::ts) xs):∃n r,xs=.i k n::r/\inK k n/\qaA ts r:=by
 obtain⟨_,r,rfl,h0,h⟩:=qjn g;obtain⟨n,rfl,p⟩:=qyL h0;exact⟨n,r,rfl,p,h⟩
def qb6{ts:CF Ty}{xs:Ct}(g:qaA (.s::ts) xs):∃n r,xs=.s n::r/\n.length<=maxLen/\qaA ts r:=by
 obtain⟨_,r,rfl,h0,h⟩:=qjn g;obtain⟨n,rfl,p⟩:=qG9 h0;exact⟨n,r,rfl,p,h⟩
def qpA{ts:CF Ty}{xs:Ct}(g:qaA (.b::ts) xs):∃n r,xs=.b n::r/\True/\qaA ts r:=by
 obtain⟨_,r,rfl,h0,h⟩:=qjn g;obtain⟨n,rfl⟩:=qG8 h0;exact⟨n,r,rfl,trivial,h⟩
def qsR{ts:CF Ty}{xs:Ct}(g:qaA (.e::ts) xs):∃(s:SL DV) (r:Ct),xs=.l (K1 4) s.l s.t::r/\XL (.l (K1 4) s.l s.t)/\qaA ts r:=by
 obtain⟨_,r,rfl,h0,h⟩:=qjn g;obtain⟨n,rfl,p⟩:=qQZ h0;exact⟨n,r,rfl,p,h⟩
def qyK{b:Nat}{ts:CF Ty}{xs:Ct}(g:qaA (.l none b [.i .i64]::ts) xs):∃(s:SL Int) (r:Ct),xs=.l none (s.l.map I) s.t::r/\(s.l.length<=maxLen/\∀y∈s.l,inK .i64 y)/\(s.t=false/\s.l.length*b<=qbf)/\qaA ts r:=by
 obtain⟨_,r,rfl,h0,h⟩:=qjn g;obtain⟨n,rfl,p,q⟩:=qQY (f:=I) (p:=λy=>inK .i64 y) h0 λy hy=>qyL hy
 exact⟨n,r,rfl,p,q,h⟩
def qdn{α:Type}{f:α->DV}{p q:α->Prop}{n b:Nat}{us ts:CF Ty}{xs:Ct}(hf:∀cs,qaA us cs->∃a,DV.a cs=f a/\p a/\q a)(g:qaA (.l (some n) b us::ts) xs):∃(s:SL α) (r:Ct),xs=.l (some n) (s.l.map f) s.t::r/\(s.l.length<=maxLen/\∀a∈s.l,p a)/\(s.t=false/\s.l.length*b<=qbf/\∀a∈s.l,q a)/\qaA ts r:=by
 obtain⟨_,r,rfl,h0,h⟩:=qjn g;obtain⟨n,rfl,p,q⟩:=qQX h0 hf;exact⟨n,r,rfl,p,q,h⟩
def Bf.ok(x:Bf):Prop:=inK .i64 x.Hi/\inK .u64 x.Lo
def Bf.fit(_:Bf):Prop:=True
def Bf.ty:CF Ty:=[.i .i64,.i .u64]
def Bv.ok(x:Bv):Prop:=x.Code.length<=maxLen/\inK .i64 x.Digits
def Bv.fit(_:Bv):Prop:=True
def Bv.ty:CF Ty:=[.s,.i .i64]
def Bv.ofB(cs:Ct)(h:qaA Bv.ty cs):∃x:Bv,DV.a cs=x.dv/\x.ok/\x.fit:=by
 obtain⟨a0,_,rfl,p0,h⟩:=qb6 h;obtain⟨a1,_,rfl,p1,h⟩:=qaF h;obtain rfl:=qc6 h;exact⟨⟨a0,a1⟩,rfl,⟨p0,p1⟩,trivial⟩
def AR.ok(x:AR):Prop:=x.Name.length<=maxLen/\(x.BS.l.length<=maxLen/\∀y∈x.BS.l,inK .i64 y)/\(x.BR.l.length<=maxLen/\∀y∈x.BR.l,inK .i64 y)
def AR.fit(x:AR):Prop:=(x.BS.t=false/\x.BS.l.length*8<=qbf)/\(x.BR.t=false/\x.BR.l.length*8<=qbf)
def AR.ty:CF Ty:=[.s,.l none 8 [.i .i64],.l none 8 [.i .i64]]
def AR.ofB(cs:Ct)(h:qaA AR.ty cs):∃x:AR,DV.a cs=x.dv/\x.ok/\x.fit:=by
 obtain⟨a0,_,rfl,p0,h⟩:=qb6 h;obtain⟨a1,_,rfl,p1,q1,h⟩:=qyK h;obtain⟨a2,_,rfl,p2,q2,h⟩:=qyK h;obtain rfl:=qc6 h;exact⟨⟨a0,a1,a2⟩,rfl,⟨p0,p1,p2⟩,⟨q1,q2⟩⟩
def Au.ok(x:Au):Prop:=x.Name.length<=maxLen/\inK .i64 x.Typ
def Au.fit(_:Au):Prop:=True
def Au.ty:CF Ty:=[.s,.i .i64]
def Br.ok(x:Br):Prop:=inK .i64 x.From/\inK .i64 x.Ppm
def Br.fit(_:Br):Prop:=True
def Br.ty:CF Ty:=[.i .i64,.i .i64]
def Br.ofB(cs:Ct)(h:qaA Br.ty cs):∃x:Br,DV.a cs=x.dv/\x.ok/\x.fit:=by
 obtain⟨a0,_,rfl,p0,h⟩:=qaF h;obtain⟨a1,_,rfl,p1,h⟩:=qaF h;obtain rfl:=qc6 h;exact⟨⟨a0,a1⟩,rfl,⟨p0,p1⟩,trivial⟩
def AQ.ok(x:AQ):Prop:=(x.BA.l.length<=maxLen/\∀y∈x.BA.l,y.ok)/\inK .i64 x.BU/\inK .i64 x.Mode
def AQ.fit(x:AQ):Prop:=(x.BA.t=false/\x.BA.l.length*16<=qbf/\∀y∈x.BA.l,y.fit)
def AQ.ty:CF Ty:=[.l (K1 2) 16 Br.ty,.b,.i .i64,.i .i64,.b]
def Ag.ok(x:Ag):Prop:=inK .i64 x.Op/\inK .i64 x.N/\x.S.length<=maxLen/\XL (.l (K1 4) x.A8.l x.A8.t)
def AY.ok(x:AY):Prop:=x.Name.length<=maxLen/\inK .i64 x.Event/\x.When.ok/\x.Amount.ok
def AY.fit(_:AY):Prop:=True
def AY.ty:CF Ty:=[.s,.i .i64,.i .i64,.i .i64,.s,.e,.i .i64,.i .i64,.s,.e]
def AY.ofB(cs:Ct)(h:qaA AY.ty cs):∃x:AY,DV.a cs=x.dv/\x.ok/\x.fit:=by
 obtain⟨a0,_,rfl,p0,h⟩:=qb6 h;obtain⟨a1,_,rfl,p1,h⟩:=qaF h;obtain⟨a2,_,rfl,p2,h⟩:=qaF h;obtain⟨a3,_,rfl,p3,h⟩:=qaF h;obtain⟨a4,_,rfl,p4,h⟩:=qb6 h;obtain⟨a5,_,rfl,p5,h⟩:=qsR h;obtain⟨a6,_,rfl,p6,h⟩:=qaF h;obtain⟨a7,_,rfl,p7,h⟩:=qaF h;obtain⟨a8,_,rfl,p8,h⟩:=qb6 h;obtain⟨a9,_,rfl,p9,h⟩:=qsR h;obtain rfl:=qc6 h;exact⟨⟨a0,a1,⟨a2,a3,a4,a5⟩,⟨a6,a7,a8,a9⟩⟩,rfl,⟨p0,p1,⟨p2,p3,p4,p5⟩,⟨p6,p7,p8,p9⟩⟩,trivial⟩
def AO.ok(x:AO):Prop:=x.Name.length<=maxLen/\inK .i64 x.BX/\x.Amount.ok
def AO.fit(_:AO):Prop:=True
def AO.ty:CF Ty:=[.s,.i .i64,.i .i64,.i .i64,.s,.e]
def AO.ofB(cs:Ct)(h:qaA AO.ty cs):∃x:AO,DV.a cs=x.dv/\x.ok/\x.fit:=by
 obtain⟨a0,_,rfl,p0,h⟩:=qb6 h;obtain⟨a1,_,rfl,p1,h⟩:=qaF h;obtain⟨a2,_,rfl,p2,h⟩:=qaF h;obtain⟨a3,_,rfl,p3,h⟩:=qaF h;obtain⟨a4,_,rfl,p4,h⟩:=qb6 h;obtain⟨a5,_,rfl,p5,h⟩:=qsR h;obtain rfl:=qc6 h;exact⟨⟨a0,a1,⟨a2,a3,a4,a5⟩⟩,rfl,⟨p0,p1,⟨p2,p3,p4,p5⟩⟩,trivial⟩
def Ak.ok(x:Ak):Prop:=x.Name.length<=maxLen/\x.Aw.length<=maxLen/\x.Cc.length<=maxLen/\inK .i64 x.From/\inK .i64 x.Every/\inK .i64 x.BK/\inK .i64 x.TaxPpm/\x.BD.ok/\x.BB.ok/\(x.Fees.l.length<=maxLen/\∀y∈x.Fees.l,y.ok)/\(x.Bg.l.length<=maxLen/\∀y∈x.Bg.l,y.ok)
def Ak.fit(x:Ak):Prop:=x.BD.fit/\x.BB.fit/\(x.Fees.t=false/\x.Fees.l.length*136<=qbf/\∀y∈x.Fees.l,y.fit)/\(x.Bg.t=false/\x.Bg.l.length*80<=qbf/\∀y∈x.Bg.l,y.fit)
def Ak.ty:CF Ty:=[.s,.s,.s,.i .i64,.i .i64,.i .i64,.i .i64,.l (K1 2) 16 Br.ty,.b,.i .i64,.i .i64,.b,.l (K1 2) 16 Br.ty,.b,.i .i64,.i .i64,.b,.l (K1 10) 136 AY.ty,.l (K1 6) 80 AO.ty]
def Ak.ofB(cs:Ct)(h:qaA Ak.ty cs):∃x:Ak,DV.a cs=x.dv/\x.ok/\x.fit:=by
 obtain⟨a0,_,rfl,p0,h⟩:=qb6 h;obtain⟨a1,_,rfl,p1,h⟩:=qb6 h;obtain⟨a2,_,rfl,p2,h⟩:=qb6 h;obtain⟨a3,_,rfl,p3,h⟩:=qaF h;obtain⟨a4,_,rfl,p4,h⟩:=qaF h;obtain⟨a5,_,rfl,p5,h⟩:=qaF h;obtain⟨a6,_,rfl,p6,h⟩:=qaF h;obtain⟨a7,_,rfl,p7,q7,h⟩:=qdn Br.ofB h;obtain⟨a8,_,rfl,-,h⟩:=qpA h;obtain⟨a9,_,rfl,p9,h⟩:=qaF h;obtain⟨a10,_,rfl,p10,h⟩:=qaF h;obtain⟨a11,_,rfl,-,h⟩:=qpA h;obtain⟨a12,_,rfl,p12,q12,h⟩:=qdn Br.ofB h;obtain⟨a13,_,rfl,-,h⟩:=qpA h;obtain⟨a14,_,rfl,p14,h⟩:=qaF h;obtain⟨a15,_,rfl,p15,h⟩:=qaF h;obtain⟨a16,_,rfl,-,h⟩:=qpA h;obtain⟨a17,_,rfl,p17,q17,h⟩:=qdn AY.ofB h;obtain⟨a18,_,rfl,p18,q18,h⟩:=qdn AO.ofB h;obtain rfl:=qc6 h;exact⟨⟨a0,a1,a2,a3,a4,a5,a6,⟨a7,a8,a9,a10,a11⟩,⟨a12,a13,a14,a15,a16⟩,a17,a18⟩,rfl,⟨p0,p1,p2,p3,p4,p5,p6,⟨p7,p9,p10⟩,⟨p12,p14,p15⟩,p17,p18⟩,⟨q7,q12,q17,q18⟩⟩
def AGl.ok(x:AGl):Prop:=inK .i64 x.Id/\inK .i64 x.Parent/\inK .i64 x.Kind/\x.Name.length<=maxLen
def AGl.fit(_:AGl):Prop:=True
def AGl.ty:CF Ty:=[.i .i64,.i .i64,.i .i64,.s]
def AGl.ofB(cs:Ct)(h:qaA AGl.ty cs):∃x:AGl,DV.a cs=x.dv/\x.ok/\x.fit:=by
 obtain⟨a0,_,rfl,p0,h⟩:=qaF h;obtain⟨a1,_,rfl,p1,h⟩:=qaF h;obtain⟨a2,_,rfl,p2,h⟩:=qaF h;obtain⟨a3,_,rfl,p3,h⟩:=qb6 h;obtain rfl:=qc6 h;exact⟨⟨a0,a1,a2,a3⟩,rfl,⟨p0,p1,p2,p3⟩,trivial⟩
def Ac.ok(x:Ac):Prop:=inK .i64 x.Ai/\inK .i64 x.Amount/\x.Aw.length<=maxLen
def Ac.fit(_:Ac):Prop:=True
def Ac.ty:CF Ty:=[.i .i64,.i .i64,.s]
def Ac.ofB(cs:Ct)(h:qaA Ac.ty cs):∃x:Ac,DV.a cs=x.dv/\x.ok/\x.fit:=by
 obtain⟨a0,_,rfl,p0,h⟩:=qaF h;obtain⟨a1,_,rfl,p1,h⟩:=qaF h;obtain⟨a2,_,rfl,p2,h⟩:=qb6 h;obtain rfl:=qc6 h;exact⟨⟨a0,a1,a2⟩,rfl,⟨p0,p1,p2⟩,trivial⟩
def Af.ok(x:Af):Prop:=inK .i64 x.Id/\inK .i64 x.AU/\inK .i64 x.Value/\inK .i64 x.Kind/\inK .i64 x.Auth/\inK .i64 x.BL/\x.Key.length<=maxLen/\x.Text.length<=maxLen/\(x.Ad.l.length<=maxLen/\∀y∈x.Ad.l,y.ok)/\inK .u64 x.Chain
def Af.fit(x:Af):Prop:=(x.Ad.t=false/\x.Ad.l.length*32<=qbf/\∀y∈x.Ad.l,y.fit)
def Af.ty:CF Ty:=[.i .i64,.i .i64,.i .i64,.i .i64,.i .i64,.i .i64,.s,.s,.l (K1 3) 32 Ac.ty,.i .u64]
def Af.ofB(cs:Ct)(h:qaA Af.ty cs):∃x:Af,DV.a cs=x.dv/\x.ok/\x.fit:=by
 obtain⟨a0,_,rfl,p0,h⟩:=qaF h;obtain⟨a1,_,rfl,p1,h⟩:=qaF h;obtain⟨a2,_,rfl,p2,h⟩:=qaF h;obtain⟨a3,_,rfl,p3,h⟩:=qaF h;obtain⟨a4,_,rfl,p4,h⟩:=qaF h;obtain⟨a5,_,rfl,p5,h⟩:=qaF h;obtain⟨a6,_,rfl,p6,h⟩:=qb6 h;obtain⟨a7,_,rfl,p7,h⟩:=qb6 h;obtain⟨a8,_,rfl,p8,q8,h⟩:=qdn Ac.ofB h;obtain⟨a9,_,rfl,p9,h⟩:=qaF h;obtain rfl:=qc6 h;exact⟨⟨a0,a1,a2,a3,a4,a5,a6,a7,a8,a9⟩,rfl,⟨p0,p1,p2,p3,p4,p5,p6,p7,p8,p9⟩,q8⟩
def Af.of(cs:Ct)(h:qaA Af.ty cs):∃x:Af,DV.a cs=x.dv/\x.ok:=let ⟨x,a,b,_⟩:=Af.ofB cs h; ⟨x,a,b⟩
def Av.ok(x:Av):Prop:=inK .i64 x.Id/\inK .i64 x.Ai/\inK .i64 x.Amount/\inK .i64 x.From/\inK .i64 x.To/\x.Key.length<=maxLen
def Av.fit(_:Av):Prop:=True
def Av.ty:CF Ty:=[.i .i64,.i .i64,.i .i64,.i .i64,.i .i64,.s]
def Av.ofB(cs:Ct)(h:qaA Av.ty cs):∃x:Av,DV.a cs=x.dv/\x.ok/\x.fit:=by
 obtain⟨a0,_,rfl,p0,h⟩:=qaF h;obtain⟨a1,_,rfl,p1,h⟩:=qaF h;obtain⟨a2,_,rfl,p2,h⟩:=qaF h;obtain⟨a3,_,rfl,p3,h⟩:=qaF h;obtain⟨a4,_,rfl,p4,h⟩:=qaF h;obtain⟨a5,_,rfl,p5,h⟩:=qb6 h;obtain rfl:=qc6 h;exact⟨⟨a0,a1,a2,a3,a4,a5⟩,rfl,⟨p0,p1,p2,p3,p4,p5⟩,trivial⟩
def Aq.ok(x:Aq):Prop:=inK .i64 x.Id/\inK .i64 x.Ai/\inK .i64 x.Kind/\inK .i64 x.Amount/\inK .i64 x.From/\inK .i64 x.To/\x.Source.length<=maxLen
def Aq.fit(_:Aq):Prop:=True
def Aq.ty:CF Ty:=[.i .i64,.i .i64,.i .i64,.i .i64,.i .i64,.i .i64,.s]
def Aq.ofB(cs:Ct)(h:qaA Aq.ty cs):∃x:Aq,DV.a cs=x.dv/\x.ok/\x.fit:=by
 obtain⟨a0,_,rfl,p0,h⟩:=qaF h;obtain⟨a1,_,rfl,p1,h⟩:=qaF h;obtain⟨a2,_,rfl,p2,h⟩:=qaF h;obtain⟨a3,_,rfl,p3,h⟩:=qaF h;obtain⟨a4,_,rfl,p4,h⟩:=qaF h;obtain⟨a5,_,rfl,p5,h⟩:=qaF h;obtain⟨a6,_,rfl,p6,h⟩:=qb6 h;obtain rfl:=qc6 h;exact⟨⟨a0,a1,a2,a3,a4,a5,a6⟩,rfl,⟨p0,p1,p2,p3,p4,p5,p6⟩,trivial⟩
def AC.ok(x:AC):Prop:=inK .i64 x.Id/\inK .i64 x.BN/\inK .i64 x.Closed/\inK .i64 x.Extra/\x.Owner.length<=maxLen/\x.Co.length<=maxLen/\x.Number.length<=maxLen
def AC.fit(_:AC):Prop:=True
def AC.ty:CF Ty:=[.i .i64,.i .i64,.i .i64,.i .i64,.s,.s,.s]
def AC.ofB(cs:Ct)(h:qaA AC.ty cs):∃x:AC,DV.a cs=x.dv/\x.ok/\x.fit:=by
 obtain⟨a0,_,rfl,p0,h⟩:=qaF h;obtain⟨a1,_,rfl,p1,h⟩:=qaF h;obtain⟨a2,_,rfl,p2,h⟩:=qaF h;obtain⟨a3,_,rfl,p3,h⟩:=qaF h;obtain⟨a4,_,rfl,p4,h⟩:=qb6 h;obtain⟨a5,_,rfl,p5,h⟩:=qb6 h;obtain⟨a6,_,rfl,p6,h⟩:=qb6 h;obtain rfl:=qc6 h;exact⟨⟨a0,a1,a2,a3,a4,a5,a6⟩,rfl,⟨p0,p1,p2,p3,p4,p5,p6⟩,trivial⟩
def AB.ok(x:AB):Prop:=inK .i64 x.Cash/\inK .i64 x.Cm/\inK .i64 x.Ci/\inK .i64 x.Cf/\inK .i64 x.Ca/\inK .i64 x.Tax/\inK .i64 x.Ce/\inK .i64 x.Loans/\inK .i64 x.BZ/\inK .i64 x.Cn/\inK .i64 x.Cj/\inK .i64 x.Cg/\inK .i64 x.Loss/\inK .i64 x.Cb
def AB.fit(_:AB):Prop:=True
def AB.ty:CF Ty:=[.i .i64,.i .i64,.i .i64,.i .i64,.i .i64,.i .i64,.i .i64,.i .i64,.i .i64,.i .i64,.i .i64,.i .i64,.i .i64,.i .i64]
def Ap.ok(x:Ap):Prop:=(x.Bu.l.length<=maxLen/\∀y∈x.Bu.l,y.ok)/\(x.Bi.l.length<=maxLen/\∀y∈x.Bi.l,y.ok)/\(x.BG.l.length<=maxLen/\∀y∈x.BG.l,y.ok)/\x.Bj.ok/\(x.Bh.l.length<=maxLen/\∀y∈x.Bh.l,y.ok)/\(x.AZ.l.length<=maxLen/\∀y∈x.AZ.l,y.ok)/\(x.Ar.l.length<=maxLen/\∀y∈x.Ar.l,y.ok)/\(x.Holds.l.length<=maxLen/\∀y∈x.Holds.l,y.ok)/\(x.Bc.l.length<=maxLen/\∀y∈x.Bc.l,y.ok)
def Ap.fit(x:Ap):Prop:=(x.Bu.t=false/\x.Bu.l.length*24<=qbf/\∀y∈x.Bu.l,y.fit)/\(x.Bi.t=false/\x.Bi.l.length*64<=qbf/\∀y∈x.Bi.l,y.fit)/\(x.BG.t=false/\x.BG.l.length*40<=qbf/\∀y∈x.BG.l,y.fit)/\(x.Bh.t=false/\x.Bh.l.length*240<=qbf/\∀y∈x.Bh.l,y.fit)/\(x.AZ.t=false/\x.AZ.l.length*80<=qbf/\∀y∈x.AZ.l,y.fit)/\(x.Ar.t=false/\x.Ar.l.length*112<=qbf/\∀y∈x.Ar.l,y.fit)/\(x.Holds.t=false/\x.Holds.l.length*56<=qbf/\∀y∈x.Holds.l,y.fit)/\(x.Bc.t=false/\x.Bc.l.length*64<=qbf/\∀y∈x.Bc.l,y.fit)
def Ap.ty:CF Ty:=[.l (K1 2) 24 Bv.ty,.l (K1 3) 64 AR.ty,.l (K1 4) 40 AGl.ty,.i .i64,.i .i64,.i .i64,.i .i64,.i .i64,.i .i64,.i .i64,.i .i64,.i .i64,.i .i64,.i .i64,.i .i64,.i .i64,.i .i64,.l (K1 19) 240 Ak.ty,.l (K1 7) 80 AC.ty,.l (K1 10) 112 Af.ty,.l (K1 6) 56 Av.ty,.l (K1 7) 64 Aq.ty]
def Ap.ofB(cs:Ct)(h:qaA Ap.ty cs):∃x:Ap,DV.a cs=x.dv/\x.ok/\x.fit:=by
 obtain⟨a0,_,rfl,p0,q0,h⟩:=qdn Bv.ofB h;obtain⟨a1,_,rfl,p1,q1,h⟩:=qdn AR.ofB h;obtain⟨a2,_,rfl,p2,q2,h⟩:=qdn AGl.ofB h;obtain⟨a3,_,rfl,p3,h⟩:=qaF h;obtain⟨a4,_,rfl,p4,h⟩:=qaF h;obtain⟨a5,_,rfl,p5,h⟩:=qaF h;obtain⟨a6,_,rfl,p6,h⟩:=qaF h;obtain⟨a7,_,rfl,p7,h⟩:=qaF h;obtain⟨a8,_,rfl,p8,h⟩:=qaF h;obtain⟨a9,_,rfl,p9,h⟩:=qaF h;obtain⟨a10,_,rfl,p10,h⟩:=qaF h;obtain⟨a11,_,rfl,p11,h⟩:=qaF h;obtain⟨a12,_,rfl,p12,h⟩:=qaF h;obtain⟨a13,_,rfl,p13,h⟩:=qaF h;obtain⟨a14,_,rfl,p14,h⟩:=qaF h;obtain⟨a15,_,rfl,p15,h⟩:=qaF h;obtain⟨a16,_,rfl,p16,h⟩:=qaF h;obtain⟨a17,_,rfl,p17,q17,h⟩:=qdn Ak.ofB h;obtain⟨a18,_,rfl,p18,q18,h⟩:=qdn AC.ofB h;obtain⟨a19,_,rfl,p19,q19,h⟩:=qdn Af.ofB h;obtain⟨a20,_,rfl,p20,q20,h⟩:=qdn Av.ofB h;obtain⟨a21,_,rfl,p21,q21,h⟩:=qdn Aq.ofB h;obtain rfl:=qc6 h;exact⟨⟨a0,a1,a2,⟨a3,a4,a5,a6,a7,a8,a9,a10,a11,a12,a13,a14,a15,a16⟩,a17,a18,a19,a20,a21⟩,rfl,⟨p0,p1,p2,⟨p3,p4,p5,p6,p7,p8,p9,p10,p11,p12,p13,p14,p15,p16⟩,p17,p18,p19,p20,p21⟩,⟨q0,q1,q2,q17,q18,q19,q20,q21⟩⟩
def Ap.of(cs:Ct)(h:qaA Ap.ty cs):∃x:Ap,DV.a cs=x.dv/\x.ok:=let ⟨x,a,b,_⟩:=Ap.ofB cs h; ⟨x,a,b⟩
def Ah.ok(x:Ah):Prop:=inK .i64 x.Typ/\inK .i64 x.N
def Ah.fit(_:Ah):Prop:=True
def Ah.ty:CF Ty:=[.i .i64,.i .i64]
noncomputable def tabV:PT:=
 (.bin 801 F801 (.bin 72 F72 (.bin 65 F65 (.bin 39 F39 (.bin 22 F22 .nil .nil) .nil) (.bin 71 F71 (.bin 66 F66 .nil .nil) .nil)) (.bin 684 qkd (.bin 544 qfc (.bin 265 qiG .nil .nil) .nil) (.bin 708 qmf .nil .nil))) (.bin 883 qmo (.bin 881 F881 (.bin 880 qkf (.bin 879 qmm .nil .nil) .nil) (.bin 882 qmn .nil .nil)) (.bin 933 F933 (.bin 885 qmq (.bin 884 qmp .nil .nil) .nil) (.bin 934 qmw .nil .nil))))
abbrev HV(T:Tab):Prop:=∀n F,tabV.get n=some F->T.F n=some F
noncomputable def tabS:PT:=
 (.bin 679 F679 (.bin 545 qiK (.bin 512 qlS (.bin 504 qlQ (.bin 259 qlA (.bin 177 qhG (.bin 106 F106 .nil .nil) .nil) (.bin 260 F260 .nil .nil)) (.bin 510 F510 (.bin 508 F508 (.bin 506 qlR .nil .nil) .nil) (.bin 511 F511 .nil .nil))) (.bin 540 qlX (.bin 538 qlV (.bin 537 qlU (.bin 513 qlT .nil .nil) .nil) (.bin 539 qlW .nil .nil)) (.bin 543 qdy (.bin 542 qlZ (.bin 541 qlY .nil .nil) .nil) (.bin 544 qfc .nil .nil)))) (.bin 599 ql7 (.bin 552 ql2 (.bin 550 ql1 (.bin 549 qeF (.bin 546 ql0 .nil .nil) .nil) (.bin 551 qde .nil .nil)) (.bin 597 ql5 (.bin 596 ql4 (.bin 595 ql3 .nil .nil) .nil) (.bin 598 ql6 .nil .nil))) (.bin 607 qfd (.bin 602 qma (.bin 601 ql9 (.bin 600 ql8 .nil .nil) .nil) (.bin 603 qkb .nil .nil)) (.bin 677 qmd (.bin 676 qmc .nil .nil) (.bin 678 qme .nil .nil))))) (.bin 952 qmA (.bin 919 qhM (.bin 770 qke (.bin 685 F685 (.bin 684 qkd (.bin 683 qkc .nil .nil) .nil) (.bin 769 qmi .nil .nil)) (.bin 860 F860 (.bin 859 F859 (.bin 771 F771 .nil .nil) .nil) (.bin 861 F861 .nil .nil))) (.bin 924 qmu (.bin 922 F922 (.bin 921 qms (.bin 920 qmr .nil .nil) .nil) (.bin 923 qmt .nil .nil)) (.bin 950 F950 (.bin 925 qmv .nil .nil) (.bin 951 qmz .nil .nil)))) (.bin 1093 F1093 (.bin 969 qmE (.bin 955 qmC (.bin 954 qmB (.bin 953 F953 .nil .nil) .nil) (.bin 968 qmD .nil .nil)) (.bin 1023 qjZ (.bin 985 qmG (.bin 970 qmF .nil .nil) .nil) (.bin 1090 qcG .nil .nil))) (.bin 1100 qlv (.bin 1096 qj1 (.bin 1095 qj0 (.bin 1094 qhF .nil .nil) .nil) (.bin 1099 qiF .nil .nil)) (.bin 1102 qlw (.bin 1101 F1101 .nil .nil) (.bin 1103 F1103 .nil .nil))))))
abbrev HS(T:Tab):Prop:=∀n F,tabS.get n=some F->T.F n=some F
mutual
def DV.ins(ρ:Nat->DV):DV->DV
 |.tok n=>ρ n
 |.a cs=>.a (DV.Aj ρ cs)
 |.l k es x=>.l k (DV.Aj ρ es) x
 |.ifc x v=>.ifc x (DV.ins ρ v)
 |.b x=>.b x
 |.i k n=>.i k n
 |.s x=>.s x
 |.np=>.np
 |.nf=>.nf
 |.ni=>.ni
 |.nm=>.nm
def DV.Aj(ρ:Nat->DV):Ct->Ct
 |[]=>[]
 |v::vs=>DV.ins ρ v::DV.Aj ρ vs
end
mutual
def PV.ins(ρ:Nat->DV):PV->PV
 |.u=>.u
 |.d v=>.d (v.ins ρ)
 |.a cs=>.a (PV.Aj ρ cs)
 |.t vs=>.t (PV.Aj ρ vs)
 |.r o k off len tt=>.r o k off len tt
 |.p o i c=>.p o i c
 |.q v k c=>.q (v.ins ρ) k c
 |.f n cs=>.f n (PV.Aj ρ cs)
 |.h o=>.h o
 |.g v=>.g (PV.ins ρ v)
 |.m n cs=>.m n (PV.Aj ρ cs)
 |.w x v=>.w x (PV.ins ρ v)
def PV.Aj(ρ:Nat->DV):Cu->Cu
 |[]=>[]
 |v::vs=>PV.ins ρ v::PV.Aj ρ vs
end
def Obj.ins(ρ:Nat->DV):Obj->Obj
 |.box k v=>.box k (v.ins ρ)
 |.sl k ro es=>.sl k ro (DV.Aj ρ es)
 |.mp es=>.mp (es.map λx=>(x.1.ins ρ,x.2.ins ρ))
 |.si s n=>.si s n
 |.lp n j=>.lp n j
 |.df=>.df
def Heap.ins(ρ:Nat->DV)(H:CP):CP:=H.map (·.map (·.ins ρ))
def Fr.ins(ρ:Nat->DV):Fr->Fr
 |[]=>[]
 | (j,v)::r=>(j,v.ins ρ)::Fr.ins ρ r
def St.ins(ρ:Nat->DV)(s:St):St:=⟨s.fr.ins ρ,s.H.ins ρ⟩
def Sc(ρ:Nat->DV):Prop:=∀n cs,ρ n≠.a cs
mutual
def DV.noT:DV->CG
 |.tok _=>false
 |.a cs=>DV.noTL cs
 |.l _ es _=>DV.noTL es
 |.ifc _ v=>v.noT
 |_=>true
def DV.noTL:Ct->CG
 |[]=>true
 |v::vs=>v.noT&&DV.noTL vs
end
inductive TA where
 |b
 |i (k:IntKind)
 |s
 |e (n:Nat)
 |l (k:K) (m:Nat) (ts:List TA)
mutual
def TA.sub:TA->TA->CG
 |.b,.b=>true
 |.i k,.i k1=>decide (k=k1)
 |.s,.s=>true
 |.e n,.e m=>Nat.ble n m
 |.l k m ts,.l k1 m1 us=>K.eq k k1&&(Nat.ble m1 m&&TA.subL ts us)
 |_,_=>false
def TA.subL:CF TA->CF TA->CG
 |[],[]=>true
 |t::ts,u::us=>TA.sub t u&&TA.subL ts us
 |_,_=>false
end
def XD:Nat->DV->Prop
 |0,x=>x=.l (some 4) [] false
 |n+1,x=>∃es,x=.l (some 4) es false/\es.length*56<=qbf/\∀e∈es,∃o m s a,e=.a [.i .i64 o,.i .i64 m,.s s,a]/\(Lit.int .i64 o).wf=true/\(Lit.int .i64 m).wf=true/\s.length<=maxLen/\XD n a
def XT(d:Nat):Nat->DV->Prop
 |0,x=>∃n,XD n x
 |1,x=>XD d x
 |_,x=>∃n,n<d/\XD n x
mutual
def Hs(d:Nat):TA->DV->Prop
 |.e n,x=>XT d n x
 |.b,x=>∃c,x=.b c
 |.i k,x=>∃n,x=.i k n/\(Lit.int k n).wf=true
 |.s,x=>∃l,x=.s l/\l.length<=maxLen
 |.l k m ts,x=>∃es t,x=.l k es t/\es.length<=maxLen/\es.length<=m/\∀e∈es,∃cs,mkD k cs=some e/\HsL d ts cs
def HsL(d:Nat):CF TA->Ct->Prop
 |[],[]=>True
 |t::ts,x::xs=>Hs d t x/\HsL d ts xs
 |_,_=>False
end
def vI:DV->Int
 |.i _ n=>n
 |.l _ es _=>es.length
 |.s x=>x.length
 |_=>0
abbrev Fact:=Nat×Nat×Int
def Fact.ok(ρ:Nat->DV)(f:Fact):Prop:=vI (ρ f.1)+f.2.2<=vI (ρ f.2.1)
def prv(fx:CF Fact):Nat->Nat->Nat->Int->CG
 |0,a,b,c=>Nat.beq a b&&decide (c<=0)
 |n+1,a,b,c=>(Nat.beq a b&&decide (c<=0))||fx.any λf=>Nat.beq f.1 a&&prv fx n f.2.1 b (c-f.2.2)
def qBy{ρ:Nat->DV}{fx:CF Fact}(h:∀f∈fx,Fact.ok ρ f):∀(n a b:Nat) (c:Int),prv fx n a b c=true->vI (ρ a)+c<=vI (ρ b)
 |0,a,b,c,e=>by
  simp only[prv,zzf,zzq]at e;rw[zzy e.1];omega
 |n+1,a,b,c,e=>by
  simp only[prv,Bool.or_eq_true,zzf,zzq,List.any_eq_true]at e;rcases e with e|⟨f,hf,e1,e2⟩
  ·rw[zzy e.1];omega
  ·have h1:=h f hf
   have h2:=qBy h n _ _ _ e2
   unfold Fact.ok at h1;rw[zzy e1]at h1;omega
def qdF(ρ:Nat->DV):∀l:Ct,DV.Aj ρ l=l.map (DV.ins ρ)
 |[]=>rfl
 |v::vs=>by rw[DV.Aj,qdF ρ vs];rfl
def qip(ρ:Nat->DV):∀l:Cu,PV.Aj ρ l=l.map (PV.ins ρ)
 |[]=>rfl
 |v::vs=>by rw[PV.Aj,qip ρ vs];rfl
mutual
def qpM(ρ:Nat->DV):∀v:DV,v.noT=true->v.ins ρ=v
 |.tok _,h=>by cases h
 |.a cs,h=>by rw[DV.ins,qpN ρ cs h]
 |.l _ es _,h=>by rw[DV.ins,qpN ρ es h]
 |.ifc _ v,h=>by rw[DV.ins,qpM ρ v h]
 |.b _,_|.i _ _,_|.s _,_|.np,_|.nf,_|.ni,_|.nm,_=>rfl
def qpN(ρ:Nat->DV):∀l:Ct,DV.noTL l=true->DV.Aj ρ l=l
 |[],_=>rfl
 |v::vs,h=>by
  rw[DV.noTL,zzf]at h;rw[DV.Aj,qpM ρ v h.1,qpN ρ vs h.2]
end
def qjq(ρ:Nat->DV)(t:Nat):∀fr:Fr,(fr.ins ρ).get t=(fr.get t).ins ρ
 |[]=>rfl
 | (j,v)::r=>by
  simp only[Fr.ins,Fr.get];split
  ·rfl
  ·exact qjq ρ t r
def qpP(ρ:Nat->DV)(t:Nat)(v:PV):∀fr:Fr,(fr.set t v).ins ρ=(fr.ins ρ).set t (v.ins ρ)
 |[]=>rfl
 | (j,x)::r=>by
  simp only[Fr.ins,Fr.set];split
  ·rfl
  ·split
   ·rfl
   ·simp only[Fr.ins];rw[qpP ρ t v r]
def qnq(ρ:Nat->DV)(l:Cy):∀fr:Fr,(fr.drop l).ins ρ=(fr.ins ρ).drop l
 |[]=>rfl
 | (j,x)::r=>by
  simp only[Fr.ins,Fr.drop];split
  ·exact qnq ρ l r
  ·simp only[Fr.ins];rw[qnq ρ l r]
def qpL(ρ:Nat->DV)(l:Cy):∀fr:Fr,(fr.keep l).ins ρ=(fr.ins ρ).keep l
 |[]=>rfl
 | (j,x)::r=>by
  simp only[Fr.ins,Fr.keep];split
  ·simp only[Fr.ins];rw[qpL ρ l r]
  ·exact qpL ρ l r
def qgF(ρ:Nat->DV)(H:CP)(o:Nat):(H.ins ρ).obj o=(H.obj o).map (·.ins ρ):=by
 unfold Heap.obj Heap.ins;rw[zzj];cases H[o]? with
 |none=>rfl
 |some x=>cases x<;>rfl
def qie(ρ:Nat->DV)(H:CP)(o:Nat)(x:CE Obj):(H.put o x).ins ρ=(H.ins ρ).put o (x.map (·.ins ρ)):=by
 unfold Heap.put Heap.ins;rw[List.map_set]
def qHu(ρ:Nat->DV)(H:CP):(H.ins ρ).length=H.length:=by unfold Heap.ins;rw[zzo]
def qpK(ρ:Nat->DV)(H H':CP):(H++H').ins ρ=H.ins ρ++H'.ins ρ:=by unfold Heap.ins;rw[List.map_append]
mutual
def qkU(ρ:Nat->DV):∀v:PV,(v.ins ρ).refs=v.refs
 |.u|.d _|.r .. |.p .. |.q .. |.h _=>rfl
 |.a cs=>by simp only[PV.ins,PV.refs];exact qnr ρ cs
 |.t cs=>by simp only[PV.ins,PV.refs];exact qnr ρ cs
 |.f _ cs=>by simp only[PV.ins,PV.refs];exact qnr ρ cs
 |.m _ cs=>by simp only[PV.ins,PV.refs];exact qnr ρ cs
 |.g v=>by simp only[PV.ins,PV.refs];exact qkU ρ v
 |.w _ v=>by simp only[PV.ins,PV.refs];exact qkU ρ v
def qnr(ρ:Nat->DV):∀l:Cu,PV.AL (PV.Aj ρ l)=PV.AL l
 |[]=>rfl
 |v::vs=>by simp only[PV.Aj,PV.AL];rw[qkU ρ v,qnr ρ vs]
end
mutual
def qns(ρ:Nat->DV)(σ:Nat->CE Nat):∀v:PV,(v.ren σ).ins ρ=(v.ins ρ).ren σ
 |.u|.d _|.q .. =>rfl
 |.r o _ _ _ _=>by simp only[PV.ins,PV.ren];cases σ o<;>rfl
 |.p o _ _=>by simp only[PV.ins,PV.ren];cases σ o<;>rfl
 |.h o=>by simp only[PV.ins,PV.ren];cases σ o<;>rfl
 |.a cs=>by simp only[PV.ins,PV.ren];rw[qnt ρ σ cs]
 |.t cs=>by simp only[PV.ins,PV.ren];rw[qnt ρ σ cs]
 |.f _ cs=>by simp only[PV.ins,PV.ren];rw[qnt ρ σ cs]
 |.m _ cs=>by simp only[PV.ins,PV.ren];rw[qnt ρ σ cs]
 |.g v=>by simp only[PV.ins,PV.ren];rw[qns ρ σ v]
 |.w _ v=>by simp only[PV.ins,PV.ren];rw[qns ρ σ v]
def qnt(ρ:Nat->DV)(σ:Nat->CE Nat):∀l:Cu,PV.Aj ρ (PV.Bt σ l)=PV.Bt σ (PV.Aj ρ l)
 |[]=>rfl
 |v::vs=>by simp only[PV.Aj,PV.Bt];rw[qns ρ σ v,qnt ρ σ vs]
end
def qy1(ρ:Nat->DV):∀fr:Fr,qam (fr.ins ρ)=qam fr
 |[]=>rfl
 | (_,v)::r=>by simp only[Fr.ins,qam];rw[qkU ρ v,qy1 ρ r]
def qy2(ρ:Nat->DV)(σ:Nat->CE Nat):∀fr:Fr,(fr.ren σ).ins ρ=(fr.ins ρ).ren σ
 |[]=>rfl
 | (_,v)::r=>by simp only[Fr.ins,Fr.ren];rw[qns ρ σ v,qy2 ρ σ r]
def qy4(ρ:Nat->DV):∀x:CE Obj,qav (x.map (·.ins ρ))=qav x
 |none=>rfl
 |some (.box _ v)=>qkU ρ v
 |some (.sl ..)|some (.mp _)|some (.si ..)|some (.lp ..)|some .df=>rfl
def qy5(ρ:Nat->DV)(σ:Nat->CE Nat):∀x:Obj,(x.ren σ).ins ρ=(x.ins ρ).ren σ
 |.box k v=>by simp only[Obj.ren,Obj.ins];rw[qns]
 |.sl .. |.mp _|.si .. |.lp .. |.df=>rfl
def qy3(ρ:Nat->DV):∀H:CP,qae (H.ins ρ)=qae H
 |[]=>rfl
 |x::r=>by
  show qav (x.map (·.ins ρ))++qae (Heap.ins ρ r)=qav x++qae r
  rw[qy4,qy3 ρ r]
def qpO(ρ:Nat->DV)(H:CP)(base:Nat):∀(n:Nat) (acc todo:Cy),qap (H.ins ρ) base n acc todo=qap H base n acc todo
 |0,_,_=>rfl
 |n+1,acc,[]=>rfl
 |n+1,acc,o::todo=>by
  simp only[qap];rw[qpO ρ H base n acc todo,qgF,qy4,qpO ρ H base n]
def qHs(ρ:Nat->DV)(σ:Nat->CE Nat)(H:CP)(base:Nat)(ids:Cy):(gcH σ H base ids).ins ρ=gcH σ (H.ins ρ) base ids:=by
 unfold gcH;rw[qpK];congr 1
 ·unfold Heap.ins;rw[<-List.map_take,List.map_map,List.map_map];apply List.map_congr_left
  intro x _;cases x with
  |none=>rfl
  |some x=>exact congrArg some (qy5 ρ σ x)
 ·unfold Heap.ins;rw[List.map_map];apply List.map_congr_left
  intro o _;show ((H.obj o).map _).map _=(Heap.obj (Heap.ins ρ H) o).map _
  rw[qgF];cases H.obj o with
  |none=>rfl
  |some x=>exact congrArg some (qy5 ρ σ x)
def qHr(ρ:Nat->DV)(live:Cy)(base:Nat)(s:St):(gc live base s).ins ρ=gc live base (s.ins ρ):=by
 have h1:qam (Fr.keep live (s.ins ρ).fr)++qae ((s.ins ρ).H.take base)=qam (Fr.keep live s.fr)++qae (s.H.take base):=by
  show qam (Fr.keep live (s.fr.ins ρ))++qae ((s.H.ins ρ).take base)=_
  rw[<-qpL,qy1];congr 1
  unfold Heap.ins;rw[<-List.map_take];exact qy3 ρ _
 unfold gc;simp only;rw[h1];show St.mk _ _=St.mk _ _
 congr 1
 ·rw[qy2,qpL];show _=Fr.ren (qaG base (qap (s.H.ins ρ) base 1000 [] _)) (Fr.keep live (s.fr.ins ρ))
  rw[qpO]
 ·rw[qHs];show _=gcH (qaG base (qap (s.H.ins ρ) base 1000 [] _)) (s.H.ins ρ) base (qap (s.H.ins ρ) base 1000 [] _)
  rw[qpO]
section
variable {ρ:Nat->DV}
def qcw(l:Ct):(DV.Aj ρ l).length=l.length:=by rw[qdF,zzo]
def qnU(l:Cu):(PV.Aj ρ l).length=l.length:=by rw[qip,zzo]
def qsZ(l:Ct)(i:Nat):(DV.Aj ρ l)[i]? = (l[i]?).map (DV.ins ρ):=by rw[qdF,zzj]
def qs0(l:Ct)(a b:Nat):DV.Aj ρ ((l.drop a).take b)=((DV.Aj ρ l).drop a).take b:=by rw[qdF,qdF,List.map_take,List.map_drop]
def qBq(l:Cu)(a b:Nat):PV.Aj ρ ((l.drop a).take b)=((PV.Aj ρ l).drop a).take b:=by rw[qip,qip,List.map_take,List.map_drop]
def qt4(l:Ct):PV.Aj ρ (l.map .d)=(DV.Aj ρ l).map .d:=by rw[qip,qdF,List.map_map,List.map_map];rfl
def qrX(hρ:Sc ρ)(v:DV):(v.ins ρ).cells=DV.Aj ρ v.cells:=by
 cases v with
 |tok n=>
  show (ρ n).cells=[ρ n]
  have:=hρ n
  cases h:ρ n<;>first|rfl|exact absurd h (this _)
 |_=>rfl
def qqp(hρ:Sc ρ)(v:PV):(v.ins ρ).cells=PV.Aj ρ v.cells:=by
 cases v with
 |d v=>
  cases v with
  |tok n=>
   show (PV.d (ρ n)).cells=[.d (ρ n)]
   have:=hρ n
   cases h:ρ n<;>first|rfl|exact absurd h (this _)
  |a cs=>exact (qt4 cs).symm
  |_=>rfl
 |_=>rfl
def qtJ{k:K}{cs:Ct}{v:DV}(h:mkD k cs=some v):mkD k (DV.Aj ρ cs)=some (v.ins ρ):=by
 cases k with
 |none=>
  match cs,h with
  |[x],h=>cases h;rfl
 |some n=>
  simp only[mkD]at h⊢;rw[qcw];split at h
  ·rename_i e;rw[if_pos e];cases h;rfl
  ·cases h
def qBu:∀l:Cu,∀{vs:Ct},qaf l=some vs->qaf (PV.Aj ρ l)=some (DV.Aj ρ vs)
 |[],vs,h=>by cases h;rfl
 |.d v::r,vs,h=>by
  simp only[qaf]at h;split at h
  ·rename_i ws e;cases h;simp only[PV.Aj,PV.ins,qaf];rw[qBu r e];rfl
  ·cases h
 |.u::_,_,h|.a _::_,_,h|.t _::_,_,h|.r .. :: _,_,h|.p .. :: _,_,h|.q .. :: _,_,h|.f .. :: _,_,h|.h _::_,_,h|.g _::_,_,h|.m .. :: _,_,h|.w .. :: _,_,h=>by cases h
def qBv:∀l:Cu,qaf l=none->qaf (PV.Aj ρ l)=none
 |[],h=>by cases h
 |.d v::r,h=>by
  simp only[qaf]at h;split at h
  ·cases h
  ·rename_i e;simp only[PV.Aj,PV.ins,qaf];rw[qBv r e]
 |.u::_,_|.a _::_,_|.t _::_,_|.r .. :: _,_|.p .. :: _,_|.q .. :: _,_|.f .. :: _,_|.h _::_,_|.g _::_,_|.m .. :: _,_|.w .. :: _,_=>rfl
def qAD(cs:Cu):mkA (PV.Aj ρ cs)=(mkA cs).ins ρ:=by
 unfold mkA;cases h:qaf cs with
 |none=>rw[qBv cs h];rfl
 |some vs=>rw[qBu cs h];rfl
def qtM{k:K}{cs:Cu}{v:PV}(h:mkP k cs=some v):mkP k (PV.Aj ρ cs)=some (v.ins ρ):=by
 cases k with
 |none=>
  match cs,h with
  |[x],h=>cases h;rfl
 |some n=>
  simp only[mkP]at h⊢;rw[qnU];split at h
  ·rename_i e;rw[if_pos e];cases h;rw[qAD]
  ·cases h
def qpo(hρ:Sc ρ)(k:K)(v:PV):fits k (v.ins ρ)=fits k v:=by
 cases v with
 |d v=>
  cases v with
  |tok n=>
   show fits k (.d (ρ n))=fits k (.d (.tok n))
   have:=hρ n
   cases h:ρ n<;>first|exact absurd h (this _)|(cases k<;>rfl)
  |a cs=>cases k with
   |none=>rfl
   |some m=>show ((DV.Aj ρ cs).length==m)=(cs.length==m);rw[qcw]
  |_=>cases k<;>rfl
 |a cs=>cases k with
  |none=>rfl
  |some m=>show ((PV.Aj ρ cs).length==m)=(cs.length==m);rw[qnU]
 |_=>cases k<;>rfl
def qCF(hρ:Sc ρ){kv:K}{v:DV}{c:Nat}{k:K}{x:DV}(h:qch kv v c k=some x):qch kv (v.ins ρ) c k=some (x.ins ρ):=by
 unfold qch at h⊢;split at h
 ·rename_i e;rw[if_pos e];cases h;rfl
 ·rename_i e;rw[if_neg e];split at h
  ·rename_i e;rw[if_pos e,qrX hρ,<-qs0];exact qtJ h
  ·cases h
def qQL(hρ:Sc ρ){kv:K}{v:PV}{c:Nat}{k:K}{x:PV}(h:qcU kv v c k=some x):qcU kv (v.ins ρ) c k=some (x.ins ρ):=by
 unfold qcU at h⊢;split at h
 ·rename_i e;rw[if_pos e];cases h;rfl
 ·rename_i e;rw[if_neg e];split at h
  ·rename_i e;rw[if_pos e,qqp hρ,<-qBq];exact qtM h
  ·cases h
def qAj(hρ:Sc ρ){H:CP}{k:K}{p v:PV}(h:qbp H k p=some v):qbp (H.ins ρ) k (p.ins ρ)=some (v.ins ρ):=by
 unfold qbp at h;split at h
 ·rename_i o i c;simp only[PV.ins,qbp];rw[qgF];split at h
  ·rename_i kb w e;rw[e];simp only[Option.map,Obj.ins];split at h
   ·rename_i e;rw[if_pos e];exact qQL hρ h
   ·cases h
  ·rename_i kb ro es e;rw[e];simp only[Option.map,Obj.ins];rw[qsZ];split at h
   ·rename_i e' he;rw[he];simp only[Option.map];split at h
    ·rename_i x hx;rw[qCF hρ hx];cases h;rfl
    ·cases h
   ·cases h
  ·cases h
 ·rename_i w kv c;simp only[PV.ins,qbp];split at h
  ·rename_i x hx;rw[qCF hρ hx];cases h;rfl
  ·cases h
 ·cases h
def qKQ{off:Nat}{p v:PV}(h:qdq off p=some v):qdq off (p.ins ρ)=some (v.ins ρ):=by
 cases p<;>first|(cases h;rfl)|cases h
def qGu{off:Nat}{k:K}{p v:PV}(h:qes off k p=some v):qes off k (p.ins ρ)=some (v.ins ρ):=by
 unfold qes at h;split at h
 ·rename_i cs;simp only[PV.ins,DV.ins,qes];rw[qcw];split at h
  ·rename_i e;rw[if_pos e];split at h
   ·rename_i x hx;rw[<-qs0,qtJ hx];cases h;rfl
   ·cases h
  ·cases h
 ·rename_i cs;simp only[PV.ins,qes];rw[qnU];split at h
  ·rename_i e;rw[if_pos e,<-qBq];exact qtM h
  ·cases h
 ·cases h
def qBJ(l:Cu)(c:Nat)(xs:Cu):PV.Aj ρ (putAt l c xs)=putAt (PV.Aj ρ l) c (PV.Aj ρ xs):=by
 unfold putAt;simp only[qip,List.map_append,List.map_take,List.map_drop,zzo]
def qPp(l:Ct)(c:Nat)(xs:Ct):DV.Aj ρ (putAt l c xs)=putAt (DV.Aj ρ l) c (DV.Aj ρ xs):=by
 unfold putAt;simp only[qdF,List.map_append,List.map_take,List.map_drop,zzo]
def qwG(hρ:Sc ρ):∀(ps:CF (Nat×K×PV)) {z cs:Cu},qbS z ps=some cs->qbS (PV.Aj ρ z) (ps.map λx=>(x.1,x.2.1,x.2.2.ins ρ))=some (PV.Aj ρ cs)
 |[],z,cs,h=>by cases h;rfl
 | (off,k,v)::r,z,cs,h=>by
  simp only[qbS]at h;simp only[List.map,qbS];rw[qpo hρ,qnU];split at h
  ·rename_i e;rw[if_pos e,qqp hρ,<-qBJ];exact qwG hρ r h
  ·cases h
def qt7{H:CP}{v:PV}{x:DV}{os:Cy}(h:qaW H v=some (x,os)):qaW (H.ins ρ) (v.ins ρ)=some (x.ins ρ,os):=by
 unfold qaW at h;split at h
 ·cases h;rfl
 ·rename_i o k off len t;simp only[PV.ins,qaW];rw[qgF];split at h
  ·rename_i k' ro es e;rw[e];simp only[Option.map,Obj.ins];rw[qcw];split at h
   ·rename_i e;rw[if_pos e];cases h;simp only[DV.ins,qs0]
   ·cases h
  ·cases h
 ·cases h
def qt9{H:CP}:∀(l:Cu) {xs:Ct} {os:Cy},qcA H l=some (xs,os)->qcA (H.ins ρ) (PV.Aj ρ l)=some (DV.Aj ρ xs,os)
 |[],xs,os,h=>by cases h;rfl
 |v::r,xs,os,h=>by
  simp only[qcA]at h;split at h
  ·rename_i x os1 ys os2 e1 e2;cases h;simp only[PV.Aj,qcA];rw[qt7 e1,qt9 r e2];rfl
  ·cases h
def qua{H:CP}{v:PV}{x:DV}{os:Cy}(h:pur H v=some (x,os)):pur (H.ins ρ) (v.ins ρ)=some (x.ins ρ,os):=by
 unfold pur at h;split at h
 ·rename_i cs;simp only[PV.ins,pur];split at h
  ·rename_i xs os' e;rw[qt9 cs e];cases h;rfl
  ·cases h
 ·rename_i hn;have:pur (H.ins ρ) (v.ins ρ)=qaW (H.ins ρ) (v.ins ρ):=by
   cases v with
   |a cs=>exact absurd rfl (hn cs)
   |_=>rfl
  rw[this];exact qt7 h
def qw1(hρ:Sc ρ){H:CP}{k:K}:∀(ps:CF (Nat×PV)) {es es':Ct} {os:Cy},qbt H k es ps=some (es',os)->qbt (H.ins ρ) k (DV.Aj ρ es) (ps.map λx=>(x.1,x.2.ins ρ))=some (DV.Aj ρ es',os)
 |[],es,es',os,h=>by cases h;rfl
 | (j,v)::r,es,es',os,h=>by
  simp only[qbt]at h;simp only[List.map,qbt];rw[qpo hρ,qcw];split at h
  ·rename_i e;rw[if_pos e];split at h
   ·rename_i x os1 e1;rw[qua e1];simp only;have hs:(DV.Aj ρ es).set j (x.ins ρ)=DV.Aj ρ (es.set j x):=by rw[qdF,qdF,List.map_set]
    rw[hs];split at h
    ·rename_i es2 os2 e2;rw[qw1 hρ r e2];cases h;rfl
    ·cases h
   ·cases h
  ·cases h
def qGE(H:CP)(o:Nat):(qcM H o).ins ρ=qcM (H.ins ρ) o:=by
 unfold qcM;rw[qgF];cases h:H.obj o with
 |none=>rfl
 |some x=>cases x with
  |sl k ro es=>
   simp only[Option.map,Obj.ins];rw[qie,qcw];rfl
  |_=>rfl
def qps:∀(os:Cy) (H:CP),(frz H os).ins ρ=frz (H.ins ρ) os
 |[],_=>rfl
 |o::r,H=>by simp only[frz];rw[qps r,qGE]
end
section
variable {ρ:Nat->DV}
def qQJ(hρ:Sc ρ){H H':CP}{k:K}{p v:PV}(h:qby H k p v=some H'):qby (H.ins ρ) k (p.ins ρ) (v.ins ρ)=some (H'.ins ρ):=by
 unfold qby at h;split at h
 ·rename_i o i c;simp only[PV.ins,qby];rw[qpo hρ,qgF];split at h
  ·rename_i hf;rw[if_pos hf];split at h
   ·rename_i kb w e;rw[e];simp only[Option.map,Obj.ins];split at h
    ·rename_i e1;rw[if_pos e1];split at h
     ·rename_i e2;rw[if_pos e2];cases h;rw[qie];rfl
     ·rename_i e2;rw[if_neg e2,qqp hρ,qnU];split at h
      ·rename_i e3;rw[if_pos e3];split at h
       ·rename_i w' e4;rw[qqp hρ,<-qBJ,qtM e4];cases h;rw[qie];rfl
       ·cases h
      ·cases h
    ·cases h
   ·rename_i kb ro es e;rw[e];simp only[Option.map,Obj.ins];rw[qsZ];split at h
    ·rename_i x he;rw[he];simp only[Option.map];split at h
     ·rename_i e1;rw[if_pos e1];split at h
      ·rename_i y os e2;rw[qua e2];simp only;split at h
       ·cases h
       ·rename_i e3;rw[if_neg e3];split at h
        ·rename_i e4;rw[if_pos e4];cases h
         rw[qie,qps];simp only[Option.map,Obj.ins,qdF,List.map_set]
        ·rename_i e4;rw[if_neg e4,qrX hρ,qcw];split at h
         ·rename_i e5;rw[if_pos e5];split at h
          ·rename_i x' e6;rw[qrX hρ,<-qPp,qtJ e6];cases h
           rw[qie,qps];simp only[Option.map,Obj.ins,qdF,List.map_set]
          ·cases h
         ·cases h
      ·cases h
     ·cases h
    ·cases h
   ·cases h
  ·cases h
 ·cases h
def qJy{H:CP}{b:CG}{v:PV}{n:Nat}(h:qbB H b v=some n):qbB (H.ins ρ) b (v.ins ρ)=some n:=by
 unfold qbB at h;split at h
 ·simp only[PV.ins,DV.ins,qbB,qcw];exact h
 ·simp only[PV.ins,qbB];rw[qgF];split at h
  ·cases h
  ·rename_i hb;rw[if_neg hb];split at h
   ·rename_i k' ro es e;rw[e];simp only[Option.map,Obj.ins,qcw];exact h
   ·cases h
 ·exact h
 ·cases h
def qEW{v:PV}{n:Int}(h:asI v=some n):asI (v.ins ρ)=some n:=by
 unfold asI at h;split at h
 ·exact h
 ·cases h
def qHf{H:CP}{k:K}{x i p:PV}(h:Az H k x i=some p):Az (H.ins ρ) k (x.ins ρ) (i.ins ρ)=some (p.ins ρ):=by
 unfold Az at h;split at h
 ·cases h
 ·rename_i n hn;unfold Az;rw[qEW hn];simp only;split at h
  ·simp only[PV.ins,DV.ins,qcw];split at h
   ·rename_i j hj;try rw[hj]
    try simp only
    rw[qsZ];split at h
    ·rename_i e he;rw[he];simp only[Option.map];split at h
     ·rename_i e1;rw[if_pos e1];cases h;rfl
     ·cases h
    ·cases h
   ·cases h
  ·simp only[PV.ins];rw[qgF];split at h
   ·rename_i j k'' ro es hj ho;rw[hj,ho];simp only[Option.map,Obj.ins,qcw];split at h
    ·rename_i e1;rw[if_pos e1];cases h;rfl
    ·cases h
   ·cases h
  ·cases h
def IOp.par:IOp->CG
 |.mov _|.pick .. |.box .. |.load .. |.store .. |.Be .. |.field .. |.ext .. |.len .. |.Az .. =>true
 |.alloc _ z=>z.noT
 |.agg z _=>DV.noTL z
 |.bsl _ z _ _=>z.noT
 |.bin .. |.un .. |.eqb .. =>true
 |_=>false
def qE7{op:BinOp}{x y:PV}{v:DV}(h:qaI op x y=some v):qaI op (x.ins ρ) (y.ins ρ)=some v/\v.noT=true:=by
 unfold qaI at h;split at h
 ·refine⟨h,?_⟩;have h1:∀(op:BinOp) (k:IntKind) (a b:Int) (v:DV),qbN op k a b=some v->v.noT=true:=by
   intro op k a b v h;unfold qbN at h;split at h<;>(try split at h)<;>first|(cases h;rfl)|cases h
  have h2:∀(op:BinOp) (k:IntKind) (a b:Int) (v:DV),qjQ op k a b=some v->v.noT=true:=by
   intro op k a b v h;unfold qjQ at h;simp only at h;split at h
   ·cases h
   ·split at h<;>first|(cases h;rfl)|cases h
  split at h
  ·exact h2 _ _ _ _ _ h
  ·exact h2 _ _ _ _ _ h
  ·split at h
   ·exact h1 _ _ _ _ _ h
   ·cases h
 ·refine⟨h,?_⟩;unfold qkC at h;split at h<;>(try split at h)<;>first|(cases h;rfl)|cases h
 ·cases h
def qQ9{op:UnOp}{x:PV}{v:DV}(h:unA op x=some v):unA op (x.ins ρ)=some v/\v.noT=true:=by
 unfold unA at h;split at h
 ·refine⟨h,?_⟩;split at h<;>first|(cases h;rfl)|cases h
 ·refine⟨h,?_⟩;split at h<;>first|(cases h;rfl)|cases h
 ·cases h
def qjD{v:DV}(h:v.noT=true):(PV.d v).ins ρ=.d v:=by simp only[PV.ins];rw[qpM ρ v h]
def qOT(hρ:Sc ρ)(E:Env)(r:Ab->PV){H H':CP}{id:Nat}{op:IOp}{v:PV}(hp:op.par=true)(h:qaa E r H id op=some (v,H')):qaa E (λx=>(r x).ins ρ) (H.ins ρ) id op=some (v.ins ρ,H'.ins ρ):=by
 cases op<;>simp only[IOp.par,reduceCtorEq,zzg]at hp<;>simp only[qaa]at h⊢
 case mov=>cases h;rfl
 case pick c a b=>
  split at h
  ·rename_i e;rw[e];cases h;rfl
  ·rename_i e;rw[e];cases h;rfl
  ·cases h
 case alloc k z=>cases h;rw[qie];simp only[Option.map,Obj.ins,qjD hp];rfl
 case box k x=>
  rw[qpo hρ];split at h
  ·rename_i e;rw[if_pos e];cases h;rw[qie];rfl
  ·cases h
 case agg z ps=>
  split at h
  ·rename_i cs e;cases h
   have:=qwG hρ _ e
   rw[qt4,qpN ρ z hp,List.map_map]at this;have e2:(λx:Nat×K×PV=>(x.1,x.2.1,x.2.2.ins ρ))∘(λx:Nat×K×Ab=>(x.1,x.2.1,r x.2.2))=λx=>(x.1,x.2.1,(r x.2.2).ins ρ):=rfl
   rw[e2]at this;rw[this];simp only[qAD]
  ·cases h
 case bsl k z len ps=>
  split at h
  ·rename_i es os e;cases h
   have:=qw1 hρ _ e
   rw[qdF,List.map_replicate,qpM ρ z hp,List.map_map]at this;have e2:(λx:Nat×PV=>(x.1,x.2.ins ρ))∘(λx:Nat×Ab=>(x.1,r x.2))=λx=>(x.1,(r x.2).ins ρ):=rfl
   rw[e2]at this;rw[this];simp only;rw[qie,qps];rfl
  ·cases h
 case load k x=>
  cases e:qbp H k (r x)with
  |none=>rw[e]at h;cases h
  |some w=>rw[e]at h;cases h;rw[qAj hρ e];rfl
 case store k x y=>
  split at h
  ·rename_i H1 e;cases h;rw[qQJ hρ e];rfl
  ·cases h
 case bin op x y=>
  cases e:qaI op (r x) (r y)with
  |none=>rw[e]at h;cases h
  |some w=>rw[e]at h;cases h;have:=qE7 (ρ:=ρ) e;rw[this.1,qjD this.2];rfl
 case eqb neg x y=>
  split at h
  ·rename_i e1 e2;rw[e1,e2];cases h;rfl
  ·cases h
 case un op x=>
  cases e:unA op (r x)with
  |none=>rw[e]at h;cases h
  |some w=>rw[e]at h;cases h;have:=qQ9 (ρ:=ρ) e;rw[this.1,qjD this.2];rfl
 case Be off x=>
  cases e:qdq off (r x)with
  |none=>rw[e]at h;cases h
  |some w=>rw[e]at h;cases h;rw[qKQ e];rfl
 case field off k x=>
  cases e:qes off k (r x)with
  |none=>rw[e]at h;cases h
  |some w=>rw[e]at h;cases h;rw[qGu e];rfl
 case Az k x i=>
  cases e:Az H k (r x) (r i)with
  |none=>rw[e]at h;cases h
  |some w=>rw[e]at h;cases h;rw[qHf e];rfl
 case len s x=>
  split at h
  ·rename_i n e;rw[qJy e];cases h;rfl
  ·cases h
 case ext x i=>
  split at h
  ·rename_i vs e;rw[e];simp only[PV.ins];rw[qip,zzj];cases e2:vs[i]? with
   |none=>rw[e2]at h;cases h
   |some w=>rw[e2]at h;cases h;rfl
  ·cases h
