/- Part 15 of the proof. -/
import Derived.Test.YtmaaepdecdhmnaaGreatDoorHB3
set_option linter.all false
namespace Go.Sim
set_option maxRecDepth 100000
set_option maxHeartbeats 8000000
noncomputable section
def qnz(fr:Fr)(t:Nat):PV:=@List.rec (Nat×PV) (λ_=>PV) .u (λp _ ih=>@Prod.rec Nat PV (λ_=>PV) (λj v=>@Bool.rec (λ_=>PV) ih v (Nat.beq j t)) p) fr
def qmZ{j t:Nat}(h:¬j=t):Nat.beq j t=false:=by
 cases e:Nat.beq j t with
 |false=>rfl
 |true=>exact absurd (zzy e) h
def qth:∀fr t,qnz fr t=Fr.get fr t
 |[],t=>rfl
 | (j,v)::r,t=>by
  have ih:=qth r t
  show @Bool.rec (λ_=>PV) (qnz r t) v (Nat.beq j t)=_
  rw[ih,Fr.get];by_cases h:j=t
  ·subst h;rw[if_pos rfl,Nat.beq_refl]
  ·rw[if_neg h,qmZ h]
def qtn(fr:Fr)(t:Nat)(v:PV):Fr:=@List.rec (Nat×PV) (λ_=>Fr) [(t,v)] (λp r ih=>@Prod.rec Nat PV (λ_=>Fr) (λj x=>@Bool.rec (λ_=>Fr) (@Bool.rec (λ_=>Fr) ((j,x)::ih) ((t,v)::(j,x)::r) (Nat.ble (Nat.succ j) t)) ((t,v)::r) (Nat.beq j t)) p) fr
def qz4:∀fr t v,qtn fr t v=Fr.set fr t v
 |[],t,v=>rfl
 | (j,x)::r,t,v=>by
  have ih:=qz4 r t v
  show @Bool.rec (λ_=>Fr) (@Bool.rec (λ_=>Fr) ((j,x)::qtn r t v) ((t,v)::(j,x)::r) (Nat.ble (Nat.succ j) t)) ((t,v)::r) (Nat.beq j t)=_
  rw[ih,Fr.set];by_cases h:j=t
  ·subst h;rw[if_pos rfl,Nat.beq_refl]
  ·rw[if_neg h,qmZ h];show @Bool.rec (λ_=>Fr) _ _ (Nat.ble (Nat.succ j) t)=_
   by_cases h2:j<t
   ·rw[if_pos h2,Nat.ble_eq_true_of_le h2]
   ·rw[if_neg h2,Bool.eq_false_iff.2 (λe=>h2 (Nat.le_of_ble_eq_true e))]
def qpW(l:Cy)(j:Nat):CG:=@List.rec Nat (λ_=>CG) false (λx _ ih=>@Bool.rec (λ_=>CG) ih true (Nat.beq x j)) l
def qzV:∀l j,qpW l j=l.contains j
 |[],j=>rfl
 |x::r,j=>by
  have ih:=qzV r j
  show @Bool.rec (λ_=>CG) (qpW r j) true (Nat.beq x j)=_
  rw[ih,List.contains_cons];by_cases h:x=j
  ·subst h;rw[Nat.beq_refl];simp
  ·rw[qmZ h];have:(j==x)=false:=by simpa using λe=>h e.symm
   rw[this];rfl
def qnx(l:Cy)(fr:Fr):Fr:=@List.rec (Nat×PV) (λ_=>Fr) [] (λp _ ih=>@Prod.rec Nat PV (λ_=>Fr) (λj v=>@Bool.rec (λ_=>Fr) ((j,v)::ih) (@Bool.rec (λ_=>Fr) ((j,v)::ih) ih (Nat.ble (Nat.succ j) 100000)) (qpW l j)) p) fr
def qzE(l:Cy):∀fr,qnx l fr=Fr.drop l fr
 |[]=>rfl
 | (j,v)::r=>by
  have ih:=qzE l r
  show @Bool.rec (λ_=>Fr) ((j,v)::qnx l r) (@Bool.rec (λ_=>Fr) ((j,v)::qnx l r) (qnx l r) (Nat.blt j gh)) (qpW l j)=_
  rw[ih,Fr.drop,qzV];cases l.contains j<;>cases Nat.blt j gh<;>rfl
def qex{α β:Type}(f:α->β)(l:CF α):CF β:=@List.rec α (λ_=>CF β) [] (λx _ ih=>f x::ih) l
def qkZ{α β:Type}(f:α->β):∀l,qex f l=l.map f
 |[]=>rfl
 |x::r=>by show f x::qex f r=_;rw[qkZ f r];rfl
def qnw{α:Type}(l m:CF α):CF α:=@List.rec α (λ_=>CF α) m (λx _ ih=>x::ih) l
def qtd{α:Type}:∀(l m:CF α),qnw l m=l++m
 |[],m=>rfl
 |x::r,m=>by show x::qnw r m=_;rw[qtd r m];rfl
def qih{α:Type}(l:CF α):Nat:=@List.rec α (λ_=>Nat) 0 (λ_ _ ih=>Nat.succ ih) l
def qnC{α:Type}:∀(l:CF α),qih l=l.length
 |[]=>rfl
 |x::r=>by show Nat.succ (qih r)=_;rw[qnC r];rfl
def qtk{α:Type}(l:CF α):Nat->CE α:=@List.rec α (λ_=>Nat->CE α) (λ_=>none) (λx _ ih n=>@Nat.rec (λ_=>CE α) (some x) (λm _=>ih m) n) l
def qzY{α:Type}:∀(l:CF α) (n:Nat),qtk l n=l[n]?
 |[],n=>rfl
 |x::r,0=>rfl
 |x::r,n+1=>by show qtk r n=_;rw[qzY r n];rfl
def qtm{α:Type}(x:α)(n:Nat)(l:CF α):CF α:=@Nat.rec (λ_=>CF α) l (λ_ ih=>x::ih) n
def qz2{α:Type}(x:α)(l:CF α):∀n,qtm x n l=List.replicate n x++l
 |0=>rfl
 |n+1=>by show x::qtm x n l=_;rw[qz2 x l n];rfl
def qtl(H:CP)(o:Nat):CE Obj:=@Option.rec (CE Obj) (λ_=>CE Obj) none (λx=>x) (qtk H o)
def qJk(H:CP)(o:Nat):qtl H o=Heap.obj H o:=by
 unfold qtl Heap.obj;rw[qzY];cases H[o]? <;> rfl
def krd(E:Env)(fr:Fr)(x:Ab):PV:=@Ab.rec (λ_=>PV) (λt=>qnz fr t) (λv=>.d v) (λn=>match E.G n with|some (v,k)=>.q v k 0|none=>.u) (λn=>.f n []) x
def qz1(E:Env)(fr:Fr):krd E fr=rd E fr:=by
 funext x
 cases x with
 |t n=>exact qth fr n
 |c v=>rfl
 |f n=>rfl
 |g n=>simp only[krd,rd];cases E.G n<;>rfl
def qzU:CP->K->PV->CE PV:=qbp
def qz5:CP->K->PV->PV->CE CP:=qby
def qzR:CP->K->PV->PV->CE PV:=Az
def qzC:BinOp->PV->PV->CE DV:=qaI
def qzW:Nat->PV->CE PV:=qdq
def qzT:CP->CG->PV->CE Nat:=qbB
abbrev KOf:=Env->Fr->CP->Nat->CB
def k_o(op:IOp):KOf:=λE fr H id=>qaa E (krd E fr) H id op
def qzv(x:Ab):KOf:=λE fr H _=>some (krd E fr x,H)
def qzw(c:Ab)(a:Ab)(b:Ab):KOf:=λE fr H _=>match krd E fr c with
  |.d (.b true)=>some (krd E fr a,H)
  |.d (.b false)=>some (krd E fr b,H)
  |_=>none
def qzf(k:K)(z:DV):KOf:=λ_ _ H id=>some (.p id 0 0,H.put id (some (.box k (.d z))))
def qzi(k:K)(x:Ab):KOf:=λE fr H id=>if fits k (krd E fr x)then some (.p id 0 0,H.put id (some (.box k (krd E fr x))))else none
def qze(z:Ct)(parts:CF (Nat×K×Ab)):KOf:=λE fr H _=>match qbS (z.map .d) (parts.map λx=>(x.1,x.2.1,krd E fr x.2.2))with
  |some cs=>some (mkA cs,H)
  |none=>none
def qzj(k:K)(z:DV)(len:Nat)(parts:CF (Nat×Ab)):KOf:=λE fr H id=>match qbt H k (List.replicate len z) (parts.map λx=>(x.1,krd E fr x.2))with
  |some (es,os)=>some (.r id k 0 len true,(frz H os).put id (some (.sl k 0 es)))
  |none=>none
def qzu(k:K)(x:Ab):KOf:=λE fr H _=>opt (qzU H k (krd E fr x)) H
def qzz(k:K)(x:Ab)(y:Ab):KOf:=λE fr H _=>match qz5 H k (krd E fr x) (krd E fr y)with|some H'=>some (.u,H')|none=>none
def qzh(op:BinOp)(x:Ab)(y:Ab):KOf:=λE fr H _=>qez (qzC op (krd E fr x) (krd E fr y)) H
def qzn(neg:CG)(n:Cy)(x:Ab)(y:Ab):KOf:=λE fr H _=>match eqA n (krd E fr x) (krd E fr y)with
  |some e=>some (.d (.b (if neg then !e else e)),H)
  |none=>none
def qzm(neg:CG)(x:Ab)(y:Ab):KOf:=λE fr H _=>match krd E fr x,krd E fr y with
  |.d (.b a),.d (.b b)=>some (.d (.b (if neg then !(a==b)else a==b)),H)
  |_,_=>none
def qzs(neg:CG)(kd:Nat)(x:Ab):KOf:=λE fr H _=>match qdr kd (krd E fr x)with|some b=>some (.d (.b (if neg then !b else b)),H)|none=>none
def qzA(op:UnOp)(x:Ab):KOf:=λE fr H _=>qez (unA op (krd E fr x)) H
def qzl(k:IntKind)(x:Ab):KOf:=λE fr H _=>match krd E fr x with|.d (.i _ n)=>some (.d (.i k (k.wrap n)),H)|_=>none
def qzy(x:Ab)(lo:CE Ab)(hi:CE Ab):KOf:=λE fr H _=>match krd E fr x with
  |.d (.s s)=>match bnd s.length s.length (hi.map (krd E fr))with
   |some h=>match bnd 0 h (lo.map (krd E fr))with
    |some l=>some (.d (.s ((s.take h).drop l)),H)
    |none=>none
   |none=>none
  |_=>none
def qzx(k:K)(x:Ab)(lo:CE Ab)(hi:CE Ab)(mx:CE Ab):KOf:=λE fr H _=>opt (slA H k (krd E fr x) (lo.map (krd E fr)) (hi.map (krd E fr)) (mx.map (krd E fr))) H
def qzp(off:Nat)(x:Ab):KOf:=λE fr H _=>opt (qzW off (krd E fr x)) H
def qzq(k:K)(x:Ab)(i:Ab):KOf:=λE fr H _=>opt (qzR H k (krd E fr x) (krd E fr i)) H
def qzr(x:Ab)(i:Ab):KOf:=λE fr H _=>match krd E fr x,asI (krd E fr i)with
  |.d (.s s),some n=>if 0<=n then match s[n.toNat]? with
   |some b=>some (.d (.i .u8 b.toNat),H)
   |none=>none
   else none
  |_,_=>none
def qzt(str:CG)(x:Ab):KOf:=λE fr H _=>match qzT H str (krd E fr x)with|some n=>some (.d (.i .i64 n),H)|none=>none
def qzg(k:K)(bytes:Nat)(x:Ab)(y:Ab):KOf:=λE fr H id=>qbU H id k bytes (krd E fr x) (krd E fr y)
def qta(f:Nat)(args:CF Ab):KOf:=λE fr H _=>match qaK H (qex (krd E fr) args)with
  |some (ds,os)=>match E.val f ds with
   |some (r,_)=>some (r,if os.isEmpty||r.AX then H else frz H os)
   |none=>none
  |none=>none
def qtb(f:Nat)(args:CF Ab):KOf:=λE fr H id=>match qaK H (qex (krd E fr) args)with
  |some (ds,os)=>match E.val f ds with
   |some (.d (.l k es _),true)=>some (.r id k 0 es.length false,(if os.isEmpty then H else frz H os).put id (some (.sl k 0 es)))
   |_=>none
  |none=>none
def qtc(f:Nat)(args:CF Ab):KOf:=λE fr H _=>E.ref f (qex (krd E fr) args) H
def qI3(mode f:Nat)(args:CF Ab):KOf:=@Nat.rec (λ_=>KOf) (qta f args) (λm _=>@Nat.rec (λ_=>KOf) (qtb f args) (λ_ _=>qtc f args) m) mode
def qzk(x:Ab)(args:CF Ab):KOf:=λE fr H _=>match krd E fr x with
  |.f n caps=>match (if caps.isEmpty then qaf (qex (krd E fr) args)else none)with
   |some ds=>match E.val n ds with
    |some (r,_)=>some (r,H)
    |none=>none
   |none=>E.ref n (qex (krd E fr) args++caps) H
  |.m n firsts=>match qaf (firsts++qex (krd E fr) args)with
   |some ds=>match E.val n ds with
    |some (r,_)=>some (r,H)
    |none=>none
   |none=>E.ref n (firsts++qex (krd E fr) args) H
  |.h o=>E.yld o (qex (krd E fr) args) H
  |_=>none
def qzo(x:Ab)(i:Nat):KOf:=λE fr H _=>match krd E fr x with
  |.t vs=>opt vs[i]? H
  |_=>none
def kop(op:IOp):KOf:=@IOp.rec (λ_=>KOf) qzv qzw qzf qzi qze qzj qzu qzz qzh qzn qzm qzs qzA qzl qzy qzx qzp (λa b c=>k_o (.field a b c)) qzq (λa b c d=>k_o (.BM a b c d)) qzr (λa b c d=>k_o (.idxA a b c d)) qzt qzg qI3 qzk qzo (λa b=>k_o (.mkf a b)) (λa b=>k_o (.mkm a b)) (λa b=>k_o (.prim a b)) (λa=>k_o (.BQ a)) (λa b c d e=>k_o (.mksl a b c d e)) (λa b=>k_o (.minmax a b)) (λa b c=>k_o (.copy a b c)) (λa b c=>k_o (.clr a b c)) (λa b=>k_o (.mkif a b)) (λa b c d=>k_o (.tas a b c d)) (λa b c=>k_o (.invk a b c)) (k_o .Bz) (λa b c d e=>k_o (.mget a b c d e)) (λa b c d=>k_o (.mset a b c d)) (λa b c=>k_o (.mdel a b c)) (λa=>k_o (.mlen a)) (λa=>k_o (.rngS a)) (λa=>k_o (.nxt a)) (λa=>k_o (.sb a)) (λa=>k_o (.bs a)) (λa b=>k_o (.dfr a b)) (k_o .bad) op
def qJl(op:IOp)(E:Env)(fr:Fr)(H:CP)(id:Nat):kop op E fr H id=qaa E (rd E fr) H id op:=by
 rw[<-qz1];have ko:qtl=Heap.obj:=by funext H o;exact qJk H o
 cases op with
 |call m f args=>match m with
  |0=>show qta f args E fr H id=_;simp only[qta,qaa,qkZ,ko]<;>rfl
  |1=>show qtb f args E fr H id=_;simp only[qtb,qaa,qkZ,ko]<;>rfl
  |m+2=>show qtc f args E fr H id=_;simp only[qtc,qaa,qkZ,ko]<;>rfl
 |_=>simp only[kop,k_o,qzv,qzw,qzf,qzi,qze,qzj,qzu,qzz,qzh,qzn,qzm,qzs,qzA,qzl,qzy,qzx,qzp,qzq,qzr,qzt,qzg,qzk,qzo,qaa,qkZ,ko,qzU,qz5,qzR,qzC,qzW,qzT]<;>rfl
def qpU(d:CE Nat)(fr:Fr)(v:PV):Fr:=@Option.rec Nat (λ_=>Fr) fr (λt=>qtn fr t v) d
abbrev KCf:=Env->Nat->Fr->CP->CE St
def qpS(op:IOp)(id:Nat):Nat:=@Bool.rec (λ_=>Nat) id (Nat.succ id) op.adds
def kgo(dst:CE Nat)(op:IOp)(ih:KCf)(E:Env)(id:Nat)(fr:Fr)(H:CP):CE St:=@Option.rec (PV×CP) (λ_=>CE St) none (λp=>@Prod.rec PV CP (λ_=>CE St) (λv H'=>ih E (qpS op id) (qpU dst fr v) H') p) (kop op E fr H id)
def kno(dst:CE Nat)(op:IOp)(ih:KCf)(E:Env)(id:Nat)(fr:Fr)(H:CP):CE St:=ih E (qpS op id) (qpU dst fr (.t [])) H
def qzQ(v:PV)(want:CG)(go no:CE St):CE St:=match v with
 |.d (.b b)=>if b==want then go else no
 |.t []=>no
 |_=>none
def qto(dst:CE Nat)(op:IOp)(g:CE (Nat×CG))(ih:KCf)(E:Env)(id:Nat)(fr:Fr)(H:CP):CE St:=
 @Option.rec (Nat×CG) (λ_=>CE St) (kgo dst op ih E id fr H) (λp=>@Prod.rec Nat CG (λ_=>CE St) (λt want=>qzQ (qnz fr t) want (kgo dst op ih E id fr H) (kno dst op ih E id fr H)) p) g
def qk1(l:CF Ao):KCf:=@List.rec Ao (λ_=>KCf) (λ_ _ fr H=>some ⟨fr,H⟩) (λo _ ih=>@Ao.rec (λ_=>KCf) (λdst op g=>qto dst op g ih) o) l
def qqJ(d:CE Nat)(fr:Fr)(v:PV):Fr:=match d with|some t=>fr.set t v|none=>fr
def qzZ(E:Env):∀(l:CF Ao) (id:Nat) (fr:Fr) (H:CP),qk1 l E id fr H=qaM E l id ⟨fr,H⟩
 |[],id,fr,H=>rfl
 |⟨dst,op,g⟩::r,id,fr,H=>by
  have ih:=qzZ E r
  have hadd:qpS op id=if op.adds then id+1 else id:=by unfold qpS;cases op.adds<;>rfl
  have hd:∀v,qpU dst fr v=qqJ dst fr v:=by intro v;cases dst<;>simp[qpU,qz4,qqJ]
  have hgo:kgo dst op (qk1 r) E id fr H=match qaa E (rd E fr) H id op with|some (v,H')=>qaM E r (if op.adds then id+1 else id) ⟨qqJ dst fr v,H'⟩|none=>none:=by
   unfold kgo;rw[qJl];cases h:qaa E (rd E fr) H id op with
   |none=>rfl
   |some p=>obtain⟨v,H'⟩:=p;show qk1 r E _ _ _=_;rw[ih,hadd,hd]
  have hno:kno dst op (qk1 r) E id fr H=qaM E r (if op.adds then id+1 else id) ⟨qqJ dst fr (.t []),H⟩:=by
   unfold kno;rw[ih,hadd,hd]
  show qto dst op g (qk1 r) E id fr H=_
  unfold qto;rw[qaM,hgo,hno];cases g with
  |none=>cases dst<;>rfl
  |some p=>
   obtain⟨t,want⟩:=p;show qzQ (qnz fr t) want _ _=_
   rw[qth];cases dst<;>rfl
def qpX(ops:CF Ao)(kill:Cy)(E:Env)(fr:Fr)(H:CP):CE St:=@Option.rec St (λ_=>CE St) none (λs=>@St.rec (λ_=>CE St) (λfr' H'=>some ⟨qnx kill fr',H'⟩) s) (qk1 ops E (qih H) fr (qnw H (qtm none (qao ops) [])))
def qJn(ops:CF Ao)(kill:Cy)(E:Env)(fr:Fr)(H:CP):qpX ops kill E fr H=qcu E ops kill ⟨fr,H⟩:=by
 unfold qpX qcu;rw[qzZ,qnC,qtd,qz2,List.append_nil];cases qaM E ops H.length ⟨fr,H++List.replicate (qao ops) none⟩with
 |none=>rfl
 |some s=>obtain⟨fr',H'⟩:=s;show some _=_;rw[qzE]
abbrev KR:=Env->((St->Res)->St->Res)->Nat->Fr->CP->Res
def qz6(r:Res)(f:Fr->CP->Res):Res:=@Option.rec (Ex×St) (λ_=>Res) none (λp=>@Prod.rec Ex St (λ_=>Res) (λe s=>@Ex.rec (λ_=>Res) (@St.rec (λ_=>Res) f s) (λj=>some (.exit j,s)) (some (.ret,s)) e) p) r
def qJd:KR:=λ_ _ _ fr H=>some (.norm,⟨fr,H⟩)
def qI8(ops:CF Ao)(kill:Cy):KR:=λE _ _ fr H=>@Option.rec St (λ_=>Res) none (λs=>some (.norm,s)) (qpX ops kill E fr H)
def qI9(ops:CF Ao)(bf kill:Cy):KR:=λE _ _ fr H=>match qc4 E ops bf kill ⟨fr,H⟩with|some s'=>some (.norm,s')|none=>none
def qJc(_ _:PC)(a b:KR):KR:=λE lp base fr H=>qz6 (a E lp base fr H) λfr H=>b E lp base fr H
def qte(c:Ab)(_ _:PC)(x y:KR):KR:=λE lp base fr H=>match krd E fr c with
 |.d (.b true)=>x E lp base fr H
 |.d (.b false)=>y E lp base fr H
 |_=>none
def qzD(id:Nat)(r:Res):Res:=@Option.rec (Ex×St) (λ_=>Res) none (λp=>@Prod.rec Ex St (λ_=>Res) (λe s=>@Ex.rec (λ_=>Res) (some (.norm,s)) (λj=>@Bool.rec (λ_=>Res) (some (.exit j,s)) (some (.norm,s)) (Nat.beq j id)) (some (.ret,s)) e) p) r
def qI5(id:Nat)(_:PC)(x:KR):KR:=λE lp base fr H=>qzD id (x E lp base fr H)
def qz3(live:Cy)(x:KR)(E:Env)(lp:(St->Res)->St->Res)(base:Nat)(s:St):Res:=@St.rec (λ_=>Res) (λfr H=>x E lp base fr H) (gc live base s)
def qI7(live:Cy)(_:PC)(x:KR):KR:=λE lp base fr H=>lp (qz3 live x E lp base) ⟨fr,H⟩
def qJb(f:Ab)(g:Nat)(ps live:Cy)(a x:PC)(_ _:KR):KR:=λE lp base fr H=>qah E lp base (.rng f g ps live a x) ⟨fr,H⟩
def qI6(id:Nat):KR:=λ_ _ _ fr H=>some (.exit id,⟨fr,H⟩)
def qJa:KR:=λ_ _ _ fr H=>some (.ret,⟨fr,H⟩)
def qI4:KR:=λ_ _ _ _ _=>none
def kev(c:PC):KR:=@PC.rec (λ_=>KR) qJd qI8 qI9 qJc qte qI5 qI7 qJb qI6 qJa qI4 c
def qJe(E:Env)(lp:(St->Res)->St->Res)(base:Nat):∀(c:PC) (fr:Fr) (H:CP),kev c E lp base fr H=qah E lp base c ⟨fr,H⟩:=by
 intro c;induction c with
 |skip=>intro fr H;rfl
 |reg ops kill=>
  intro fr H;show @Option.rec St (λ_=>Res) none (λs=>some (.norm,s)) (qpX ops kill E fr H)=_
  rw[qJn,qah];cases qcu E ops kill ⟨fr,H⟩<;>rfl
 |A7 ops bf kill=>intro fr H;rfl
 |seq a b iha ihb=>
  intro fr H;show qz6 (kev a E lp base fr H) (λfr H=>kev b E lp base fr H)=_
  rw[iha,qah];cases qah E lp base a ⟨fr,H⟩with
  |none=>rfl
  |some p=>
   obtain⟨e,s⟩:=p;cases e with
   |norm=>obtain⟨fr',H'⟩:=s;exact ihb fr' H'
   |exit j=>rfl
   |ret=>rfl
 |cond c x y ihx ihy=>
  intro fr H;show qte c x y (kev x) (kev y) E lp base fr H=_
  unfold qte;rw[qz1,qah,ihx,ihy];rfl
 |block id x ih=>
  intro fr H;show qzD id (kev x E lp base fr H)=_
  rw[ih,qah];cases qah E lp base x ⟨fr,H⟩with
  |none=>rfl
  |some p=>
   obtain⟨e,s⟩:=p;cases e with
   |norm=>rfl
   |exit j=>
    show @Bool.rec (λ_=>Res) (some (.exit j,s)) (some (.norm,s)) (Nat.beq j id)=if j==id then _ else _
    have:(j==id)=Nat.beq j id:=by by_cases h:j=id; · { subst h;rw[Nat.beq_refl];simp }; · { rw[qmZ h];simpa using h }
    rw[this];cases Nat.beq j id<;>rfl
   |ret=>rfl
 |loop live x ih=>
  intro fr H;show lp (qz3 live (kev x) E lp base) ⟨fr,H⟩=_
  rw[qah];congr 1
  funext s
  exact ih _ _
 |rng f g ps live a x iha ihx=>intro fr H;rfl
 |exit id=>intro fr H;rfl
 |ret=>intro fr H;rfl
 |bad=>intro fr H;rfl
def klp(n:Nat):(St->Res)->St->Res:=@Nat.rec (λ_=>(St->Res)->St->Res) (λ_ _=>none) (λ_ ih f s=>@Option.rec (Ex×St) (λ_=>Res) none (λp=>@Prod.rec Ex St (λ_=>Res) (λe s'=>@Ex.rec (λ_=>Res) (ih f s') (λj=>some (.exit j,s')) (some (.ret,s')) e) p) (f s)) n
def qtj:∀n,klp n=lpN n
 |0=>rfl
 |n+1=>by
  funext f s
  have ih:=qtj n
  show @Option.rec (Ex×St) (λ_=>Res) none (λp=>@Prod.rec Ex St (λ_=>Res) (λe s'=>@Ex.rec (λ_=>Res) (klp n f s') (λj=>some (.exit j,s')) (some (.ret,s')) e) p) (f s)=_
  rw[ih,lpN];cases f s with
  |none=>rfl
  |some p=>obtain⟨e,s'⟩:=p;cases e<;>rfl
def qzO(E:Env)(rs:CF RV)(s:St):CB:=match Bo E (qan s.fr) s.H with
   |some H'=>match results s.fr H' rs with
    |some vs=>some (qa5 vs,H')
    |none=>none
   |none=>none
def qtf(E:Env)(rs:CF RV)(r:Res):CB:=@Option.rec (Ex×St) (λ_=>CB) none (λp=>@Prod.rec Ex St (λ_=>CB) (λe s=>@Ex.rec (λ_=>CB) (qzO E rs s) (λ_=>none) (qzO E rs s) e) p) r
def qpT:Cu->Nat->Fr:=λl=>@List.rec PV (λ_=>Nat->Fr) (λ_=>[]) (λv _ ih j=>qnw (ih (Nat.succ j)) [(j,v)]) l
def qzB:∀(l:Cu) (j:Nat),qpT l j=Fr.Aa j l
 |[],j=>rfl
 |v::r,j=>by show qnw (qpT r (j+1)) [(j,v)]=_;rw[qtd,qzB r,Fr.Aa]
def kfn(E:Env)(lp:(St->Res)->St->Res)(F:PF)(args:Cu)(H:CP):CB:=@PF.rec (λ_=>CB) (λBp rs body=>@Bool.rec (λ_=>CB) none (qtf E rs (kev body E lp (qih H) (qpT args 0) H)) (Nat.beq (qih args) Bp)) F
def qzP(E:Env)(lp:(St->Res)->St->Res)(F:PF)(args:Cu)(H:CP):kfn E lp F args H=qbb E lp F args H:=by
 obtain⟨Bp,rs,body⟩:=F;show @Bool.rec (λ_=>CB) none (qtf E rs (kev body E lp (qih H) (qpT args 0) H)) (Nat.beq (qih args) Bp)=_
 rw[qnC,qnC,qJe,qzB];unfold qbb;by_cases h:args.length=Bp
 ·rw[if_pos h,h,Nat.beq_refl];show qtf E rs (qah E lp H.length body ⟨Fr.Aa 0 args,H⟩)=_
  cases qah E lp H.length body ⟨Fr.Aa 0 args,H⟩with
  |none=>rfl
  |some p=>obtain⟨e,s⟩:=p;cases e<;>rfl
 ·rw[if_neg h,qmZ h]
abbrev KY:=Nat->Cu->CP->CB
structure KP where
 it:KY->KY
 val:Nat->List DV->Option (PV×Bool)
def qti(E:Env)(lp:(St->Res)->St->Res)(args:Cu)(H:CP)(F:PF):CB:=@Option.rec (PV×CP) (λ_=>CB) none (λp=>@Prod.rec PV CP (λ_=>CB) (λv H'=>some (gcV (qih H) v H')) p) (kfn E lp F args H)
def kit(T:Tab)(n:Nat)(P:KP)(Y:KY)(f:Nat)(args:Cu)(H:CP):CB:=@Option.rec PF (λ_=>CB) (T.R f args H) (qti ⟨T.G,P.it noY,P.val,Y,P.it,T.dok⟩ (klp n) args H) (T.F f)
def qtq(E:Env)(lp:(St->Res)->St->Res)(args:Ct)(F:PF):Cz:=@Option.rec (PV×CP) (λ_=>Cz) none (λp=>@Prod.rec PV CP (λ_=>Cz) (λv H'=>AJ H' v) p) (kfn E lp F (qex .d args) [])
def qtp(T:Tab)(n:Nat)(P:KP)(f:Nat)(args:Ct):Cz:=@Option.rec PF (λ_=>Cz) (T.X f args) (qtq ⟨T.G,P.it noY,P.val,noY,P.it,T.dok⟩ (klp n) args) (T.F f)
def kN(T:Tab)(n:Nat):KP:=@Nat.rec (λ_=>KP) ⟨λ_ _ _ _=>none,λ_ _=>none⟩ (λn P=>⟨kit T n P,qtp T n P⟩) n
def qs7(T:Tab):∀n,(kN T n).it=itN T n/\(kN T n).val=qcF T n
 |0=>⟨by funext Y f a H;rw[itN];rfl,by funext f a;rw[qcF];rfl⟩
 |n+1=>by
  obtain⟨h1,h2⟩:=qs7 T n;constructor
  ·funext Y f a H
   show kit T n (kN T n) Y f a H=_
   rw[qdG];unfold kit;cases T.F f with
   |none=>rfl
   |some F=>
    show qti _ (klp n) a H F=_
    unfold qti;rw[h1,h2,qtj,qzP,qnC];show @Option.rec (PV×CP) (λ_=>CB) none _ (qbb (Bb T n Y) (lpN n) F a H)=_
    dsimp only
    cases qbb (Bb T n Y) (lpN n) F a H with
    |none=>rfl
    |some p=>rfl
  ·funext f a
   show qtp T n (kN T n) f a=_
   rw[qiD];unfold qtp;cases T.F f with
   |none=>rfl
   |some F=>
    show qtq _ (klp n) a F=_
    unfold qtq;rw[h1,h2,qtj,qzP,qkZ];show @Option.rec (PV×CP) (λ_=>Cz) none _ (qbb (qb3 T n) (lpN n) F (a.map .d) [])=_
    dsimp only
    cases qbb (qb3 T n) (lpN n) F (a.map .d) []with
    |none=>rfl
    |some p=>rfl
def qjY{T:Tab}{f:Nat}{args:Ct}{r:PV×CG}(n:Nat)(h:(kN T n).val f args=some r):T.val f args=some r:=(qlq T f args r).2 ⟨n,by rw[<-(qs7 T n).2];exact h⟩
