/- Part 15 of the proof. -/
import Derived.Test.YtpfeklkomlghlaaGreatDoorB3
set_option linter.all false
namespace Go.Sim
set_option maxRecDepth 100000
set_option maxHeartbeats 8000000
noncomputable section
def qm9(fr:Fr)(t:Nat):PV:=@List.rec (Nat×PV) (λ_=>PV) .u (λp _ ih=>@Prod.rec Nat PV (λ_=>PV) (λj v=>@Bool.rec (λ_=>PV) ih v (Nat.beq j t)) p) fr
def qmA{j t:Nat}(h:¬j=t):Nat.beq j t=false:=by
 cases e:Nat.beq j t with
 |false=>rfl
 |true=>exact absurd (zzy e) h
def qs1:∀fr t,qm9 fr t=Fr.get fr t
 |[],t=>rfl
 | (j,v)::r,t=>by
  have ih:=qs1 r t;show @Bool.rec (λ_=>PV) (qm9 r t) v (Nat.beq j t)=_;rw[ih,Fr.get];by_cases h:j=t
  ·subst h;rw[if_pos rfl,Nat.beq_refl]
  ·rw[if_neg h,qmA h]
def qs7(fr:Fr)(t:Nat)(v:PV):Fr:=@List.rec (Nat×PV) (λ_=>Fr) [(t,v)] (λp r ih=>@Prod.rec Nat PV (λ_=>Fr) (λj x=>@Bool.rec (λ_=>Fr) (@Bool.rec (λ_=>Fr) ((j,x)::ih) ((t,v)::(j,x)::r) (Nat.ble (Nat.succ j) t)) ((t,v)::r) (Nat.beq j t)) p) fr
def qzQ:∀fr t v,qs7 fr t v=Fr.set fr t v
 |[],t,v=>rfl
 | (j,x)::r,t,v=>by
  have ih:=qzQ r t v;show @Bool.rec (λ_=>Fr) (@Bool.rec (λ_=>Fr) ((j,x)::qs7 r t v) ((t,v)::(j,x)::r) (Nat.ble (Nat.succ j) t)) ((t,v)::r) (Nat.beq j t)=_;rw[ih,Fr.set];by_cases h:j=t
  ·subst h;rw[if_pos rfl,Nat.beq_refl]
  ·rw[if_neg h,qmA h];show @Bool.rec (λ_=>Fr) _ _ (Nat.ble (Nat.succ j) t)=_;by_cases h2:j<t
   ·rw[if_pos h2,Nat.ble_eq_true_of_le h2]
   ·rw[if_neg h2,Bool.eq_false_iff.2 (λe=>h2 (Nat.le_of_ble_eq_true e))]
def qpF(l:CF)(j:Nat):CO:=@List.rec Nat (λ_=>CO) false (λx _ ih=>@Bool.rec (λ_=>CO) ih true (Nat.beq x j)) l
def qzH:∀l j,qpF l j=l.contains j
 |[],j=>rfl
 |x::r,j=>by
  have ih:=qzH r j;show @Bool.rec (λ_=>CO) (qpF r j) true (Nat.beq x j)=_;rw[ih,List.contains_cons];by_cases h:x=j
  ·subst h;rw[Nat.beq_refl];simp
  ·rw[qmA h];have:(j==x)=false:=by simpa using λe=>h e.symm
   rw[this];rfl
def qm7(l:CF)(fr:Fr):Fr:=@List.rec (Nat×PV) (λ_=>Fr) [] (λp _ ih=>@Prod.rec Nat PV (λ_=>Fr) (λj v=>@Bool.rec (λ_=>Fr) ((j,v)::ih) (@Bool.rec (λ_=>Fr) ((j,v)::ih) ih (Nat.ble (Nat.succ j) 100000)) (qpF l j)) p) fr
def qzq(l:CF):∀fr,qm7 l fr=Fr.drop l fr
 |[]=>rfl
 | (j,v)::r=>by have ih:=qzq l r;show @Bool.rec (λ_=>Fr) ((j,v)::qm7 l r) (@Bool.rec (λ_=>Fr) ((j,v)::qm7 l r) (qm7 l r) (Nat.blt j gh)) (qpF l j)=_;rw[ih,Fr.drop,qzH];cases l.contains j<;>cases Nat.blt j gh<;>rfl
def qeA{α β:Type}(f:α->β)(l:CL α):CL β:=@List.rec α (λ_=>CL β) [] (λx _ ih=>f x::ih) l
def qkS{α β:Type}(f:α->β):∀l,qeA f l=l.map f
 |[]=>rfl
 |x::r=>by show f x::qeA f r=_;rw[qkS f r];rfl
def qm6{α:Type}(l m:CL α):CL α:=@List.rec α (λ_=>CL α) m (λx _ ih=>x::ih) l
def qsX{α:Type}:∀(l m:CL α),qm6 l m=l++m
 |[],m=>rfl
 |x::r,m=>by show x::qm6 r m=_;rw[qsX r m];rfl
def qh5{α:Type}(l:CL α):Nat:=@List.rec α (λ_=>Nat) 0 (λ_ _ ih=>Nat.succ ih) l
def qnc{α:Type}:∀(l:CL α),qh5 l=l.length
 |[]=>rfl
 |x::r=>by show Nat.succ (qh5 r)=_;rw[qnc r];rfl
def qs4{α:Type}(l:CL α):Nat->CK α:=@List.rec α (λ_=>Nat->CK α) (λ_=>none) (λx _ ih n=>@Nat.rec (λ_=>CK α) (some x) (λm _=>ih m) n) l
def qzK{α:Type}:∀(l:CL α) (n:Nat),qs4 l n=l[n]?
 |[],n=>rfl
 |x::r,0=>rfl
 |x::r,n+1=>by show qs4 r n=_;rw[qzK r n];rfl
def qs6{α:Type}(x:α)(n:Nat)(l:CL α):CL α:=@Nat.rec (λ_=>CL α) l (λ_ ih=>x::ih) n
def qzO{α:Type}(x:α)(l:CL α):∀n,qs6 x n l=List.replicate n x++l
 |0=>rfl
 |n+1=>by show x::qs6 x n l=_;rw[qzO x l n];rfl
def qs5(H:CW)(o:Nat):CK Obj:=@Option.rec (CK Obj) (λ_=>CK Obj) none (λx=>x) (qs4 H o)
def qIW(H:CW)(o:Nat):qs5 H o=Heap.obj H o:=by unfold qs5 Heap.obj;rw[qzK];cases H[o]? <;> rfl
def krd(E:Env)(fr:Fr)(x:Ab):PV:=@Ab.rec (λ_=>PV) (λt=>qm9 fr t) (λv=>.d v) (λn=>match E.G n with|some (v,k)=>.q v k 0|none=>.u) (λn=>.f n []) x
def qzN(E:Env)(fr:Fr):krd E fr=rd E fr:=by
 funext x;cases x with
 |t n=>exact qs1 fr n
 |c v=>rfl
 |f n=>rfl
 |g n=>simp only[krd,rd];cases E.G n<;>rfl
def qzG:CW->K->PV->CK PV:=qbT
def qzR:CW->K->PV->PV->CK CW:=qbY
def qzD:CW->K->PV->PV->CK PV:=AJ
def qzo:BinOp->PV->PV->CK DV:=qaL
def qzI:Nat->PV->CK PV:=qdJ
def qzF:CW->CO->PV->CK Nat:=qbZ
abbrev KOf:=Env->Fr->CW->Nat->CJ
def k_o(op:IOp):KOf:=λE fr H id=>qaa E (krd E fr) H id op
def qzh(x:Ab):KOf:=λE fr H _=>some (krd E fr x,H)
def qzi(c:Ab)(a:Ab)(b:Ab):KOf:=λE fr H _=>match krd E fr c with
  |.d (.b true)=>some (krd E fr a,H)
  |.d (.b false)=>some (krd E fr b,H)
  |_=>none
def qy1(k:K)(z:DV):KOf:=λ_ _ H id=>some (.p id 0 0,H.put id (some (.box k (.d z))))
def qy4(k:K)(x:Ab):KOf:=λE fr H id=>if fits k (krd E fr x)then some (.p id 0 0,H.put id (some (.box k (krd E fr x))))else none
def qy0(z:Cy)(parts:CL (Nat×K×Ab)):KOf:=λE fr H _=>match qcl (z.map .d) (parts.map λx=>(x.1,x.2.1,krd E fr x.2.2))with
  |some cs=>some (mkA cs,H)
  |none=>none
def qy5(k:K)(z:DV)(len:Nat)(parts:CL (Nat×Ab)):KOf:=λE fr H id=>match qbN H k (List.replicate len z) (parts.map λx=>(x.1,krd E fr x.2))with
  |some (es,os)=>some (.r id k 0 len true,(frz H os).put id (some (.sl k 0 es)))
  |none=>none
def qzg(k:K)(x:Ab):KOf:=λE fr H _=>opt (qzG H k (krd E fr x)) H
def qzl(k:K)(x:Ab)(y:Ab):KOf:=λE fr H _=>match qzR H k (krd E fr x) (krd E fr y)with|some H'=>some (.u,H')|none=>none
def qy3(op:BinOp)(x:Ab)(y:Ab):KOf:=λE fr H _=>qeC (qzo op (krd E fr x) (krd E fr y)) H
def qy9(neg:CO)(n:CF)(x:Ab)(y:Ab):KOf:=λE fr H _=>match eqA n (krd E fr x) (krd E fr y)with
  |some e=>some (.d (.b (if neg then !e else e)),H)
  |none=>none
def qy8(neg:CO)(x:Ab)(y:Ab):KOf:=λE fr H _=>match krd E fr x,krd E fr y with
  |.d (.b a),.d (.b b)=>some (.d (.b (if neg then !(a==b)else a==b)),H)
  |_,_=>none
def qze(neg:CO)(kd:Nat)(x:Ab):KOf:=λE fr H _=>match qdK kd (krd E fr x)with|some b=>some (.d (.b (if neg then !b else b)),H)|none=>none
def qzm(op:UnOp)(x:Ab):KOf:=λE fr H _=>qeC (unA op (krd E fr x)) H
def qy7(k:IntKind)(x:Ab):KOf:=λE fr H _=>match krd E fr x with|.d (.i _ n)=>some (.d (.i k (k.wrap n)),H)|_=>none
def qzk(x:Ab)(lo:CK Ab)(hi:CK Ab):KOf:=λE fr H _=>match krd E fr x with
  |.d (.s s)=>match bnd s.length s.length (hi.map (krd E fr))with
   |some h=>match bnd 0 h (lo.map (krd E fr))with
    |some l=>some (.d (.s ((s.take h).drop l)),H)
    |none=>none
   |none=>none
  |_=>none
def qzj(k:K)(x:Ab)(lo:CK Ab)(hi:CK Ab)(mx:CK Ab):KOf:=λE fr H _=>opt (slA H k (krd E fr x) (lo.map (krd E fr)) (hi.map (krd E fr)) (mx.map (krd E fr))) H
def qzb(off:Nat)(x:Ab):KOf:=λE fr H _=>opt (qzI off (krd E fr x)) H
def qzc(k:K)(x:Ab)(i:Ab):KOf:=λE fr H _=>opt (qzD H k (krd E fr x) (krd E fr i)) H
def qzd(x:Ab)(i:Ab):KOf:=λE fr H _=>match krd E fr x,asI (krd E fr i)with
  |.d (.s s),some n=>if 0<=n then match s[n.toNat]? with
   |some b=>some (.d (.i .u8 b.toNat),H)
   |none=>none
   else none
  |_,_=>none
def qzf(str:CO)(x:Ab):KOf:=λE fr H _=>match qzF H str (krd E fr x)with|some n=>some (.d (.i .i64 n),H)|none=>none
def qy2(k:K)(bytes:Nat)(x:Ab)(y:Ab):KOf:=λE fr H id=>qcb H id k bytes (krd E fr x) (krd E fr y)
def qsU(f:Nat)(args:CL Ab):KOf:=λE fr H _=>match qaN H (qeA (krd E fr) args)with
  |some (ds,os)=>match E.val f ds with
   |some (r,_)=>some (r,if os.isEmpty||r.AY then H else frz H os)
   |none=>none
  |none=>none
def qsV(f:Nat)(args:CL Ab):KOf:=λE fr H id=>match qaN H (qeA (krd E fr) args)with
  |some (ds,os)=>match E.val f ds with
   |some (.d (.l k es _),true)=>some (.r id k 0 es.length false,(if os.isEmpty then H else frz H os).put id (some (.sl k 0 es)))
   |_=>none
  |none=>none
def qsW(f:Nat)(args:CL Ab):KOf:=λE fr H _=>E.ref f (qeA (krd E fr) args) H
def qIF(mode f:Nat)(args:CL Ab):KOf:=@Nat.rec (λ_=>KOf) (qsU f args) (λm _=>@Nat.rec (λ_=>KOf) (qsV f args) (λ_ _=>qsW f args) m) mode
def qy6(x:Ab)(args:CL Ab):KOf:=λE fr H _=>match krd E fr x with
  |.f n caps=>match (if caps.isEmpty then qac (qeA (krd E fr) args)else none)with
   |some ds=>match E.val n ds with
    |some (r,_)=>some (r,H)
    |none=>none
   |none=>E.ref n (qeA (krd E fr) args++caps) H
  |.m n firsts=>match qac (firsts++qeA (krd E fr) args)with
   |some ds=>match E.val n ds with
    |some (r,_)=>some (r,H)
    |none=>none
   |none=>E.ref n (firsts++qeA (krd E fr) args) H
  |.h o=>E.yld o (qeA (krd E fr) args) H
  |_=>none
def qza(x:Ab)(i:Nat):KOf:=λE fr H _=>match krd E fr x with
  |.t vs=>opt vs[i]? H
  |_=>none
def kop(op:IOp):KOf:=@IOp.rec (λ_=>KOf) qzh qzi qy1 qy4 qy0 qy5 qzg qzl qy3 qy9 qy8 qze qzm qy7 qzk qzj qzb (λa b c=>k_o (.field a b c)) qzc (λa b c d=>k_o (.BM a b c d)) qzd (λa b c d=>k_o (.idxA a b c d)) qzf qy2 qIF qy6 qza (λa b=>k_o (.mkf a b)) (λa b=>k_o (.mkm a b)) (λa b=>k_o (.prim a b)) (λa=>k_o (.BR a)) (λa b c d e=>k_o (.mksl a b c d e)) (λa b=>k_o (.minmax a b)) (λa b c=>k_o (.copy a b c)) (λa b c=>k_o (.clr a b c)) (λa b=>k_o (.mkif a b)) (λa b c d=>k_o (.tas a b c d)) (λa b c=>k_o (.invk a b c)) (k_o .Bz) (λa b c d e=>k_o (.mget a b c d e)) (λa b c d=>k_o (.mset a b c d)) (λa b c=>k_o (.mdel a b c)) (λa=>k_o (.mlen a)) (λa=>k_o (.rngS a)) (λa=>k_o (.nxt a)) (λa=>k_o (.sb a)) (λa=>k_o (.bs a)) (λa b=>k_o (.dfr a b)) (k_o .bad) op
def qIX(op:IOp)(E:Env)(fr:Fr)(H:CW)(id:Nat):kop op E fr H id=qaa E (rd E fr) H id op:=by
 rw[<-qzN];have ko:qs5=Heap.obj:=by funext H o;exact qIW H o
 cases op with
 |call m f args=>match m with
  |0=>show qsU f args E fr H id=_;simp only[qsU,qaa,qkS,ko]<;>rfl
  |1=>show qsV f args E fr H id=_;simp only[qsV,qaa,qkS,ko]<;>rfl
  |m+2=>show qsW f args E fr H id=_;simp only[qsW,qaa,qkS,ko]<;>rfl
 |_=>simp only[kop,k_o,qzh,qzi,qy1,qy4,qy0,qy5,qzg,qzl,qy3,qy9,qy8,qze,qzm,qy7,qzk,qzj,qzb,qzc,qzd,qzf,qy2,qy6,qza,qaa,qkS,ko,qzG,qzR,qzD,qzo,qzI,qzF]<;>rfl
def qpD(d:CK Nat)(fr:Fr)(v:PV):Fr:=@Option.rec Nat (λ_=>Fr) fr (λt=>qs7 fr t v) d
abbrev KCf:=Env->Nat->Fr->CW->CK St
def qpB(op:IOp)(id:Nat):Nat:=@Bool.rec (λ_=>Nat) id (Nat.succ id) op.adds
def kgo(dst:CK Nat)(op:IOp)(ih:KCf)(E:Env)(id:Nat)(fr:Fr)(H:CW):CK St:=@Option.rec (PV×CW) (λ_=>CK St) none (λp=>@Prod.rec PV CW (λ_=>CK St) (λv H'=>ih E (qpB op id) (qpD dst fr v) H') p) (kop op E fr H id)
def kno(dst:CK Nat)(op:IOp)(ih:KCf)(E:Env)(id:Nat)(fr:Fr)(H:CW):CK St:=ih E (qpB op id) (qpD dst fr (.t [])) H
def qzC(v:PV)(want:CO)(go no:CK St):CK St:=match v with
 |.d (.b b)=>if b==want then go else no
 |.t []=>no
 |_=>none
def qs8(dst:CK Nat)(op:IOp)(g:CK (Nat×CO))(ih:KCf)(E:Env)(id:Nat)(fr:Fr)(H:CW):CK St:=
 @Option.rec (Nat×CO) (λ_=>CK St) (kgo dst op ih E id fr H) (λp=>@Prod.rec Nat CO (λ_=>CK St) (λt want=>qzC (qm9 fr t) want (kgo dst op ih E id fr H) (kno dst op ih E id fr H)) p) g
def qkU(l:CL Ap):KCf:=@List.rec Ap (λ_=>KCf) (λ_ _ fr H=>some ⟨fr,H⟩) (λo _ ih=>@Ap.rec (λ_=>KCf) (λdst op g=>qs8 dst op g ih) o) l
def qqt(d:CK Nat)(fr:Fr)(v:PV):Fr:=match d with|some t=>fr.set t v|none=>fr
def qzL(E:Env):∀(l:CL Ap) (id:Nat) (fr:Fr) (H:CW),qkU l E id fr H=qaF E l id ⟨fr,H⟩
 |[],id,fr,H=>rfl
 |⟨dst,op,g⟩::r,id,fr,H=>by
  have ih:=qzL E r;have hadd:qpB op id=if op.adds then id+1 else id:=by unfold qpB;cases op.adds<;>rfl
  have hd:∀v,qpD dst fr v=qqt dst fr v:=by intro v;cases dst<;>simp[qpD,qzQ,qqt]
  have hgo:kgo dst op (qkU r) E id fr H=match qaa E (rd E fr) H id op with|some (v,H')=>qaF E r (if op.adds then id+1 else id) ⟨qqt dst fr v,H'⟩|none=>none:=by
   unfold kgo;rw[qIX];cases h:qaa E (rd E fr) H id op with
   |none=>rfl
   |some p=>obtain⟨v,H'⟩:=p;show qkU r E _ _ _=_;rw[ih,hadd,hd]
  have hno:kno dst op (qkU r) E id fr H=qaF E r (if op.adds then id+1 else id) ⟨qqt dst fr (.t []),H⟩:=by unfold kno;rw[ih,hadd,hd]
  show qs8 dst op g (qkU r) E id fr H=_;unfold qs8;rw[qaF,hgo,hno];cases g with
  |none=>cases dst<;>rfl
  |some p=>obtain⟨t,want⟩:=p;show qzC (qm9 fr t) want _ _=_;rw[qs1];cases dst<;>rfl
def qpG(ops:CL Ap)(kill:CF)(E:Env)(fr:Fr)(H:CW):CK St:=@Option.rec St (λ_=>CK St) none (λs=>@St.rec (λ_=>CK St) (λfr' H'=>some ⟨qm7 kill fr',H'⟩) s) (qkU ops E (qh5 H) fr (qm6 H (qs6 none (qar ops) [])))
def qIZ(ops:CL Ap)(kill:CF)(E:Env)(fr:Fr)(H:CW):qpG ops kill E fr H=qcn E ops kill ⟨fr,H⟩:=by
 unfold qpG qcn;rw[qzL,qnc,qsX,qzO,List.append_nil];cases qaF E ops H.length ⟨fr,H++List.replicate (qar ops) none⟩with
 |none=>rfl
 |some s=>obtain⟨fr',H'⟩:=s;show some _=_;rw[qzq]
abbrev KR:=Env->((St->Res)->St->Res)->Nat->Fr->CW->Res
def qzS(r:Res)(f:Fr->CW->Res):Res:=@Option.rec (Ex×St) (λ_=>Res) none (λp=>@Prod.rec Ex St (λ_=>Res) (λe s=>@Ex.rec (λ_=>Res) (@St.rec (λ_=>Res) f s) (λj=>some (.exit j,s)) (some (.ret,s)) e) p) r
def qIP:KR:=λ_ _ _ fr H=>some (.norm,⟨fr,H⟩)
def qIK(ops:CL Ap)(kill:CF):KR:=λE _ _ fr H=>@Option.rec St (λ_=>Res) none (λs=>some (.norm,s)) (qpG ops kill E fr H)
def qIL(ops:CL Ap)(bf kill:CF):KR:=λE _ _ fr H=>match qdq E ops bf kill ⟨fr,H⟩with|some s'=>some (.norm,s')|none=>none
def qIO(_ _:PC)(a b:KR):KR:=λE lp base fr H=>qzS (a E lp base fr H) λfr H=>b E lp base fr H
def qsY(c:Ab)(_ _:PC)(x y:KR):KR:=λE lp base fr H=>match krd E fr c with
 |.d (.b true)=>x E lp base fr H
 |.d (.b false)=>y E lp base fr H
 |_=>none
def qzp(id:Nat)(r:Res):Res:=@Option.rec (Ex×St) (λ_=>Res) none (λp=>@Prod.rec Ex St (λ_=>Res) (λe s=>@Ex.rec (λ_=>Res) (some (.norm,s)) (λj=>@Bool.rec (λ_=>Res) (some (.exit j,s)) (some (.norm,s)) (Nat.beq j id)) (some (.ret,s)) e) p) r
def qIH(id:Nat)(_:PC)(x:KR):KR:=λE lp base fr H=>qzp id (x E lp base fr H)
def qzP(live:CF)(x:KR)(E:Env)(lp:(St->Res)->St->Res)(base:Nat)(s:St):Res:=@St.rec (λ_=>Res) (λfr H=>x E lp base fr H) (gc live base s)
def qIJ(live:CF)(_:PC)(x:KR):KR:=λE lp base fr H=>lp (qzP live x E lp base) ⟨fr,H⟩
def qIN(f:Ab)(g:Nat)(ps live:CF)(a x:PC)(_ _:KR):KR:=λE lp base fr H=>qag E lp base (.rng f g ps live a x) ⟨fr,H⟩
def qII(id:Nat):KR:=λ_ _ _ fr H=>some (.exit id,⟨fr,H⟩)
def qIM:KR:=λ_ _ _ fr H=>some (.ret,⟨fr,H⟩)
def qIG:KR:=λ_ _ _ _ _=>none
def kev(c:PC):KR:=@PC.rec (λ_=>KR) qIP qIK qIL qIO qsY qIH qIJ qIN qII qIM qIG c
def qIQ(E:Env)(lp:(St->Res)->St->Res)(base:Nat):∀(c:PC) (fr:Fr) (H:CW),kev c E lp base fr H=qag E lp base c ⟨fr,H⟩:=by
 intro c;induction c with
 |skip=>intro fr H;rfl
 |reg ops kill=>intro fr H;show @Option.rec St (λ_=>Res) none (λs=>some (.norm,s)) (qpG ops kill E fr H)=_;rw[qIZ,qag];cases qcn E ops kill ⟨fr,H⟩<;>rfl
 |Ba ops bf kill=>intro fr H;rfl
 |seq a b iha ihb=>
  intro fr H;show qzS (kev a E lp base fr H) (λfr H=>kev b E lp base fr H)=_;rw[iha,qag];cases qag E lp base a ⟨fr,H⟩with
  |none=>rfl
  |some p=>
   obtain⟨e,s⟩:=p;cases e with
   |norm=>obtain⟨fr',H'⟩:=s;exact ihb fr' H'
   |exit j=>rfl
   |ret=>rfl
 |cond c x y ihx ihy=>intro fr H;show qsY c x y (kev x) (kev y) E lp base fr H=_;unfold qsY;rw[qzN,qag,ihx,ihy];rfl
 |block id x ih=>
  intro fr H;show qzp id (kev x E lp base fr H)=_;rw[ih,qag];cases qag E lp base x ⟨fr,H⟩with
  |none=>rfl
  |some p=>
   obtain⟨e,s⟩:=p;cases e with
   |norm=>rfl
   |exit j=>
    show @Bool.rec (λ_=>Res) (some (.exit j,s)) (some (.norm,s)) (Nat.beq j id)=if j==id then _ else _;have:(j==id)=Nat.beq j id:=by by_cases h:j=id; · { subst h;rw[Nat.beq_refl];simp }; · { rw[qmA h];simpa using h }
    rw[this];cases Nat.beq j id<;>rfl
   |ret=>rfl
 |loop live x ih=>intro fr H;show lp (qzP live (kev x) E lp base) ⟨fr,H⟩=_;rw[qag];congr 1;funext s;exact ih _ _
 |rng f g ps live a x iha ihx=>intro fr H;rfl
 |exit id=>intro fr H;rfl
 |ret=>intro fr H;rfl
 |bad=>intro fr H;rfl
def klp(n:Nat):(St->Res)->St->Res:=@Nat.rec (λ_=>(St->Res)->St->Res) (λ_ _=>none) (λ_ ih f s=>@Option.rec (Ex×St) (λ_=>Res) none (λp=>@Prod.rec Ex St (λ_=>Res) (λe s'=>@Ex.rec (λ_=>Res) (ih f s') (λj=>some (.exit j,s')) (some (.ret,s')) e) p) (f s)) n
def qs3:∀n,klp n=lpN n
 |0=>rfl
 |n+1=>by
  funext f s;have ih:=qs3 n;show @Option.rec (Ex×St) (λ_=>Res) none (λp=>@Prod.rec Ex St (λ_=>Res) (λe s'=>@Ex.rec (λ_=>Res) (klp n f s') (λj=>some (.exit j,s')) (some (.ret,s')) e) p) (f s)=_;rw[ih,lpN];cases f s with
  |none=>rfl
  |some p=>obtain⟨e,s'⟩:=p;cases e<;>rfl
def qzA(E:Env)(rs:CL RV)(s:St):CJ:=match Bj E (qao s.fr) s.H with
   |some H'=>match results s.fr H' rs with
    |some vs=>some (qbi vs,H')
    |none=>none
   |none=>none
def qsZ(E:Env)(rs:CL RV)(r:Res):CJ:=@Option.rec (Ex×St) (λ_=>CJ) none (λp=>@Prod.rec Ex St (λ_=>CJ) (λe s=>@Ex.rec (λ_=>CJ) (qzA E rs s) (λ_=>none) (qzA E rs s) e) p) r
def qpC:Cz->Nat->Fr:=λl=>@List.rec PV (λ_=>Nat->Fr) (λ_=>[]) (λv _ ih j=>qm6 (ih (Nat.succ j)) [(j,v)]) l
def qzn:∀(l:Cz) (j:Nat),qpC l j=Fr.Aa j l
 |[],j=>rfl
 |v::r,j=>by show qm6 (qpC r (j+1)) [(j,v)]=_;rw[qsX,qzn r,Fr.Aa]
def kfn(E:Env)(lp:(St->Res)->St->Res)(F:PF)(args:Cz)(H:CW):CJ:=@PF.rec (λ_=>CJ) (λBn rs body=>@Bool.rec (λ_=>CJ) none (qsZ E rs (kev body E lp (qh5 H) (qpC args 0) H)) (Nat.beq (qh5 args) Bn)) F
def qzB(E:Env)(lp:(St->Res)->St->Res)(F:PF)(args:Cz)(H:CW):kfn E lp F args H=qbr E lp F args H:=by
 obtain⟨Bn,rs,body⟩:=F;show @Bool.rec (λ_=>CJ) none (qsZ E rs (kev body E lp (qh5 H) (qpC args 0) H)) (Nat.beq (qh5 args) Bn)=_;rw[qnc,qnc,qIQ,qzn];unfold qbr;by_cases h:args.length=Bn
 ·rw[if_pos h,h,Nat.beq_refl];show qsZ E rs (qag E lp H.length body ⟨Fr.Aa 0 args,H⟩)=_;cases qag E lp H.length body ⟨Fr.Aa 0 args,H⟩with
  |none=>rfl
  |some p=>obtain⟨e,s⟩:=p;cases e<;>rfl
 ·rw[if_neg h,qmA h]
abbrev KY:=Nat->Cz->CW->CJ
structure KP where
 it:KY->KY
 val:Nat->List DV->Option (PV×Bool)
def qs2(E:Env)(lp:(St->Res)->St->Res)(args:Cz)(H:CW)(F:PF):CJ:=@Option.rec (PV×CW) (λ_=>CJ) none (λp=>@Prod.rec PV CW (λ_=>CJ) (λv H'=>some (gcV (qh5 H) v H')) p) (kfn E lp F args H)
def kit(T:Tab)(n:Nat)(P:KP)(Y:KY)(f:Nat)(args:Cz)(H:CW):CJ:=@Option.rec PF (λ_=>CJ) (T.R f args H) (qs2 ⟨T.G,P.it noY,P.val,Y,P.it,T.dok⟩ (klp n) args H) (T.F f)
def qta(E:Env)(lp:(St->Res)->St->Res)(args:Cy)(F:PF):CG:=@Option.rec (PV×CW) (λ_=>CG) none (λp=>@Prod.rec PV CW (λ_=>CG) (λv H'=>AC H' v) p) (kfn E lp F (qeA .d args) [])
def qs9(T:Tab)(n:Nat)(P:KP)(f:Nat)(args:Cy):CG:=@Option.rec PF (λ_=>CG) (T.X f args) (qta ⟨T.G,P.it noY,P.val,noY,P.it,T.dok⟩ (klp n) args) (T.F f)
def kN(T:Tab)(n:Nat):KP:=@Nat.rec (λ_=>KP) ⟨λ_ _ _ _=>none,λ_ _=>none⟩ (λn P=>⟨kit T n P,qs9 T n P⟩) n
def qsR(T:Tab):∀n,(kN T n).it=itN T n/\(kN T n).val=qc4 T n
 |0=>⟨by funext Y f a H;rw[itN];rfl,by funext f a;rw[qc4];rfl⟩
 |n+1=>by
  obtain⟨h1,h2⟩:=qsR T n;constructor
  ·funext Y f a H;show kit T n (kN T n) Y f a H=_;rw[qee];unfold kit;cases T.F f with
   |none=>rfl
   |some F=>
    show qs2 _ (klp n) a H F=_;unfold qs2;rw[h1,h2,qs3,qzB,qnc];show @Option.rec (PV×CW) (λ_=>CJ) none _ (qbr (Bb T n Y) (lpN n) F a H)=_;dsimp only;cases qbr (Bb T n Y) (lpN n) F a H with
    |none=>rfl
    |some p=>rfl
  ·funext f a;show qs9 T n (kN T n) f a=_;rw[qis];unfold qs9;cases T.F f with
   |none=>rfl
   |some F=>
    show qta _ (klp n) a F=_;unfold qta;rw[h1,h2,qs3,qzB,qkS];show @Option.rec (PV×CW) (λ_=>CG) none _ (qbr (qcx T n) (lpN n) F (a.map .d) [])=_;dsimp only;cases qbr (qcx T n) (lpN n) F (a.map .d) []with
    |none=>rfl
    |some p=>rfl
def qjL{T:Tab}{f:Nat}{args:Cy}{r:PV×CO}(n:Nat)(h:(kN T n).val f args=some r):T.val f args=some r:=(qli T f args r).2 ⟨n,by rw[<-(qsR T n).2];exact h⟩
