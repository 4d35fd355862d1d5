/- Part 2 of the proof. -/
import Derived.Test.YtpfeklkomlghlaaGreatDoorB1
import GoSem.ClaimKeys
set_option linter.all false
namespace Go.Sim
set_option maxRecDepth 100000
set_option maxHeartbeats 8000000
@[reducible] def K0:K:=none
@[reducible] def K1(n:Nat):K:=some n
@[reducible] def I(n:Int):DV:=.i .i64 n
@[reducible] def O(d:Nat)(x:IOp):Ap:=⟨some d,x,none⟩
@[reducible] def E(x:IOp):Ap:=⟨none,x,none⟩
@[reducible] def OG(d t:Nat)(w:CO)(x:IOp):Ap:=⟨some d,x,some (t,w)⟩
@[reducible] def EG(t:Nat)(w:CO)(x:IOp):Ap:=⟨none,x,some (t,w)⟩
@[reducible] def sq(a b:PC):PC:=.seq a b
@[reducible] def mM(d s:Nat):Ap:=⟨some d,.mov (.t s),none⟩
@[reducible] def mL(d s:Nat):Ap:=⟨some d,.load none (.t s),none⟩
@[reducible] def mF(d c s:Nat):Ap:=⟨some d,.Bo c (.t s),none⟩
@[reducible] def mX(d s i:Nat):Ap:=⟨some d,.ext (.t s) i,none⟩
@[reducible] def mI(d:Nat)(n:Int):Ap:=⟨some d,.mov (.c (.i .i64 n)),none⟩
def kOf(P:CV)(t:CQ):K:=match P.underlying t with
 |some (.struct _)|some (.array _ _)=>some (P.cellsOf t)
 |_=>none
def qlj(P:CV):Nat->CQ->Cy
 |0,_=>[]
 |n+1,t=>match P.underlying t with
  |some .bool=>[.b false]
  |some (.int k)=>[.i k 0]
  |some .string=>[.s []]
  |some (.slice e)=>[.l (kOf P e) [] true]
  |some (.struct fs)=>fs.toList.flatMap λf=>qlj P n f.type
  |some (.array m e)=>(List.replicate m (qlj P n e)).flatten
  |some (.pointer _)=>[.np]
  |some (.map _ _)=>[.nm]
  |some (.func _ _ _)=>[.nf]
  |some (.interface _)=>[.ni]
  |_=>[]
def qSr(P:CV)(t:CQ):DV:=match kOf P t with
 |none=>(qlj P 12 t).headD .np
 |some _=>.a (qlj P 12 t)
def kq(P:CV)(t:CQ):CK K:=match P.underlying t with
 |some (.struct _)|some (.array _ _)=>some (some (P.cellsOf t))
 |some _=>if P.cellsOf t=1 then some none else none
 |none=>none
def qmL:DV->CP->CK DV
 |_,.bool b=>some (.b b)
 |_,.int k n=>some (.i k n)
 |_,.string s=>some (.s s.data.toList)
 |.l k _ _,.slice none 0 0=>some (.l k [] true)
 |_,.slice none 0 0=>some (.l none [] true)
 |_,.pointer none=>some .np
 |_,.nilFunc=>some .nf
 |_,.nilIface=>some .ni
 |_,.map none=>some .nm
 |_,_=>none
def qmM:Cy->CL CP->CK (Cy)
 |z::zs,v::vs=>match qmL z v,qmM zs vs with|some x,some xs=>some (x::xs)|_,_=>none
 |[],[]=>some []
 |_,_=>none
def qkx(P:CV)(t:CK CQ)(v:CP):CK DV:=match v with
 |.agg cs=>match t with
  |some t=>(qmM (qlj P 12 t) cs.toList).map .a
  |none=>none
 |v=>qmL (match t with|some t=>qSr P t|none=>.np) v
def zq(P:CV)(t:CQ):CK DV:=(kq P t).bind λk=>((P.info? t).bind (·.zero)).bind λv=>(qkx P (some t) v).bind λz=>if fits k (.d z)then some z else none
structure Names where
 f:FuncId->Option (Nat×Nat)
 g:Nat->Nat
def qbU(P:CV)(N:Names)(t:CK CQ):Operand->CK Ab
 |.tmp n=>some (.t n)
 |.const v=>(qkx P t v).map .c
 |.global g=>some (.g (N.g g))
 |.func f=>(N.f f).map λx=>.f x.1
def A8(P:CV)(N:Names):CL (CK CQ)->CL Operand->CK (CL Ab)
 |_,[]=>some []
 |ts,x::xs=>(qbU P N (ts.headD none) x).bind λr=>(A8 P N ts.tail xs).bind λrs=>some (r::rs)
def qk8(P:CV)(N:Names):CK Operand->CK (CK Ab)
 |none=>some none
 |some x=>(qbU P N none x).map some
def qtQ(name origin:String):CK Nat:=if origin = "" then (if name = "math/bits.Add64" then some 0 else if name = "math/bits.Sub64" then some 1 else if name = "internal/bytealg.IndexByteString" then some 2 else none)else none
def qnr(P:CV)(N:Names)(pl:Nat->CK (Nat×CQ)):CL (Nat×Operand)->CK (CL (Nat×K×Ab))
 |[]=>some []
 | (i,x)::r=>(pl i).bind λp=>(kq P p.2).bind λk=>(qbU P N (some p.2) x).bind λy=>(qnr P N pl r).bind λys=>some ((p.1,k,y)::ys)
def qp8(P:CV)(N:Names)(t:CQ):CL (Nat×Operand)->CK (CL (Nat×Ab))
 |[]=>some []
 | (i,x)::r=>(qbU P N (some t) x).bind λy=>(qp8 P N t r).bind λys=>some ((i,y)::ys)
def qmN(P:CV)(t:CQ):CK (CQ×K):=match P.underlying t with
 |some (.slice e)=>(kq P e).bind λk=>some (e,k)
 |_=>none
def qhY(P:CV)(rec:CQ->CK (CF)):CL Field->Nat->Nat->CK (CF)
 |[],off,n=>if off=n then some []else none
 |f::fs,off,n=>if f.name = "_" \/f.offset≠off then none else (rec f.type).bind λa=>(qhY P rec fs (off+P.cellsOf f.type) n).bind λb=>some (a++b)
def qcV(P:CV):Nat->CQ->CK (CF)
 |0,_=>none
 |d+1,t=>match P.underlying t with
  |some .bool=>if P.cellsOf t=1 then some [2]else none
  |some (.int _)=>if P.cellsOf t=1 then some [1]else none
  |some .string=>if P.cellsOf t=1 then some [3]else none
  |some (.struct fs)=>if P.stoodInHeld t then none else qhY P (qcV P d) fs.toList 0 (P.cellsOf t)
  |_=>none
def qo5(P:CV)(t:CQ)(fs:Array Field):CO:=fs.toList.all λf=>f.name != "_" && P.plainKey f.type&&decide (f.offset<P.cellsOf t)
def qnd(P:CV)(t:CQ):TypeDesc->CK Ky
 |.bool=>some .b
 |.string=>some .s
 |.int k=>some (.i k)
 |.struct fs=>if qo5 P t fs then (qcV P 8 t).map .st else none
 |_=>none
def qkX(P:CV)(t:CQ):CK (CQ×CQ×Ky):=match P.underlying t with
 |some (.map k e)=>(P.underlying k).bind λd=>(qnd P k d).bind λky=>some (k,e,ky)
 |_=>none
def qr3(P:CV)(N:Names)(c:Call):CK IOp:=
 let ts:=c.argTypes.toList.map some
 match c.callee with
 |.value (.func f)=>(P.funcs[f]?).bind λfn=>(A8 P N ts c.args.toList).bind λas0=>
   if fn.body.isNone then (qtQ fn.name fn.origin).bind λp=>some (.prim p as0)
   else if fn.name = "runtime.NumGoroutine" then none else (N.f f).bind λx=>some (.call x.2 x.1 as0)
 |.value (.tmp t)=>(A8 P N ts c.args.toList).bind λas0=>some (.BI (.t t) as0)
 |.value _=>none
 |.builtin b=>(A8 P N ts c.args.toList).bind λas0=>match b with
   |.len=>match as0 with
    |[x]=>(c.argTypes[0]?).bind λt=>match P.underlying t with
     |some .string=>some (.len true x)
     |some (.slice _)=>some (.len false x)
     |_=>none
    |_=>none
   |.append=>match as0 with
    |[x,y]=>(c.argTypes[0]?).bind λt=>(c.argTypes[1]?).bind λu=>(qmN P t).bind λek=>(zq P ek.1).bind λ_=>match P.underlying u with
     |some (.slice _)|some .string=>if P.bytesOf ek.1=0 then none else some (.app ek.2 (P.bytesOf ek.1) x y)
     |_=>none
    |_=>none
   |.min=>if as0.isEmpty then none else some (.minmax false as0)
   |.max=>if as0.isEmpty then none else some (.minmax true as0)
   |_=>none
 |.invoke _ _=>none
def fieldAt(P:CV)(s:CQ)(f:Nat):CK Field:=match P.underlying s with
 |some (.struct fs)=>fs[f]?
 |_=>none
def qe2:Nat->Ab->CO
 |0,.c .ni=>true
 |1,.c .np=>true
 |2,.c .nm=>true
 |3,.c .nf=>true
 |4,.c (.l _ [] _)=>true
 |_,_=>false
def qm5:TypeDesc->CK Nat
 |.interface _=>some 0
 |.pointer _=>some 1
 |.map _ _=>some 2
 |.func _ _ _=>some 3
 |.slice _=>some 4
 |_=>none
def qr2(P:CV)(op:BinOp)(t:CQ)(x y:Ab):CK IOp:=match op with
 |.eql|.neq=>match P.underlying t with
  |some (.int _)|some .string=>some (.bin op x y)
  |some .bool=>some (.eqb (op==.neq) x y)
  |some (.struct _)=>if P.eqGuardType P.depth t then none else (qcV P 8 t).bind λks=>some (.eqv (op==.neq) ks x y)
  |some d=>(qm5 d).bind λkd=>if qe2 kd y then some (.BJ (op==.neq) kd x)else if qe2 kd x then some (.BJ (op==.neq) kd y)else none
  |none=>none
 |_=>some (.bin op x y)
def qaS(P:CV)(N:Names)(o:Oper):CK IOp:=
 let R:=qbU P N none
 match o.op with
 |.move x|.assign x=>(qbU P N (some o.type) x).bind λx=>some (.mov x)
 |.pick c a b=>(R c).bind λc=>(R a).bind λa=>(R b).bind λb=>some (.pick c a b)
 |.alloc e=>(kq P e).bind λk=>(zq P e).bind λz=>some (.alloc k z)
 |.box e x=>(kq P e).bind λk=>(qbU P N (some e) x).bind λx=>some (.box k x)
 |.build t parts=>(zq P t).bind λz=>match P.underlying t with
  |some (.struct fs)=>if fs.toList.all (λf=>(P.info? f.type).isSome)then (qnr P N (λi=>(fs[i]?).map λf=>(f.offset,f.type)) parts.toList).bind λps=>some (.agg z.cells ps)else none
  |some (.array _ e)=>(kq P e).bind λ_=>(qnr P N (λi=>some (i*P.cellsOf e,e)) parts.toList).bind λps=>some (.agg z.cells ps)
  |_=>none
 |.buildSlice t n parts=>(qmN P t).bind λek=>(zq P ek.1).bind λz=>(qp8 P N ek.1 parts.toList).bind λps=>if n*ek.2.size<=1000000 then some (.bsl ek.2 z n ps)else none
 |.load t x=>(kq P t).bind λk=>(R x).bind λx=>some (.load k x)
 |.store t x y=>(kq P t).bind λk=>(R x).bind λx=>(qbU P N (some t) y).bind λy=>some (.store k x y)
 |.nilCheck x=>(R x).bind λx=>some (.BR x)
 |.binOp op t x y _=>(qbU P N (some t) x).bind λx=>(qbU P N (some t) y).bind λy=>qr2 P op t x y
 |.unOp op _ x=>(R x).bind λx=>some (.un op x)
 |.convert s d x=>(R x).bind λx=>match P.underlying s,P.underlying d with
  |some (.int _),some (.int k)=>some (.conv k x)
  |some .string,some .string=>some (.slS x none none)
  |_,_=>none
 |.makeFunc (.func f) first caps=>if first.size=0 then (N.f f).bind λx=>(A8 P N [] caps.toList).bind λcs=>some (.mkf x.1 cs)else if caps.size=0 then (N.f f).bind λx=>(A8 P N [] first.toList).bind λcs=>some (.mkm x.1 cs)else none
 |.makeSlice t l c=>(qmN P t).bind λek=>(zq P ek.1).bind λz=>(R l).bind λl=>(R c).bind λc=>if P.bytesOf ek.1=0 then none else some (.mksl ek.2 (P.bytesOf ek.1) z l c)
 |.slice t x lo hi mx=>(R x).bind λx=>(qk8 P N lo).bind λlo=>(qk8 P N hi).bind λhi=>(qk8 P N mx).bind λmx=>match P.underlying t with
   |some .string=>if mx.isNone then some (.slS x lo hi)else none
   |some (.slice e)=>(kq P e).bind λk=>if mx.isSome&&hi.isNone then none else some (.sl k x lo hi mx)
   |_=>none
 |.fieldAddr s x f=>(fieldAt P s f).bind λfd=>(kq P fd.type).bind λk=>(R x).bind λx=>if k.size=0 then none else some (.Bo fd.offset x)
 |.indexAddr t x i=>(R x).bind λx=>(R i).bind λi=>match P.underlying t with
  |some (.array n e)=>(kq P e).bind λk=>some (.BM n k x i)
  |some (.slice e)=>(kq P e).bind λk=>some (.AJ k x i)
  |_=>none
 |.index t x i=>(R x).bind λx=>(R i).bind λi=>match P.underlying t with
  |some (.array n e)=>(kq P e).bind λk=>some (.idxA n k x i)
  |some .string=>some (.idxS x i)
  |_=>none
 |.extract x i=>(R x).bind λx=>some (.ext x i)
 |.call c=>qr3 P N c
 |.makeInterface t x=>match P.underlying t with
  |some (.interface _)=>none
  |_=>(kq P t).bind λ_=>(qbU P N (some t) x).bind λx=>some (.mkif t x)
 |.typeAssert x _ t ok=>match P.underlying t with
  |some (.interface _)=>none
  |some _=>(R x).bind λx=>(zq P t).bind λz=>some (.tas t z ok x)
  |none=>none
 |.makeMap t none=>(qkX P t).bind λ_=>some .Bz
 |.lookup t x i ok=>(qkX P t).bind λm=>(R x).bind λx=>(qbU P N (some m.1) i).bind λi=>(zq P m.2.1).bind λz=>some (.mget m.2.2 z ok x i)
 |.mapUpdate t x i v|.insert t x i v=>(qkX P t).bind λm=>(R x).bind λx=>(qbU P N (some m.1) i).bind λi=>(kq P m.2.1).bind λ_=>(qbU P N (some m.2.1) v).bind λv=>some (.mset m.2.2 x i v)
 |.range t x=>match P.underlying t with
  |some .string=>(R x).bind λx=>some (.rngS x)
  |_=>none
 |.defer c=>match c.callee with
  |.value (.tmp t)=>if c.args.isEmpty then some (.dfr (.t t) (.t gh))else none
  |_=>none
 |.next it true=>(R it).bind λx=>some (.nxt x)
 |_=>none
def qeq(ops:Array Oper):CK (Nat×CO)->CK (CK (Nat×CO))
 |none=>some none
 |some (j,w)=>((ops[j]?).bind (·.dst)).bind λt=>some (some (t,w))
def qb7:Op->CO
 |.defer _=>true
 |_=>false
def qau(P:CV)(N:Names)(all:Array Oper)(o:Oper):Ap:=
 match qaS P N o,qeq all o.guard with
 |some x,some g=>if qb7 o.op then (if g.isNone&&o.dst.isNone then ⟨some gh,x,none⟩else ⟨o.dst,.bad,none⟩)else ⟨o.dst,x,g⟩
 |_,_=>⟨o.dst,.bad,none⟩
def qfG(acc:CF):CL Edge->Nat
 |[]=>0
 |e::es=>if Region.binds .any e then 2^e.on ||| (acc.getD e.on 0 |||qfG acc es)else qfG acc es
def bef:CL Oper->CF->CF
 |[],acc=>acc
 |o::r,acc=>bef r (acc++[qfG acc o.after.toList])
def qi2(ops:CL Oper)(l:CL Ap):CO:=
 let B:=bef ops []
 (List.range ops.length).all λj=>(ops.getD j default).after.toList.all (λe=>!Region.binds .any e||decide (e.on<j)) &&
  (List.range j).all λi=>(B.getD j 0).testBit i||qmv (l.getD i default) (l.getD j default)
def qoM:CL (Nat×K×Ab)->CK (CL (Nat×K×PV))
 |[]=>some []
 | (c,k,.c v)::r=>(qoM r).map λl=>(c,k,.d v)::l
 |_::_=>none
def qh7:IOp->CK DV
 |.agg z ps=>match qoM ps with
  |some qs=>match qcl (z.map .d) qs with
   |some cs=>match mkA cs with|.d k=>some k|_=>none
   |none=>none
  |none=>none
 |_=>none
def qpE(L:CL Ap)(j t:Nat):CK DV:=(L.take j).findSome? λo=>if o.dst=some t then qh7 o.op else none
def qyP:IOp->CO
 |.Bz|.mov _=>true
 |_=>false
def qAj(L:CL Ap)(j t:Nat):CO:=(L.take j).any λo=>decide (o.dst=some t)&&qyP o.op
def qcw(L:CL Ap)(j:Nat):CK (DV×DV):=match L[j]? with
 |some ⟨_,.mset _ _ (.t k) (.c v),_⟩=>(qpE L j k).map λa=>(a,v)
 |_=>none
def qpJ(L:CL Ap)(bf:CF)(t0 j:Nat):Ap->CO
 |⟨some _,.agg z ps,none⟩=>(qh7 (.agg z ps)).isSome
 |⟨none,.mset ky (.t m) (.t k) (.c _),none⟩=>decide (m=t0)&&(match qpE L j k with
  |some key=>qeW ky key&&(List.range j).all λi=>match qcw L i with|some e=>qbS key e.1==some false|none=>true
  |none=>false)
 |⟨some _,.mov (.t x),none⟩=>qAj L j x&&(List.range j).all λi=>(bf.getD j 0).testBit i
 |_=>false
def qdd(L:CL Ap)(bf:CF):CO:=match L with
 |⟨some t0,.Bz,none⟩::_=>((List.range L.length).all λj=>j==0||qpJ L bf t0 j (L.getD j default)) &&
  (List.range L.length).all λj=>(List.range j).all λi=>match (L.getD j default).dst with|some t=>!decide ((L.getD i default).dst=some t)|none=>true
 |_=>false
def qaB(P:CV)(N:Names):Code->PC
 |.skip=>.skip
 |.region _ ops d=>if d then (if qi2 ops.toList (ops.toList.map (qau P N ops))then (if qdd (ops.toList.map (qau P N ops)) (bef ops.toList [])then .reg (ops.toList.map (qau P N ops)) []else .Ba (ops.toList.map (qau P N ops)) (bef ops.toList []) [])else .bad)else .reg (ops.toList.map (qau P N ops)) []
 |.seq a b=>.seq (qaB P N a) (qaB P N b)
 |.cond c x y=>match qbU P N none c with
  |some c=>.cond c (qaB P N x) (qaB P N y)
  |none=>.bad
 |.block id x=>.block id (qaB P N x)
 |.loop x=>.loop [] (qaB P N x)
 |.rangeFunc f ps a x=>match qbU P N none f with
  |some f=>.rng f (gh+1+ps.toList.headD 0) ps.toList [] (qaB P N a) (qaB P N x)
  |none=>.bad
 |.exit id=>.exit id
 |.ret=>.ret
 |_=>.bad
def qr5(P:CV):ResultVar->CK RV
 |.tmp t=>some (.t t)
 |.cell a t=>(kq P t).bind λk=>some (.c a k)
def qgi(P:CV):CL ResultVar->CK (CL RV)
 |[]=>some []
 |r::l=>(qr5 P r).bind λx=>(qgi P l).bind λxs=>some (x::xs)
def qFt(P:CV)(N:Names)(fn:Func):PF:=
 {
  Bn:=fn.params.size+fn.nfree
  results:=(qgi P fn.results.toList).getD []
  body:=match fn.body,qgi P fn.results.toList with|some c,some _=>qaB P N c|_,_=>.bad }
def qaE:PC->PC
 |.reg ops _=>.reg ops []
 |.Ba ops bf _=>.Ba ops bf []
 |.seq a b=>.seq (qaE a) (qaE b)
 |.cond c x y=>.cond c (qaE x) (qaE y)
 |.block id x=>.block id (qaE x)
 |.loop _ x=>.loop [] (qaE x)
 |.rng f g ps _ a x=>.rng f g ps [] (qaE a) (qaE x)
 |c=>c
