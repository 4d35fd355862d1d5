/- Part 2 of the proof. -/
import Derived.Test.YtmaaepdecdhmnaaGreatDoorHB1
import GoSem.ClaimKeys
set_option linter.all false
namespace Go.Sim
set_option maxRecDepth 100000
set_option maxHeartbeats 8000000
@[reducible] def K0:K:=none
@[reducible] def K1(n:Nat):K:=some n
@[reducible] def I(n:Int):DV:=.i .i64 n
@[reducible] def O(d:Nat)(x:IOp):Ao:=⟨some d,x,none⟩
@[reducible] def E(x:IOp):Ao:=⟨none,x,none⟩
@[reducible] def OG(d t:Nat)(w:CG)(x:IOp):Ao:=⟨some d,x,some (t,w)⟩
@[reducible] def EG(t:Nat)(w:CG)(x:IOp):Ao:=⟨none,x,some (t,w)⟩
@[reducible] def sq(a b:PC):PC:=.seq a b
@[reducible] def mM(d s:Nat):Ao:=⟨some d,.mov (.t s),none⟩
@[reducible] def mL(d s:Nat):Ao:=⟨some d,.load none (.t s),none⟩
@[reducible] def mF(d c s:Nat):Ao:=⟨some d,.Be c (.t s),none⟩
@[reducible] def mX(d s i:Nat):Ao:=⟨some d,.ext (.t s) i,none⟩
@[reducible] def mI(d:Nat)(n:Int):Ao:=⟨some d,.mov (.c (.i .i64 n)),none⟩
def kOf(P:CO)(t:CK):K:=match P.underlying t with
 |some (.struct _)|some (.array _ _)=>some (P.cellsOf t)
 |_=>none
def qlr(P:CO):Nat->CK->Ct
 |0,_=>[]
 |n+1,t=>match P.underlying t with
  |some .bool=>[.b false]
  |some (.int k)=>[.i k 0]
  |some .string=>[.s []]
  |some (.slice e)=>[.l (kOf P e) [] true]
  |some (.struct fs)=>fs.toList.flatMap λf=>qlr P n f.type
  |some (.array m e)=>(List.replicate m (qlr P n e)).flatten
  |some (.pointer _)=>[.np]
  |some (.map _ _)=>[.nm]
  |some (.func _ _ _)=>[.nf]
  |some (.interface _)=>[.ni]
  |_=>[]
def qS7(P:CO)(t:CK):DV:=match kOf P t with
 |none=>(qlr P 12 t).headD .np
 |some _=>.a (qlr P 12 t)
def kq(P:CO)(t:CK):CE K:=match P.underlying t with
 |some (.struct _)|some (.array _ _)=>some (some (P.cellsOf t))
 |some _=>if P.cellsOf t=1 then some none else none
 |none=>none
def qm8:DV->CJ->CE DV
 |_,.bool b=>some (.b b)
 |_,.int k n=>some (.i k n)
 |_,.string s=>some (.s s.data.toList)
 |.l k _ _,.slice none 0 0=>some (.l k [] true)
 |_,.slice none 0 0=>some (.l none [] true)
 |_,.pointer none=>some .np
 |_,.nilFunc=>some .nf
 |_,.nilIface=>some .ni
 |_,.map none=>some .nm
 |_,_=>none
def qm9:Ct->CF CJ->CE (Ct)
 |z::zs,v::vs=>match qm8 z v,qm9 zs vs with|some x,some xs=>some (x::xs)|_,_=>none
 |[],[]=>some []
 |_,_=>none
def qkG(P:CO)(t:CE CK)(v:CJ):CE DV:=match v with
 |.agg cs=>match t with
  |some t=>(qm9 (qlr P 12 t) cs.toList).map .a
  |none=>none
 |v=>qm8 (match t with|some t=>qS7 P t|none=>.np) v
def zq(P:CO)(t:CK):CE DV:=(kq P t).bind λk=>((P.info? t).bind (·.zero)).bind λv=>(qkG P (some t) v).bind λz=>if fits k (.d z)then some z else none
structure Names where
 f:FuncId->Option (Nat×Nat)
 g:Nat->Nat
def qbq(P:CO)(N:Names)(t:CE CK):Operand->CE Ab
 |.tmp n=>some (.t n)
 |.const v=>(qkG P t v).map .c
 |.global g=>some (.g (N.g g))
 |.func f=>(N.f f).map λx=>.f x.1
def A9(P:CO)(N:Names):CF (CE CK)->CF Operand->CE (CF Ab)
 |_,[]=>some []
 |ts,x::xs=>(qbq P N (ts.headD none) x).bind λr=>(A9 P N ts.tail xs).bind λrs=>some (r::rs)
def qlg(P:CO)(N:Names):CE Operand->CE (CE Ab)
 |none=>some none
 |some x=>(qbq P N none x).map some
def qt6(name origin:String):CE Nat:=if origin = "" then (if name = "math/bits.Add64" then some 0 else if name = "math/bits.Sub64" then some 1 else if name = "internal/bytealg.IndexByteString" then some 2 else none)else none
def qnR(P:CO)(N:Names)(pl:Nat->CE (Nat×CK)):CF (Nat×Operand)->CE (CF (Nat×K×Ab))
 |[]=>some []
 | (i,x)::r=>(pl i).bind λp=>(kq P p.2).bind λk=>(qbq P N (some p.2) x).bind λy=>(qnR P N pl r).bind λys=>some ((p.1,k,y)::ys)
def qqo(P:CO)(N:Names)(t:CK):CF (Nat×Operand)->CE (CF (Nat×Ab))
 |[]=>some []
 | (i,x)::r=>(qbq P N (some t) x).bind λy=>(qqo P N t r).bind λys=>some ((i,y)::ys)
def qkK(P:CO)(t:CK):CE (CK×K):=match P.underlying t with
 |some (.slice e)=>(kq P e).bind λk=>some (e,k)
 |_=>none
def qh6(P:CO)(rec:CK->CE (Cy)):CF Field->Nat->Nat->CE (Cy)
 |[],off,n=>if off=n then some []else none
 |f::fs,off,n=>if f.name = "_" \/f.offset≠off then none else (rec f.type).bind λa=>(qh6 P rec fs (off+P.cellsOf f.type) n).bind λb=>some (a++b)
def qct(P:CO):Nat->CK->CE (Cy)
 |0,_=>none
 |d+1,t=>match P.underlying t with
  |some .bool=>if P.cellsOf t=1 then some [2]else none
  |some (.int _)=>if P.cellsOf t=1 then some [1]else none
  |some .string=>if P.cellsOf t=1 then some [3]else none
  |some (.struct fs)=>if P.stoodInHeld t then none else qh6 P (qct P d) fs.toList 0 (P.cellsOf t)
  |_=>none
def qpq(P:CO)(t:CK)(fs:Array Field):CG:=fs.toList.all λf=>f.name != "_" && P.plainKey f.type&&decide (f.offset<P.cellsOf t)
def qnD(P:CO)(t:CK):TypeDesc->CE Ky
 |.bool=>some .b
 |.string=>some .s
 |.int k=>some (.i k)
 |.struct fs=>if qpq P t fs then (qct P 8 t).map .st else none
 |_=>none
def qk4(P:CO)(t:CK):CE (CK×CK×Ky):=match P.underlying t with
 |some (.map k e)=>(P.underlying k).bind λd=>(qnD P k d).bind λky=>some (k,e,ky)
 |_=>none
def qsh(P:CO)(N:Names)(c:Call):CE IOp:=
 let ts:=c.argTypes.toList.map some
 match c.callee with
 |.value (.func f)=>(P.funcs[f]?).bind λfn=>(A9 P N ts c.args.toList).bind λas0=>
   if fn.body.isNone then (qt6 fn.name fn.origin).bind λp=>some (.prim p as0)
   else if fn.name = "runtime.NumGoroutine" then none else (N.f f).bind λx=>some (.call x.2 x.1 as0)
 |.value (.tmp t)=>(A9 P N ts c.args.toList).bind λas0=>some (.BH (.t t) as0)
 |.value _=>none
 |.builtin b=>(A9 P N ts c.args.toList).bind λas0=>match b with
   |.len=>match as0 with
    |[x]=>(c.argTypes[0]?).bind λt=>match P.underlying t with
     |some .string=>some (.len true x)
     |some (.slice _)=>some (.len false x)
     |_=>none
    |_=>none
   |.append=>match as0 with
    |[x,y]=>(c.argTypes[0]?).bind λt=>(c.argTypes[1]?).bind λu=>(qkK P t).bind λek=>(zq P ek.1).bind λ_=>match P.underlying u with
     |some (.slice _)|some .string=>if P.bytesOf ek.1=0 then none else some (.app ek.2 (P.bytesOf ek.1) x y)
     |_=>none
    |_=>none
   |.clear=>match as0 with
    |[x]=>(c.argTypes[0]?).bind λt=>(qkK P t).bind λek=>(zq P ek.1).bind λz=>some (.clr ek.2 z x)
    |_=>none
   |.min=>if as0.isEmpty then none else some (.minmax false as0)
   |.max=>if as0.isEmpty then none else some (.minmax true as0)
   |_=>none
 |.invoke _ _=>none
def fieldAt(P:CO)(s:CK)(f:Nat):CE Field:=match P.underlying s with
 |some (.struct fs)=>fs[f]?
 |_=>none
def qe2:Nat->Ab->CG
 |0,.c .ni=>true
 |1,.c .np=>true
 |2,.c .nm=>true
 |3,.c .nf=>true
 |4,.c (.l _ [] _)=>true
 |_,_=>false
def qnv:TypeDesc->CE Nat
 |.interface _=>some 0
 |.pointer _=>some 1
 |.map _ _=>some 2
 |.func _ _ _=>some 3
 |.slice _=>some 4
 |_=>none
def qsg(P:CO)(op:BinOp)(t:CK)(x y:Ab):CE IOp:=match op with
 |.eql|.neq=>match P.underlying t with
  |some (.int _)|some .string=>some (.bin op x y)
  |some .bool=>some (.eqb (op==.neq) x y)
  |some (.struct _)=>if P.eqGuardType P.depth t then none else (qct P 8 t).bind λks=>some (.eqv (op==.neq) ks x y)
  |some d=>(qnv d).bind λkd=>if qe2 kd y then some (.BI (op==.neq) kd x)else if qe2 kd x then some (.BI (op==.neq) kd y)else none
  |none=>none
 |_=>some (.bin op x y)
def qaO(P:CO)(N:Names)(o:Oper):CE IOp:=
 let R:=qbq P N none
 match o.op with
 |.move x|.assign x=>(qbq P N (some o.type) x).bind λx=>some (.mov x)
 |.pick c a b=>(R c).bind λc=>(R a).bind λa=>(R b).bind λb=>some (.pick c a b)
 |.alloc e=>(kq P e).bind λk=>(zq P e).bind λz=>some (.alloc k z)
 |.box e x=>(kq P e).bind λk=>(qbq P N (some e) x).bind λx=>some (.box k x)
 |.build t parts=>(zq P t).bind λz=>match P.underlying t with
  |some (.struct fs)=>if fs.toList.all (λf=>(P.info? f.type).isSome)then (qnR P N (λi=>(fs[i]?).map λf=>(f.offset,f.type)) parts.toList).bind λps=>some (.agg z.cells ps)else none
  |some (.array _ e)=>(kq P e).bind λ_=>(qnR P N (λi=>some (i*P.cellsOf e,e)) parts.toList).bind λps=>some (.agg z.cells ps)
  |_=>none
 |.buildSlice t n parts=>(qkK P t).bind λek=>(zq P ek.1).bind λz=>(qqo P N ek.1 parts.toList).bind λps=>if n*ek.2.size<=1000000 then some (.bsl ek.2 z n ps)else none
 |.load t x=>(kq P t).bind λk=>(R x).bind λx=>some (.load k x)
 |.store t x y=>(kq P t).bind λk=>(R x).bind λx=>(qbq P N (some t) y).bind λy=>some (.store k x y)
 |.nilCheck x=>(R x).bind λx=>some (.BQ x)
 |.binOp op t x y _=>(qbq P N (some t) x).bind λx=>(qbq P N (some t) y).bind λy=>qsg P op t x y
 |.unOp op _ x=>(R x).bind λx=>some (.un op x)
 |.convert s d x=>(R x).bind λx=>match P.underlying s,P.underlying d with
  |some (.int _),some (.int k)=>some (.conv k x)
  |some .string,some .string=>some (.slS x none none)
  |_,_=>none
 |.makeFunc (.func f) first caps=>if first.size=0 then (N.f f).bind λx=>(A9 P N [] caps.toList).bind λcs=>some (.mkf x.1 cs)else if caps.size=0 then (N.f f).bind λx=>(A9 P N [] first.toList).bind λcs=>some (.mkm x.1 cs)else none
 |.makeSlice t l c=>(qkK P t).bind λek=>(zq P ek.1).bind λz=>(R l).bind λl=>(R c).bind λc=>if P.bytesOf ek.1=0 then none else some (.mksl ek.2 (P.bytesOf ek.1) z l c)
 |.slice t x lo hi mx=>(R x).bind λx=>(qlg P N lo).bind λlo=>(qlg P N hi).bind λhi=>(qlg P N mx).bind λmx=>match P.underlying t with
   |some .string=>if mx.isNone then some (.slS x lo hi)else none
   |some (.slice e)=>(kq P e).bind λk=>if mx.isSome&&hi.isNone then none else some (.sl k x lo hi mx)
   |_=>none
 |.fieldAddr s x f=>(fieldAt P s f).bind λfd=>(kq P fd.type).bind λk=>(R x).bind λx=>if k.size=0 then none else some (.Be fd.offset x)
 |.indexAddr t x i=>(R x).bind λx=>(R i).bind λi=>match P.underlying t with
  |some (.array n e)=>(kq P e).bind λk=>some (.BM n k x i)
  |some (.slice e)=>(kq P e).bind λk=>some (.Az k x i)
  |_=>none
 |.index t x i=>(R x).bind λx=>(R i).bind λi=>match P.underlying t with
  |some (.array n e)=>(kq P e).bind λk=>some (.idxA n k x i)
  |some .string=>some (.idxS x i)
  |_=>none
 |.extract x i=>(R x).bind λx=>some (.ext x i)
 |.call c=>qsh P N c
 |.makeInterface t x=>match P.underlying t with
  |some (.interface _)=>none
  |_=>(kq P t).bind λ_=>(qbq P N (some t) x).bind λx=>some (.mkif t x)
 |.typeAssert x _ t ok=>match P.underlying t with
  |some (.interface _)=>none
  |some _=>(R x).bind λx=>(zq P t).bind λz=>some (.tas t z ok x)
  |none=>none
 |.makeMap t none=>(qk4 P t).bind λ_=>some .Bz
 |.lookup t x i ok=>(qk4 P t).bind λm=>(R x).bind λx=>(qbq P N (some m.1) i).bind λi=>(zq P m.2.1).bind λz=>some (.mget m.2.2 z ok x i)
 |.mapUpdate t x i v|.insert t x i v=>(qk4 P t).bind λm=>(R x).bind λx=>(qbq P N (some m.1) i).bind λi=>(kq P m.2.1).bind λ_=>(qbq P N (some m.2.1) v).bind λv=>some (.mset m.2.2 x i v)
 |.range t x=>match P.underlying t with
  |some .string=>(R x).bind λx=>some (.rngS x)
  |_=>none
 |.defer c=>match c.callee with
  |.value (.tmp t)=>if c.args.isEmpty then some (.dfr (.t t) (.t gh))else none
  |_=>none
 |.next it true=>(R it).bind λx=>some (.nxt x)
 |_=>none
def qek(ops:Array Oper):CE (Nat×CG)->CE (CE (Nat×CG))
 |none=>some none
 |some (j,w)=>((ops[j]?).bind (·.dst)).bind λt=>some (some (t,w))
def qbG:Op->CG
 |.defer _=>true
 |_=>false
def qaq(P:CO)(N:Names)(all:Array Oper)(o:Oper):Ao:=
 match qaO P N o,qek all o.guard with
 |some x,some g=>if qbG o.op then (if g.isNone&&o.dst.isNone then ⟨some gh,x,none⟩else ⟨o.dst,.bad,none⟩)else ⟨o.dst,x,g⟩
 |_,_=>⟨o.dst,.bad,none⟩
def qfH(acc:Cy):CF Edge->Nat
 |[]=>0
 |e::es=>if Region.binds .any e then 2^e.on ||| (acc.getD e.on 0 |||qfH acc es)else qfH acc es
def bef:CF Oper->Cy->Cy
 |[],acc=>acc
 |o::r,acc=>bef r (acc++[qfH acc o.after.toList])
def qje(ops:CF Oper)(l:CF Ao):CG:=
 let B:=bef ops []
 (List.range ops.length).all λj=>(ops.getD j default).after.toList.all (λe=>!Region.binds .any e||decide (e.on<j)) &&
  (List.range j).all λi=>(B.getD j 0).testBit i||qmU (l.getD i default) (l.getD j default)
def qo6:CF (Nat×K×Ab)->CE (CF (Nat×K×PV))
 |[]=>some []
 | (c,k,.c v)::r=>(qo6 r).map λl=>(c,k,.d v)::l
 |_::_=>none
def qij:IOp->CE DV
 |.agg z ps=>match qo6 ps with
  |some qs=>match qbS (z.map .d) qs with
   |some cs=>match mkA cs with|.d k=>some k|_=>none
   |none=>none
  |none=>none
 |_=>none
def qpV(L:CF Ao)(j t:Nat):CE DV:=(L.take j).findSome? λo=>if o.dst=some t then qij o.op else none
def qy8:IOp->CG
 |.Bz|.mov _=>true
 |_=>false
def qAw(L:CF Ao)(j t:Nat):CG:=(L.take j).any λo=>decide (o.dst=some t)&&qy8 o.op
def qb2(L:CF Ao)(j:Nat):CE (DV×DV):=match L[j]? with
 |some ⟨_,.mset _ _ (.t k) (.c v),_⟩=>(qpV L j k).map λa=>(a,v)
 |_=>none
def qp0(L:CF Ao)(bf:Cy)(t0 j:Nat):Ao->CG
 |⟨some _,.agg z ps,none⟩=>(qij (.agg z ps)).isSome
 |⟨none,.mset ky (.t m) (.t k) (.c _),none⟩=>decide (m=t0)&&(match qpV L j k with
  |some key=>qeW ky key&&(List.range j).all λi=>match qb2 L i with|some e=>qbo key e.1==some false|none=>true
  |none=>false)
 |⟨some _,.mov (.t x),none⟩=>qAw L j x&&(List.range j).all λi=>(bf.getD j 0).testBit i
 |_=>false
def qcQ(L:CF Ao)(bf:Cy):CG:=match L with
 |⟨some t0,.Bz,none⟩::_=>((List.range L.length).all λj=>j==0||qp0 L bf t0 j (L.getD j default)) &&
  (List.range L.length).all λj=>(List.range j).all λi=>match (L.getD j default).dst with|some t=>!decide ((L.getD i default).dst=some t)|none=>true
 |_=>false
def qaJ(P:CO)(N:Names):Code->PC
 |.skip=>.skip
 |.region _ ops d=>if d then (if qje ops.toList (ops.toList.map (qaq P N ops))then (if qcQ (ops.toList.map (qaq P N ops)) (bef ops.toList [])then .reg (ops.toList.map (qaq P N ops)) []else .A7 (ops.toList.map (qaq P N ops)) (bef ops.toList []) [])else .bad)else .reg (ops.toList.map (qaq P N ops)) []
 |.seq a b=>.seq (qaJ P N a) (qaJ P N b)
 |.cond c x y=>match qbq P N none c with
  |some c=>.cond c (qaJ P N x) (qaJ P N y)
  |none=>.bad
 |.block id x=>.block id (qaJ P N x)
 |.loop x=>.loop [] (qaJ P N x)
 |.rangeFunc f ps a x=>match qbq P N none f with
  |some f=>.rng f (gh+1+ps.toList.headD 0) ps.toList [] (qaJ P N a) (qaJ P N x)
  |none=>.bad
 |.exit id=>.exit id
 |.ret=>.ret
 |_=>.bad
def qsj(P:CO):ResultVar->CE RV
 |.tmp t=>some (.t t)
 |.cell a t=>(kq P t).bind λk=>some (.c a k)
def qh5(P:CO):CF ResultVar->CE (CF RV)
 |[]=>some []
 |r::l=>(qsj P r).bind λx=>(qh5 P l).bind λxs=>some (x::xs)
def qF0(P:CO)(N:Names)(fn:Func):PF:=
 {
  Bp:=fn.params.size+fn.nfree
  results:=(qh5 P fn.results.toList).getD []
  body:=match fn.body,qh5 P fn.results.toList with|some c,some _=>qaJ P N c|_,_=>.bad }
def qaL:PC->PC
 |.reg ops _=>.reg ops []
 |.A7 ops bf _=>.A7 ops bf []
 |.seq a b=>.seq (qaL a) (qaL b)
 |.cond c x y=>.cond c (qaL x) (qaL y)
 |.block id x=>.block id (qaL x)
 |.loop _ x=>.loop [] (qaL x)
 |.rng f g ps _ a x=>.rng f g ps [] (qaL a) (qaL x)
 |c=>c
