/- Part 21 of the proof. -/
import Derived.Test.YtmaaepdecdhmnaaGreatDoorHB20
set_option linter.all false
namespace Go.Sim
set_option maxRecDepth 100000
set_option maxHeartbeats 8000000
structure AS where
 fr:Fr
 H:Heap
 G:List TA
 fx:List Fact
 cs:List (Nat×List DV×PV):=[]
 deriving Inhabited
def AS.st(σ:AS):St:=⟨σ.fr,σ.H⟩
structure Sg where
 args:List (K×List TA)
 res:List (K×List TA)
mutual
def isT(G:CF TA)(t:TA):DV->CG
 |.tok n=>match G[n]? with|some u=>TA.sub t u|none=>false
 |.b _=>match t with|.b=>true|_=>false
 |.i k n=>match t with|.i k'=>decide (k'=k)&&(Lit.int k n).wf|_=>false
 |.s x=>match t with|.s=>Nat.ble x.length 1000000|_=>false
 |.l k es _=>match t with
  |.l k' m ts=>K.eq k k'&&(Nat.ble es.length m&&Nat.ble es.length 1000000)&&qpQ G k ts es
  |_=>false
 |_=>false
def qkW(G:CF TA)(ts:CF TA):Ct->CG
 |[]=>ts.isEmpty
 |v::vs=>match ts with|t::us=>isT G t v&&qkW G us vs|[]=>false
def qpQ(G:CF TA)(k:K)(ts:CF TA):Ct->CG
 |[]=>true
 |v::vs=>(match k,v with
  |some n,.a cs=>Nat.beq cs.length n&&qkW G ts cs
  |none,x=>match ts with|[t]=>isT G t x|_=>false
  |_,_=>false)&&qpQ G k ts vs
end
def isK(G:CF TA)(kt:K×CF TA)(v:DV):CG:=match kt.1,v with
 |some n,.a cs=>Nat.beq cs.length n&&qkW G kt.2 cs
 |none,x=>match kt.2 with|[t]=>isT G t x|_=>false
 |_,_=>false
def qkV(G:CF TA):CF (K×CF TA)->Ct->CG
 |[],[]=>true
 |k::ks,v::vs=>isK G k v&&qkV G ks vs
 |_,_=>false
def qe0:Int:=9223372036854775807
def qni(n:Nat):TA->CF Fact
 |.s|.e _|.l .. =>[(0,n,0),(n,0,-qe0)]
 |.i .u8=>[(0,n,0),(n,0,-255)]
 |_=>[]
def qcD:Nat->CF TA->Ct
 |_,[]=>[]
 |n,_::ts=>.tok n::qcD (n+1) ts
def fxs:Nat->CF TA->CF Fact
 |_,[]=>[]
 |n,t::ts=>qni n t++fxs (n+1) ts
def AS.news(σ:AS)(ts:CF TA):AS:={ σ with G:=σ.G++ts,fx:=fxs σ.G.length ts++σ.fx }
def AS.add(σ:AS)(l:CF Fact):AS:={ σ with fx:=l++σ.fx }
def qcy(σ:AS)(k:IntKind)(l:CF Fact):CE (CF (PV×AS)):=some [(.d (.tok σ.G.length),(σ.news [.i k]).add l)]
def opI(G:CF TA):PV->CE (IntKind×Nat×Int)
 |.d (.i k n)=>if (Lit.int k n).wf then some (k,0,n)else none
 |.d (.tok m)=>match G[m]? with|some (.i k)=>some (k,m,0)|_=>none
 |_=>none
def leq(fx:CF Fact)(x y:Nat×Int)(c:Int):CG:=prv fx 4 x.1 y.1 (x.2+c-y.2)
def fle(x y:Nat×Int)(c:Int):Fact:=(x.1,y.1,x.2+c-y.2)
def qm3(σ:AS)(t f:CF Fact):CE (CF (PV×AS)):=some [(.d (.b true),σ.add t),(.d (.b false),σ.add f)]
def tru(σ:AS)(b:CG):CE (CF (PV×AS)):=some [(.d (.b b),σ)]
def qr5(σ:AS)(op:BinOp)(x y:Nat×Int):CE (CF (PV×AS)):=
 let lt (σ:AS) (a b:Nat×Int) (n:CG):CE (CF (PV×AS)):=
  if leq σ.fx a b 1 then tru σ (!n)else if leq σ.fx b a 0 then tru σ n else some [(.d (.b (!n)),σ.add [fle a b 1]),(.d (.b n),σ.add [fle b a 0])]
 let eq (n:CG):CE (CF (PV×AS)):=
  if leq σ.fx x y 1||leq σ.fx y x 1 then tru σ n
  else some [(.d (.b (!n)),σ.add [fle x y 0,fle y x 0]),(.d (.b n),σ.add (if leq σ.fx x y 0 then [fle x y 1]else if leq σ.fx y x 0 then [fle y x 1]else []))]
 match op with
 |.lss=>lt σ x y false
 |.gtr=>lt σ y x false
 |.geq=>lt σ x y true
 |.leq=>lt σ y x true
 |.eql=>eq false
 |.neq=>eq true
 |_=>none
def z0:Nat×Int:=(0,0)
def qrM(σ:AS)(op:BinOp)(k:IntKind)(x y:Nat×Int):CE (CF (PV×AS)):=
 let n:=σ.G.length
 match op with
 |.add=>qcy σ k (if decide (k=.i64)&&Nat.beq y.1 0&&leq σ.fx x (0,qe0) y.2&&leq σ.fx (0,-qe0) x (0-y.2)then [fle x (n,0) y.2,fle (n,0) x (0-y.2)]else [])
 |.sub=>qcy σ k (if decide (k=.i64)&&Nat.beq y.1 0&&leq σ.fx x (0,qe0) (0-y.2)&&leq σ.fx (0,-qe0) x y.2 then [fle x (n,0) (0-y.2),fle (n,0) x y.2]else [])
 |.mul|.and|.or|.xor|.andNot=>qcy σ k []
 |.quo=>if Nat.beq y.1 0 && !decide (y.2=0)then qcy σ k (if decide (0<y.2)&&leq σ.fx z0 x 0&&decide (k=.i64)then [(0,n,0)]else [])else none
 |.rem=>if Nat.beq y.1 0 && !decide (y.2=0)then qcy σ k (if decide (0<y.2)&&leq σ.fx z0 x 0&&decide (k=.i64)then [(0,n,0),(n,0,1-y.2)]else [])else none
 |_=>none
def opS(G:CF TA):PV->CE (CE Nat×Cv)
 |.d (.s x)=>some (none,x)
 |.d (.tok m)=>match G[m]? with|some .s=>some (some m,[])|_=>none
 |_=>none
def emF:CE Nat×Cv->CE Nat×Cv->CF Fact×CF Fact
 | (some m,_),(none,[])=>([(m,0,0)],[(0,m,1)])
 | (none,[]),(some m,_)=>([(m,0,0)],[(0,m,1)])
 |_,_=>([],[])
def qr6(σ:AS)(op:BinOp)(x y:CE Nat×Cv):CE (CF (PV×AS)):=
 let e:=emF x y
 match op with
 |.eql=>qm3 σ e.1 e.2
 |.neq=>qm3 σ e.2 e.1
 |.lss|.leq|.gtr|.geq=>qm3 σ [] []
 |_=>none
def eqT(G:CF TA):Cy->Ct->Ct->CG
 |[],[],[]=>true
 |k::ks,x::xs,y::ys=>(match k with
  |1=>match opI G (.d x),opI G (.d y)with|some a,some b=>decide (a.1=b.1)|_,_=>false
  |2=>isT G .b x&&isT G .b y
  |3=>isT G .s x&&isT G .s y
  |_=>false)&&eqT G ks xs ys
 |_,_,_=>false
def qk3(f:Nat):CF (Nat×Sg)->CE Sg
 |[]=>none
 | (g,s)::r=>if Nat.beq g f then some s else qk3 f r
def qca:Nat->CF (K×CF TA)->Cu
 |_,[]=>[]
 |n,(k,ts)::r=>.d (match k with|none=>.tok n|some _=>.a (qcD n ts))::qca (n+ts.length) r
def qcT:CF (K×CF TA)->CF TA
 |[]=>[]
 | (_,ts)::r=>ts++qcT r
def qnm:CF (Nat×Ct×PV)->Nat->Ct->CE PV
 |[],_,_=>none
 | (g,es,v)::r,f,ds=>if Nat.beq g f&&DV.Bw es ds then some v else qnm r f ds
def xTs(m:Nat):CF TA:=[.i .i64,.i .i64,.s,.e (match m with|0=>0|_=>2)]
def qbI(S:CF (Nat×Sg))(r:Ab->PV)(σ:AS):IOp->CE (CF (PV×AS))
 |.bin op x y=>match opI σ.G (r x),opI σ.G (r y)with
  |some (k,a),some (k',b)=>if k=k' then match qr5 σ op a b with
   |some l=>some l
   |none=>qrM σ op k a b
   else none
  |_,_=>match opS σ.G (r x),opS σ.G (r y)with
   |some a,some b=>qr6 σ op a b
   |_,_=>none
 |.minmax _ [x,y]=>match opI σ.G (r x),opI σ.G (r y)with
  |some (k,_),some (k',_)=>if k=k' then qcy σ k []else none
  |_,_=>none
 |.eqv _ ks x y=>match r x,r y with
  |.d (.a xs),.d (.a ys)=>if eqT σ.G ks xs ys then qm3 σ [] []else none
  |_,_=>none
 |.un .neg x=>match opI σ.G (r x)with|some (k,_)=>qcy σ k []|none=>none
 |.conv k x=>match opI σ.G (r x)with|some _=>qcy σ k []|none=>none
 |.len s x=>match r x with
  |.d (.tok n)=>match s,σ.G[n]? with
   |true,some .s|false,some (.e _)|false,some (.l ..)=>qcy σ .i64 [(n,σ.G.length,0),(σ.G.length,n,0)]
   |_,_=>none
  |_=>none
 |.Az k x i=>match r x,opI σ.G (r i)with
  |.d (.tok n),some (_,a)=>if leq σ.fx z0 a 0&&leq σ.fx a (n,0) 1 then match σ.G[n]? with
   |some (.l k' _ ts)=>if K.eq k k' then match k with
    |none=>match ts with|[_]=>some [(.q (.tok σ.G.length) none 0,σ.news ts)]|_=>none
    |some m=>if Nat.beq ts.length m then some [(.q (.a (qcD σ.G.length ts)) (some m) 0,σ.news ts)]else none
    else none
   |some (.e m)=>if K.eq k (some 4)then some [(.q (.a (qcD σ.G.length (xTs m))) (some 4) 0,σ.news (xTs m))]else none
   |_=>none
   else none
  |_,_=>none
 |.idxS x i=>match opS σ.G (r x),opI σ.G (r i)with
  |some (some n,_),some (_,a)=>if leq σ.fx z0 a 0&&leq σ.fx a (n,0) 1 then qcy σ .u8 []else none
  |some (none,s),some (_,a)=>if leq σ.fx z0 a 0&&leq σ.fx a (0,s.length) 1 then qcy σ .u8 []else none
  |_,_=>none
 |.sl k x none (some h) none=>match r x,opI σ.G (r h)with
  |.d (.tok n),some (_,a)=>if leq σ.fx z0 a 0&&leq σ.fx a (n,0) 0 then match σ.G[n]? with
   |some (.l k' m ts)=>if K.eq k k' then some [(.d (.tok σ.G.length),(σ.news [.l k' m ts]).add [fle a (σ.G.length,0) 0,fle (σ.G.length,0) a 0])]else none
   |_=>none
   else none
  |_,_=>none
 |.call 0 f args=>match qk3 f S with
  |some g=>match qaf (args.map r)with
   |some ds=>match qnm σ.cs f ds with
    |some v=>some [(v,σ)]
    |none=>if qkV σ.G g.args ds then some [(qa5 (qca σ.G.length g.res),{ σ.news (qcT g.res)with cs:=(f,ds,qa5 (qca σ.G.length g.res))::σ.cs })]else none
   |none=>none
  |none=>none
 |_=>none
def Ab.okR:Ab->CG
 |.t _=>true
 |.c v=>v.noT
 |.g _=>false
 |.f _=>true
def IOp.A9:IOp->CF Ab
 |.mov x|.box _ x|.load _ x|.Be _ x|.field _ _ x|.ext x _|.len _ x|.un _ x|.conv _ x=>[x]
 |.pick c a b=>[c,a,b]
 |.store _ x y|.Az _ x y|.bin _ x y|.eqb _ x y|.eqv _ _ x y|.idxS x y=>[x,y]
 |.agg _ ps=>ps.map λx=>x.2.2
 |.bsl _ _ _ ps=>ps.map λx=>x.2
 |.call _ _ as0|.minmax _ as0=>as0
 |.sl _ x a b c=>x::(a.toList++b.toList++c.toList)
 |.alloc .. =>[]
 |_=>[.g 0]
def rdA(fr:Fr):Ab->PV
 |.t n=>fr.get n
 |.c v=>.d v
 |.g _=>.u
 |.f n=>.f n []
def qc3:Env:=⟨λ_=>none,λ_ _ _=>none,λ_ _=>none,λ_ _ _=>none,λ_ _ _ _=>none,λ_=>false⟩
def qsc(l:CF (PV×AS)):CF (PV×AS):=l.flatMap λx=>match x.1 with
 |.d (.tok n)=>match x.2.G[n]? with
  |some .b=>[(.d (.b true),x.2),(.d (.b false),x.2)]
  |_=>[x]
 |_=>[x]
def qpj(S:CF (Nat×Sg))(id:Nat)(op:IOp)(σ:AS):CE (CF (PV×AS)):=
 if op.A9.all Ab.okR then
  match (if op.par then qaa qc3 (rdA σ.fr) σ.H id op else none)with
  |some (v,H')=>some (qsc [(v,{ σ with H:=H' })])
  |none=>match qbI S (rdA σ.fr) σ op with
   |some l=>some (qsc l)
   |none=>none
 else none
def qll(d:CE Nat)(x:PV×AS):AS:=match d with
 |some t=>{ x.2 with fr:=x.2.fr.set t x.1 }
 |none=>x.2
def qvu(S:CF (Nat×Sg))(o:Ao)(id:Nat)(σ:AS):CE (CF AS):=
 let go:CE (CF AS):=match qpj S id o.op σ with
  |some l=>some (l.map (qll o.dst))
  |none=>none
 let no:CE (CF AS):=some [qll o.dst (.t [],σ)]
 match o.g with
 |none=>go
 |some (t,want)=>match σ.fr.get t with
  |.d (.b b)=>if b==want then go else no
  |.t []=>no
  |_=>none
def qkw{α β:Type}(f:α->CE (CF β)):CF α->CE (CF β)
 |[]=>some []
 |x::r=>match f x,qkw f r with
  |some a,some b=>some (a++b)
  |_,_=>none
def qpk(S:CF (Nat×Sg))(D:CG):CF Ao->Cy->CF (Cy×Cy)->Nat->AS->CE (CF AS)
 |[],_,_,_,σ=>some [σ]
 |o::r,bf,acc,id,σ=>match qvu S o id σ with
  |none=>none
  |some l=>qkw (λσ'=>
   let w:=AA qc3 o id σ.st σ'.st
   let t:=AP qc3 o σ.st
   if !D||(o.op.okD (rd qc3 σ.fr)&&qa6 (bf.headD 0) 0 acc (w++t) w)then qpk S D r bf.tail (acc++[(w++t,w)]) (if o.op.adds then id+1 else id) σ' else none) l
mutual
def DV.bnd(n:Nat):DV->CG
 |.tok m=>Nat.blt m n
 |.a cs=>DV.BC n cs
 |.l _ es _=>DV.BC n es
 |.ifc _ v=>DV.bnd n v
 |_=>true
def DV.BC(n:Nat):Ct->CG
 |[]=>true
 |v::vs=>DV.bnd n v&&DV.BC n vs
end
mutual
def PV.bnd(n:Nat):PV->CG
 |.d v|.q v _ _=>v.bnd n
 |.a cs=>PV.BC n cs
 |.t cs=>PV.BC n cs
 |.f _ cs=>PV.BC n cs
 |.m _ cs=>PV.BC n cs
 |.g v=>PV.bnd n v
 |.w _ v=>PV.bnd n v
 |_=>true
def PV.BC(n:Nat):Cu->CG
 |[]=>true
 |v::vs=>PV.bnd n v&&PV.BC n vs
end
def Obj.bnd(n:Nat):Obj->CG
 |.box _ v=>v.bnd n
 |.sl _ _ es=>DV.BC n es
 |.mp _=>false
 |_=>true
def Fr.bnd(n:Nat):Fr->CG
 |[]=>true
 | (_,v)::r=>v.bnd n&&Fr.bnd n r
def qjo(n:Nat):CP->CG
 |[]=>true
 |none::r=>qjo n r
 |some x::r=>x.bnd n&&qjo n r
def qm0(n:Nat)(f:Fact):CG:=Nat.blt f.1 n&&Nat.blt f.2.1 n
def qji:Fr->Fr->CG
 |[],[]=>true
 | (j,v)::r,(j',w)::r'=>Nat.beq j j'&&v.same w&&qji r r'
 |_,_=>false
def qjp:CP->CP->CG
 |[],[]=>true
 |x::r,y::r'=>qk9 x y&&qjp r r'
 |_,_=>false
def qn9(f g:Fact):CG:=Nat.beq f.1 g.1&&(Nat.beq f.2.1 g.2.1&&decide (f.2.2=g.2.2))
def qn8(c e:Nat×Ct×PV):CG:=Nat.beq c.1 e.1&&(DV.Bw c.2.1 e.2.1&&c.2.2.same e.2.2)
def jnA(x y:AS):AS:={ x with fx:=x.fx.filter λf=>y.fx.any (qn9 f),cs:=x.cs.filter λc=>y.cs.any (qn8 c) }
def qtz(x y:AS):CG:=qji x.fr y.fr&&(qjp x.H y.H&&TA.subL x.G y.G)
def qnK(x:AS):CF AS->CF AS
 |[]=>[x]
 |y::r=>if qtz x y then jnA x y::r else y::qnK x r
def mrg:CF AS->CF AS
 |[]=>[]
 |x::r=>qnK x (mrg r)
def qxI(n:Nat)(fx:CF Fact):CF Fact:=
 ((fx.filter λf=>Nat.beq f.2.1 n && !Nat.beq f.1 n).flatMap λf=>(fx.filter λg=>Nat.beq g.1 n && !Nat.beq g.2.1 n).flatMap λg=>if Nat.beq f.1 g.2.1 then []else [(f.1,g.2.1,f.2.2+g.2.2)])++fx.filter λf=>!(Nat.beq f.1 n||Nat.beq f.2.1 n)
def qsm(base:Nat):Nat->CF Fact->CF Fact
 |0,fx=>fx
 |k+1,fx=>qsm base k (qxI (base+k) fx)
def csB(n:Nat)(c:Nat×Ct×PV):CG:=DV.BC n c.2.1&&c.2.2.bnd n
def qiz(σ x:AS):CE AS:=if x.fr.bnd σ.G.length&&qjo σ.G.length x.H then some { σ with fr:=x.fr,H:=x.H,fx:=(qsm σ.G.length (x.G.length-σ.G.length) x.fx).filter (qm0 σ.G.length),cs:=x.cs.filter (csB σ.G.length) }else none
def qiw(σ:AS):CF AS->CF AS×CF AS
 |[]=>([],[])
 |x::r=>match qiz σ x,qiw σ r with
  |some y,(a,b)=>(y::a,b)
  |none,(a,b)=>(a,x::b)
def qk6(x:AS):CF AS->CF AS
 |[]=>[x]
 |y::r=>if qji x.fr y.fr&&qjp x.H y.H then jnA x y::r else y::qk6 x r
def qnL:CF AS->CF AS
 |[]=>[]
 |x::r=>qk6 x (qnL r)
def qtR(σ:AS)(l:CF AS):CF AS:=match qiw σ l with
 | (a,b)=>qnL a++mrg b
def qpl(S:CF (Nat×Sg))(D:CG)(ops:CF Ao)(bf kill:Cy)(σ:AS):CE (CF (Ex×AS)):=
 match qpk S D ops bf [] σ.H.length { σ with H:=σ.H++List.replicate (qao ops) none }with
 |some l=>some ((qtR σ (l.map λσ'=>{ σ' with fr:=σ'.fr.drop kill })).map λσ'=>(.norm,σ'))
 |none=>none
def AS.gc(live:Cy)(σ:AS):AS:=let s:=Sim.gc live 0 σ.st; { σ with fr:=s.fr,H:=s.H }
def tyD(G:CF TA):DV->CE TA
 |.b _=>some .b
 |.i k _=>some (.i k)
 |.s _=>some .s
 |.tok n=>G[n]?
 |_=>none
def qwN(G0 G1:CF TA)(n0:Nat)(g:CF TA)(v w:DV):CE (DV×CF TA):=
 if v.same w then some (v,g)else
 match v with
 |.tok n=>if Nat.ble n0 n then some (v,g)else (tyD G0 v).bind λt=>some (.tok (n0+g.length),g++[t])
 |_=>match tyD G0 v with
  |some t=>some (.tok (n0+g.length),g++[t])
  |none=>match w with
   |.tok n=>if Nat.ble n0 n then (G1[n]?).bind λt=>some (.tok (n0+g.length),g++[t])else (G1[n]?).bind λt=>some (.tok (n0+g.length),g++[t])
   |_=>none
def auL(G0 G1:CF TA)(n0:Nat):CF TA->Ct->Ct->CE (Ct×CF TA)
 |g,[],[]=>some ([],g)
 |g,v::vs,w::ws=>(qwN G0 G1 n0 g v w).bind λx=>(auL G0 G1 n0 x.2 vs ws).bind λy=>some (x.1::y.1,y.2)
 |_,_,_=>none
def auD(G0 G1:CF TA)(n0:Nat)(g:CF TA):DV->DV->CE (DV×CF TA)
 |.a cs,.a ds=>(auL G0 G1 n0 g cs ds).bind λx=>some (.a x.1,x.2)
 |v,w=>qwN G0 G1 n0 g v w
def auP(G0 G1:CF TA)(n0:Nat)(g:CF TA):PV->PV->CE (PV×CF TA)
 |.d v,.d w=>(auD G0 G1 n0 g v w).bind λx=>some (.d x.1,x.2)
 |v,w=>if v.same w then some (v,g)else none
def auF(G0 G1:CF TA)(n0:Nat):CF TA->Fr->Fr->CE (Fr×CF TA)
 |g,[],[]=>some ([],g)
 |g,(j,v)::r,(j',w)::r'=>if Nat.beq j j' then (auP G0 G1 n0 g v w).bind λx=>(auF G0 G1 n0 x.2 r r').bind λy=>some ((j,x.1)::y.1,y.2)else none
 |_,_,_=>none
def auO(G0 G1:CF TA)(n0:Nat)(g:CF TA):CE Obj->CE Obj->CE (CE Obj×CF TA)
 |some (.box k v),some (.box _ w)=>(auP G0 G1 n0 g v w).bind λx=>some (some (.box k x.1),x.2)
 |x,y=>if qk9 x y then some (x,g)else none
def auH(G0 G1:CF TA)(n0:Nat):CF TA->CP->CP->CE (CP×CF TA)
 |g,[],[]=>some ([],g)
 |g,v::r,w::r'=>(auO G0 G1 n0 g v w).bind λx=>(auH G0 G1 n0 x.2 r r').bind λy=>some (x.1::y.1,y.2)
 |_,_,_=>none
def auS(n0:Nat)(x:Fr×CP×CF TA)(G0:CF TA)(σ:AS):CE (Fr×CP×CF TA):=
 (auF (G0++x.2.2) σ.G n0 x.2.2 x.1 σ.fr).bind λa=>(auH (G0++x.2.2) σ.G n0 a.2 x.2.1 σ.H).bind λb=>some (a.1,b.1,b.2)
abbrev Bd:=CF (Nat×DV)
def qyW(n0:Nat)(v w:DV):CE Bd:=match v with
 |.tok n=>if Nat.ble n0 n then some [(n,w)]else if v.same w then some []else none
 |_=>if v.same w then some []else none
def inL(n0:Nat):Ct->Ct->CE Bd
 |[],[]=>some []
 |v::vs,w::ws=>match qyW n0 v w,inL n0 vs ws with|some a,some b=>some (a++b)|_,_=>none
 |_,_=>none
def inD(n0:Nat):DV->DV->CE Bd
 |.a cs,.a ds=>inL n0 cs ds
 |v,w=>qyW n0 v w
def inP(n0:Nat):PV->PV->CE Bd
 |.d v,.d w=>inD n0 v w
 |v,w=>if v.same w then some []else none
def inF(n0:Nat):Fr->Fr->CE Bd
 |[],[]=>some []
 | (j,v)::r,(j',w)::r'=>if Nat.beq j j' then match inP n0 v w,inF n0 r r' with|some a,some b=>some (a++b)|_,_=>none else none
 |_,_=>none
def inO(n0:Nat):CE Obj->CE Obj->CE Bd
 |some (.box k v),some (.box k' w)=>if K.eq k k' then inP n0 v w else none
 |x,y=>if qk9 x y then some []else none
def inH(n0:Nat):CP->CP->CE Bd
 |[],[]=>some []
 |v::r,w::r'=>match inO n0 v w,inH n0 r r' with|some a,some b=>some (a++b)|_,_=>none
 |_,_=>none
def inS(n0:Nat)(fr:Fr)(H:CP)(σ:AS):CE Bd:=match inF n0 fr σ.fr,inH n0 H σ.H with
 |some a,some b=>some (a++b)
 |_,_=>none
def qoW:Bd->Nat->CE DV
 |[],_=>none
 | (m,v)::r,n=>if Nat.beq m n then some v else qoW r n
def thD(n0 m:Nat)(bd:Bd)(n:Nat):DV:=if Nat.ble n0 n&&Nat.blt n (n0+m)then match qoW bd n with
  |some v=>v
  |none=>.tok n
 else .tok n
def qqf:DV->CE (Nat×Int)
 |.i _ c=>some (0,c)
 |.tok m=>some (m,0)
 |.s x=>some (0,x.length)
 |.l _ es _=>some (0,es.length)
 |_=>none
def thF(th:Nat->DV)(fx:CF Fact)(f:Fact):CG:=match qqf (th f.1),qqf (th f.2.1)with
 |some a,some b=>leq fx a b f.2.2
 |_,_=>false
def thT(G:CF TA)(th:Nat->DV):Nat->CF TA->CG
 |_,[]=>true
 |n,t::ts=>isT G t (th n)&&thT G th (n+1) ts
def qpm(th:Nat->DV)(n0:Nat)(fr:Fr)(H:CP)(g:CF TA)(cs:CF Fact)(σ:AS):CG:=
 qji (fr.ins th) σ.fr&&qjp (H.ins th) σ.H&&thT σ.G th n0 g&&cs.all (thF th σ.fx)
def qsw(th:Nat->DV)(n0 m:Nat)(fx:CF Fact)(ms:CG×Nat×Nat):CG:=match qqf (th ms.2.1)with
 |some a=>Nat.blt ms.2.1 (n0+m)&&(if ms.1 then Nat.blt ms.2.2 n0&&leq fx (ms.2.1,0) a 1&&leq fx (ms.2.1,0) (ms.2.2,0) 1 else leq fx a (ms.2.1,0) 1&&leq fx z0 (ms.2.1,0) 1)
 |none=>false
def qcn(x:Ex×AS):CG:=isN x.1
def qHy:Ex->CG
 |.exit _=>true
 |_=>false
def qny(live:Cy)(n0:Nat)(fr:Fr)(H:CP)(g:CF TA)(cs:CF Fact)(ms:CG×Nat×Nat)(σ:AS):CG:=
 match inS n0 fr H (σ.gc live)with
 |some bd=>qpm (thD n0 g.length bd) n0 fr H g cs (σ.gc live)&&qsw (thD n0 g.length bd) n0 g.length (σ.gc live).fx ms
 |none=>false
def qrQ(n0:Nat)(fr:Fr)(H:CP)(g:CF TA)(cs:CF Fact)(σ0:AS):CG:=match inS n0 fr H σ0 with
 |some bd=>qpm (thD n0 g.length bd) n0 fr H g cs σ0&&(cs.all (qm0 (n0+g.length))&&(fr.bnd (n0+g.length)&&qjo (n0+g.length) H))
 |none=>false
def qrV(bd:Bd):Nat->CF TA->CF Fact
 |_,[]=>[]
 |n,.i _::ts=>(match qoW bd n with
  |some (.i _ c)=>[(0,n,c)]
  |some (.tok m)=>[(n,m,0),(0,n,0)]
  |_=>[])++qrV bd (n+1) ts
 |n,_::ts=>qrV bd (n+1) ts
def qr8(bd:Bd):Nat->CF TA->CF (Nat×Int)
 |_,[]=>[]
 |n,.i _::ts=>(match qoW bd n with
  |some (.i _ c)=>[(n,c)]
  |_=>[])++qr8 bd (n+1) ts
 |n,_::ts=>qr8 bd (n+1) ts
def qty(G:CF TA):Fr->Cy
 |[]=>[]
 | (_,.d (.tok m))::r=>(match G[m]? with
  |some (.l ..)|some (.e _)|some .s=>[m]
  |_=>[])++qty G r
 |_::r=>qty G r
def qFm(σ0:AS)(bd:Bd)(g:CF TA):CF Fact:=
 let is:=qr8 bd σ0.G.length g
 qrV bd σ0.G.length g++(is.flatMap λa=>(is.flatMap λb=>if Nat.beq a.1 b.1 then []else [(a.1,b.1,b.2-a.2)])++(qty σ0.G σ0.fr).map λm=>(a.1,m,0))
def qnf(live:Cy)(n0:Nat)(fr:Fr)(H:CP)(g:CF TA)(cs:CF Fact)(l:CF AS):CF (CG×Nat×Nat)->CE (CG×Nat×Nat)
 |[]=>none
 |m::r=>if l.all (qny live n0 fr H g cs m)then some m else qnf live n0 fr H g cs l r
def qKW(n0:Nat)(g:CF TA)(l:CF AS):CF (CG×Nat×Nat):=match l with
 |[]=>[(true,0,0)]
 |σ::_=>(List.range g.length).flatMap λi=>((σ.fx.filter λf=>Nat.beq f.1 (n0+i)&&Nat.blt f.2.1 n0&&decide (1<=f.2.2)).map λf=>(true,n0+i,f.2.1))++(σ.fx.flatMap λf=>if Nat.beq f.1 (n0+i)&&Nat.ble n0 f.2.1&&decide (1<=f.2.2)then (σ.fx.filter λf'=>Nat.beq f'.1 f.2.1&&Nat.blt f'.2.1 n0&&decide (0<=f'.2.2)).map λf'=>(true,n0+i,f'.2.1)else [])++[(false,n0+i,0)]
def qnl(f:AS->CE (CF (Ex×AS)))(live:Cy)(σ0:AS):Nat->Fr×CP×CF TA->CF Fact->CE (CF (Ex×AS))
 |0,_,_=>none
 |n+1,x,bad=>
  let n0:=σ0.G.length
  match inS n0 x.1 x.2.1 σ0 with
  |none=>none
  |some bd=>
   let cs:=((qFm σ0 bd x.2.2).filter λc=>!(bad.any λb=>Nat.beq b.1 c.1&&(Nat.beq b.2.1 c.2.1&&decide (b.2.2=c.2.2)))).filter (thF (thD n0 x.2.2.length bd) σ0.fx)
   let σg:AS:=({ σ0 with fr:=x.1,H:=x.2.1 }.news x.2.2).add cs
   match f σg with
   |none=>none
   |some outs=>
    let rounds:=(outs.filter qcn).map (·.2)
    match rounds.foldlM (λy σ=>auS n0 y σ0.G (σ.gc live)) x with
    |none=>none
    |some y=>
     if Nat.blt x.2.2.length y.2.2.length then qnl f live σ0 n y bad
     else
      let bads:=cs.filter λc=>!(rounds.all λσ=>match inS n0 x.1 x.2.1 (σ.gc live)with|some b=>thF (thD n0 x.2.2.length b) (σ.gc live).fx c|none=>false)
      if !bads.isEmpty then qnl f live σ0 n x (bads++bad)
      else if qrQ n0 x.1 x.2.1 x.2.2 cs σ0 then
       match qnf live n0 x.1 x.2.1 x.2.2 cs rounds (qKW n0 x.2.2 rounds)with
       |some _=>some (outs.filter λo=>!qcn o)
       |none=>none
      else none
def qpi(f:AS->CE (CF (Ex×AS)))(live:Cy):Nat->AS->CE (CF (Ex×AS))
 |0,_=>none
 |n+1,σ=>
  let σ0:=σ.gc live
  match f σ0 with
  |none=>none
  |some outs=>
   if outs.any λo=>qHy o.1 then
    match ((outs.filter qcn).map (·.2)).foldlM (λy σ=>auS σ0.G.length y σ0.G (σ.gc live)) (σ0.fr,σ0.H,[])with
    |some x=>qnl f live σ0 6 x []
    |none=>none
   else qkw (λo=>if qcn o then qpi f live n o.2 else some [o]) outs
def qeo(S:CF (Nat×Sg)):PC->AS->CE (CF (Ex×AS))
 |.skip,σ=>some [(.norm,σ)]
 |.reg ops kill,σ=>qpl S false ops [] kill σ
 |.A7 ops bf kill,σ=>qpl S true ops bf kill σ
 |.seq a b,σ=>match qeo S a σ with
  |some l=>qkw (λo=>if qcn o then qeo S b o.2 else some [o]) l
  |none=>none
 |.cond c x y,σ=>match rdA σ.fr c with
  |.d (.b true)=>qeo S x σ
  |.d (.b false)=>qeo S y σ
  |_=>none
 |.block id x,σ=>match qeo S x σ with
  |some l=>some (l.map λo=>match o.1 with|.exit j=>if j==id then (.norm,o.2)else o|_=>o)
  |none=>none
 |.loop live x,σ=>qpi (qeo S x) live 40 σ
 |.exit id,σ=>some [(.exit id,σ)]
 |.ret,σ=>some [(.ret,σ)]
 |_,_=>none
section
variable {d:Nat}{ρ:Nat->DV}
def Keq{a b:K}(h:K.eq a b=true):a=b:=by
 cases a<;>cases b<;>simp_all[K.eq]
def qwn:∀{n:Nat} {x:DV},XD n x->XD (n+1) x
 |0,x,h=>⟨[],h,by simp,λe he=>by cases he⟩
 |n+1,x,⟨es,h,hl,he⟩=>⟨es,h,hl,λe hm=>by
   obtain⟨o,m,s,a,h1,h2,h3,h4,h5⟩:=he e hm;exact⟨o,m,s,a,h1,h2,h3,h4,qwn h5⟩⟩
def qrC{n m:Nat}{x:DV}(h:n<=m)(hx:XD n x):XD m x:=by
 induction m with
 |zero=>
  have:n=0:=by omega
  subst this;exact hx
 |succ m ih=>
  by_cases e:n=m+1
  ·subst e;exact hx
  ·exact qwn (ih (by omega))
def qoM{n m:Nat}{x:DV}(h:n<=m)(hx:XT d m x):XT d n x:=by
 match n,m,h with
 |0,0,_=>exact hx
 |0,1,_=>exact⟨d,hx⟩
 |0,m+2,_=>obtain⟨k,_,hk⟩:=hx;exact⟨k,hk⟩
 |1,1,_=>exact hx
 |1,m+2,_=>obtain⟨k,hl,hk⟩:=hx;exact qrC (by omega) hk
 |n+2,m+2,_=>exact hx
mutual
def qvy:∀(t u:TA) {x:DV},TA.sub t u=true->Hs d u x->Hs d t x
 |.b,.b,_,_,hx=>hx
 |.i k,.i k1,_,h,hx=>by
  have:k=k1:=of_decide_eq_true h
  subst this;exact hx
 |.s,.s,_,_,hx=>hx
 |.e n,.e m,_,h,hx=>qoM (Nat.le_of_ble_eq_true h) hx
 |.l k m ts,.l k1 m1 us,_,h,hx=>by
  rw[TA.sub,zzf,zzf]at h
  have:=Keq h.1
  subst this;obtain⟨es,t,h1,h2,h3,h4⟩:=hx;exact⟨es,t,h1,h2,zzL h3 (Nat.le_of_ble_eq_true h.2.1),λe he=>by
   obtain⟨cs,e1,e2⟩:=h4 e he;exact⟨cs,e1,qCJ ts us h.2.2 e2⟩⟩
 |.b,.i _,_,h,_|.b,.s,_,h,_|.b,.e _,_,h,_|.b,.l ..,_,h,_=>by cases h
 |.i _,.b,_,h,_|.i _,.s,_,h,_|.i _,.e _,_,h,_|.i _,.l ..,_,h,_=>by cases h
 |.s,.b,_,h,_|.s,.i _,_,h,_|.s,.e _,_,h,_|.s,.l ..,_,h,_=>by cases h
 |.e _,.b,_,h,_|.e _,.i _,_,h,_|.e _,.s,_,h,_|.e _,.l ..,_,h,_=>by cases h
 |.l ..,.b,_,h,_|.l ..,.i _,_,h,_|.l ..,.s,_,h,_|.l ..,.e _,_,h,_=>by cases h
def qCJ:∀(ts us:CF TA) {xs:Ct},TA.subL ts us=true->HsL d us xs->HsL d ts xs
 |[],[],_,_,hx=>hx
 |t::ts,u::us,[],_,hx=>hx.elim
 |t::ts,u::us,x::xs,h,hx=>by
  rw[TA.subL,zzf]at h;exact⟨qvy t u h.1 hx.1,qCJ ts us h.2 hx.2⟩
 |[],_::_,_,h,_=>by cases h
 |_::_,[],_,h,_=>by cases h
end
def qkv(d:Nat)(G:CF TA)(ρ:Nat->DV):Prop:=∀n t,G[n]? = some t->Hs d t (ρ n)
mutual
def qif{G:CF TA}(hG:qkv d G ρ):∀(t:TA) (v:DV),isT G t v=true->Hs d t (v.ins ρ)
 |t,.tok n,h=>by
  unfold isT at h;split at h
  ·rename_i u e;exact qvy t u h (hG n u e)
  ·cases h
 |t,.b c,h=>by
  unfold isT at h;split at h
  ·exact⟨c,rfl⟩
  ·cases h
 |t,.i k n,h=>by
  unfold isT at h;split at h
  ·rename_i k';rw[zzf]at h
   have:=of_decide_eq_true h.1
   subst this;exact⟨n,rfl,h.2⟩
  ·cases h
 |t,.s x,h=>by
  unfold isT at h;split at h
  ·have:=Nat.le_of_ble_eq_true h
   exact⟨x,rfl,zzL this (by decide)⟩
  ·cases h
 |t,.l k es tt,h=>by
  unfold isT at h;split at h
  ·rename_i k' m ts;simp only[zzf]at h;have h1:=Keq h.1.1
   subst h1;refine⟨DV.Aj ρ es,tt,rfl,?_,?_,qy9 hG k ts es h.2⟩
   ·rw[qcw];exact zzL (Nat.le_of_ble_eq_true h.1.2.2) (by decide)
   ·rw[qcw];exact Nat.le_of_ble_eq_true h.1.2.1
  ·cases h
 |_,.a _,h|_,.np,h|_,.nf,h|_,.ni,h|_,.nm,h|_,.ifc ..,h=>by unfold isT at h;cases h
def qs4{G:CF TA}(hG:qkv d G ρ):∀(ts:CF TA) (vs:Ct),qkW G ts vs=true->HsL d ts (DV.Aj ρ vs)
 |ts,[],h=>by
  unfold qkW at h
  have:=List.isEmpty_iff.1 h
  subst this;exact trivial
 |ts,v::vs,h=>by
  unfold qkW at h;split at h
  ·rename_i t us;rw[zzf]at h;exact⟨qif hG t v h.1,qs4 hG us vs h.2⟩
  ·cases h
def qy9{G:CF TA}(hG:qkv d G ρ)(k:K)(ts:CF TA):∀(es:Ct),qpQ G k ts es=true->∀e∈DV.Aj ρ es,∃cs,mkD k cs=some e/\HsL d ts cs
 |[],_,e,he=>by cases he
 |v::vs,h,e,he=>by
  unfold qpQ at h;rw[zzf]at h
  rcases List.mem_cons.1 he with e1|he
  ·subst e1;have h1:=h.1
   split at h1
   ·rename_i n cs;rw[zzf]at h1;have hl:=zzy h1.1
    refine⟨DV.Aj ρ cs,?_,qs4 hG ts cs h1.2⟩;simp only[mkD,qcw];rw[if_pos hl];rfl
   ·split at h1
    ·rename_i t;exact⟨[v.ins ρ],rfl,qif hG t _ h1,trivial⟩
    ·cases h1
   ·cases h1
  ·exact qy9 hG k ts vs h.2 e he
end
def HsK(d:Nat)(kt:K×CF TA)(x:DV):Prop:=∃cs,mkD kt.1 cs=some x/\HsL d kt.2 cs
def qHz{G:CF TA}(hG:qkv d G ρ){kt:K×CF TA}{v:DV}(h:isK G kt v=true):HsK d kt (v.ins ρ):=by
 obtain⟨k,ts⟩:=kt;unfold isK at h;split at h
 ·rename_i n cs hk;simp only at hk;subst hk;rw[zzf]at h;refine⟨DV.Aj ρ cs,?_,qs4 hG _ cs h.2⟩;simp only[mkD,qcw];rw[if_pos (zzy h.1)];rfl
 ·rename_i hk;simp only at hk;subst hk;split at h
  ·rename_i t e;simp only at e;subst e;exact⟨[_],rfl,qif hG t _ h,trivial⟩
  ·cases h
 ·cases h
def qbm(d:Nat):CF (K×CF TA)->Ct->Prop
 |[],[]=>True
 |k::ks,v::vs=>HsK d k v/\qbm d ks vs
 |_,_=>False
def qs2{G:CF TA}(hG:qkv d G ρ):∀{ks:CF (K×CF TA)} {vs:Ct},qkV G ks vs=true->qbm d ks (DV.Aj ρ vs)
 |[],[],_=>trivial
 |k::ks,v::vs,h=>by
  rw[qkV,zzf]at h;exact⟨qHz hG h.1,qs2 hG h.2⟩
 |[],_::_,h=>by cases h
 |_::_,[],h=>by cases h
end
section
variable {d:Nat}{ρ ρ':Nat->DV}{V:Nat->Ct->Cz}
structure Mod (d:Nat) (V:Nat->List DV->Option (PV×Bool)) (σ:AS) (ρ:Nat->DV):Prop where
 sc:Sc ρ
 ty:qkv d σ.G ρ
 fx:∀f∈σ.fx,Fact.ok ρ f
 z:ρ 0=.i .i64 0
 cs:∀c∈σ.cs,∃own,V c.1 (DV.Aj ρ c.2.1)=some (c.2.2.ins ρ,own)
def Agr(n:Nat)(ρ ρ':Nat->DV):Prop:=∀m,m<n->ρ' m=ρ m
structure AS.wf (σ:AS):Prop where
 st:∀ρ ρ',Sc ρ->Sc ρ'->Agr σ.G.length ρ ρ'->σ.st.ins ρ'=σ.st.ins ρ
 cs:∀ρ ρ',Sc ρ->Sc ρ'->Agr σ.G.length ρ ρ'->∀c∈σ.cs,DV.Aj ρ' c.2.1=DV.Aj ρ c.2.1/\c.2.2.ins ρ'=c.2.2.ins ρ
 fx:∀f∈σ.fx,f.1<σ.G.length/\f.2.1<σ.G.length
 z:0<σ.G.length
def Agr.le{n m:Nat}(h:n<=m)(a:Agr m ρ ρ'):Agr n ρ ρ':=λk hk=>a k (by omega)
def Agr.trans{n:Nat}{ρ'':Nat->DV}(a:Agr n ρ ρ')(b:Agr n ρ' ρ''):Agr n ρ ρ'':=λk hk=>(b k hk).trans (a k hk)
def Agr.rfl'{n:Nat}:Agr n ρ ρ:=λ_ _=>rfl
def qwf{t:TA}{x:DV}(h:Hs d t x):∀cs,x≠.a cs:=by
 intro cs e;subst e;cases t with
 |b=>obtain⟨c,h⟩:=h;cases h
 |i k=>obtain⟨n,h,_⟩:=h;cases h
 |s=>obtain⟨l,h,_⟩:=h;cases h
 |l k m ts=>obtain⟨es,t,h,_⟩:=h;cases h
 |e n=>
  have:XT d 0 (.a cs):=qoM (zzK n) h
  obtain⟨m,hm⟩:=this;cases m with
  |zero=>cases hm
  |succ m=>obtain⟨es,h,_⟩:=hm;cases h
def upn(ρ:Nat->DV)(n:Nat)(xs:Ct):Nat->DV:=λm=>if n<=m then match xs[m-n]? with|some x=>x|none=>ρ m else ρ m
def qiB{n m:Nat}{xs:Ct}(h:m<n):upn ρ n xs m=ρ m:=by unfold upn;rw[if_neg (by omega)]
def qiA(n:Nat)(xs:Ct):Agr n ρ (upn ρ n xs):=λ_ h=>qiB h
def qdO{n i:Nat}{xs:Ct}{x:DV}(h:xs[i]? = some x):upn ρ n xs (n+i)=x:=by
 unfold upn;rw[if_pos (by omega),show n+i-n=i by omega,h]
def qq6:∀{ts:CF TA} {xs:Ct},HsL d ts xs->∀(i:Nat) (t:TA),ts[i]? = some t->∃x,xs[i]? = some x/\Hs d t x
 |_::_,x::_,h,0,_,e=>by cases e;exact⟨x,rfl,h.1⟩
 |_::ts,_::_,h,i+1,u,e=>qq6 (ts:=ts) h.2 i u e
 |[],_,_,_,_,e=>by simp at e
 |_::_,[],h,_,_,_=>h.elim
def qom:∀{ts:CF TA} {xs:Ct},HsL d ts xs->ts.length=xs.length
 |[],[],_=>rfl
 |t::ts,x::xs,h=>by rw[zzn,zzn,qom h.2]
 |[],_::_,h=>h.elim
 |_::_,[],h=>h.elim
def qwe:∀{ts:CF TA} {xs:Ct},HsL d ts xs->∀x∈xs,∀cs,x≠.a cs
 |[],[],_,_,hx=>by cases hx
 |t::ts,x::xs,h,y,hy=>by
  rcases List.mem_cons.1 hy with e|hy
  ·subst e;exact qwf h.1
  ·exact qwe h.2 y hy
 |[],_::_,h,_,_=>h.elim
 |_::_,[],h,_,_=>h.elim
def qC1{ts:CF TA}{xs:Ct}{n:Nat}(hs:Sc ρ)(h:HsL d ts xs):Sc (upn ρ n xs):=by
 intro m cs;unfold upn;split
 ·split
  ·rename_i x e;exact qwe h x (List.mem_of_getElem? e) cs
  ·exact hs m cs
 ·exact hs m cs
def qyY{xs:Ct}:∀(ts:CF TA) (n k:Nat),ts.length+k=xs.length->DV.Aj (upn ρ n xs) (qcD (n+k) ts)=xs.drop k
 |[],n,k,h=>by
  have:k=xs.length:=by simpa using h
  subst this;rw[List.drop_length];rfl
 |t::ts,n,k,h=>by
  have hk:k<xs.length:=by rw[zzn]at h;omega
  rw[qcD,DV.Aj,show n+k+1=n+(k+1)by omega,qyY ts n (k+1) (by rw[zzn]at h;omega)]
  rw[DV.ins,qdO (zze hk),List.getElem_cons_drop]
def qGK{t:TA}{n:Nat}(hz:ρ 0=.i .i64 0)(h:Hs d t (ρ n)):∀f∈qni n t,Fact.ok ρ f:=by
 intro f hf;have h0:vI (ρ 0)=0:=by rw[hz];rfl
 have hm:(maxLen:Int)=9223372036854775807:=by decide
 have hx:∀es:Ct,es.length<=maxLen->(es.length:Int)<=9223372036854775807:=λes h=>by omega
 have key:0<=vI (ρ n)->vI (ρ n)<=9223372036854775807->f∈[((0:Nat),n,(0:Int)),(n,0,-qe0)]->Fact.ok ρ f:=by
  intro a b hf;simp only[List.mem_cons,zzC,or_false]at hf;unfold Fact.ok;rcases hf with e|e
  ·subst e;simp only;rw[h0];omega
  ·subst e;simp only;rw[h0];unfold qe0;omega
 unfold qni at hf;split at hf
 ·obtain⟨l,e,hl⟩:=h;refine key ?_ ?_ hf<;>rw[e]<;>simp only[vI]<;>omega
 ·rename_i m;have:XT d 0 (ρ n):=qoM (zzK m) h
  obtain⟨k,hk⟩:=this;obtain⟨es,t,e,hl⟩:∃es t,ρ n=.l (some 4) es t/\es.length<=maxLen:=by
   cases k with
   |zero=>exact⟨[],false,hk,zzK _⟩
   |succ k=>obtain⟨es,h,hl,_⟩:=hk;exact⟨es,false,h,by unfold qbf at hl;have:maxLen=9223372036854775807:=rfl;omega⟩
  refine key ?_ ?_ hf<;>rw[e]<;>simp only[vI]<;>omega
 ·obtain⟨es,t,e,hl,_⟩:=h;refine key ?_ ?_ hf<;>rw[e]<;>simp only[vI]<;>omega
 ·obtain⟨m,e,hw⟩:=h;have h1:0<=m/\m<=255:=by
   simp[Lit.wf,IntKind.min,IntKind.max,IntKind.signed,IntKind.bits]at hw;omega
  simp only[List.mem_cons,zzC,or_false]at hf;unfold Fact.ok;rcases hf with e1|e1
  ·subst e1;simp only;rw[h0,e];simp only[vI];omega
  ·subst e1;simp only;rw[h0,e];simp only[vI];omega
 ·cases hf
end
section
variable {d:Nat}{ρ ρ':Nat->DV}{V:Nat->Ct->Cz}{σ:AS}
def qpu(hz:ρ 0=.i .i64 0):∀(ts:CF TA) (n:Nat),(∀i t,ts[i]? = some t->Hs d t (ρ (n+i)))->∀f∈fxs n ts,Fact.ok ρ f
 |[],_,_,f,hf=>by cases hf
 |t::ts,n,h,f,hf=>by
  rcases zzB.1 hf with hf|hf
  ·exact qGK hz (h 0 t rfl) f hf
  ·refine qpu hz ts (n+1) (λi u e=>?_) f hf
   have:=h (i+1) u e
   rwa [show n+(i+1)=n+1+i by omega]at this
def qGJ{t:TA}{n:Nat}:∀f∈qni n t,f.1<=n/\f.2.1<=n:=by
 intro f hf;unfold qni at hf;split at hf<;>simp at hf<;>rcases hf with e|e<;>subst e<;>simp
def qpt:∀(ts:CF TA) (n:Nat),∀f∈fxs n ts,f.1<n+ts.length/\f.2.1<n+ts.length
 |[],_,f,hf=>by cases hf
 |t::ts,n,f,hf=>by
  rw[zzn];rcases zzB.1 hf with hf|hf
  ·have:=qGJ f hf;omega
  ·have:=qpt ts (n+1) f hf;omega
def qxY{f:Fact}{n:Nat}(h1:f.1<n)(h2:f.2.1<n)(a:Agr n ρ ρ')(h:Fact.ok ρ f):Fact.ok ρ' f:=by
 unfold Fact.ok at h⊢;rw[a _ h1,a _ h2];exact h
def qqd(hM:Mod d V σ ρ)(hW:σ.wf){ts:CF TA}{xs:Ct}(h:HsL d ts xs):Mod d V (σ.news ts) (upn ρ σ.G.length xs):=by
 have hs:=qC1 (n:=σ.G.length) hM.sc h
 have ha:Agr σ.G.length ρ (upn ρ σ.G.length xs):=qiA _ _
 have hz:upn ρ σ.G.length xs 0=.i .i64 0:=by rw[ha 0 hW.z];exact hM.z
 have hn:∀i t,ts[i]? = some t->Hs d t (upn ρ σ.G.length xs (σ.G.length+i)):=by
  intro i t e;obtain⟨x,e1,e2⟩:=qq6 h i t e;rw[qdO e1];exact e2
 refine⟨hs,?_,?_,hz,?_⟩
 ·intro n t e;change (σ.G++ts)[n]? = some t at e
  by_cases hlt:n<σ.G.length
  ·rw[List.getElem?_append_left hlt]at e;rw[ha n hlt];exact hM.ty n t e
  ·rw[List.getElem?_append_right (by omega)]at e
   have:=hn _ t e
   rwa [show σ.G.length+(n-σ.G.length)=n by omega]at this
 ·intro f hf;rcases zzB.1 hf with hf|hf
  ·exact qpu hz ts _ hn f hf
  ·exact qxY (hW.fx f hf).1 (hW.fx f hf).2 ha (hM.fx f hf)
 ·intro c hc;obtain⟨own,h1⟩:=hM.cs c hc
  have:=hW.cs _ _ hM.sc hs ha c hc
  exact⟨own,by rw[this.1,this.2];exact h1⟩
def qk8(ts:CF TA):(σ.news ts).G.length=σ.G.length+ts.length:=by
 show (σ.G++ts).length=_
 rw[zzp]
def qqe(hW:σ.wf)(ts:CF TA):(σ.news ts).wf:=by
 have hl:=qk8 (σ:=σ) ts
 refine⟨λρ ρ' h h' a=>hW.st ρ ρ' h h' (a.le (by omega)),λρ ρ' h h' a=>hW.cs ρ ρ' h h' (a.le (by omega)),?_,by have:=hW.z;omega⟩
 intro f hf;rw[hl];rcases zzB.1 hf with hf|hf
 ·exact qpt ts _ f hf
 ·have:=hW.fx f hf;omega
def qrH(hM:Mod d V σ ρ){l:CF Fact}(h:∀f∈l,Fact.ok ρ f):Mod d V (σ.add l) ρ:=
 ⟨hM.sc,hM.ty,λf hf=>(zzB.1 hf).elim (h f) (hM.fx f),hM.z,hM.cs⟩
def qrI(hW:σ.wf){l:CF Fact}(h:∀f∈l,f.1<σ.G.length/\f.2.1<σ.G.length):(σ.add l).wf:=
 ⟨hW.st,hW.cs,λf hf=>(zzB.1 hf).elim (h f) (hW.fx f),hW.z⟩
def nv(ρ:Nat->DV)(x:Nat×Int):Int:=vI (ρ x.1)+x.2
def qdK(hM:Mod d V σ ρ)(hW:σ.wf){v:PV}{k:IntKind}{x:Nat×Int}(h:opI σ.G v=some (k,x)):v.ins ρ=.d (.i k (nv ρ x))/\x.1<σ.G.length/\(Lit.int k (nv ρ x)).wf=true:=by
 unfold opI at h;split at h
 ·rename_i k' n;split at h
  ·rename_i hw;cases h;have e:nv ρ (0,n)=n:=by unfold nv;rw[hM.z];simp[vI]
   rw[e];exact⟨rfl,hW.z,hw⟩
  ·cases h
 ·rename_i m;split at h
  ·rename_i k' e;cases h;obtain⟨n,h1,h2⟩:=hM.ty m _ e;have e1:nv ρ (m,0)=n:=by unfold nv;simp only;rw[h1];simp[vI]
   rw[e1];exact⟨congrArg PV.d h1,(zzk.1 e).1,h2⟩
  ·cases h
 ·cases h
def qbK(hM:Mod d V σ ρ){x y:Nat×Int}{c:Int}(h:leq σ.fx x y c=true):nv ρ x+c<=nv ρ y:=by
 have:=qBy hM.fx 4 _ _ _ h
 unfold nv;omega
def qeR{x y:Nat×Int}{c:Int}(h:nv ρ x+c<=nv ρ y):Fact.ok ρ (fle x y c):=by
 unfold Fact.ok fle;unfold nv at h;simp only;omega
end
section
variable {d:Nat}{ρ ρ':Nat->DV}{V:Nat->Ct->Cz}{σ:AS}
structure Good (d:Nat) (V:Nat->List DV->Option (PV×Bool)) (σ:AS) (ρ:Nat->DV) (x:PV×AS) (ρ':Nat->DV):Prop where
 ag:Agr σ.G.length ρ ρ'
 m:Mod d V x.2 ρ'
 wf:x.2.wf
 fr:x.2.fr=σ.fr
 le:σ.G.length<=x.2.G.length
 v:∀ρ1 ρ2,Sc ρ1->Sc ρ2->Agr x.2.G.length ρ1 ρ2->x.1.ins ρ2=x.1.ins ρ1
def qbn(d:Nat)(V:Nat->Ct->Cz)(σ:AS)(ρ:Nat->DV)(l:CF (PV×AS))(ev:CB):Prop:=
 ∃x∈l,∃ρ',Good d V σ ρ x ρ'/\ev=some (x.1.ins ρ',x.2.H.ins ρ')
def qjP(hM:Mod d V σ ρ)(hW:σ.wf){l:CF (PV×AS)}{v:DV}{fs:CF Fact}(hx:(PV.d v,σ.add fs)∈l)(hv:v.noT=true)(h:∀f∈fs,Fact.ok ρ f)(hb:∀f∈fs,f.1<σ.G.length/\f.2.1<σ.G.length):qbn d V σ ρ l (some (.d v,σ.H.ins ρ)):=by
 refine⟨_,hx,ρ,⟨Agr.rfl',qrH hM h,qrI hW hb,rfl,zzt _,λρ1 ρ2 _ _ _=>?_⟩,?_⟩
 ·show (PV.d v).ins ρ2=(PV.d v).ins ρ1
  rw[qjD hv,qjD hv]
 ·show _=some ((PV.d v).ins ρ,_)
  rw[qjD hv];rfl
def qvF(hM:Mod d V σ ρ)(hW:σ.wf){b:CG}{l:CF (PV×AS)}(h:tru σ b=some l):qbn d V σ ρ l (some (.d (.b b),σ.H.ins ρ)):=by
 cases h;exact qjP (fs:=[]) hM hW (zzH.2 rfl) rfl (λf hf=>by cases hf) (λf hf=>by cases hf)
def qcz(hM:Mod d V σ ρ)(hW:σ.wf){k:IntKind}{fs:CF Fact}{l:CF (PV×AS)}{n:Int}(h:qcy σ k fs=some l)(hn:(Lit.int k n).wf=true)(hf:∀f∈fs,Fact.ok (upn ρ σ.G.length [.i k n]) f)(hb:∀f∈fs,f.1<σ.G.length+1/\f.2.1<σ.G.length+1):qbn d V σ ρ l (some (.d (.i k n),σ.H.ins ρ)):=by
 cases h;have hL:HsL d [TA.i k] [DV.i k n]:=⟨⟨n,rfl,hn⟩,trivial⟩
 have hM':=qqd hM hW hL
 have hl:(σ.news [.i k]).G.length=σ.G.length+1:=qk8 _
 refine⟨_,zzH.2 rfl,upn ρ σ.G.length [.i k n],⟨qiA _ _,qrH hM' hf,qrI (qqe hW _) (by rw[hl];exact hb),rfl,?_,λρ1 ρ2 _ _ a=>?_⟩,?_⟩
 ·show σ.G.length<=(σ.news [.i k]).G.length
  omega
 ·show PV.d (ρ2 σ.G.length)=PV.d (ρ1 σ.G.length)
  rw[a σ.G.length (by show σ.G.length<(σ.news [.i k]).G.length;omega)]
 ·show _=some (PV.d (upn ρ σ.G.length [.i k n] σ.G.length),Heap.ins _ σ.H)
  have e1:upn ρ σ.G.length [.i k n] σ.G.length=.i k n:=qdO (i:=0) rfl
  have e2:=hW.st _ _ hM.sc hM'.sc (qiA _ _)
  have e3:σ.H.ins (upn ρ σ.G.length [.i k n])=σ.H.ins ρ:=congrArg St.H e2
  rw[e1,e3]
def qp5(hM:Mod d V σ ρ)(hW:σ.wf){a b:Nat×Int}(ha:a.1<σ.G.length)(hb:b.1<σ.G.length){n:CG}{l:CF (PV×AS)}
  (h:(if leq σ.fx a b 1 then tru σ (!n)else if leq σ.fx b a 0 then tru σ n else some [(.d (.b (!n)),σ.add [fle a b 1]),(.d (.b n),σ.add [fle b a 0])])=some l) :
  qbn d V σ ρ l (some (.d (.b (if nv ρ a<nv ρ b then !n else n)),σ.H.ins ρ)):=by
 split at h
 ·rename_i e
  have:=qbK hM e
  rw[if_pos (by omega)]
  exact qvF hM hW h
 ·split at h
  ·rename_i e
   have:=qbK hM e
   rw[if_neg (by omega)]
   exact qvF hM hW h
  ·cases h;by_cases hlt:nv ρ a<nv ρ b
   ·rw[if_pos hlt];exact qjP hM hW (zzr ..) rfl (λf hf=>by rw[zzH.1 hf];exact qeR (by omega)) (λf hf=>by rw[zzH.1 hf];exact⟨ha,hb⟩)
   ·rw[if_neg hlt];exact qjP hM hW (zzi _ (zzr ..)) rfl (λf hf=>by rw[zzH.1 hf];exact qeR (by omega)) (λf hf=>by rw[zzH.1 hf];exact⟨hb,ha⟩)
def qxS(hM:Mod d V σ ρ)(hW:σ.wf){x y:Nat×Int}(hx:x.1<σ.G.length)(hy:y.1<σ.G.length){n:CG}{l:CF (PV×AS)}
  (h:(if leq σ.fx x y 1||leq σ.fx y x 1 then tru σ n
  else some [(.d (.b (!n)),σ.add [fle x y 0,fle y x 0]),(.d (.b n),σ.add (if leq σ.fx x y 0 then [fle x y 1]else if leq σ.fx y x 0 then [fle y x 1]else []))])=some l) :
  qbn d V σ ρ l (some (.d (.b (if nv ρ x=nv ρ y then !n else n)),σ.H.ins ρ)):=by
 split at h
 ·rename_i e;have:nv ρ x≠nv ρ y:=by
   rcases Bool.or_eq_true _ _▸e with e|e<;>have:=qbK hM e<;>omega
  rw[if_neg this];exact qvF hM hW h
 ·cases h;by_cases he:nv ρ x=nv ρ y
  ·rw[if_pos he];refine qjP hM hW (zzr ..) rfl (λf hf=>?_) (λf hf=>?_)
   ·rcases List.mem_cons.1 hf with e|hf
    ·rw[e];exact qeR (by omega)
    ·rw[zzH.1 hf];exact qeR (by omega)
   ·rcases List.mem_cons.1 hf with e|hf
    ·rw[e];exact⟨hx,hy⟩
    ·rw[zzH.1 hf];exact⟨hy,hx⟩
  ·rw[if_neg he];refine qjP hM hW (zzi _ (zzr ..)) rfl (λf hf=>?_) (λf hf=>?_)
   ·split at hf
    ·rename_i e;have:=qbK hM e;rw[zzH.1 hf];exact qeR (by omega)
    ·split at hf
     ·rename_i e;have:=qbK hM e;rw[zzH.1 hf];exact qeR (by omega)
     ·cases hf
   ·split at hf
    ·rw[zzH.1 hf];exact⟨hx,hy⟩
    ·split at hf
     ·rw[zzH.1 hf];exact⟨hy,hx⟩
     ·cases hf
def qFK(hM:Mod d V σ ρ)(hW:σ.wf){op:BinOp}{k:IntKind}{x y:Nat×Int}(hx:x.1<σ.G.length)(hy:y.1<σ.G.length){l:CF (PV×AS)}(h:qr5 σ op x y=some l) :
  ∃v,qbN op k (nv ρ x) (nv ρ y)=some v/\qbn d V σ ρ l (some (.d v,σ.H.ins ρ)):=by
 unfold qr5 at h;simp only at h;split at h
 ·refine⟨_,rfl,?_⟩
  have:=qp5 hM hW hx hy h
  have e:decide (nv ρ x<nv ρ y)=(if nv ρ x<nv ρ y then !false else false):=by split<;>simp[*]
  rw[e];exact this
 ·refine⟨_,rfl,?_⟩
  have:=qp5 hM hW hy hx h
  have e:decide (nv ρ x>nv ρ y)=(if nv ρ y<nv ρ x then !false else false):=by split<;>simp[*]
  rw[e];exact this
 ·refine⟨_,rfl,?_⟩
  have:=qp5 hM hW hx hy h
  have e:decide (nv ρ x>=nv ρ y)=(if nv ρ x<nv ρ y then !true else true):=by split<;>simp<;>omega
  rw[e];exact this
 ·refine⟨_,rfl,?_⟩
  have:=qp5 hM hW hy hx h
  have e:decide (nv ρ x<=nv ρ y)=(if nv ρ y<nv ρ x then !true else true):=by split<;>simp<;>omega
  rw[e];exact this
 ·refine⟨_,rfl,?_⟩
  have:=qxS hM hW hx hy h
  have e:(nv ρ x==nv ρ y)=(if nv ρ x=nv ρ y then !false else false):=by split<;>simp[*]
  rw[e];exact this
 ·refine⟨_,rfl,?_⟩
  have:=qxS hM hW hx hy h
  have e:(nv ρ x != nv ρ y)=(if nv ρ x=nv ρ y then !true else true):=by split<;>simp[*]
  rw[e];exact this
 ·cases h
end
section
variable {d:Nat}{ρ ρ':Nat->DV}{V:Nat->Ct->Cz}{σ:AS}
def qvV{n:Int}:(Lit.int .i64 n).wf=true↔-9223372036854775808<=n/\n<=9223372036854775807:=by
 simp[Lit.wf,IntKind.min,IntKind.max,IntKind.signed,IntKind.bits]
def qe9(k:IntKind)(n:Int):(Lit.int k (k.wrap n)).wf=true:=by
 cases k<;>simp[Lit.wf,IntKind.wrap,IntKind.min,IntKind.max,IntKind.signed,IntKind.bits]<;>(try split)<;>omega
def qqg{x:Nat×Int}{xs:Ct}(hx:x.1<σ.G.length):nv (upn ρ σ.G.length xs) x=nv ρ x:=by
 unfold nv;rw[qiB hx]
def qA4{k:IntKind}{n:Int}:nv (upn ρ σ.G.length [.i k n]) (σ.G.length,0)=n:=by
 unfold nv;have:upn ρ σ.G.length [.i k n] σ.G.length=.i k n:=qdO (i:=0) rfl
 simp only;rw[this];simp[vI]
def qdJ(hM:Mod d V σ ρ)(c:Int):nv ρ (0,c)=c:=by unfold nv;rw[hM.z];simp[vI]
def qSP{k:IntKind}{a b:Int}(h:(Lit.int k a).wf=true):(Lit.int k (a.tmod b)).wf=true:=by
 have h1:(a.tmod b).natAbs<=a.natAbs:=by rw[Int.natAbs_tmod];exact Nat.mod_le _ _
 have h2:0<=a->0<=a.tmod b:=λha=>Int.tmod_nonneg _ ha
 have h3:a<=0->a.tmod b<=0:=λha=>by
  have e:(-a).tmod b=-(a.tmod b):=Int.neg_tmod ..
  have:=Int.tmod_nonneg (a:=-a) b (by omega)
  omega
 cases k<;>simp[Lit.wf,IntKind.min,IntKind.max,IntKind.signed,IntKind.bits]at h⊢ <;> omega
def qAe(hM:Mod d V σ ρ)(hW:σ.wf){k:IntKind}{x y:Nat×Int}(hx:x.1<σ.G.length)(m:Int){l:CF (PV×AS)}{c1 c2:Int}
  (hy:Nat.beq y.1 0=true->m=nv ρ x+c1/\c2=-c1)
  (h:qcy σ k (if decide (k=.i64)&&Nat.beq y.1 0&&leq σ.fx x (0,qe0) c1&&leq σ.fx (0,-qe0) x c2 then [fle x (σ.G.length,0) c1,fle (σ.G.length,0) x c2]else [])=some l) :
  qbn d V σ ρ l (some (.d (.i k (k.wrap m)),σ.H.ins ρ)):=by
 have hb:∀f∈[fle x (σ.G.length,0) c1,fle (σ.G.length,0) x c2],f.1<σ.G.length+1/\f.2.1<σ.G.length+1:=by
  intro f hf;rcases List.mem_cons.1 hf with e|hf
  ·rw[e];exact⟨Nat.lt_succ_of_lt hx,Nat.lt_succ_self _⟩
  ·rw[zzH.1 hf];exact⟨Nat.lt_succ_self _,Nat.lt_succ_of_lt hx⟩
 split at h
 ·rename_i e;simp only[zzf,zzq]at e;obtain⟨⟨⟨e1,e2⟩,e3⟩,e4⟩:=e;subst e1;obtain⟨h1,h2⟩:=hy e2;have h3:=qbK hM e3
  have h4:=qbK hM e4
  rw[qdJ hM]at h3 h4;have hmx:qe0=9223372036854775807:=rfl
  have hw:IntKind.i64.wrap m=m:=by rw[IntKind.wrap_i64];omega
  rw[hw];refine qcz hM hW h (qvV.2 (by omega)) (λf hf=>?_) hb
  rcases List.mem_cons.1 hf with e|hf
  ·rw[e];refine qeR ?_;rw[qqg hx,qA4];omega
  ·rw[zzH.1 hf];refine qeR ?_;rw[qqg hx,qA4];omega
 ·exact qcz hM hW h (qe9 _ _) (λf hf=>by cases hf) (λf hf=>by cases hf)
def qE4{n:Nat}(h:Nat.beq n 0=true):n=0:=zzy h
def qEV(hM:Mod d V σ ρ)(hW:σ.wf){op:BinOp}{k:IntKind}{x y:Nat×Int}(hx:x.1<σ.G.length)(hw:(Lit.int k (nv ρ x)).wf=true){l:CF (PV×AS)}(h:qrM σ op k x y=some l) :
  ∃v,qbN op k (nv ρ x) (nv ρ y)=some v/\qbn d V σ ρ l (some (.d v,σ.H.ins ρ)):=by
 have hy0:Nat.beq y.1 0=true->nv ρ y=y.2:=by
  intro e;have:y=(0,y.2):=by rw[<-qE4 e]
  rw[this,qdJ hM]
 unfold qrM at h;simp only at h;split at h
 ·refine⟨_,rfl,qAe hM hW hx _ (λe=>⟨by rw[hy0 e],by omega⟩) h⟩
 ·refine⟨_,rfl,qAe hM hW hx _ (c1:=0-y.2) (c2:=y.2) (λe=>⟨by rw[hy0 e];omega,by omega⟩) h⟩
 ·exact⟨_,rfl,qcz hM hW h (qe9 _ _) (λf hf=>by cases hf) (λf hf=>by cases hf)⟩
 ·exact⟨_,rfl,qcz hM hW h (qe9 _ _) (λf hf=>by cases hf) (λf hf=>by cases hf)⟩
 ·exact⟨_,rfl,qcz hM hW h (qe9 _ _) (λf hf=>by cases hf) (λf hf=>by cases hf)⟩
 ·exact⟨_,rfl,qcz hM hW h (qe9 _ _) (λf hf=>by cases hf) (λf hf=>by cases hf)⟩
 ·exact⟨_,rfl,qcz hM hW h (qe9 _ _) (λf hf=>by cases hf) (λf hf=>by cases hf)⟩
 ·split at h
  ·rename_i e;simp only[zzf,Bool.not_eq_true',zzE]at e;have h1:=hy0 e.1
   refine⟨.i k (k.wrap ((nv ρ x).tdiv (nv ρ y))),by simp only[qbN];rw[if_neg (by rw[h1];exact e.2)],?_⟩
   split at h
   ·rename_i e2;simp only[zzf,zzq]at e2;obtain⟨⟨e3,e4⟩,e5⟩:=e2;subst e5;have h4:=qbK hM e4
    unfold z0 at h4;rw[qdJ hM]at h4;refine qcz hM hW h (qe9 _ _) (λf hf=>?_) (λf hf=>by rw[zzH.1 hf];exact⟨by simp,Nat.lt_succ_self _⟩)
    rw[zzH.1 hf];have h6:=qvV.1 hw
    have h7:0<=(nv ρ x).tdiv (nv ρ y):=Int.tdiv_nonneg (by omega) (by omega)
    have h8:(nv ρ x).tdiv (nv ρ y)<=nv ρ x:=by
     rw[Int.tdiv_eq_ediv_of_nonneg (by omega)];exact Int.ediv_le_self _ (by omega)
    have h9:IntKind.i64.wrap ((nv ρ x).tdiv (nv ρ y))=(nv ρ x).tdiv (nv ρ y):=by rw[IntKind.wrap_i64];omega
    show vI (upn ρ _ _ 0)+0<=vI (upn ρ _ _ σ.G.length)
    have e1:upn ρ σ.G.length [.i .i64 (IntKind.i64.wrap ((nv ρ x).tdiv (nv ρ y)))] σ.G.length=.i .i64 (IntKind.i64.wrap ((nv ρ x).tdiv (nv ρ y))):=qdO (i:=0) rfl
    rw[e1,qiB hW.z,hM.z,h9];simp only[vI];omega
   ·exact qcz hM hW h (qe9 _ _) (λf hf=>by cases hf) (λf hf=>by cases hf)
  ·cases h
 ·split at h
  ·rename_i e;simp only[zzf,Bool.not_eq_true',zzE]at e;have h1:=hy0 e.1
   have hr:(Lit.int k ((nv ρ x).tmod (nv ρ y))).wf=true:=qSP hw
   refine⟨.i k ((nv ρ x).tmod (nv ρ y)),by simp only[qbN];rw[if_neg (by rw[h1];exact e.2)],?_⟩
   split at h
   ·rename_i e2;simp only[zzf,zzq]at e2;obtain⟨⟨e3,e4⟩,e5⟩:=e2;have h4:=qbK hM e4
    unfold z0 at h4;rw[qdJ hM]at h4;have h7:0<=(nv ρ x).tmod (nv ρ y):=Int.tmod_nonneg _ (by omega)
    have h8:(nv ρ x).tmod (nv ρ y)<nv ρ y:=Int.tmod_lt_of_pos _ (by omega)
    have e1:upn ρ σ.G.length [.i k ((nv ρ x).tmod (nv ρ y))] σ.G.length=.i k ((nv ρ x).tmod (nv ρ y)):=qdO (i:=0) rfl
    refine qcz hM hW h hr (λf hf=>?_) (λf hf=>?_)
    ·rcases List.mem_cons.1 hf with e|hf
     ·rw[e];show vI (upn ρ _ _ 0)+0<=vI (upn ρ _ _ σ.G.length)
      rw[e1,qiB hW.z,hM.z];simp only[vI];omega
     ·rw[zzH.1 hf];show vI (upn ρ _ _ σ.G.length)+(1-y.2)<=vI (upn ρ _ _ 0)
      rw[e1,qiB hW.z,hM.z];simp only[vI];omega
    ·rcases List.mem_cons.1 hf with e|hf
     ·rw[e];exact⟨by simp,Nat.lt_succ_self _⟩
     ·rw[zzH.1 hf];exact⟨Nat.lt_succ_self _,by simp⟩
   ·exact qcz hM hW h hr (λf hf=>by cases hf) (λf hf=>by cases hf)
  ·cases h
 ·cases h
end
section
variable {d:Nat}{ρ ρ':Nat->DV}{V:Nat->Ct->Cz}{σ:AS}
def qi6(hM:Mod d V σ ρ)(hW:σ.wf){t f:CF Fact}{l:CF (PV×AS)}(h:qm3 σ t f=some l)(b:CG)(ht:b=true->∀x∈t,Fact.ok ρ x)(hf:b=false->∀x∈f,Fact.ok ρ x)(bt:∀x∈t,x.1<σ.G.length/\x.2.1<σ.G.length)(bf:∀x∈f,x.1<σ.G.length/\x.2.1<σ.G.length):qbn d V σ ρ l (some (.d (.b b),σ.H.ins ρ)):=by
 cases h;cases b with
 |true=>exact qjP hM hW (zzr ..) rfl (ht rfl) bt
 |false=>exact qjP hM hW (zzi _ (zzr ..)) rfl (hf rfl) bf
def tv(ρ:Nat->DV)(x:CE Nat×Cv):Cv:=match x.1 with
 |some m=>match ρ m with|.s l=>l|_=>[]
 |none=>x.2
def qla(hM:Mod d V σ ρ){v:PV}{x:CE Nat×Cv}(h:opS σ.G v=some x):v.ins ρ=.d (.s (tv ρ x))/\(∀m,x.1=some m->m<σ.G.length/\ρ m=.s (tv ρ x)):=by
 unfold opS at h;split at h
 ·cases h;exact⟨rfl,λm e=>by cases e⟩
 ·rename_i m;split at h
  ·rename_i e;cases h;obtain⟨l,h1,_⟩:=hM.ty m _ e;have e1:tv ρ (some m,[])=l:=by unfold tv;simp only;rw[h1]
   rw[e1];refine⟨congrArg PV.d h1,λk hk=>?_⟩
   cases hk;exact⟨(zzk.1 e).1,h1⟩
  ·cases h
 ·cases h
def qA1{l:Cv}:(l==[])=true↔(l.length:Int)=0:=by
 cases l<;>simp<;>omega
def qGc(hM:Mod d V σ ρ)(hW:σ.wf):∀(x y:CE Nat×Cv),(∀m,x.1=some m->m<σ.G.length/\ρ m=.s (tv ρ x))->(∀m,y.1=some m->m<σ.G.length/\ρ m=.s (tv ρ y))->
  ((tv ρ x==tv ρ y)=true->∀a∈(emF x y).1,Fact.ok ρ a)/\((tv ρ x==tv ρ y)=false->∀a∈(emF x y).2,Fact.ok ρ a)/\(∀a∈(emF x y).1,a.1<σ.G.length/\a.2.1<σ.G.length)/\(∀a∈(emF x y).2,a.1<σ.G.length/\a.2.1<σ.G.length):=by
 have no:∀(P:Fact->Prop),∀a∈([]:CF Fact),P a:=λP a ha=>by cases ha
 have one:∀(m:Nat) (l:Cv) (b:CG),m<σ.G.length->ρ m=.s l->((l==[])=b)->
   (b=true->∀a∈[((m,0,0):Fact)],Fact.ok ρ a)/\(b=false->∀a∈[((0,m,1):Fact)],Fact.ok ρ a)/\(∀a∈[((m,0,0):Fact)],a.1<σ.G.length/\a.2.1<σ.G.length)/\(∀a∈[((0,m,1):Fact)],a.1<σ.G.length/\a.2.1<σ.G.length):=by
  intro m l b h1 h2 hb;refine⟨λe a ha=>?_,λe a ha=>?_,λa ha=>?_,λa ha=>?_⟩<;>rw[zzH.1 ha]
  ·unfold Fact.ok;simp only;rw[h2,hM.z]
   have:=qA1.1 (hb.trans e)
   simp only[vI];omega
  ·unfold Fact.ok;simp only;rw[h2,hM.z];have:¬(l.length:Int)=0:=λc=>by rw[qA1.2 c]at hb;rw[<-hb]at e;cases e
   simp only[vI];omega
  ·exact⟨h1,hW.z⟩
  ·exact⟨hW.z,h1⟩
 have es:∀l:Cv,(([]:Cv)==l)=(l==[]):=λl=>by cases l<;>rfl
 rintro⟨x1,x2⟩ ⟨y1,y2⟩ hx hy;match x1,x2,y1,y2,hx,hy with
 |some m,x2,none,[],hx,_=>obtain⟨h1,h2⟩:=hx m rfl;exact one m _ _ h1 h2 rfl
 |none,[],some m,y2,_,hy=>obtain⟨h1,h2⟩:=hy m rfl;exact one m _ _ h1 h2 (es _).symm
 |none,[],none,[],_,_=>exact⟨λ_=>no _,λ_=>no _,no _,no _⟩
 |none,[],none,_::_,_,_=>exact⟨λ_=>no _,λ_=>no _,no _,no _⟩
 |none,_::_,none,[],_,_=>exact⟨λ_=>no _,λ_=>no _,no _,no _⟩
 |none,_::_,none,_::_,_,_=>exact⟨λ_=>no _,λ_=>no _,no _,no _⟩
 |some _,_,some _,_,_,_=>exact⟨λ_=>no _,λ_=>no _,no _,no _⟩
 |some _,_,none,_::_,_,_=>exact⟨λ_=>no _,λ_=>no _,no _,no _⟩
 |none,_::_,some _,_,_,_=>exact⟨λ_=>no _,λ_=>no _,no _,no _⟩
def qFL(hM:Mod d V σ ρ)(hW:σ.wf){op:BinOp}{vx vy:PV}{x y:CE Nat×Cv}(hx:opS σ.G vx=some x)(hy:opS σ.G vy=some y){l:CF (PV×AS)}(h:qr6 σ op x y=some l) :
  ∃v,qkC op (tv ρ x) (tv ρ y)=some v/\qbn d V σ ρ l (some (.d v,σ.H.ins ρ)):=by
 obtain⟨k1,k2,k3,k4⟩:=qGc hM hW x y (qla hM hx).2 (qla hM hy).2;have no:∀a∈([]:CF Fact),a.1<σ.G.length/\a.2.1<σ.G.length:=λa ha=>by cases ha
 have no':∀a∈([]:CF Fact),Fact.ok ρ a:=λa ha=>by cases ha
 unfold qr6 at h;simp only at h;split at h
 ·exact⟨_,rfl,qi6 hM hW h _ k1 k2 k3 k4⟩
 ·refine⟨_,rfl,qi6 hM hW h _ (λe=>k2 ?_) (λe=>k1 ?_) k4 k3⟩
  ·cases c:(tv ρ x==tv ρ y)with
   |false=>rfl
   |true=>rw[c]at e;cases e
  ·cases c:(tv ρ x==tv ρ y)with
   |true=>rfl
   |false=>rw[c]at e;cases e
 ·exact⟨_,rfl,qi6 hM hW h _ (λ_=>no') (λ_=>no') no no⟩
 ·exact⟨_,rfl,qi6 hM hW h _ (λ_=>no') (λ_=>no') no no⟩
 ·exact⟨_,rfl,qi6 hM hW h _ (λ_=>no') (λ_=>no') no no⟩
 ·exact⟨_,rfl,qi6 hM hW h _ (λ_=>no') (λ_=>no') no no⟩
 ·cases h
end
section
variable {d:Nat}{ρ ρ':Nat->DV}{V:Nat->Ct->Cz}{σ:AS}
def qxR(hM:Mod d V σ ρ)(hW:σ.wf):∀(ks:Cy) (xs ys:Ct),eqT σ.G ks xs ys=true->∃b,eqL ks (DV.Aj ρ xs) (DV.Aj ρ ys)=some b
 |[],[],[],_=>⟨true,rfl⟩
 |k::ks,x::xs,y::ys,h=>by
  unfold eqT at h;rw[zzf]at h
  obtain⟨b,hb⟩:=qxR hM hW ks xs ys h.2;have h1:=h.1
  have:∃c,eqK k (x.ins ρ) (y.ins ρ)=some c:=by
   split at h1
   ·split at h1
    ·rename_i a b ea eb
     have:=of_decide_eq_true h1
     obtain⟨k1,x1⟩:=a;obtain⟨k2,x2⟩:=b;simp only at this;subst this;have e1:=(qdK hM hW ea).1
     have e2:=(qdK hM hW eb).1
     simp only[PV.ins,PV.d.injEq]at e1 e2;rw[e1,e2];exact⟨_,if_pos rfl⟩
    ·cases h1
   ·rw[zzf]at h1;obtain⟨a,ea⟩:=qif hM.ty .b x h1.1;obtain⟨b,eb⟩:=qif hM.ty .b y h1.2;rw[ea,eb];exact⟨_,rfl⟩
   ·rw[zzf]at h1;obtain⟨a,ea,_⟩:=qif hM.ty .s x h1.1;obtain⟨b,eb,_⟩:=qif hM.ty .s y h1.2;rw[ea,eb];exact⟨_,rfl⟩
   ·cases h1
  obtain⟨c,hc⟩:=this;refine⟨c&&b,?_⟩;rw[DV.Aj,DV.Aj,eqL,hc,hb]
 |[],[],_::_,h|[],_::_,_,h|_::_,[],_,h|_::_,_::_,[],h=>by simp[eqT]at h
def qtx(hM:Mod d V σ ρ)(hW:σ.wf){n:Nat}{s:CG}{H:CP}{l:CF (PV×AS)}{t:TA}(ht:σ.G[n]? = some t)(hs:(s=true/\t=.s)\/(s=false/\((∃m,t=.e m)\/∃k m ts,t=.l k m ts)))(h:qcy σ .i64 [(n,σ.G.length,0),(σ.G.length,n,0)]=some l) :
  ∃m,qbB H s (.d (ρ n))=some m/\qbn d V σ ρ l (some (.d (.i .i64 m),σ.H.ins ρ)):=by
 have hn:=(zzk.1 ht).1
 have hy:=hM.ty n t ht
 have key:∃m:Nat,qbB H s (.d (ρ n))=some m/\vI (ρ n)=m/\m<=maxLen:=by
  rcases hs with ⟨e1,e2⟩|⟨e1,⟨m,e2⟩|⟨k,mx,ts,e2⟩⟩
  ·subst e1;subst e2
   obtain⟨x,e,hl⟩:=hy;rw[e];exact⟨x.length,rfl,rfl,hl⟩
  ·subst e1;subst e2
   have:XT d 0 (ρ n):=qoM (zzK m) hy
   obtain⟨k,hk⟩:=this;cases k with
   |zero=>have e:ρ n=.l (some 4) [] false:=hk;rw[e];exact⟨0,rfl,rfl,zzK _⟩
   |succ k=>obtain⟨es,e,hl,_⟩:=hk;rw[e];exact⟨es.length,rfl,rfl,by unfold qbf at hl;have:maxLen=9223372036854775807:=rfl;omega⟩
  ·subst e1;subst e2
   obtain⟨es,t,e,hl,_⟩:=hy;rw[e];exact⟨es.length,rfl,rfl,hl⟩
 obtain⟨m,h1,h2,h3⟩:=key;have hm:(maxLen:Int)=9223372036854775807:=by decide
 have e1:upn ρ σ.G.length [.i .i64 m] σ.G.length=.i .i64 m:=qdO (i:=0) rfl
 refine⟨m,h1,qcz hM hW h (qvV.2 (by omega)) (λf hf=>?_) (λf hf=>?_)⟩
 ·rcases List.mem_cons.1 hf with e|hf
  ·rw[e];unfold Fact.ok;simp only;rw[e1,qiB hn,h2];simp[vI]
  ·rw[zzH.1 hf];unfold Fact.ok;simp only;rw[e1,qiB hn,h2];simp[vI]
 ·rcases List.mem_cons.1 hf with e|hf
  ·rw[e];exact⟨Nat.lt_succ_of_lt hn,Nat.lt_succ_self _⟩
  ·rw[zzH.1 hf];exact⟨Nat.lt_succ_self _,Nat.lt_succ_of_lt hn⟩
def qFh(hM:Mod d V σ ρ)(hW:σ.wf){s:Cv}{i:Int}(h0:0<=i)(h1:i<s.length){l:CF (PV×AS)}(h:qcy σ .u8 []=some l) :
  ∃b,s[i.toNat]? = some b/\qbn d V σ ρ l (some (.d (.i .u8 (b.toNat:Int)),σ.H.ins ρ)):=by
 have hi:i.toNat<s.length:=by omega
 refine⟨s[i.toNat],zze hi,qcz hM hW h ?_ (λf hf=>by cases hf) (λf hf=>by cases hf)⟩
 have:=s[i.toNat].toNat_lt
 simp[Lit.wf,IntKind.min,IntKind.max,IntKind.signed,IntKind.bits];omega
end
section
variable {d:Nat}{ρ ρ':Nat->DV}{V:Nat->Ct->Cz}{σ:AS}
def qrY(hM:Mod d V σ ρ)(hW:σ.wf){ts:CF TA}{cs:Ct}(hc:HsL d ts cs){k:K}{e:DV}(he:mkD k cs=some e){l:CF (PV×AS)}{v:DV}{c:Nat}
  (hl:(PV.q v k c,σ.news ts)∈l) (hv:(k=none/\ts.length=1/\v=.tok σ.G.length)\/(∃m,k=some m/\v=.a (qcD σ.G.length ts))) :
  qbn d V σ ρ l (some (.q e k c,σ.H.ins ρ)):=by
 have hM':=qqd hM hW hc
 have hn:=qk8 (σ:=σ) ts
 have hlen:=qom hc
 have e3:σ.H.ins (upn ρ σ.G.length cs)=σ.H.ins ρ:=congrArg St.H (hW.st _ _ hM.sc hM'.sc (qiA _ _))
 have tk:∀(ρ1 ρ2:Nat->DV) (us:CF TA) (n:Nat),n+us.length<=(σ.news ts).G.length->Agr (σ.news ts).G.length ρ1 ρ2->DV.Aj ρ2 (qcD n us)=DV.Aj ρ1 (qcD n us):=by
  intro ρ1 ρ2 us;induction us with
  |nil=>intro n _ _;rfl
  |cons u us ih=>
   intro n hn a;rw[zzn]at hn;rw[qcD,DV.Aj,DV.Aj,ih (n+1) (by omega) a]
   have:ρ2 n=ρ1 n:=a n (by omega)
   show ρ2 n::_=ρ1 n::_
   rw[this]
 refine⟨_,hl,upn ρ σ.G.length cs,⟨qiA _ _,hM',qqe hW _,rfl,by show σ.G.length<=(σ.news ts).G.length;omega,λρ1 ρ2 _ _ a=>?_⟩,?_⟩
 ·rcases hv with ⟨_,h1,e1⟩|⟨m,_,e1⟩
  ·subst e1;show PV.q (ρ2 _) _ _=PV.q (ρ1 _) _ _
   rw[a σ.G.length (by show σ.G.length<(σ.news ts).G.length;omega)]
  ·subst e1;show PV.q (.a (DV.Aj ρ2 _)) _ _=PV.q (.a (DV.Aj ρ1 _)) _ _
   rw[tk ρ1 ρ2 ts σ.G.length (by omega) a]
 ·show _=some (PV.q (v.ins _) k c,Heap.ins _ σ.H)
  rw[e3];rcases hv with ⟨e0,h1,e1⟩|⟨m,e0,e1⟩
  ·subst e0;subst e1
   match cs,he,hc with
   |[x],he,_=>
    have hxe:x=e:=by simpa[mkD]using he
    have:upn ρ σ.G.length [x] σ.G.length=x:=qdO (i:=0) rfl
    show _=some (PV.q (upn ρ σ.G.length [x] σ.G.length) none c,_)
    rw[this,hxe]
  ·subst e0;subst e1
   have:DV.Aj (upn ρ σ.G.length cs) (qcD σ.G.length ts)=cs:=by
    have:=qyY (ρ:=ρ) (xs:=cs) ts σ.G.length 0 (by omega)
    simpa using this
   have he':e=.a cs:=by
    simp only[mkD]at he;split at he
    ·cases he;rfl
    ·cases he
   show _=some (PV.q (.a (DV.Aj _ _)) _ _,_)
   rw[this,he']
def qHl{n:Int}{m:Nat}(h0:0<=n)(h1:n<m):inR n m=some n.toNat:=by unfold inR;rw[if_pos ⟨h0,h1⟩]
def iad{H:CP}{k k':K}{kd:IntKind}{es:Ct}{t:CG}{i:Int}{e:DV}(h0:0<=i)(h1:i<es.length)(he:es[i.toNat]? = some e)(hk:K.eq k k'=true):Az H k (.d (.l k' es t)) (.d (.i kd i))=some (.q e k 0):=by
 have:k=k':=Keq hk
 subst this;simp only[Az,asI,qHl h0 h1,he,hk,if_true]
end
section
variable {d:Nat}{ρ ρ':Nat->DV}{V:Nat->Ct->Cz}{σ:AS}
def qOQ(hM:Mod d V σ ρ)(hW:σ.wf){t:TA}{x:DV}(hx:Hs d t x){fs:CF Fact}{l:CF (PV×AS)}(hl:(PV.d (.tok σ.G.length),(σ.news [t]).add fs)∈l)(hf:∀f∈fs,Fact.ok (upn ρ σ.G.length [x]) f)(hb:∀f∈fs,f.1<σ.G.length+1/\f.2.1<σ.G.length+1):qbn d V σ ρ l (some (.d x,σ.H.ins ρ)):=by
 have hL:HsL d [t] [x]:=⟨hx,trivial⟩
 have hM':=qqd hM hW hL
 have hn:(σ.news [t]).G.length=σ.G.length+1:=qk8 _
 refine⟨_,hl,upn ρ σ.G.length [x],⟨qiA _ _,qrH hM' hf,qrI (qqe hW _) (by rw[hn];exact hb),rfl,?_,λρ1 ρ2 _ _ a=>?_⟩,?_⟩
 ·show σ.G.length<=(σ.news [t]).G.length
  omega
 ·show PV.d (ρ2 σ.G.length)=PV.d (ρ1 σ.G.length)
  rw[a σ.G.length (by show σ.G.length<(σ.news [t]).G.length;omega)]
 ·show _=some (PV.d (upn ρ σ.G.length [x] σ.G.length),Heap.ins _ σ.H)
  have e1:upn ρ σ.G.length [x] σ.G.length=x:=qdO (i:=0) rfl
  have e3:σ.H.ins (upn ρ σ.G.length [x])=σ.H.ins ρ:=congrArg St.H (hW.st _ _ hM.sc hM'.sc (qiA _ _))
  rw[e1,e3]
def qQV{k:K}{m:Nat}{ts:CF TA}{es:Ct}{t u:CG}{i:Nat}(h:Hs d (.l k m ts) (.l k es t)):Hs d (.l k m ts) (.l k (es.take i) u):=by
 obtain⟨es',t',e,hl,hm,he⟩:=h;cases e;exact⟨_,_,rfl,by rw[zzI];omega,by rw[zzI];omega,λe hm=>he e (List.mem_of_mem_take hm)⟩
end
section
variable {d:Nat}{ρ ρ':Nat->DV}
def qyX{xs:Ct}:∀(ts:CF TA) (n k:Nat),ts.length+k<=xs.length->DV.Aj (upn ρ n xs) (qcD (n+k) ts)=(xs.drop k).take ts.length
 |[],n,k,h=>by rw[List.length_nil,List.take_zero];rfl
 |t::ts,n,k,h=>by
  have hk:k<xs.length:=by rw[zzn]at h;omega
  rw[qcD,DV.Aj,show n+k+1=n+(k+1)by omega,qyX ts n (k+1) (by rw[zzn]at h;omega)]
  rw[DV.ins,qdO (zze hk),zzn,<-List.getElem_cons_drop hk,List.take_succ_cons]
def qwd:∀{ts us:CF TA} {xs ys:Ct},HsL d ts xs->HsL d us ys->HsL d (ts++us) (xs++ys)
 |[],_,[],_,_,h=>h
 |t::ts,us,x::xs,ys,h1,h2=>⟨h1.1,qwd h1.2 h2⟩
 |[],_,_::_,_,h,_=>h.elim
 |_::_,_,[],_,h,_=>h.elim
def quw:∀(res:CF (K×CF TA)) (vs:Ct),qbm d res vs->∃css,HsL d (qcT res) css/\∀(ρ:Nat->DV) (n:Nat) (pre:Ct),PV.Aj (upn ρ n (pre++css)) (qca (n+pre.length) res)=vs.map .d
 |[],[],_=>⟨[],trivial,λ_ _ _=>rfl⟩
 | (k,ts)::res,v::vs,h=>by
  obtain⟨⟨cs,h1,h2⟩,h3⟩:=h;obtain⟨css,h4,h5⟩:=quw res vs h3;have hl:ts.length=cs.length:=qom h2
  refine⟨cs++css,qwd h2 h4,λρ n pre=>?_⟩
  have e1:PV.Aj (upn ρ n (pre++(cs++css))) (qca (n+pre.length+ts.length) res)=vs.map .d:=by
   have:=h5 ρ n (pre++cs)
   rw[zzp,zzM,<-hl]at this;rwa [show n+pre.length+ts.length=n+(pre.length+ts.length)by omega]
  unfold qca;rw[PV.Aj,e1,zzu]
  congr 1
  have e2:DV.Aj (upn ρ n (pre++(cs++css))) (qcD (n+pre.length) ts)=cs:=by
   rw[qyX ts n pre.length (by rw[zzp,zzp];omega),List.drop_left,hl,List.take_left]
  cases k with
  |none=>
   match cs,ts,h1,hl,e2 with
   |[x],[t],h1,_,e2=>
    have hx:x=v:=by simpa[mkD]using h1
    have:[(DV.tok (n+pre.length)).ins (upn ρ n (pre++([x]++css)))]=[x]:=e2
    show PV.d _=PV.d v
    rw[<-hx];exact congrArg PV.d (List.cons.inj this).1
  |some m=>
   have hv:v=.a cs:=by
    simp only[mkD]at h1;split at h1
    ·cases h1;rfl
    ·cases h1
   show PV.d (.a (DV.Aj _ _))=_
   rw[e2,hv]
 |[],_::_,h=>h.elim
 |_::_,[],h=>h.elim
end
section
variable {d:Nat}{ρ ρ':Nat->DV}{V:Nat->Ct->Cz}{σ:AS}{E:Env}{id:Nat}{r:Ab->PV}
def qcW(d:Nat)(V:Nat->Ct->Cz)(S:CF (Nat×Sg)):Prop:=∀f g,qk3 f S=some g->∀ds,qbm d g.args ds->∃vs own,V f ds=some (qa5 (vs.map .d),own)/\qbm d g.res vs
def qwU{op:BinOp}{k:IntKind}{a b:Int}{v:DV}(h:qbN op k a b=some v):qaI op (.d (.i k a)) (.d (.i k b))=some v:=by
 cases op<;>first|(simp only[qbN]at h;cases h;done)|(simp only[qaI,if_true];exact h)
def qE6{op:BinOp}{a b:Cv}{v:DV}(h:qkC op a b=some v):qaI op (.d (.s a)) (.d (.s b))=some v:=h
def qkD{a b:Nat}(h:Nat.blt a b=true):a<b:=by rw[Nat.blt_eq]at h;exact h
def qAv{a b:Nat}(h:a<b):Nat.blt a b=true:=by rw[Nat.blt_eq];exact h
mutual
def qoY{n:Nat}(a:Agr n ρ ρ'):∀v:DV,v.bnd n=true->v.ins ρ'=v.ins ρ
 |.tok m,h=>a m (qkD h)
 |.a cs,h=>by rw[DV.ins,DV.ins,qm1 a cs h]
 |.l _ es _,h=>by rw[DV.ins,DV.ins,qm1 a es h]
 |.ifc _ v,h=>by rw[DV.ins,DV.ins,qoY a v h]
 |.b _,_|.i _ _,_|.s _,_|.np,_|.nf,_|.ni,_|.nm,_=>rfl
def qm1{n:Nat}(a:Agr n ρ ρ'):∀l:Ct,DV.BC n l=true->DV.Aj ρ' l=DV.Aj ρ l
 |[],_=>rfl
 |v::vs,h=>by
  rw[DV.BC,zzf]at h;rw[DV.Aj,DV.Aj,qoY a v h.1,qm1 a vs h.2]
end
mutual
def qjH{n:Nat}(a:Agr n ρ ρ'):∀v:PV,v.bnd n=true->v.ins ρ'=v.ins ρ
 |.d v,h=>by rw[PV.ins,PV.ins,qoY a v h]
 |.q v _ _,h=>by rw[PV.ins,PV.ins,qoY a v h]
 |.a cs,h=>by rw[PV.ins,PV.ins,qlb a cs h]
 |.t cs,h=>by rw[PV.ins,PV.ins,qlb a cs h]
 |.f _ cs,h=>by rw[PV.ins,PV.ins,qlb a cs h]
 |.m _ cs,h=>by rw[PV.ins,PV.ins,qlb a cs h]
 |.g v,h=>by rw[PV.ins,PV.ins,qjH a v h]
 |.w _ v,h=>by rw[PV.ins,PV.ins,qjH a v h]
 |.u,_|.r ..,_|.p ..,_|.h _,_=>rfl
def qlb{n:Nat}(a:Agr n ρ ρ'):∀l:Cu,PV.BC n l=true->PV.Aj ρ' l=PV.Aj ρ l
 |[],_=>rfl
 |v::vs,h=>by
  rw[PV.BC,zzf]at h;rw[PV.Aj,PV.Aj,qjH a v h.1,qlb a vs h.2]
end
def qCU:∀(ts:CF TA) (n m:Nat),n+ts.length<=m->DV.BC m (qcD n ts)=true
 |[],_,_,_=>rfl
 |t::ts,n,m,h=>by
  rw[zzn]at h;rw[qcD,DV.BC,qCU ts (n+1) m (by omega),Bool.and_true]
  exact qAv (by omega)
def quv:∀(res:CF (K×CF TA)) (vs:Ct),qbm d res vs->∀(n m:Nat),n+(qcT res).length<=m->PV.BC m (qca n res)=true
 |[],[],_,_,_,_=>rfl
 | (k,ts)::res,v::vs,hk,n,m,h=>by
  obtain⟨⟨cs,h1,h2⟩,h3⟩:=hk;have hl:=qom h2
  rw[qcT,zzp]at h;unfold qca;rw[PV.BC,quv res vs h3 _ m (by omega),Bool.and_true]
  cases k with
  |none=>
   match cs,h1 with
   |[x],_=>exact qAv (by simp at hl;omega)
  |some _=>exact qCU ts n m (by omega)
 |[],_::_,h,_,_,_=>h.elim
 |_::_,[],h,_,_,_=>h.elim
def qBl(l:Cu):(qa5 l).ins ρ=qa5 (PV.Aj ρ l):=by
 match l with
 |[]=>rfl
 |[v]=>rfl
 |_::_::_=>rfl
def qO4{l:Cu}{n:Nat}(h:PV.BC n l=true):(qa5 l).bnd n=true:=by
 match l,h with
 |[],_=>rfl
 |[v],h=>rw[PV.BC,zzf]at h;exact h.1
 |_::_::_,h=>exact h
def qBI(H:CP):∀ds:Ct,qaK H (ds.map .d)=some (ds,[])
 |[]=>rfl
 |x::ds=>by simp only[List.map,qaK,pur,qaW];rw[qBI H ds];rfl
def qyu:∀{cs:CF (Nat×Ct×PV)} {f:Nat} {ds:Ct} {v:PV},qnm cs f ds=some v->(f,ds,v)∈cs
 |[],_,_,_,h=>by cases h
 | (g,es,w)::r,f,ds,v,h=>by
  unfold qnm at h;split at h
  ·rename_i e;rw[zzf]at e;cases h;rw[zzy e.1,qjg _ _ e.2];exact zzr ..
  ·exact zzi _ (qyu h)
def qFj(hM:Mod d V σ ρ)(hW:σ.wf){S:CF (Nat×Sg)}(hS:qcW d V S){f:Nat}{g:Sg}(hg:qk3 f S=some g){ds:Ct}(hd:∀ρ1 ρ2,Sc ρ1->Sc ρ2->Agr σ.G.length ρ1 ρ2->DV.Aj ρ2 ds=DV.Aj ρ1 ds){l:CF (PV×AS)}
  (h:(match qnm σ.cs f ds with
   |some v=>some [(v,σ)]
   |none=>if qkV σ.G g.args ds then some [(qa5 (qca σ.G.length g.res),{ σ.news (qcT g.res)with cs:=(f,ds,qa5 (qca σ.G.length g.res))::σ.cs })]else none)=some l) :
  ∃v own,V f (DV.Aj ρ ds)=some (v,own)/\qbn d V σ ρ l (some (v,σ.H.ins ρ)):=by
 split at h
 ·rename_i v e;cases h;have hc:=qyu e
  obtain⟨own,h1⟩:=hM.cs _ hc;refine⟨_,own,h1,_,zzH.2 rfl,ρ,⟨Agr.rfl',hM,hW,rfl,zzt _,λρ1 ρ2 s1 s2 a=>(hW.cs ρ1 ρ2 s1 s2 a _ hc).2⟩,rfl⟩
 ·split at h
  ·rename_i e;cases h;obtain⟨vs,own,h1,h2⟩:=hS f g hg _ (qs2 hM.ty e);obtain⟨css,h3,h4⟩:=quw g.res vs h2;have hM':=qqd hM hW h3
   have hn:=qk8 (σ:=σ) (qcT g.res)
   have e1:PV.Aj (upn ρ σ.G.length css) (qca σ.G.length g.res)=vs.map .d:=by
    have:=h4 ρ σ.G.length []
    simpa using this
   have e2:(qa5 (qca σ.G.length g.res)).ins (upn ρ σ.G.length css)=qa5 (vs.map .d):=by rw[qBl,e1]
   have ha:Agr σ.G.length ρ (upn ρ σ.G.length css):=qiA _ _
   have e3:σ.H.ins (upn ρ σ.G.length css)=σ.H.ins ρ:=congrArg St.H (hW.st _ _ hM.sc hM'.sc ha)
   have hw:=qqe hW (qcT g.res)
   have hb:∀ρ1 ρ2,Agr (σ.news (qcT g.res)).G.length ρ1 ρ2->(qa5 (qca σ.G.length g.res)).ins ρ2=(qa5 (qca σ.G.length g.res)).ins ρ1:=by
    intro ρ1 ρ2 a;exact qjH a _ (qO4 (quv _ _ h2 _ _ (by omega)))
   refine⟨_,own,h1,_,zzH.2 rfl,upn ρ σ.G.length css,⟨ha,⟨hM'.sc,hM'.ty,hM'.fx,hM'.z,λc hc=>?_⟩,⟨hw.st,λρ1 ρ2 s1 s2 a c hc=>?_,hw.fx,hw.z⟩,rfl,by show σ.G.length<=(σ.news (qcT g.res)).G.length;omega,λρ1 ρ2 _ _ a=>hb ρ1 ρ2 a⟩,?_⟩
   ·rcases List.mem_cons.1 hc with rfl|hc
    ·refine⟨own,?_⟩;show V f (DV.Aj (upn ρ σ.G.length css) ds)=_
     rw[hd _ _ hM.sc hM'.sc ha,h1,e2]
    ·exact hM'.cs c hc
   ·rcases List.mem_cons.1 hc with rfl|hc
    ·exact⟨hd _ _ s1 s2 (a.le (by show σ.G.length<=(σ.news (qcT g.res)).G.length;omega)),hb ρ1 ρ2 a⟩
    ·exact hw.cs ρ1 ρ2 s1 s2 a c hc
   ·rw[e2];exact congrArg (λx=>some (qa5 (vs.map .d),x)) e3.symm
  ·cases h
end
section
variable {d:Nat}{ρ ρ':Nat->DV}{V:Nat->Ct->Cz}{σ:AS}{E:Env}{id:Nat}{r:Ab->PV}{l:CF (PV × AS)}
abbrev qbM(d:Nat)(V:Nat->Ct->Cz)(σ:AS)(ρ:Nat->DV)(l:CF (PV×AS))(E:Env)(r:Ab->PV)(id:Nat)(op:IOp):Prop:=qbn d V σ ρ l (qaa E (λx=>(r x).ins ρ) (σ.H.ins ρ) id op)
def qKO{mx:CG}{k:IntKind}{a b:Int}(ha:(Lit.int k a).wf=true)(hb:(Lit.int k b).wf=true):∃n,mm2 mx (.d (.i k a)) (.d (.i k b))=some (.d (.i k n))/\(Lit.int k n).wf=true:=by
 refine⟨(if mx=true then if b>a then b else a else if b<a then b else a),by simp only[mm2,if_true],?_⟩
 split<;>split<;>assumption
def qP4(hM:Mod d V σ ρ)(hW:σ.wf){S:CF (Nat×Sg)}{op:BinOp}{x y:Ab}(h:qbI S r σ (.bin op x y)=some l):qbM d V σ ρ l E r id (.bin op x y):=by
 simp only[qbI]at h;simp only[qbM,qaa];split at h
 ·rename_i k a k' b e1 e2;obtain⟨h1,l1,w1⟩:=qdK hM hW e1;obtain⟨h2,l2,w2⟩:=qdK hM hW e2;split at h
  ·rename_i ek;subst ek;split at h
   ·rename_i l' e3;cases h;obtain⟨v,hv,ho⟩:=qFK hM hW (k:=k) l1 l2 e3;rw[h1,h2,qwU hv];exact ho
   ·obtain⟨v,hv,ho⟩:=qEV hM hW l1 w1 h;rw[h1,h2,qwU hv];exact ho
  ·cases h
 ·split at h
  ·rename_i a b e1 e2;obtain⟨v,hv,ho⟩:=qFL hM hW e1 e2 h;rw[(qla hM e1).1,(qla hM e2).1,qE6 hv];exact ho
  ·cases h
def qQb(hM:Mod d V σ ρ)(hW:σ.wf){S:CF (Nat×Sg)}{mx:CG}{x y:Ab}(h:qbI S r σ (.minmax mx [x,y])=some l):qbM d V σ ρ l E r id (.minmax mx [x,y]):=by
 simp only[qbI]at h;simp only[qbM,qaa,List.map];split at h
 ·rename_i k a k' b e1 e2;obtain⟨h1,l1,w1⟩:=qdK hM hW e1;obtain⟨h2,l2,w2⟩:=qdK hM hW e2;split at h
  ·rename_i ek;subst ek;obtain⟨n,hn,hw⟩:=qKO (mx:=mx) w1 w2;simp only[mmA];rw[h1,h2,hn];exact qcz hM hW h hw (λf hf=>by cases hf) (λf hf=>by cases hf)
  ·cases h
 ·cases h
def qP7(hM:Mod d V σ ρ)(hW:σ.wf){S:CF (Nat×Sg)}{neg:CG}{ks:Cy}{x y:Ab}(h:qbI S r σ (.eqv neg ks x y)=some l):qbM d V σ ρ l E r id (.eqv neg ks x y):=by
 simp only[qbI]at h;simp only[qbM,qaa];split at h
 ·rename_i xs ys e1 e2;split at h
  ·rename_i e3;obtain⟨b,hb⟩:=qxR hM hW ks xs ys e3;rw[e1,e2];show qbn d V σ ρ l (match eqL ks (DV.Aj ρ xs) (DV.Aj ρ ys)with|some e=>_|none=>none)
   rw[hb];have no:∀f∈([]:CF Fact),f.1<σ.G.length/\f.2.1<σ.G.length:=λf hf=>by cases hf
   exact qi6 hM hW h _ (λ_ f hf=>by cases hf) (λ_ f hf=>by cases hf) no no
  ·cases h
 ·cases h
def qQc(hM:Mod d V σ ρ)(hW:σ.wf){S:CF (Nat×Sg)}{x:Ab}(h:qbI S r σ (.un .neg x)=some l):qbM d V σ ρ l E r id (.un .neg x):=by
 simp only[qbI]at h;simp only[qbM,qaa];split at h
 ·rename_i k a e1;obtain⟨h1,l1,w1⟩:=qdK hM hW e1;rw[h1];exact qcz hM hW h (qe9 _ _) (λf hf=>by cases hf) (λf hf=>by cases hf)
 ·cases h
def qP6(hM:Mod d V σ ρ)(hW:σ.wf){S:CF (Nat×Sg)}{k:IntKind}{x:Ab}(h:qbI S r σ (.conv k x)=some l):qbM d V σ ρ l E r id (.conv k x):=by
 simp only[qbI]at h;simp only[qbM,qaa];split at h
 ·rename_i a e1;obtain⟨h1,l1,w1⟩:=qdK hM hW e1;rw[h1];exact qcz hM hW h (qe9 _ _) (λf hf=>by cases hf) (λf hf=>by cases hf)
 ·cases h
def qQa(hM:Mod d V σ ρ)(hW:σ.wf){S:CF (Nat×Sg)}{s:CG}{x:Ab}(h:qbI S r σ (.len s x)=some l):qbM d V σ ρ l E r id (.len s x):=by
 simp only[qbI]at h;simp only[qbM,qaa];split at h
 ·rename_i n e1;rw[e1];show qbn d V σ ρ l (match qbB (σ.H.ins ρ) s (.d (ρ n))with|some n=>_|none=>none)
  split at h
  ·rename_i e2;obtain⟨m,h1,h2⟩:=qtx hM hW (H:=σ.H.ins ρ) e2 (.inl ⟨rfl,rfl⟩) h;rw[h1];exact h2
  ·rename_i m e2;obtain⟨m,h1,h2⟩:=qtx hM hW (H:=σ.H.ins ρ) e2 (.inr ⟨rfl,.inl ⟨_,rfl⟩⟩) h;rw[h1];exact h2
  ·rename_i k mx ts e2;obtain⟨m,h1,h2⟩:=qtx hM hW (H:=σ.H.ins ρ) e2 (.inr ⟨rfl,.inr ⟨_,_,_,rfl⟩⟩) h;rw[h1];exact h2
  ·cases h
 ·cases h
def qv0{m:Nat}(n:Nat)(x:DV)(hx:XD n x)(hk:∀k a,k<n->XD k a->Hs d (.e (match m with|0=>0|_=>2)) a):∃es t,x=.l (some 4) es t/\∀e∈es,∃cs,mkD (some 4) cs=some e/\HsL d (xTs m) cs:=by
 cases n with
 |zero=>exact⟨[],false,hx,λe he=>by cases he⟩
 |succ n=>
  obtain⟨es,e,_,he⟩:=hx;refine⟨es,false,e,λe hm=>?_⟩
  obtain⟨o,q,s,a,h1,h2,h3,h4,h5⟩:=he e hm;exact⟨[.i .i64 o,.i .i64 q,.s s,a],by rw[h1];rfl,⟨o,rfl,h2⟩,⟨q,rfl,h3⟩,⟨s,rfl,h4⟩,hk n a (Nat.lt_succ_self n) h5,trivial⟩
def qS0{m:Nat}{x:DV}(h:XT d m x):∃es t,x=.l (some 4) es t/\∀e∈es,∃cs,mkD (some 4) cs=some e/\HsL d (xTs m) cs:=by
 match m,h with
 |0,h=>obtain⟨n,hn⟩:=h;exact qv0 (m:=0) n x hn (λk a _ ha=>⟨k,ha⟩)
 |1,h=>exact qv0 (m:=1) d x h (λk a hk ha=>⟨k,hk,ha⟩)
 |m+2,h=>obtain⟨n,hl,hn⟩:=h;exact qv0 (m:=m+2) n x hn (λk a hk ha=>⟨k,by omega,ha⟩)
def qP8(hM:Mod d V σ ρ)(hW:σ.wf){S:CF (Nat×Sg)}{k:K}{x i:Ab}(h:qbI S r σ (.Az k x i)=some l):qbM d V σ ρ l E r id (.Az k x i):=by
 simp only[qbI]at h;simp only[qbM,qaa];split at h
 ·rename_i n kd a e1 e2;obtain⟨h1,l1,w1⟩:=qdK hM hW e2;rw[e1,h1];show qbn d V σ ρ l (opt (Az _ k (.d (ρ n)) _) _)
  split at h
  ·rename_i e3;rw[zzf]at e3;have b1:=qbK hM e3.1
   have b2:=qbK hM e3.2
   unfold z0 at b1;rw[qdJ hM]at b1;have b3:nv ρ (n,0)=vI (ρ n):=by unfold nv;simp
   rw[b3]at b2;have fin:∀(k':K) (es:Ct) (t:CG) (ts:CF TA),ρ n=.l k' es t->K.eq k k'=true->(∀e∈es,∃cs,mkD k cs=some e/\HsL d ts cs)->(∀cs e,mkD k cs=some e->HsL d ts cs->qbn d V σ ρ l (some (.q e k 0,σ.H.ins ρ)))->qbn d V σ ρ l (opt (Az (σ.H.ins ρ) k (.d (ρ n)) (.d (.i kd (nv ρ a)))) (σ.H.ins ρ)):=by
    intro k' es t ts hn hk he hf;rw[hn]at b2⊢;have b4:nv ρ a<es.length:=by simp only[vI]at b2;omega
    have hi:(nv ρ a).toNat<es.length:=by omega
    obtain⟨cs,c1,c2⟩:=he _ (zzs hi);rw[iad (by omega) b4 (zze hi) hk]
    exact hf cs _ c1 c2
   split at h
   ·rename_i k' mx ts e4;obtain⟨es,t,hn,_,_,he⟩:=hM.ty n _ e4;split at h
    ·rename_i hk;have hk':=Keq hk
     subst hk';split at h
     ·split at h
      ·rename_i t1;cases h;exact fin _ es t _ hn hk he λcs e c1 c2=>qrY hM hW c2 c1 (zzH.2 rfl) (.inl ⟨rfl,rfl,rfl⟩)
      ·cases h
     ·rename_i m;split at h
      ·rename_i hm;cases h;exact fin _ es t _ hn hk he λcs e c1 c2=>qrY hM hW c2 c1 (zzH.2 rfl) (.inr ⟨m,rfl,rfl⟩)
      ·cases h
    ·cases h
   ·rename_i m e4;obtain⟨es,t,hn,he⟩:=qS0 (hM.ty n _ e4);split at h
    ·rename_i hk;have hk':=Keq hk
     subst hk';cases h;exact fin _ es t _ hn hk he λcs e c1 c2=>qrY hM hW c2 c1 (zzH.2 rfl) (.inr ⟨4,rfl,rfl⟩)
    ·cases h
   ·cases h
  ·cases h
 ·cases h
def qP9(hM:Mod d V σ ρ)(hW:σ.wf){S:CF (Nat×Sg)}{x i:Ab}(h:qbI S r σ (.idxS x i)=some l):qbM d V σ ρ l E r id (.idxS x i):=by
 simp only[qbI]at h;simp only[qbM,qaa];have fin:∀(s:Cv) (n:Int) (kd:IntKind),0<=n->n<s.length->qcy σ .u8 []=some l->qbn d V σ ρ l (match PV.d (.s s),asI (.d (.i kd n))with
   |.d (.s s),some n=>if 0<=n then match s[n.toNat]? with
    |some b=>some (.d (.i .u8 b.toNat),σ.H.ins ρ)
    |none=>none
    else none
   |_,_=>none):=by
  intro s n kd h0 h1 h2;obtain⟨b,hb,ho⟩:=qFh hM hW h0 h1 h2;simp only[asI];rw[if_pos h0,hb];exact ho
 split at h
 ·rename_i n x2 kd a e1 e2;obtain⟨h1,l1,w1⟩:=qdK hM hW e2;obtain⟨g1,g2⟩:=qla hM e1;rw[g1,h1];split at h
  ·rename_i e3;rw[zzf]at e3;have b1:=qbK hM e3.1
   have b2:=qbK hM e3.2
   unfold z0 at b1;rw[qdJ hM]at b1;have b3:nv ρ (n,0)=(tv ρ (some n,x2)).length:=by unfold nv;simp only;rw[(g2 n rfl).2];simp[vI]
   exact fin _ _ kd (by omega) (by omega) h
  ·cases h
 ·rename_i s kd a e1 e2;obtain⟨h1,l1,w1⟩:=qdK hM hW e2;obtain⟨g1,g2⟩:=qla hM e1;rw[g1,h1];split at h
  ·rename_i e3;rw[zzf]at e3;have b1:=qbK hM e3.1
   have b2:=qbK hM e3.2
   unfold z0 at b1;rw[qdJ hM]at b1 b2;exact fin _ _ kd (by omega) (by show nv ρ a<(s.length:Int);omega) h
  ·cases h
 ·cases h
def qQe(hM:Mod d V σ ρ)(hW:σ.wf){S:CF (Nat×Sg)}{k:K}{x i:Ab}(h:qbI S r σ (.sl k x none (some i) none)=some l):qbM d V σ ρ l E r id (.sl k x none (some i) none):=by
 simp only[qbI]at h;simp only[qbM,qaa,Option.map];split at h
 ·rename_i n kd a e1 e2;obtain⟨h1,l1,w1⟩:=qdK hM hW e2;rw[e1,h1];show qbn d V σ ρ l (opt (slA _ k (.d (ρ n)) _ _ _) _)
  split at h
  ·rename_i e3;rw[zzf]at e3;have b1:=qbK hM e3.1
   have b2:=qbK hM e3.2
   unfold z0 at b1;rw[qdJ hM]at b1;have b3:nv ρ (n,0)=vI (ρ n):=by unfold nv;simp
   rw[b3]at b2;split at h
   ·rename_i k' mx ts e4;have hy:=hM.ty n _ e4
    obtain⟨es,t,hn,hl,_,he⟩:=hy;split at h
    ·rename_i hk;have hk':=Keq hk
     subst hk';cases h;rw[hn]at b2⊢;simp only[vI]at b2;have hh:=hM.ty n _ e4
     rw[hn]at hh;have hs:=qQV (u:=(if (none:CE PV).isSome then true else t&&(nv ρ a).toNat==es.length)) (i:=(nv ρ a).toNat) hh
     have ev:slA (σ.H.ins ρ) k (.d (.l k es t)) none (some (.d (.i kd (nv ρ a)))) none=some (.d (.l k (es.take (nv ρ a).toNat) (if (none:CE PV).isSome then true else t&&(nv ρ a).toNat==es.length))):=by
      simp only[slA,bnd,asI,hk,Bool.true_or,if_true];rw[if_pos (by omega)]
      simp
     rw[ev];have hlen:(es.take (nv ρ a).toNat).length=(nv ρ a).toNat:=by rw[zzI];omega
     refine qOQ hM hW hs (zzH.2 rfl) (λf hf=>?_) (λf hf=>?_)
     ·have e5:∀z,nv (upn ρ σ.G.length [.l k (es.take (nv ρ a).toNat) z]) (σ.G.length,0)=nv ρ a:=by
       intro z;have:upn ρ σ.G.length [.l k (es.take (nv ρ a).toNat) z] σ.G.length=.l k (es.take (nv ρ a).toNat) z:=qdO (i:=0) rfl
       show vI (upn ρ σ.G.length [.l k (es.take (nv ρ a).toNat) z] σ.G.length)+0=nv ρ a
       rw[this];simp only[vI];rw[hlen];omega
      rcases List.mem_cons.1 hf with e|hf
      ·rw[e];refine qeR ?_;rw[qqg l1,e5];omega
      ·rw[zzH.1 hf];refine qeR ?_;rw[qqg l1,e5];omega
     ·rcases List.mem_cons.1 hf with e|hf
      ·rw[e];exact⟨Nat.lt_succ_of_lt l1,Nat.lt_succ_self _⟩
      ·rw[zzH.1 hf];exact⟨Nat.lt_succ_self _,Nat.lt_succ_of_lt l1⟩
    ·cases h
   ·cases h
  ·cases h
 ·cases h
def qAz:∀{a b:Ct},a.map PV.d=b.map PV.d->a=b
 |[],[],_=>rfl
 |x::a,y::b,h=>by
  rw[zzu,zzu]at h;have h1:=List.cons.inj h
  rw[PV.d.inj h1.1,qAz h1.2]
 |[],_::_,h=>by cases h
 |_::_,[],h=>by cases h
def qP5(hM:Mod d V σ ρ)(hW:σ.wf){S:CF (Nat×Sg)}(hS:qcW d V S)(hE:E.val=V){f:Nat}{args:CF Ab}(hr:∀ρ1 ρ2,Sc ρ1->Sc ρ2->Agr σ.G.length ρ1 ρ2->∀x∈args,(r x).ins ρ2=(r x).ins ρ1)(h:qbI S r σ (.call 0 f args)=some l):qbM d V σ ρ l E r id (.call 0 f args):=by
 simp only[qbI]at h;simp only[qbM,qaa];split at h
 ·rename_i g e1;split at h
  ·rename_i ds e2;have hm:=qlc e2
   have hi:∀ρ1:Nat->DV,args.map (λx=>(r x).ins ρ1)=(DV.Aj ρ1 ds).map .d:=by
    intro ρ1;have:PV.Aj ρ1 (args.map r)=PV.Aj ρ1 (ds.map .d):=by rw[hm]
    rw[qt4,qip,List.map_map]at this;exact this
   have hd:∀ρ1 ρ2,Sc ρ1->Sc ρ2->Agr σ.G.length ρ1 ρ2->DV.Aj ρ2 ds=DV.Aj ρ1 ds:=by
    intro ρ1 ρ2 s1 s2 a;have e3:args.map (λx=>(r x).ins ρ2)=args.map (λx=>(r x).ins ρ1):=List.map_congr_left λx hx=>hr ρ1 ρ2 s1 s2 a x hx
    rw[hi,hi]at e3;exact qAz e3
   obtain⟨v,own,h1,h2⟩:=qFj hM hW hS e1 hd h;rw[hi,qBI,hE];simp only[h1,List.isEmpty_nil,Bool.true_or,if_true];exact h2
  ·cases h
 ·cases h
def qQd(hM:Mod d V σ ρ)(hW:σ.wf){S:CF (Nat×Sg)}(hS:qcW d V S)(hE:E.val=V){op:IOp}(hr:∀ρ1 ρ2,Sc ρ1->Sc ρ2->Agr σ.G.length ρ1 ρ2->∀x∈op.A9,(r x).ins ρ2=(r x).ins ρ1)(h:qbI S r σ op=some l):qbM d V σ ρ l E r id op:=by
 have h0:=h
 unfold qbI at h;split at h
 ·exact qP4 hM hW h0
 ·exact qQb hM hW h0
 ·exact qP7 hM hW h0
 ·exact qQc hM hW h0
 ·exact qP6 hM hW h0
 ·exact qQa hM hW h0
 ·exact qP8 hM hW h0
 ·exact qP9 hM hW h0
 ·exact qQe hM hW h0
 ·exact qP5 hM hW hS hE hr h0
 ·cases h
end
section
variable {d:Nat}{ρ ρ':Nat->DV}{V:Nat->Ct->Cz}{σ σ':AS}{E:Env}{S:CF (Nat × Sg)}
def qBd{r r':Ab->PV}{H:CP}{id:Nat}{op:IOp}(hok:op.A9.all Ab.okR=true)(h:∀x∈op.A9,r x=r' x):qaa E r H id op=qaa E r' H id op:=by
 have ho:∀o:CE Ab,(∀x∈o.toList,r x=r' x)->o.map r=o.map r':=by
  intro o ho;cases o with
  |none=>rfl
  |some x=>exact congrArg some (ho x (zzH.2 rfl))
 cases op with
 |alloc=>rfl
 |mov x=>simp only[qaa];rw[h x (zzH.2 rfl)]
 |box k x=>simp only[qaa];rw[h x (zzH.2 rfl)]
 |load k x=>simp only[qaa];rw[h x (zzH.2 rfl)]
 |Be k x=>simp only[qaa];rw[h x (zzH.2 rfl)]
 |field k j x=>simp only[qaa];rw[h x (zzH.2 rfl)]
 |ext x k=>simp only[qaa];rw[h x (zzH.2 rfl)]
 |len k x=>simp only[qaa];rw[h x (zzH.2 rfl)]
 |un k x=>simp only[qaa];rw[h x (zzH.2 rfl)]
 |conv k x=>simp only[qaa];rw[h x (zzH.2 rfl)]
 |pick c a b=>simp only[qaa];rw[h c (by simp[IOp.A9]),h a (by simp[IOp.A9]),h b (by simp[IOp.A9])]
 |store k x y=>simp only[qaa];rw[h x (by simp[IOp.A9]),h y (by simp[IOp.A9])]
 |Az k x y=>simp only[qaa];rw[h x (by simp[IOp.A9]),h y (by simp[IOp.A9])]
 |bin k x y=>simp only[qaa];rw[h x (by simp[IOp.A9]),h y (by simp[IOp.A9])]
 |eqb k x y=>simp only[qaa];rw[h x (by simp[IOp.A9]),h y (by simp[IOp.A9])]
 |eqv k j x y=>simp only[qaa];rw[h x (by simp[IOp.A9]),h y (by simp[IOp.A9])]
 |idxS x y=>simp only[qaa];rw[h x (by simp[IOp.A9]),h y (by simp[IOp.A9])]
 |agg z ps=>
  have e:(ps.map λx=>(x.1,x.2.1,r x.2.2))=ps.map λx=>(x.1,x.2.1,r' x.2.2):=List.map_congr_left λx hx=>by rw[h x.2.2 (zzN.2 ⟨x,hx,rfl⟩)]
  simp only[qaa];rw[e]
 |bsl k z n ps=>
  have e:(ps.map λx=>(x.1,r x.2))=ps.map λx=>(x.1,r' x.2):=List.map_congr_left λx hx=>by rw[h x.2 (zzN.2 ⟨x,hx,rfl⟩)]
  simp only[qaa];rw[e]
 |call m f as0=>
  have e:as0.map r=as0.map r':=List.map_congr_left h
  match m with
  |0=>simp only[qaa];rw[e]
  |1=>simp only[qaa];rw[e]
  |_+2=>simp only[qaa];rw[e]
 |minmax m as0=>
  have e:as0.map r=as0.map r':=List.map_congr_left h
  simp only[qaa];rw[e]
 |sl k x a b c=>
  simp only[qaa];rw[h x (by simp[IOp.A9]),ho a λy hy=>h y (by simp[IOp.A9]at hy⊢;simp[hy]),ho b λy hy=>h y (by simp[IOp.A9]at hy⊢;simp[hy]),ho c λy hy=>h y (by simp[IOp.A9]at hy⊢;simp[hy])]
 |_=>simp[IOp.A9,Ab.okR]at hok
def qO9{r:Ab->PV}{H:CP}{id:Nat}{op:IOp}(hp:op.par=true)(E:Env):qaa qc3 r H id op=qaa E r H id op:=by
 cases op<;>first|rfl|(simp[IOp.par]at hp;done)
def qqw{x:Ab}(h:x.okR=true)(fr:Fr)(ρ:Nat->DV):rd E (fr.ins ρ) x=(rdA fr x).ins ρ:=by
 cases x with
 |t n=>exact qjq ρ n fr
 |c v=>exact (qjD h).symm
 |g n=>cases h
 |f n=>rfl
def qBP(hW:σ.wf){ρ1 ρ2:Nat->DV}(s1:Sc ρ1)(s2:Sc ρ2)(a:Agr σ.G.length ρ1 ρ2){x:Ab}(h:x.okR=true):(rdA σ.fr x).ins ρ2=(rdA σ.fr x).ins ρ1:=by
 have e:σ.fr.ins ρ2=σ.fr.ins ρ1:=congrArg St.fr (hW.st ρ1 ρ2 s1 s2 a)
 rw[<-qqw (E:=qc3) h,<-qqw (E:=qc3) h,e]
def qxs{l:CF (PV×AS)}{ev:CB}(h:qbn d V σ ρ l ev):qbn d V σ ρ (qsc l) ev:=by
 obtain⟨x,hx,ρ',hg,he⟩:=h;by_cases hb:∃n,x.1=.d (.tok n)/\x.2.G[n]? = some .b
 ·obtain⟨n,e1,e2⟩:=hb;obtain⟨c,hc⟩:=hg.m.ty n _ e2;refine⟨(.d (.b c),x.2),List.mem_flatMap.2 ⟨x,hx,?_⟩,ρ',⟨hg.ag,hg.m,hg.wf,hg.fr,hg.le,λ_ _ _ _ _=>rfl⟩,?_⟩
  ·simp only[e1,e2];cases c<;>simp
  ·rw[he,e1];show some (PV.d (ρ' n),_)=some (PV.d (.b c),_)
   rw[hc]
 ·refine⟨x,List.mem_flatMap.2 ⟨x,hx,?_⟩,ρ',hg,he⟩;split
  ·rename_i n e1;split
   ·rename_i e2;exact absurd ⟨n,e1,e2⟩ hb
   ·exact zzH.2 rfl
  ·exact zzH.2 rfl
def qGs(hM:Mod d V σ ρ)(hW:σ.wf)(hS:qcW d V S)(hE:E.val=V){id:Nat}{op:IOp}{l:CF (PV×AS)}(h:qpj S id op σ=some l):op.A9.all Ab.okR=true/\qbn d V σ ρ l (qaa E (rd E (σ.fr.ins ρ)) (σ.H.ins ρ) id op):=by
 unfold qpj at h;split at h
 ·rename_i hok;have hk:=List.all_eq_true.1 hok
  refine⟨hok,?_⟩;rw[qBd hok λx hx=>qqw (hk x hx) σ.fr ρ]
  split at h
  ·rename_i v H' e;cases h;split at e
   ·rename_i hp;have h1:=λ(ρ:Nat->DV) (s:Sc ρ)=>qOT s qc3 (rdA σ.fr) hp e
    have h2:∀ρ1 ρ2,Sc ρ1->Sc ρ2->Agr σ.G.length ρ1 ρ2->v.ins ρ2=v.ins ρ1/\H'.ins ρ2=H'.ins ρ1:=by
     intro ρ1 ρ2 s1 s2 a;have e1:=h1 ρ1 s1
     have e2:=h1 ρ2 s2
     have e3:σ.H.ins ρ2=σ.H.ins ρ1:=congrArg St.H (hW.st ρ1 ρ2 s1 s2 a)
     rw[qBd hok λx hx=>qBP hW s1 s2 a (hk x hx),e3,e1]at e2
     have:=Option.some.inj e2
     exact⟨(congrArg Prod.fst this).symm,(congrArg Prod.snd this).symm⟩
    refine qxs ⟨_,zzH.2 rfl,ρ,⟨Agr.rfl',⟨hM.sc,hM.ty,hM.fx,hM.z,hM.cs⟩,⟨λρ1 ρ2 s1 s2 a=>?_,hW.cs,hW.fx,hW.z⟩,rfl,zzt _,λρ1 ρ2 s1 s2 a=>(h2 ρ1 ρ2 s1 s2 a).1⟩,?_⟩
    ·show St.mk (σ.fr.ins ρ2) (H'.ins ρ2)=St.mk (σ.fr.ins ρ1) (H'.ins ρ1)
     rw[(h2 ρ1 ρ2 s1 s2 a).2,show σ.fr.ins ρ2=σ.fr.ins ρ1 from congrArg St.fr (hW.st ρ1 ρ2 s1 s2 a)]
    ·rw[<-qO9 hp E];exact h1 ρ hM.sc
   ·cases e
  ·split at h
   ·rename_i l' e2;cases h;exact qxs (qQd hM hW hS hE (λρ1 ρ2 s1 s2 a x hx=>qBP hW s1 s2 a (hk x hx)) e2)
   ·cases h
 ·cases h
structure Nx (d:Nat) (V:Nat->List DV->Option (PV×Bool)) (σ:AS) (ρ:Nat->DV) (σ':AS) (ρ':Nat->DV):Prop where
 ag:Agr σ.G.length ρ ρ'
 m:Mod d V σ' ρ'
 wf:σ'.wf
 le:σ.G.length<=σ'.G.length
def Nx.trans{σ1 σ2:AS}{ρ1 ρ2:Nat->DV}(a:Nx d V σ ρ σ1 ρ1)(b:Nx d V σ1 ρ1 σ2 ρ2):Nx d V σ ρ σ2 ρ2:=⟨a.ag.trans (b.ag.le a.le),b.m,b.wf,zzL a.le b.le⟩
def qlm(E:Env)(o:Ao)(id:Nat)(s:St):CE St:=
 let go:CE St:=match qaa E (rd E s.fr) s.H id o.op with
  |some (v,H)=>some ⟨match o.dst with|some t=>s.fr.set t v|none=>s.fr,H⟩
  |none=>none
 let no:CE St:=some ⟨match o.dst with|some t=>s.fr.set t (.t [])|none=>s.fr,s.H⟩
 match o.g with
 |none=>go
 |some (t,want)=>match s.fr.get t with
  |.d (.b b)=>if b==want then go else no
  |.t []=>no
  |_=>none
def qGp(o:Ao)(r:CF Ao)(id:Nat)(s s':St)(h:qlm E o id s=some s'):qaM E (o::r) id s=qaM E r (if o.op.adds then id+1 else id) s':=by
 have hgo:∀{s':St},(match qaa E (rd E s.fr) s.H id o.op with
  |some (v,H)=>some (⟨match o.dst with|some t=>s.fr.set t v|none=>s.fr,H⟩:St)
  |none=>none)=some s'->(match qaa E (rd E s.fr) s.H id o.op with
   |some (v,H)=>qaM E r (if o.op.adds then id+1 else id) ⟨match o.dst with|some t=>s.fr.set t v|none=>s.fr,H⟩
   |none=>none)=qaM E r (if o.op.adds then id+1 else id) s':=by
  intro s' h;split at h
  ·rename_i v H e;cases h;rfl
  ·cases h
 unfold qlm at h;simp only[qaM];simp only at h;split at h
 ·rename_i e;rw[e];exact hgo h
 ·rename_i t want e;rw[e];simp only;split at h
  ·rename_i b e2;rw[e2];simp only;split at h
   ·rename_i hw;rw[if_pos hw];exact hgo h
   ·rename_i hw;rw[if_neg hw];cases h;rfl
  ·rename_i e2;rw[e2];cases h;rfl
  ·cases h
def qQG{o:Ao}{id:Nat}{s:St}(h:runs o s.fr=true->o.op.okD (rd E s.fr)=true):Bn E o id s=qlm E o id s:=by
 unfold Bn qlm;unfold runs at h;simp only;have hgo:o.op.okD (rd E s.fr)=true->qal E (rd E s.fr) s.H id o.op=qaa E (rd E s.fr) s.H id o.op:=by
  intro e;unfold qal;rw[if_pos e]
 cases e:o.g with
 |none=>rw[e]at h;simp only;rw[hgo (h rfl)];rfl
 |some x=>
  obtain⟨t,want⟩:=x;rw[e]at h;simp only at h⊢;cases e2:s.fr.get t with
  |d v=>
   cases v with
   |b b=>
    rw[e2]at h;simp only at h⊢;by_cases hw:(b==want)=true
    ·rw[if_pos hw,if_pos hw,hgo (h hw)];rfl
    ·rw[if_neg hw,if_neg hw];rfl
   |_=>rfl
  |t vs=>cases vs<;>rfl
  |_=>rfl
def qCv{x:PV×AS}(hM:Mod d V σ ρ)(hW:σ.wf)(hg:Good d V σ ρ x ρ')(dst:CE Nat):Nx d V σ ρ (qll dst x) ρ'/\(qll dst x).st.ins ρ'=⟨match dst with|some t=>(σ.fr.ins ρ).set t (x.1.ins ρ')|none=>σ.fr.ins ρ,x.2.H.ins ρ'⟩:=by
 have e1:σ.fr.ins ρ'=σ.fr.ins ρ:=congrArg St.fr (hW.st _ _ hM.sc hg.m.sc hg.ag)
 have e2:x.2.fr.ins ρ'=σ.fr.ins ρ:=by rw[hg.fr];exact e1
 cases dst with
 |none=>exact⟨⟨hg.ag,hg.m,hg.wf,hg.le⟩,by show St.mk (x.2.fr.ins ρ') (x.2.H.ins ρ')=_;rw[e2]⟩
 |some t=>
  refine⟨⟨hg.ag,⟨hg.m.sc,hg.m.ty,hg.m.fx,hg.m.z,hg.m.cs⟩,⟨λρ1 ρ2 s1 s2 a=>?_,hg.wf.cs,hg.wf.fx,hg.wf.z⟩,hg.le⟩,?_⟩
  ·show St.mk ((x.2.fr.set t x.1).ins ρ2) (x.2.H.ins ρ2)=St.mk ((x.2.fr.set t x.1).ins ρ1) (x.2.H.ins ρ1)
   have:=hg.wf.st ρ1 ρ2 s1 s2 a
   rw[qpP,qpP,hg.v ρ1 ρ2 s1 s2 a,show x.2.fr.ins ρ2=x.2.fr.ins ρ1 from congrArg St.fr this,show x.2.H.ins ρ2=x.2.H.ins ρ1 from congrArg St.H this]
  ·show St.mk ((x.2.fr.set t x.1).ins ρ') _=_
   rw[qpP,e2];rfl
structure Seen (E:Env) (o:Ao) (id:Nat) (σ:AS) (ρ:Nat->DV) (σ':AS) (ρ':Nat->DV):Prop where
 runs:runs o (σ.fr.ins ρ)=runs o σ.fr
 ok:Sim.runs o σ.fr=true->o.op.A9.all Ab.okR=true
def qQE(hM:Mod d V σ ρ)(hW:σ.wf)(hS:qcW d V S)(hE:E.val=V){o:Ao}{id:Nat}{l:CF AS}(h:qvu S o id σ=some l) :
  ∃σ'∈l,∃ρ',Nx d V σ ρ σ' ρ'/\qlm E o id (σ.st.ins ρ)=some (σ'.st.ins ρ')/\Seen E o id σ ρ σ' ρ':=by
 have hgo:∀{l:CF AS},(match qpj S id o.op σ with
  |some l=>some (l.map (qll o.dst))
  |none=>none)=some l->o.op.A9.all Ab.okR=true/\∃σ'∈l,∃ρ',Nx d V σ ρ σ' ρ'/\(match qaa E (rd E (σ.fr.ins ρ)) (σ.H.ins ρ) id o.op with
   |some (v,H)=>some (⟨match o.dst with|some t=>(σ.fr.ins ρ).set t v|none=>σ.fr.ins ρ,H⟩:St)
   |none=>none)=some (σ'.st.ins ρ'):=by
  intro l h;split at h
  ·rename_i l' e;cases h;obtain⟨hok,x,hx,ρ',hg,he⟩:=qGs (E:=E) hM hW hS hE e;obtain⟨h1,h2⟩:=qCv hM hW hg o.dst;refine⟨hok,_,zzN.2 ⟨x,hx,rfl⟩,ρ',h1,?_⟩;rw[he,h2];try rfl
  ·cases h
 have hno:∀{l:CF AS},some [qll o.dst (.t [],σ)]=some l->∃σ'∈l,∃ρ',Nx d V σ ρ σ' ρ'/\some (⟨match o.dst with|some t=>(σ.fr.ins ρ).set t (.t [])|none=>σ.fr.ins ρ,σ.H.ins ρ⟩:St)=some (σ'.st.ins ρ'):=by
  intro l h;cases h;have hg:Good d V σ ρ (.t [],σ) ρ:=⟨Agr.rfl',hM,hW,rfl,zzt _,λ_ _ _ _ _=>rfl⟩
  obtain⟨h1,h2⟩:=qCv hM hW hg o.dst;exact⟨_,zzH.2 rfl,ρ,h1,by rw[h2];rfl⟩
 unfold qvu at h;unfold qlm;simp only at h⊢;split at h
 ·rename_i eg;obtain⟨hok,σ',h1,ρ',h2,h3⟩:=hgo h;refine⟨σ',h1,ρ',h2,?_,?_,λ_=>hok⟩
  ·(try rw[eg]);exact h3
  ·unfold runs;rw[eg]
 ·rename_i t want eg;(try rw[eg]); (try simp only)
  have ht:(σ.st.ins ρ).fr.get t=(σ.fr.get t).ins ρ:=qjq ρ t σ.fr
  have ht':(σ.fr.ins ρ).get t=(σ.fr.get t).ins ρ:=qjq ρ t σ.fr
  split at h
  ·rename_i b e;(try rw[ht,e]); (try simp only[PV.ins,DV.ins])
   split at h
   ·rename_i hw;obtain⟨hok,σ',h1,ρ',h2,h3⟩:=hgo h;refine⟨σ',h1,ρ',h2,?_,?_,λ_=>hok⟩
    ·(try rw[if_pos hw]);exact h3
    ·unfold runs;rw[eg];simp only;rw[ht',e];rfl
   ·rename_i hw;obtain⟨σ',h1,ρ',h2,h3⟩:=hno h;refine⟨σ',h1,ρ',h2,?_,?_,λhr=>?_⟩
    ·(try rw[if_neg hw]);exact h3
    ·unfold runs;rw[eg];simp only;rw[ht',e];rfl
    ·unfold runs at hr;rw[eg]at hr;simp only at hr;rw[e]at hr;exact absurd hr hw
  ·rename_i e;(try rw[ht,e])
   obtain⟨σ',h1,ρ',h2,h3⟩:=hno h;refine⟨σ',h1,ρ',h2,h3,?_,λhr=>?_⟩
   ·unfold runs;rw[eg];simp only;rw[ht',e];rfl
   ·unfold runs at hr;rw[eg]at hr;simp only at hr;rw[e]at hr;cases hr
  ·cases h
end
section
variable {d:Nat}{ρ ρ':Nat->DV}{V:Nat->Ct->Cz}{σ σ':AS}{E:Env}{S:CF (Nat × Sg)}
def qsy{α β:Type}{f g:α->CF β}:∀{l:CF α},(∀x∈l,f x=g x)->l.flatMap f=l.flatMap g
  |[],_=>rfl
  |x::l,h=>by rw[List.flatMap_cons,List.flatMap_cons,h x (zzr ..),qsy λy hy=>h y (zzi _ hy)]
def qGC{r r':Ab->PV}{op:IOp}(hok:op.A9.all Ab.okR=true)(h:∀x∈op.A9,(r x).refs=(r' x).refs):qaE r op=qaE r' op/\qa8 r op=qa8 r' op/\op.okD r=op.okD r':=by
  cases op with
  |load k x=>exact⟨h x (zzH.2 rfl),rfl,rfl⟩
  |len k x=>exact⟨h x (zzH.2 rfl),rfl,rfl⟩
  |sl k x a b c=>exact⟨h x (zzr ..),rfl,rfl⟩
  |Az k x y=>exact⟨h x (zzr ..),rfl,rfl⟩
  |call m f as0=>exact⟨qsy h,rfl,rfl⟩
  |bsl k z n ps=>exact⟨qsy λx hx=>h x.2 (zzN.2 ⟨x,hx,rfl⟩),rfl,rfl⟩
  |store k x y=>
    have h1:=h x (zzr ..)
    have h2:=h y (zzi _ (zzr ..))
    refine⟨?_,h1,rfl⟩;show (r x).refs++(r y).refs=(r' x).refs++(r' y).refs
    rw[h1,h2]
  |app=>simp[IOp.A9,Ab.okR]at hok
  |BH=>simp[IOp.A9,Ab.okR]at hok
  |mkif=>simp[IOp.A9,Ab.okR]at hok
  |_=>exact⟨rfl,rfl,rfl⟩
def rd0{x:Ab}(h:x.okR=true)(fr:Fr):rd qc3 fr x=rdA fr x:=by
  cases x with
  |g n=>cases h
  |_=>rfl
def qB1(ρ:Nat->DV)(H:CP)(o:Nat):qbj ((H.ins ρ).obj o)=qbj (H.obj o):=by
  rw[qgF];cases H.obj o with
  |none=>rfl
  |some x=>cases x<;>rfl
def qxb(H H':CP):∀l:Cy,chg (H.ins ρ) (H'.ins ρ') l=chg H H' l
  |[]=>rfl
  |o::r=>by simp only[chg];rw[qB1,qB1,qxb H H' r]
def qST{o:Ao}{id:Nat}(hs:Seen E o id σ ρ σ' ρ')(hk:runs o σ.fr=true->o.op.okD (rd qc3 σ.fr)=true) :
    AA E o id (σ.st.ins ρ) (σ'.st.ins ρ')=AA qc3 o id σ.st σ'.st/\AP E o (σ.st.ins ρ)=AP qc3 o σ.st/\(runs o (σ.st.ins ρ).fr=true->o.op.okD (rd E (σ.st.ins ρ).fr)=true):=by
  unfold AA AP;have hr:runs o (σ.st.ins ρ).fr=runs o σ.st.fr:=hs.runs
  rw[hr];by_cases e:runs o σ.st.fr=true
  · have hok:=hs.ok e
    have hk2:=List.all_eq_true.1 hok
    have hf:=qGC (r:=rd E (σ.st.ins ρ).fr) (r':=rd qc3 σ.st.fr) hok λx hx=>by
      have e1:rd E (σ.st.ins ρ).fr x=(rdA σ.fr x).ins ρ:=qqw (hk2 x hx) σ.fr ρ
      rw[e1,qkU];exact congrArg PV.refs (rd0 (hk2 x hx) σ.fr).symm
    have hk3:o.op.okD (rd qc3 σ.st.fr)=true:=hk e
    rw[if_pos e,if_pos e,if_pos e,if_pos e,hf.2.2,hf.1,hf.2.1,if_pos hk3,if_pos hk3,if_pos hk3,if_pos hk3];refine⟨?_,rfl,λ_=>hk3⟩
    congr 2
    exact qxb (ρ:=ρ) (ρ':=ρ') σ.H σ'.H _
  · rw[if_neg e,if_neg e,if_neg e,if_neg e]
    exact⟨rfl,rfl,λc=>absurd c e⟩
def qoR{α β:Type}{f:α->CE (CF β)}:∀{l:CF α} {out:CF β},qkw f l=some out->∀x∈l,∃y,f x=some y/\∀z∈y,z∈out
  |[],_,_,x,hx=>by cases hx
  |a::l,out,h,x,hx=>by
    unfold qkw at h;split at h
    · rename_i y ys e1 e2
      cases h;rcases List.mem_cons.1 hx with rfl|hx
      · exact⟨y,e1,λz hz=>List.mem_append_left _ hz⟩
      · obtain⟨w,h1,h2⟩:=qoR e2 x hx
        exact⟨w,h1,λz hz=>List.mem_append_right _ (h2 z hz)⟩
    · cases h
def qxW(hS:qcW d V S)(hE:E.val=V)(D:CG):∀(ops:CF Ao) (bf:Cy) (acc:CF (Cy×Cy)) (id:Nat) (σ:AS) (ρ:Nat->DV) (l:CF AS),Mod d V σ ρ->σ.wf->qpk S D ops bf acc id σ=some l->
    ∃σ'∈l,∃ρ',Nx d V σ ρ σ' ρ'/\(if D=true then qbu E ops bf acc id (σ.st.ins ρ)else qaM E ops id (σ.st.ins ρ))=some (σ'.st.ins ρ')
  |[],bf,acc,id,σ,ρ,l,hM,hW,h=>by
    cases h;refine⟨σ,zzH.2 rfl,ρ,⟨Agr.rfl',hM,hW,zzt _⟩,?_⟩;cases D<;>rfl
  |o::r,bf,acc,id,σ,ρ,l,hM,hW,h=>by
    unfold qpk at h;split at h
    · cases h
    · rename_i l1 e1
      obtain⟨σ1,h1,ρ1,n1,s1,seen⟩:=qQE hM hW hS hE e1;obtain⟨l2,e2,h2⟩:=qoR h σ1 h1;simp only at e2;split at e2
      · rename_i hc
        obtain⟨σ2,h3,ρ2,n2,s2⟩:=qxW hS hE D r _ _ _ σ1 ρ1 l2 n1.m n1.wf e2;refine⟨σ2,h2 _ h3,ρ2,n1.trans n2,?_⟩;cases D with
        |false=>
          rw[if_neg (by decide)]at s2⊢
          rw[qGp _ _ _ _ _ s1];exact s2
        |true=>
          simp only[Bool.not_true,Bool.false_or,zzf]at hc;obtain⟨w1,w2,w3⟩:=qST seen (λ_=>hc.1)
          rw[if_pos rfl]at s2⊢;simp only[qbu];rw[qQG w3,s1];simp only;rw[w1,w2,if_pos hc.2];exact s2
      · cases e2
def quu(n:Nat):Heap.ins ρ (List.replicate n none)=List.replicate n none:=by unfold Heap.ins;rw[List.map_replicate];rfl
def qCs{f g:Fact}(h:qn9 f g=true):f=g:=by
  obtain⟨a,b,c⟩:=f;obtain⟨a',b',c'⟩:=g;simp only[qn9,zzf,zzq]at h;obtain⟨h1,h2,h3⟩:=h;rw[zzy h1,zzy h2,h3]
def qCr{c e:Nat×Ct×PV}(h:qn8 c e=true):c=e:=by
  obtain⟨a,b,c⟩:=c;obtain⟨a',b',c'⟩:=e;simp only[qn8,zzf]at h;obtain⟨h1,h2,h3⟩:=h;rw[zzy h1,qjg _ _ h2,qnZ _ _ h3]
def qpr:∀{a b:Fr},qji a b=true->a=b
  |[],[],_=>rfl
  | (j,v)::r,(j',w)::r',h=>by
    simp only[qji,zzf]at h;rw[zzy h.1.1,qnZ _ _ h.1.2,qpr h.2]
  |[],_::_,h=>by cases h
  |_::_,[],h=>by cases h
def qpD:∀{a b:CP},qjp a b=true->a=b
  |[],[],_=>rfl
  |x::r,y::r',h=>by
    simp only[qjp,zzf]at h;rw[qA5 h.1,qpD h.2]
  |[],_::_,h=>by cases h
  |_::_,[],h=>by cases h
structure Cov (d:Nat) (V:Nat->List DV->Option (PV×Bool)) (x y:AS):Prop where
  st:y.st=x.st
  len:y.G.length=x.G.length
  m:∀ρ,Mod d V x ρ->Mod d V y ρ
  wf:x.wf->y.wf
def Cov.nx{x y:AS}(c:Cov d V x y)(n:Nx d V σ ρ x ρ'):Nx d V σ ρ y ρ':=⟨n.ag,c.m _ n.m,c.wf n.wf,by rw[c.len];exact n.le⟩
def qCI:∀{ts us:CF TA},TA.subL ts us=true->ts.length=us.length
  |[],[],_=>rfl
  |t::ts,u::us,h=>by rw[TA.subL,zzf]at h;rw[zzn,zzn,qCI h.2]
  |[],_::_,h=>by cases h
  |_::_,[],h=>by cases h
def qCH:∀{ts us:CF TA},TA.subL ts us=true->∀(n:Nat) (t:TA),ts[n]? = some t->∃u,us[n]? = some u/\TA.sub t u=true
  |[],[],_,n,t,e=>by simp at e
  |t::ts,u::us,h,n,t',e=>by
    rw[TA.subL,zzf]at h;cases n with
    |zero=>simp at e;subst e;exact⟨u,rfl,h.1⟩
    |succ n=>exact qCH h.2 n t' (by simpa using e)
  |[],_::_,h,_,_,_=>by cases h
  |_::_,[],h,_,_,_=>by cases h
def qkH(x:AS):Cov d V x x:=⟨rfl,rfl,λ_ h=>h,λh=>h⟩
def qxo{x y:AS}:Cov d V x (jnA x y):=
  ⟨rfl,rfl,λρ h=>⟨h.sc,h.ty,λf hf=>h.fx f (List.mem_filter.1 hf).1,h.z,λc hc=>h.cs c (List.mem_filter.1 hc).1⟩,
   λh=>⟨h.st,λρ1 ρ2 s1 s2 a c hc=>h.cs ρ1 ρ2 s1 s2 a c (List.mem_filter.1 hc).1,λf hf=>h.fx f (List.mem_filter.1 hf).1,h.z⟩⟩
def qoT{α:Type}{p:α->α->CG}(hp:∀a b,p a b=true->a=b){l:CF α}{x:α}(h:l.any (p x)=true):x∈l:=by
  obtain⟨y,h1,h2⟩:=List.any_eq_true.1 h;rw[hp _ _ h2];exact h1
def qFS{x y:AS}(h:qtz x y=true):Cov d V y (jnA x y):=by
  unfold qtz at h;simp only[zzf]at h;obtain⟨h1,h2,h3⟩:=h;have e1:=qpr h1
  have e2:=qpD h2
  have el:=qCI h3
  have es:(jnA x y).st=y.st:=by show St.mk x.fr x.H=St.mk y.fr y.H;rw[e1,e2]
  have hf:∀f∈(jnA x y).fx,f∈y.fx:=λf hf=>qoT (p:=qn9) (λa b=>qCs) (List.mem_filter.1 hf).2
  have hc:∀c∈(jnA x y).cs,c∈y.cs:=λc hc=>qoT (p:=qn8) (λa b=>qCr) (List.mem_filter.1 hc).2
  refine⟨es,el,λρ h=>⟨h.sc,λn t e=>?_,λf q=>h.fx f (hf f q),h.z,λc q=>h.cs c (hc c q)⟩,λh=>⟨λρ1 ρ2 s1 s2 a=>?_,λρ1 ρ2 s1 s2 a c q=>h.cs ρ1 ρ2 s1 s2 (a.le (Nat.le_of_eq el.symm)) c (hc c q),λf q=>?_,?_⟩⟩
  · obtain⟨u,hu,hs⟩:=qCH h3 n t e
    exact qvy t u hs (h.ty n u hu)
  · rw[es];exact h.st ρ1 ρ2 s1 s2 (a.le (Nat.le_of_eq el.symm))
  · have:=h.fx f (hf f q)
    show f.1<x.G.length/\f.2.1<x.G.length
    rw[el];exact this
  · show 0<x.G.length
    rw[el];exact h.z
def qAM(x:AS):∀(l:CF AS),(∃y∈qnK x l,Cov d V x y)/\∀z∈l,∃y∈qnK x l,Cov d V z y
  |[]=>⟨⟨x,zzH.2 rfl,qkH x⟩,λz hz=>by cases hz⟩
  |y::r=>by
    unfold qnK;split
    · rename_i e
      refine⟨⟨_,zzr ..,qxo⟩,λz hz=>?_⟩
      rcases List.mem_cons.1 hz with rfl|hz
      · exact⟨_,zzr ..,qFS e⟩
      · exact⟨z,zzi _ hz,qkH z⟩
    · obtain⟨⟨w,h1,h2⟩,h3⟩:=qAM x r
      refine⟨⟨w,zzi _ h1,h2⟩,λz hz=>?_⟩
      rcases List.mem_cons.1 hz with rfl|hz
      · exact⟨z,zzr ..,qkH z⟩
      · obtain⟨w,h1,h2⟩:=h3 z hz
        exact⟨w,zzi _ h1,h2⟩
def Cov.trans{x y z:AS}(a:Cov d V x y)(b:Cov d V y z):Cov d V x z:=⟨b.st.trans a.st,b.len.trans a.len,λρ h=>b.m ρ (a.m ρ h),λh=>b.wf (a.wf h)⟩
def qAP:∀(l:CF AS),∀z∈l,∃y∈mrg l,Cov d V z y
  |[],z,hz=>by cases hz
  |x::r,z,hz=>by
    obtain⟨h1,h2⟩:=qAM (d:=d) (V:=V) x (mrg r);rcases List.mem_cons.1 hz with rfl|hz
    · exact h1
    · obtain⟨y,h3,h4⟩:=qAP r z hz
      obtain⟨w,h5,h6⟩:=h2 y h3;exact⟨w,h5,h4.trans h6⟩
def qsB{n:Nat}(a:Agr n ρ ρ'):∀fr:Fr,fr.bnd n=true->fr.ins ρ'=fr.ins ρ
  |[],_=>rfl
  | (j,v)::r,h=>by
    simp only[Fr.bnd,zzf]at h;simp only[Fr.ins];rw[qjH a v h.1,qsB a r h.2]
def qpC{n:Nat}(a:Agr n ρ ρ'):∀H:CP,qjo n H=true->H.ins ρ'=H.ins ρ
  |[],_=>rfl
  |none::r,h=>by
    have:=qpC a r h
    unfold Heap.ins at this⊢;rw[zzu,zzu,this];rfl
  |some x::r,h=>by
    simp only[qjo,zzf]at h
    have:=qpC a r h.2
    unfold Heap.ins at this⊢;rw[zzu,zzu,this];congr 1
    show some _=some _
    congr 1
    cases x with
    |box k v=>show Obj.box k _=Obj.box k _;rw[qjH a v h.1]
    |sl k ro es=>show Obj.sl k ro _=Obj.sl k ro _;rw[qm1 a es h.1]
    |mp es=>cases h.1
    |si=>rfl
    |lp=>rfl
    |df=>rfl
def qwW{n:Nat}{f:Fact}(h:qm0 n f=true):f.1<n/\f.2.1<n:=by
  unfold qm0 at h;rw[zzf]at h;exact⟨qkD h.1,qkD h.2⟩
def qGb{n:Nat}{fx:CF Fact}(h:∀f∈fx,Fact.ok ρ f):∀f∈qxI n fx,Fact.ok ρ f:=by
  intro f hf;rcases zzB.1 hf with hf|hf
  · obtain⟨a,ha,hf⟩:=List.mem_flatMap.1 hf
    obtain⟨b,hb,hf⟩:=List.mem_flatMap.1 hf;have ha2:=List.mem_filter.1 ha
    have hb2:=List.mem_filter.1 hb
    have ea:a.2.1=n:=zzy (zzf _ _▸ha2.2).1
    have eb:b.1=n:=zzy (zzf _ _▸hb2.2).1
    split at hf
    · cases hf
    · rw[zzH.1 hf]
      have h1:=h a ha2.1
      have h2:=h b hb2.1
      unfold Fact.ok at h1 h2⊢;rw[ea]at h1;rw[eb]at h2;simp only;omega
  · exact h f (List.mem_filter.1 hf).1
def qxJ{base:Nat}:∀(k:Nat) {fx:CF Fact},(∀f∈fx,Fact.ok ρ f)->∀f∈qsm base k fx,Fact.ok ρ f
  |0,_,h=>h
  |k+1,_,h=>qxJ k (qGb h)
def qFV{n:Nat}{c:Nat×Ct×PV}(h:csB n c=true)(a:Agr n ρ ρ'):DV.Aj ρ' c.2.1=DV.Aj ρ c.2.1/\c.2.2.ins ρ'=c.2.2.ins ρ:=by
  unfold csB at h;rw[zzf]at h;exact⟨qm1 a _ h.1,qjH a _ h.2⟩
def qQ5(hM:Mod d V σ ρ)(hW:σ.wf){x y:AS}(hn:Nx d V σ ρ x ρ')(h:qiz σ x=some y):Nx d V σ ρ y ρ'/\y.st=x.st/\y.G=σ.G:=by
  unfold qiz at h;split at h
  · rename_i e
    cases h;rw[zzf]at e;refine⟨⟨hn.ag,⟨hn.m.sc,λn t et=>?_,λf hf=>qxJ _ hn.m.fx f (List.mem_filter.1 hf).1,hn.m.z,λc hc=>hn.m.cs c (List.mem_filter.1 hc).1⟩,⟨λρ1 ρ2 _ _ a=>?_,λρ1 ρ2 _ _ a c hc=>qFV (List.mem_filter.1 hc).2 a,λf hf=>qwW (List.mem_filter.1 hf).2,hW.z⟩,zzt _⟩,rfl,rfl⟩
    · rw[hn.ag n (zzk.1 et).1];exact hM.ty n t et
    · show St.mk (x.fr.ins ρ2) (x.H.ins ρ2)=St.mk (x.fr.ins ρ1) (x.H.ins ρ1)
      rw[qsB a _ e.1,qpC a _ e.2]
  · cases h
def qCC(σ:AS){x:AS}:∀{l:CF AS},x∈l->(∃y∈(qiw σ l).1,qiz σ x=some y)\/x∈(qiw σ l).2
  |z::r,hx=>by
    unfold qiw;rcases List.mem_cons.1 hx with e|hx
    · subst e
      cases e2:qiz σ x with
      |none=>exact .inr (zzr ..)
      |some y=>exact .inl ⟨y,zzr ..,rfl⟩
    · have ih:=qCC σ hx
      cases e2:qiz σ z with
      |none=>
        rcases ih with ⟨y,h1,h2⟩|h
        · exact .inl ⟨y,h1,h2⟩
        · exact .inr (zzi _ h)
      |some w=>
        rcases ih with ⟨y,h1,h2⟩|h
        · exact .inl ⟨y,zzi _ h1,h2⟩
        · exact .inr h
def qvs:∀{l:CF AS},∀y∈(qiw σ l).1,y.G=σ.G
  |[],y,hy=>by cases hy
  |z::r,y,hy=>by
    unfold qiw at hy;cases e2:qiz σ z with
    |none=>rw[e2]at hy;exact qvs (l:=r) y hy
    |some w=>
      rw[e2]at hy;rcases List.mem_cons.1 hy with e|hy
      · subst e
        unfold qiz at e2;split at e2
        · cases e2;rfl
        · cases e2
      · exact qvs (l:=r) y hy
def qFQ{x y:AS}(h:(qji x.fr y.fr&&qjp x.H y.H)=true)(hG:x.G=y.G):Cov d V y (jnA x y):=by
  rw[zzf]at h;have e1:=qpr h.1
  have e2:=qpD h.2
  have es:(jnA x y).st=y.st:=by show St.mk x.fr x.H=St.mk y.fr y.H;rw[e1,e2]
  have hf:∀f∈(jnA x y).fx,f∈y.fx:=λf hf=>qoT (p:=qn9) (λa b=>qCs) (List.mem_filter.1 hf).2
  have hc:∀c∈(jnA x y).cs,c∈y.cs:=λc hc=>qoT (p:=qn8) (λa b=>qCr) (List.mem_filter.1 hc).2
  have eg:(jnA x y).G=y.G:=hG
  refine⟨es,by rw[eg],λρ h=>⟨h.sc,by rw[eg];exact h.ty,λf q=>h.fx f (hf f q),h.z,λc q=>h.cs c (hc c q)⟩,λh=>⟨λρ1 ρ2 s1 s2 a=>?_,λρ1 ρ2 s1 s2 a c q=>h.cs ρ1 ρ2 s1 s2 (by rw[eg]at a;exact a) c (hc c q),λf q=>by rw[eg];exact h.fx f (hf f q),by rw[eg];exact h.z⟩⟩
  rw[es];exact h.st ρ1 ρ2 s1 s2 (by rw[eg]at a;exact a)
def qAN{G:CF TA}(x:AS)(hx:x.G=G):∀(l:CF AS),(∀y∈l,y.G=G)->((∃y∈qk6 x l,Cov d V x y)/\∀z∈l,∃y∈qk6 x l,Cov d V z y)/\∀y∈qk6 x l,y.G=G
  |[],_=>⟨⟨⟨x,zzH.2 rfl,qkH x⟩,λz hz=>by cases hz⟩,λy hy=>by rw[zzH.1 hy];exact hx⟩
  |y::r,hl=>by
    have hy:=hl y (zzr ..)
    unfold qk6;split
    · rename_i e
      refine⟨⟨⟨_,zzr ..,qxo⟩,λz hz=>?_⟩,λz hz=>?_⟩
      · rcases List.mem_cons.1 hz with rfl|hz
        · exact⟨_,zzr ..,qFQ e (hx.trans hy.symm)⟩
        · exact⟨z,zzi _ hz,qkH z⟩
      · rcases List.mem_cons.1 hz with rfl|hz
        · exact hx
        · exact hl z (zzi _ hz)
    · obtain⟨⟨⟨w,h1,h2⟩,h3⟩,h4⟩:=qAN x hx r λz hz=>hl z (zzi _ hz)
      refine⟨⟨⟨w,zzi _ h1,h2⟩,λz hz=>?_⟩,λz hz=>?_⟩
      · rcases List.mem_cons.1 hz with rfl|hz
        · exact⟨z,zzr ..,qkH z⟩
        · obtain⟨w,h1,h2⟩:=h3 z hz
          exact⟨w,zzi _ h1,h2⟩
      · rcases List.mem_cons.1 hz with rfl|hz
        · exact hy
        · exact h4 z hz
def qAO{G:CF TA}:∀(l:CF AS),(∀y∈l,y.G=G)->(∀z∈l,∃y∈qnL l,Cov d V z y)/\∀y∈qnL l,y.G=G
  |[],_=>⟨(λz hz=>by cases hz),(λz hz=>by cases hz)⟩
  |x::r,hl=>by
    obtain⟨h1,h2⟩:=qAO r λz hz=>hl z (zzi _ hz)
    obtain⟨⟨h3,h4⟩,h5⟩:=qAN (d:=d) (V:=V) x (hl x (zzr ..)) (qnL r) h2;refine⟨λz hz=>?_,h5⟩
    rcases List.mem_cons.1 hz with rfl|hz
    · exact h3
    · obtain⟨y,h6,h7⟩:=h1 z hz
      obtain⟨w,h8,h9⟩:=h4 y h6;exact⟨w,h8,h7.trans h9⟩
def qKR(hM:Mod d V σ ρ)(hW:σ.wf){x:AS}{l:CF AS}(hn:Nx d V σ ρ x ρ')(hx:x∈l):∃y∈qtR σ l,Nx d V σ ρ y ρ'/\y.st=x.st:=by
  have hs:=qCC σ hx
  have hG:=qvs (σ:=σ) (l:=l)
  unfold qtR;cases e:qiw σ l with
  |mk a b=>
    rw[e]at hs hG;simp only at hs hG⊢;rcases hs with ⟨y,h1,h2⟩|h
    · obtain⟨n1,n2,n3⟩:=qQ5 hM hW hn h2
      obtain⟨w,h3,h4⟩:=(qAO (d:=d) (V:=V) a hG).1 y h1;exact⟨w,List.mem_append_left _ h3,h4.nx n1,h4.st.trans n2⟩
    · obtain⟨w,h3,h4⟩:=qAP (d:=d) (V:=V) b x h
      exact⟨w,List.mem_append_right _ h3,h4.nx hn,h4.st⟩
def qxX(hM:Mod d V σ ρ)(hW:σ.wf)(hS:qcW d V S)(hE:E.val=V){D:CG}{ops:CF Ao}{bf kill:Cy}{l:CF (Ex×AS)}(h:qpl S D ops bf kill σ=some l) :
    ∃o∈l,∃ρ',o.1=.norm/\Nx d V σ ρ o.2 ρ'/\(if D=true then qc4 E ops bf kill (σ.st.ins ρ)else qcu E ops kill (σ.st.ins ρ))=some (o.2.st.ins ρ'):=by
  unfold qpl at h;split at h
  · rename_i l1 e1
    cases h;have hW':({ σ with H:=σ.H++List.replicate (qao ops) none }:AS).wf:=⟨λρ1 ρ2 s1 s2 a=>by
      have:=hW.st ρ1 ρ2 s1 s2 a
      show St.mk (σ.fr.ins ρ2) (Heap.ins ρ2 (σ.H++_))=St.mk (σ.fr.ins ρ1) (Heap.ins ρ1 (σ.H++_))
      rw[qpK,qpK,quu,quu,show σ.fr.ins ρ2=σ.fr.ins ρ1 from congrArg St.fr this,show σ.H.ins ρ2=σ.H.ins ρ1 from congrArg St.H this],hW.cs,hW.fx,hW.z⟩
    obtain⟨σ1,h1,ρ1,n1,s1⟩:=qxW (E:=E) hS hE D ops bf [] _ { σ with H:=σ.H++List.replicate (qao ops) none } ρ l1 ⟨hM.sc,hM.ty,hM.fx,hM.z,hM.cs⟩ hW' e1
    have e2:({ σ with H:=σ.H++List.replicate (qao ops) none }:AS).st.ins ρ=⟨(σ.st.ins ρ).fr,(σ.st.ins ρ).H++List.replicate (qao ops) none⟩:=by
      show St.mk _ (Heap.ins ρ (σ.H++_))=_
      rw[qpK,quu];rfl
    have e3:(σ.st.ins ρ).H.length=σ.H.length:=qHu ρ σ.H
    have hd:Nx d V σ ρ { σ1 with fr:=σ1.fr.drop kill } ρ1:=⟨n1.ag,⟨n1.m.sc,n1.m.ty,n1.m.fx,n1.m.z,n1.m.cs⟩,⟨λρ1 ρ2 s1 s2 a=>by
      have:=n1.wf.st ρ1 ρ2 s1 s2 a
      show St.mk ((σ1.fr.drop kill).ins ρ2) (σ1.H.ins ρ2)=St.mk ((σ1.fr.drop kill).ins ρ1) (σ1.H.ins ρ1)
      rw[qnq,qnq,show σ1.fr.ins ρ2=σ1.fr.ins ρ1 from congrArg St.fr this,show σ1.H.ins ρ2=σ1.H.ins ρ1 from congrArg St.H this],n1.wf.cs,n1.wf.fx,n1.wf.z⟩,n1.le⟩
    obtain⟨σ2,h2,nx,hst⟩:=qKR hM hW hd (zzN.2 ⟨σ1,h1,rfl⟩:_∈l1.map λσ'=>{ σ' with fr:=σ'.fr.drop kill })
    refine⟨_,zzN.2 ⟨σ2,h2,rfl⟩,ρ1,rfl,nx,?_⟩;have e4:(St.mk ((σ1.fr.drop kill).ins ρ1) (σ1.H.ins ρ1))=⟨(σ1.st.ins ρ1).fr.drop kill,(σ1.st.ins ρ1).H⟩:=by rw[qnq];rfl
    show _=some (σ2.st.ins ρ1)
    rw[hst];show _=some (St.mk ((σ1.fr.drop kill).ins ρ1) (σ1.H.ins ρ1))
    rw[e4];rw[e2]at s1;unfold qc4 qcu;rw[e3];cases D with
    |true=>
      rw[if_pos rfl]at s1⊢;rw[s1]
    |false=>
      rw[if_neg (by decide)]at s1⊢
      rw[s1]
  · cases h
def qpv(live:Cy)(ρ:Nat->DV):(σ.gc live).st.ins ρ=Sim.gc live 0 (σ.st.ins ρ):=qHr ρ live 0 σ.st
def qsG(hM:Mod d V σ ρ)(hW:σ.wf)(live:Cy):Nx d V σ ρ (σ.gc live) ρ:=
  ⟨Agr.rfl',⟨hM.sc,hM.ty,hM.fx,hM.z,hM.cs⟩,⟨λρ1 ρ2 s1 s2 a=>by rw[qpv,qpv,hW.st ρ1 ρ2 s1 s2 a],hW.cs,hW.fx,hW.z⟩,zzt _⟩
end
section
variable {d:Nat}{ρ ρ' ρ1:Nat->DV}{V:Nat->Ct->Cz}{σ σ' σ0:AS}{E:Env}{S:CF (Nat × Sg)}
mutual
def qkS(th ρ:Nat->DV):∀v:DV,(v.ins th).ins ρ=v.ins λn=>(th n).ins ρ
 |.tok _=>rfl
 |.a cs=>by rw[DV.ins,DV.ins,DV.ins,qpG th ρ cs]
 |.l _ es _=>by rw[DV.ins,DV.ins,DV.ins,qpG th ρ es]
 |.ifc _ v=>by rw[DV.ins,DV.ins,DV.ins,qkS th ρ v]
 |.b _|.i _ _|.s _|.np|.nf|.ni|.nm=>rfl
def qpG(th ρ:Nat->DV):∀l:Ct,DV.Aj ρ (DV.Aj th l)=DV.Aj (λn=>(th n).ins ρ) l
 |[]=>rfl
 |v::vs=>by rw[DV.Aj,DV.Aj,DV.Aj,qkS th ρ v,qpG th ρ vs]
end
mutual
def qnS(th ρ:Nat->DV):∀v:PV,(v.ins th).ins ρ=v.ins λn=>(th n).ins ρ
 |.d v=>by rw[PV.ins,PV.ins,PV.ins,qkS]
 |.q v _ _=>by rw[PV.ins,PV.ins,PV.ins,qkS]
 |.a cs=>by rw[PV.ins,PV.ins,PV.ins,qnT th ρ cs]
 |.t cs=>by rw[PV.ins,PV.ins,PV.ins,qnT th ρ cs]
 |.f _ cs=>by rw[PV.ins,PV.ins,PV.ins,qnT th ρ cs]
 |.m _ cs=>by rw[PV.ins,PV.ins,PV.ins,qnT th ρ cs]
 |.g v=>by rw[PV.ins,PV.ins,PV.ins,qnS th ρ v]
 |.w _ v=>by rw[PV.ins,PV.ins,PV.ins,qnS th ρ v]
 |.u|.r .. |.p .. |.h _=>rfl
def qnT(th ρ:Nat->DV):∀l:Cu,PV.Aj ρ (PV.Aj th l)=PV.Aj (λn=>(th n).ins ρ) l
 |[]=>rfl
 |v::vs=>by rw[PV.Aj,PV.Aj,PV.Aj,qnS th ρ v,qnT th ρ vs]
end
def qLf(th ρ:Nat->DV)(x:Obj):(x.ins th).ins ρ=x.ins λn=>(th n).ins ρ:=by
 cases x with
 |box k v=>simp only[Obj.ins];rw[qnS]
 |sl k ro es=>simp only[Obj.ins];rw[qpG]
 |mp es=>
  simp only[Obj.ins,List.map_map];congr 1
  apply List.map_congr_left
  intro y _;simp only[Function.comp];rw[qkS,qkS]
 |si=>rfl
 |lp=>rfl
 |df=>rfl
def qHb(th ρ:Nat->DV)(H:CP):(H.ins th).ins ρ=H.ins λn=>(th n).ins ρ:=by
 unfold Heap.ins;rw[List.map_map];apply List.map_congr_left
 intro x _;cases x with
 |none=>rfl
 |some x=>exact congrArg some (qLf th ρ x)
def qx5(th ρ:Nat->DV):∀fr:Fr,(fr.ins th).ins ρ=fr.ins λn=>(th n).ins ρ
 |[]=>rfl
 | (j,v)::r=>by simp only[Fr.ins];rw[qnS,qx5 th ρ r]
def qtV(hM:Mod d V σ ρ){v:DV}{a:Nat×Int}(h:qqf v=some a):vI (v.ins ρ)=nv ρ a:=by
 cases v with
 |i k c=>cases h;rw[qdJ hM];rfl
 |tok m=>cases h;unfold nv;simp[DV.ins]
 |s x=>cases h;rw[qdJ hM];rfl
 |l k es t=>cases h;rw[qdJ hM];simp only[DV.ins,vI,qcw]
 |_=>cases h
def qCR(hM:Mod d V σ ρ){th:Nat->DV}:∀(n:Nat) (g:CF TA),thT σ.G th n g=true->∀i t,g[i]? = some t->Hs d t ((th (n+i)).ins ρ)
 |_,[],_,i,t,e=>by simp at e
 |n,t::ts,h,i,u,e=>by
  simp only[thT,zzf]at h;cases i with
  |zero=>simp at e;subst e;exact qif hM.ty _ _ h.1
  |succ i=>
   have:=qCR hM (n+1) ts h.2 i u (by simpa using e)
   rwa [show n+1+i=n+(i+1)by omega]at this
def qx6(hM:Mod d V σ ρ){th:Nat->DV}{n0:Nat}{fr:Fr}{H:CP}{g:CF TA}{cs:CF Fact}(h:qpm th n0 fr H g cs σ=true) :
  (St.mk fr H).ins (λn=>(th n).ins ρ)=σ.st.ins ρ/\(∀i t,g[i]? = some t->Hs d t ((th (n0+i)).ins ρ))/\∀f∈cs,Fact.ok (λn=>(th n).ins ρ) f:=by
 unfold qpm at h;simp only[zzf]at h;obtain⟨⟨⟨h1,h2⟩,h3⟩,h4⟩:=h;refine⟨?_,qCR hM n0 g h3,λf hf=>?_⟩
 ·show St.mk (fr.ins _) (H.ins _)=St.mk (σ.fr.ins ρ) (σ.H.ins ρ)
  rw[<-qx5,<-qHb,qpr h1,qpD h2]
 ·have h5:=List.all_eq_true.1 h4 f hf
  unfold thF at h5;split at h5
  ·rename_i a b e1 e2
   have:=qbK hM h5
   unfold Fact.ok;rw[qtV hM e1,qtV hM e2];exact this
  ·cases h5
def qvE{n0 m n:Nat}{bd:Bd}(h:n<n0):thD n0 m bd n=.tok n:=by
 unfold thD;rw[if_neg];rw[zzf];intro c
 have:=Nat.le_of_ble_eq_true c.1
 omega
def qCQ(hs:Sc ρ){n0:Nat}{g:CF TA}{bd:Bd}(h:∀i t,g[i]? = some t->Hs d t ((thD n0 g.length bd (n0+i)).ins ρ)):Sc λn=>(thD n0 g.length bd n).ins ρ:=by
 intro n cs e;by_cases hn:n0<=n/\n<n0+g.length
 ·have hi:n-n0<g.length:=by omega
  have:=h (n-n0) _ (zze hi)
  rw[show n0+(n-n0)=n by omega]at this
  exact qwf this cs e
 ·have:thD n0 g.length bd n=.tok n:=by
   unfold thD;rw[if_neg];rw[zzf];intro c;exact hn ⟨Nat.le_of_ble_eq_true c.1,qkD c.2⟩
  simp only at e;rw[this]at e;exact hs n cs e
def qjm(σ0:AS)(fr:Fr)(H:CP)(g:CF TA)(cs:CF Fact):AS:=({ σ0 with fr:=fr,H:=H }.news g).add cs
def qsI(fr:Fr)(H:CP)(g:CF TA)(cs:CF Fact):(qjm σ0 fr H g cs).G.length=σ0.G.length+g.length:=qk8 (σ:={ σ0 with fr:=fr,H:=H }) g
def qyt(hM:Mod d V σ0 ρ)(hW:σ0.wf){fr:Fr}{H:CP}{g:CF TA}{cs:CF Fact}(ha:Agr σ0.G.length ρ ρ')(hs:Sc ρ')(hg:∀i t,g[i]? = some t->Hs d t (ρ' (σ0.G.length+i)))(hc:∀f∈cs,Fact.ok ρ' f):Mod d V (qjm σ0 fr H g cs) ρ':=by
 have hz:ρ' 0=.i .i64 0:=by rw[ha 0 hW.z];exact hM.z
 refine⟨hs,?_,?_,hz,?_⟩
 ·intro n t e;change (σ0.G++g)[n]? = some t at e
  by_cases hlt:n<σ0.G.length
  ·rw[List.getElem?_append_left hlt]at e;rw[ha n hlt];exact hM.ty n t e
  ·rw[List.getElem?_append_right (by omega)]at e
   have:=hg _ t e
   rwa [show σ0.G.length+(n-σ0.G.length)=n by omega]at this
 ·intro f hf;rcases zzB.1 hf with hf|hf
  ·exact hc f hf
  ·rcases zzB.1 hf with hf|hf
   ·exact qpu hz g _ hg f hf
   ·exact qxY (hW.fx f hf).1 (hW.fx f hf).2 ha (hM.fx f hf)
 ·intro c hc;obtain⟨own,h1⟩:=hM.cs c hc
  have:=hW.cs _ _ hM.sc hs ha c hc
  exact⟨own,by rw[this.1,this.2];exact h1⟩
def qGO(hW:σ0.wf){fr:Fr}{H:CP}{g:CF TA}{cs:CF Fact}(h1:cs.all (qm0 (σ0.G.length+g.length))=true)(h2:fr.bnd (σ0.G.length+g.length)=true)(h3:qjo (σ0.G.length+g.length) H=true):(qjm σ0 fr H g cs).wf:=by
 have hl:=qsI (σ0:=σ0) fr H g cs
 refine⟨λρ1 ρ2 s1 s2 a=>?_,λρ1 ρ2 s1 s2 a=>hW.cs ρ1 ρ2 s1 s2 (a.le (by omega)),?_,by have:=hW.z;omega⟩
 ·show St.mk (fr.ins ρ2) (H.ins ρ2)=St.mk (fr.ins ρ1) (H.ins ρ1)
  rw[hl]at a;rw[qsB a fr h2,qpC a H h3]
 ·intro f hf;rw[hl];rcases zzB.1 hf with hf|hf
  ·exact qwW (List.all_eq_true.1 h1 f hf)
  ·rcases zzB.1 hf with hf|hf
   ·exact qpt g _ f hf
   ·have:=hW.fx f hf;omega
def mea(ρ:Nat->DV)(ms:CG×Nat×Nat):Nat:=if ms.1=true then (vI (ρ ms.2.2)-vI (ρ ms.2.1)).toNat else (vI (ρ ms.2.1)).toNat
def qxZ(hM:Mod d V σ ρ1){n0 m:Nat}{bd:Bd}{ms:CG×Nat×Nat}(h:qsw (thD n0 m bd) n0 m σ.fx ms=true)(ha:Agr (n0+m) ρ' ρ1):mea (λn=>(thD n0 m bd n).ins ρ1) ms<mea ρ' ms:=by
 unfold qsw at h;split at h
 ·rename_i a e;rw[zzf]at h;have hc:=qkD h.1
  have hn:=qtV hM e
  have ec:=ha _ hc
  have h2:=h.2
  unfold mea;split at h2
  ·rename_i e1;simp only[zzf]at h2;obtain⟨⟨h3,h4⟩,h5⟩:=h2;have hb:=qkD h3
   have b4:=qbK hM h4
   have b5:=qbK hM h5
   have eb:=ha ms.2.2 (by omega)
   rw[if_pos e1,if_pos e1];simp only;rw[qvE hb,hn];show (vI (ρ1 ms.2.2)-nv ρ1 a).toNat<_
   unfold nv at b4 b5;simp only at b4 b5;unfold nv;rw[<-ec,<-eb];omega
  ·rename_i e1;rw[zzf]at h2;have b4:=qbK hM h2.1
   have b5:=qbK hM h2.2
   unfold z0 at b5;rw[qdJ hM]at b5;rw[if_neg e1,if_neg e1];simp only;rw[hn];unfold nv at b4 b5;simp only at b4 b5;unfold nv;rw[<-ec];omega
 ·cases h
def Snd(d:Nat)(V:Nat->Ct->Cz)(f:AS->CE (CF (Ex×AS)))(F:St->Res):Prop:=
 ∀σ ρ outs,Mod d V σ ρ->σ.wf->f σ=some outs->∃o∈outs,∃ρ',Nx d V σ ρ o.2 ρ'/\F (σ.st.ins ρ)=some (o.1,o.2.st.ins ρ')
def qs3{e:Ex}(h:isN e=true):e=.norm:=by cases e<;>first|rfl|cases h
def qJL{f:AS->CE (CF (Ex×AS))}{F:St->Res}(hF:Snd d V f F)(hM:Mod d V σ0 ρ){live:Cy}{fr:Fr}{H:CP}{g:CF TA}{cs:CF Fact}{outs:CF (Ex×AS)}(hf:f (qjm σ0 fr H g cs)=some outs)(hW:σ0.wf)(hWg:(qjm σ0 fr H g cs).wf){ms:CG×Nat×Nat}
  (hk:∀σ1∈(outs.filter qcn).map (·.2),qny live σ0.G.length fr H g cs ms σ1=true):∀(k:Nat) (ρ':Nat->DV) (s:St),Mod d V (qjm σ0 fr H g cs) ρ'->Agr σ0.G.length ρ ρ'->gc live 0 s=(St.mk fr H).ins ρ'->mea ρ' ms<=k->
  ∃o∈outs.filter (λo=>!qcn o),∃ρ2,Nx d V σ0 ρ o.2 ρ2/\lpI (λs=>F (gc live 0 s)) s=some (o.1,o.2.st.ins ρ2):=by
 intro k;induction k with
 |zero=>
  intro ρ' s hMg ha hs hm;obtain⟨o,ho,ρ1,hn,he⟩:=hF _ ρ' outs hMg hWg hf;have hl:=qsI (σ0:=σ0) fr H g cs
  have he':(λs=>F (gc live 0 s)) s=some (o.1,o.2.st.ins ρ1):=by show F (gc live 0 s)=_;rw[hs];exact he
  cases hb:isN o.1 with
  |true=>
   have:=hk o.2 (zzN.2 ⟨o,List.mem_filter.2 ⟨ho,hb⟩,rfl⟩)
   unfold qny at this;split at this
   ·rename_i bd _;rw[zzf]at this;have hgc:=qsG hn.m hn.wf live
    have:=qxZ hgc.m this.2 (ρ':=ρ') (hn.ag.le (by omega))
    omega
   ·cases this
  |false=>
   refine⟨o,List.mem_filter.2 ⟨ho,by unfold qcn;rw[hb];rfl⟩,ρ1,⟨ha.trans (hn.ag.le (by omega)),hn.m,hn.wf,zzL (by omega) hn.le⟩,?_⟩
   exact qtB (f:=λs=>F (gc live 0 s)) he' (λc=>by rw[c]at hb;cases hb)
 |succ k ih=>
  intro ρ' s hMg ha hs hm;obtain⟨o,ho,ρ1,hn,he⟩:=hF _ ρ' outs hMg hWg hf;have hl:=qsI (σ0:=σ0) fr H g cs
  have he':(λs=>F (gc live 0 s)) s=some (o.1,o.2.st.ins ρ1):=by show F (gc live 0 s)=_;rw[hs];exact he
  cases hb:isN o.1 with
  |true=>
   have hkk:=hk o.2 (zzN.2 ⟨o,List.mem_filter.2 ⟨ho,hb⟩,rfl⟩)
   unfold qny at hkk;split at hkk
   ·rename_i bd _;rw[zzf]at hkk;have hgc:=qsG hn.m hn.wf live
    have hfall:=qxZ hgc.m hkk.2 (ρ':=ρ') (hn.ag.le (by omega))
    obtain⟨f1,f2,f3⟩:=qx6 hgc.m hkk.1;have hag:Agr σ0.G.length ρ λn=>(thD σ0.G.length g.length bd n).ins ρ1:=by
     intro n hlt;simp only;rw[qvE hlt];show ρ1 n=ρ n
     rw[hn.ag n (by omega),ha n hlt]
    obtain⟨o2,h1,ρ2,h2,h3⟩:=ih _ (o.2.st.ins ρ1) (qyt hM hW hag (qCQ hgc.m.sc f2) f2 f3) hag (by rw[f1,qpv]) (by omega)
    refine⟨o2,h1,ρ2,h2,?_⟩;rw[qs3 hb]at he';exact (qAr (f:=λs=>F (gc live 0 s)) he').trans h3
   ·cases hkk
  |false=>
   refine⟨o,List.mem_filter.2 ⟨ho,by unfold qcn;rw[hb];rfl⟩,ρ1,⟨ha.trans (hn.ag.le (by omega)),hn.m,hn.wf,zzL (by omega) hn.le⟩,?_⟩
   exact qtB (f:=λs=>F (gc live 0 s)) he' (λc=>by rw[c]at hb;cases hb)
end
section
variable {d:Nat}{ρ ρ' ρ1:Nat->DV}{V:Nat->Ct->Cz}{σ σ' σ0:AS}{E:Env}{S:CF (Nat × Sg)}
def qx2{live:Cy}{n0:Nat}{fr:Fr}{H:CP}{g:CF TA}{cs:CF Fact}{l:CF AS}{m:CG×Nat×Nat}:∀{ms:CF (CG×Nat×Nat)},qnf live n0 fr H g cs l ms=some m->l.all (qny live n0 fr H g cs m)=true
 |[],h=>by cases h
 |x::r,h=>by
  unfold qnf at h;split at h
  ·rename_i e;cases h;exact e
  ·exact qx2 h
def qGM{f:AS->CE (CF (Ex×AS))}{F:St->Res}(hF:Snd d V f F)(hM:Mod d V σ0 ρ)(hW:σ0.wf){live:Cy}{s:St}(hs:gc live 0 s=σ0.st.ins ρ){fr:Fr}{H:CP}{g:CF TA}{cs:CF Fact}{outs outs':CF (Ex×AS)}{ms:CF (CG×Nat×Nat)}(hf:f (qjm σ0 fr H g cs)=some outs)
  (hb:qrQ σ0.G.length fr H g cs σ0=true) (h:(match qnf live σ0.G.length fr H g cs ((outs.filter qcn).map (·.2)) ms with
   |some _=>some (outs.filter λo=>!qcn o)
   |none=>none)=some outs') :
  ∃o∈outs',∃ρ2,Nx d V σ0 ρ o.2 ρ2/\lpI (λs=>F (gc live 0 s)) s=some (o.1,o.2.st.ins ρ2):=by
 split at h
 ·rename_i m e;cases h;unfold qrQ at hb;split at hb
  ·rename_i bd _;simp only[zzf]at hb;obtain⟨b1,b2,b3,b4⟩:=hb;obtain⟨f1,f2,f3⟩:=qx6 hM b1;have hag:Agr σ0.G.length ρ λn=>(thD σ0.G.length g.length bd n).ins ρ:=by
    intro n hlt;simp only;rw[qvE hlt];rfl
   exact qJL hF hM hf hW (qGO hW b2 b3 b4) (λσ1 h1=>List.all_eq_true.1 (qx2 e) σ1 h1) _ _ s (qyt hM hW hag (qCQ hM.sc f2) f2 f3) hag (by rw[f1,hs]) (zzt _)
  ·cases hb
 ·cases h
def qGN{f:AS->CE (CF (Ex×AS))}{F:St->Res}(hF:Snd d V f F)(hM:Mod d V σ0 ρ)(hW:σ0.wf){live:Cy}{s:St}(hs:gc live 0 s=σ0.st.ins ρ):∀(n:Nat) (x:Fr×CP×CF TA) (bad:CF Fact) (outs':CF (Ex×AS)),qnl f live σ0 n x bad=some outs'->
  ∃o∈outs',∃ρ2,Nx d V σ0 ρ o.2 ρ2/\lpI (λs=>F (gc live 0 s)) s=some (o.1,o.2.st.ins ρ2):=by
 intro n;induction n with
 |zero=>intro x bad outs' h;cases h
 |succ n ih=>
  intro x bad outs' h;unfold qnl at h;simp only at h;split at h
  ·cases h
  ·rename_i bd _;split at h
   ·cases h
   ·rename_i outs e1;split at h
    ·cases h
    ·rename_i y _;split at h
     ·exact ih _ _ _ h
     ·split at h
      ·exact ih _ _ _ h
      ·split at h
       ·rename_i hb;exact qGM hF hM hW hs e1 hb h
       ·cases h
def qGr{f:AS->CE (CF (Ex×AS))}{F:St->Res}(hF:Snd d V f F){live:Cy}:∀(n:Nat),Snd d V (qpi f live n) (lpI λs=>F (gc live 0 s)):=by
 intro n;induction n with
 |zero=>intro σ ρ outs _ _ h;cases h
 |succ n ih=>
  intro σ ρ outs' hM hW h;unfold qpi at h;simp only at h;have hg:=qsG hM hW live
  have hs:gc live 0 (σ.st.ins ρ)=(σ.gc live).st.ins ρ:=(qpv live ρ).symm
  split at h
  ·cases h
  ·rename_i outs e1;split at h
   ·split at h
    ·obtain⟨o,h1,ρ2,h2,h3⟩:=qGN hF hg.m hg.wf hs _ _ _ _ h;exact⟨o,h1,ρ2,hg.trans h2,h3⟩
    ·cases h
   ·obtain⟨o,ho,ρ1,hn,he⟩:=hF _ ρ outs hg.m hg.wf e1;have he':(λs=>F (gc live 0 s)) (σ.st.ins ρ)=some (o.1,o.2.st.ins ρ1):=by show F (gc live 0 _)=_;rw[hs];exact he
    obtain⟨y,e2,hy⟩:=qoR h o ho;cases hb:isN o.1 with
    |true=>
     have hb':qcn o=true:=hb
     rw[if_pos hb']at e2;obtain⟨o2,h1,ρ2,h2,h3⟩:=ih _ ρ1 y hn.m hn.wf e2;refine⟨o2,hy _ h1,ρ2,hg.trans (hn.trans h2),?_⟩;rw[qs3 hb]at he';exact (qAr (f:=λs=>F (gc live 0 s)) he').trans h3
    |false=>
     have hb':¬qcn o=true:=by unfold qcn;rw[hb];decide
     rw[if_neg hb']at e2;cases e2;refine⟨o,hy _ (zzH.2 rfl),ρ1,hg.trans hn,?_⟩;exact qtB (f:=λs=>F (gc live 0 s)) he' (λc=>by rw[c]at hb;cases hb)
def qxn{fr:Fr}{c:Ab}{b:CG}(h:rdA fr c=.d (.b b)):rd E (fr.ins ρ) c=.d (.b b):=by
 cases c with
 |t n=>
  show (fr.ins ρ).get n=_
  rw[qjq];have:fr.get n=.d (.b b):=h
  rw[this];rfl
 |c v=>exact h
 |g n=>cases h
 |f n=>cases h
def qGq(hS:qcW d V S)(hE:E.val=V):∀c:PC,Snd d V (qeo S c) (λs=>qah E lpI 0 c s):=by
 intro c;induction c with
 |skip=>
  intro σ ρ outs hM hW h;cases h;exact⟨_,zzH.2 rfl,ρ,⟨Agr.rfl',hM,hW,zzt _⟩,rfl⟩
 |reg ops kill=>
  intro σ ρ outs hM hW h;obtain⟨o,h1,ρ',h2,h3,h4⟩:=qxX hM hW hS hE h;rw[if_neg (by decide)]at h4
  refine⟨o,h1,ρ',h3,?_⟩;simp only[qah];rw[h4,h2]
 |A7 ops bf kill=>
  intro σ ρ outs hM hW h;obtain⟨o,h1,ρ',h2,h3,h4⟩:=qxX hM hW hS hE h;rw[if_pos rfl]at h4;refine⟨o,h1,ρ',h3,?_⟩;simp only[qah];rw[h4,h2]
 |seq a b iha ihb=>
  intro σ ρ outs hM hW h;unfold qeo at h;split at h
  ·rename_i l e1;obtain⟨o,ho,ρ1,hn,he⟩:=iha σ ρ l hM hW e1;obtain⟨y,e2,hy⟩:=qoR h o ho;simp only[qah];simp only at he;cases hb:isN o.1 with
   |true=>
    have hb':qcn o=true:=hb
    rw[if_pos hb']at e2;obtain⟨o2,h1,ρ2,h2,h3⟩:=ihb _ ρ1 y hn.m hn.wf e2;refine⟨o2,hy _ h1,ρ2,hn.trans h2,?_⟩;rw[he,qs3 hb];exact h3
   |false=>
    have hb':¬qcn o=true:=by unfold qcn;rw[hb];decide
    rw[if_neg hb']at e2;cases e2;refine⟨o,hy _ (zzH.2 rfl),ρ1,hn,?_⟩;rw[he];obtain⟨e,σ1⟩:=o;cases e with
    |norm=>cases hb
    |exit i=>rfl
    |ret=>rfl
  ·cases h
 |cond c x y ihx ihy=>
  intro σ ρ outs hM hW h;unfold qeo at h;simp only[qah];split at h
  ·rename_i e;have:rd E (σ.st.ins ρ).fr c=.d (.b true):=qxn e
   rw[this];exact ihx σ ρ outs hM hW h
  ·rename_i e;have:rd E (σ.st.ins ρ).fr c=.d (.b false):=qxn e
   rw[this];exact ihy σ ρ outs hM hW h
  ·cases h
 |block id x ih=>
  intro σ ρ outs hM hW h;unfold qeo at h;split at h
  ·rename_i l e1;cases h;obtain⟨o,ho,ρ1,hn,he⟩:=ih σ ρ l hM hW e1;simp only[qah];simp only at he;refine⟨_,zzN.2 ⟨o,ho,rfl⟩,ρ1,?_,?_⟩
   ·split
    ·split
     ·exact hn
     ·exact hn
    ·exact hn
   ·rw[he];obtain⟨e,σ1⟩:=o;cases e with
    |norm=>rfl
    |exit i=>
     simp only;split
     ·rfl
     ·rfl
    |ret=>rfl
  ·cases h
 |loop live x ih=>
  intro σ ρ outs hM hW h;exact qGr ih 40 σ ρ outs hM hW h
 |exit id=>
  intro σ ρ outs hM hW h;cases h;exact⟨_,zzH.2 rfl,ρ,⟨Agr.rfl',hM,hW,zzt _⟩,rfl⟩
 |ret=>
  intro σ ρ outs hM hW h;cases h;exact⟨_,zzH.2 rfl,ρ,⟨Agr.rfl',hM,hW,zzt _⟩,rfl⟩
 |rng=>intro σ ρ outs hM hW h;cases h
 |bad=>intro σ ρ outs hM hW h;cases h
end
section
variable {d:Nat}{ρ ρ' ρ1:Nat->DV}{V:Nat->Ct->Cz}{σ σ' σ0:AS}{E:Env}{S:CF (Nat × Sg)}
def qjS(args:CF (K×CF TA)):AS:={ fr:=Fr.Aa 0 (qca 1 args),H:=[],G:=.i .i64::qcT args,fx:=fxs 1 (qcT args) }
def qn4(H:CP):PV->CE (Ct)
 |.t vs=>match qaK H vs with|some (xs,_)=>if Nat.beq xs.length 1 then none else some xs|none=>none
 |.d x=>some [x]
 |.r o k off len t=>match qaW H (.r o k off len t)with|some (x,_)=>some [x]|none=>none
 |.a cs=>match qcA H cs with|some (xs,_)=>some [.a xs]|none=>none
 |_=>none
def qBj(res:CF (K×CF TA))(rs:CF RV)(o:Ex×AS):CG:=(match o.1 with|.exit _=>false|_=>true)&&((qan o.2.fr).isEmpty&&match results o.2.fr o.2.H rs with
 |some vs=>match qn4 o.2.H (qa5 vs)with
  |some xs=>qkV o.2.G res xs
  |none=>false
 |none=>false)
def qat(S:CF (Nat×Sg))(F:PF)(g:Sg):CG:=Nat.beq g.args.length F.Bp&&match qeo S F.body (qjS g.args)with
 |some l=>l.all (qBj g.res F.results)
 |none=>false
def qux(hρ:Sc ρ){fr:Fr}{H:CP}:∀{rs:CF RV} {vs:Cu},results fr H rs=some vs->results (fr.ins ρ) (H.ins ρ) rs=some (PV.Aj ρ vs)
 |[],vs,h=>by cases h;rfl
 |.t n::r,vs,h=>by
  simp only[results]at h⊢;split at h
  ·rename_i ws e;cases h;rw[qux hρ e,qjq];rfl
  ·cases h
 |.c n k::r,vs,h=>by
  simp only[results]at h⊢;split at h
  ·rename_i v ws e1 e2;cases h;rw[qux hρ e2,qjq,qAj hρ e1];rfl
  ·cases h
def qsO:∀fr:Fr,qan (fr.ins ρ)=(qan fr).map (PV.ins ρ)
 |[]=>rfl
 | (j,v)::r=>by
  simp only[Fr.ins,qan];split
  ·rw[zzu,qsO r]
  ·exact qsO r
def qBH{H:CP}:∀{l:Cu} {xs:Ct} {os:Cy},qaK H l=some (xs,os)->qaK (H.ins ρ) (PV.Aj ρ l)=some (DV.Aj ρ xs,os)
 |[],xs,os,h=>by cases h;rfl
 |v::r,xs,os,h=>by
  simp only[qaK]at h;split at h
  ·rename_i x os1 ys os2 e1 e2;cases h;simp only[PV.Aj,qaK];rw[qua e1,qBH e2];rfl
  ·cases h
def qrD{es:Ct}{k:K}:∀{n:Nat},¬XD n (.l k es true)
 |0,h=>by cases h
 |_+1,⟨_,h,_⟩=>by cases h
def qDP{ty:TA}{es:Ct}{k:K}(h:Hs d ty (.l k es true)):Hs d ty (.l k es false):=by
 cases ty with
 |b=>obtain⟨_,h⟩:=h;cases h
 |i k=>obtain⟨_,h,_⟩:=h;cases h
 |s=>obtain⟨_,h,_⟩:=h;cases h
 |l k m ts=>obtain⟨_,_,h,hl,hm,he⟩:=h;cases h;exact⟨_,_,rfl,hl,hm,he⟩
 |e n=>
  match n,h with
  |0,⟨m,h⟩=>exact (qrD h).elim
  |1,h=>exact (qrD (n:=d) h).elim
  |n+2,⟨m,hm,h⟩=>exact (qrD h).elim
def qDN{kt:K×CF TA}{es:Ct}{k:K}(h:HsK d kt (.l k es true)):HsK d kt (.l k es false):=by
 obtain⟨k0,ts⟩:=kt;obtain⟨cs,h1,h2⟩:=h;cases k0 with
 |none=>
  match cs,ts,h1,h2 with
  |[x],[ty],h1,h2=>
   have:x=.l k es true:=by simpa[mkD]using h1
   subst this;exact⟨[.l k es false],rfl,qDP h2.1,trivial⟩
  |[_],[],_,h2=>exact h2.elim
  |[_],_::_::_,_,h2=>exact h2.2.elim
 |some n=>
  simp only[mkD]at h1;split at h1<;>cases h1
def qPX(hρ:Sc ρ){H:CP}{v:PV}{xs:Ct}(h:qn4 H v=some xs){res:CF (K×CF TA)}(hx:qbm d res (DV.Aj ρ xs)):∃vs own,AJ (H.ins ρ) (v.ins ρ)=some (qa5 (vs.map .d),own)/\qbm d res vs:=by
 cases v with
 |t vs=>
  simp only[qn4]at h;split at h
  ·rename_i ys os e;split at h
   ·cases h
   ·rename_i hl;cases h;refine⟨DV.Aj ρ xs,false,?_,hx⟩;show AJ (H.ins ρ) (.t (PV.Aj ρ vs))=_
    simp only[AJ];rw[qBH e];have hl2:xs.length≠1:=λc=>hl (by rw[c];rfl)
    match xs,hl2 with
    |[],_=>rfl
    |[x],c=>exact absurd rfl c
    |_::_::_,_=>rfl
  ·cases h
 |d x=>
  cases h;have key:∀y:DV,qbm d res [y]->∃vs own,AJ (H.ins ρ) (.d y)=some (qa5 (vs.map .d),own)/\qbm d res vs:=by
   intro y hy;match y,hy with
   |.l k es true,hy=>
    refine⟨[.l k es false],es.isEmpty,rfl,?_⟩;match res,hy with
    |[kt],hy=>exact⟨qDN hy.1,trivial⟩
   |.l k es false,hy=>exact⟨[_],false,rfl,hy⟩
   |.b _,hy|.i _ _,hy|.s _,hy|.a _,hy|.np,hy|.nf,hy|.ni,hy|.nm,hy|.ifc _ _,hy|.tok _,hy=>exact⟨[_],false,rfl,hy⟩
  exact key _ hx
 |r o k off len t=>
  simp only[qn4]at h;split at h
  ·rename_i x os e;cases h;have e2:=qt7 (ρ:=ρ) e
   refine⟨[x.ins ρ],?_⟩;simp only[PV.ins]at e2⊢;simp only[qaW]at e2;simp only[AJ];split at e2
   ·rename_i k' ro es eo;split at e2
    ·rename_i hc;rw[if_pos hc];simp only[zzb,zzc]at e2;exact⟨_,by rw[e2.1];rfl,hx⟩
    ·cases e2
   ·cases e2
  ·cases h
 |a cs=>
  simp only[qn4]at h;split at h
  ·rename_i ys os e;cases h;refine⟨[.a (DV.Aj ρ ys)],false,?_,hx⟩;show AJ (H.ins ρ) (.a (PV.Aj ρ cs))=_
   simp only[AJ,pur];rw[qt9 cs e];rfl
  ·cases h
 |_=>cases h
def qqi:∀(l:Cu) (n:Nat),(Fr.Aa n l).ins ρ=Fr.Aa n (PV.Aj ρ l)
 |[],_=>rfl
 |v::r,n=>by
  have app:∀a b:Fr,Fr.ins ρ (a++b)=a.ins ρ++b.ins ρ:=by
   intro a b;induction a with
   |nil=>rfl
   |cons x a ih=>obtain⟨j,w⟩:=x;simp only[List.cons_append,Fr.ins];rw[ih]
  simp only[Fr.Aa,PV.Aj];rw[app,qqi r (n+1)];rfl
def qwI{T:Tab}{f:Nat}{F:PF}(hF:T.F f=some F){g:Sg}(h:qat S F g=true)(hS:qcW d T.val S){ds:Ct}(hd:qbm d g.args ds):∃vs own,T.val f ds=some (qa5 (vs.map .d),own)/\qbm d g.res vs:=by
 unfold qat at h;rw[zzf]at h;obtain⟨h0,h⟩:=h;split at h
 ·rename_i l e;obtain⟨css,c1,c2⟩:=quw g.args ds hd;have hρ0:Sc (λ_=>DV.i .i64 0):=λn cs e=>by cases e
  let ρ:=upn (λ_=>DV.i .i64 0) 1 css
  have hsc:Sc ρ:=qC1 hρ0 c1
  have hz:ρ 0=.i .i64 0:=qiB (by omega)
  have hn:∀i t,(qcT g.args)[i]? = some t->Hs d t (ρ (1+i)):=by
   intro i t e;obtain⟨x,e1,e2⟩:=qq6 c1 i t e;show Hs d t (upn _ 1 css (1+i))
   rw[qdO e1];exact e2
  have hgl:(qjS g.args).G.length=1+(qcT g.args).length:=by show (_::_:CF TA).length=_;rw[zzn];omega
  have hM:Mod d T.val (qjS g.args) ρ:=by
   refine⟨hsc,?_,qpu hz _ 1 hn,hz,λc hc=>by cases hc⟩
   intro n t e;cases n with
   |zero=>
    have:t=.i .i64:=by simpa[qjS]using e.symm
    subst this;exact⟨0,hz,by decide⟩
   |succ n=>
    have:=hn n t (by simpa[qjS]using e)
    rwa [show 1+n=n+1 by omega]at this
  have hW:(qjS g.args).wf:=by
   refine⟨λρ1 ρ2 _ _ a=>?_,(λ_ _ _ _ _ c hc=>by cases hc),λf hf=>?_,by omega⟩
   ·show St.mk ((Fr.Aa 0 (qca 1 g.args)).ins ρ2) (Heap.ins ρ2 [])=St.mk ((Fr.Aa 0 (qca 1 g.args)).ins ρ1) (Heap.ins ρ1 [])
    rw[hgl]at a;rw[qqi,qqi,qlb a _ (quv _ _ hd 1 _ (zzt _))];rfl
   ·have:=qpt _ 1 f hf
    omega
  obtain⟨o,ho,ρ',hn,he⟩:=qGq (E:=T.env) hS rfl F.body _ ρ l hM hW e;have hout:=List.all_eq_true.1 h o ho
  have e1:(qjS g.args).st.ins ρ=⟨Fr.Aa 0 (ds.map .d),[]⟩:=by
   show St.mk ((Fr.Aa 0 (qca 1 g.args)).ins ρ) (Heap.ins ρ [])=_
   have:=c2 (λ_=>DV.i .i64 0) 1 []
   rw[qqi];have e3:PV.Aj ρ (qca 1 g.args)=ds.map .d:=by simpa using this
   rw[e3];rfl
  have hlen:(ds.map PV.d).length=F.Bp:=by
   have hl:∀(ks:CF (K×CF TA)) (vs:Ct),qbm d ks vs->ks.length=vs.length:=by
    intro ks;induction ks with
    |nil=>intro vs h;cases vs with
     |nil=>rfl
     |cons=>exact h.elim
    |cons k ks ih=>intro vs h;cases vs with
     |nil=>exact h.elim
     |cons v vs=>rw[zzn,zzn,ih vs h.2]
   rw[zzo,<-hl _ _ hd];exact zzy h0
  unfold qBj at hout;rw[zzf,zzf]at hout;obtain⟨h2,h3,h4⟩:=hout;split at h4
  ·rename_i vs e5;split at h4
   ·rename_i xs e6;have hk:=qs2 hn.m.ty h4
    obtain⟨ws,own,p1,p2⟩:=qPX hn.m.sc e6 hk;refine⟨ws,own,?_,p2⟩;rw[qDy T hF];have hg:qan (o.2.st.ins ρ').fr=[]:=by
     show qan (o.2.fr.ins ρ')=[]
     rw[qsO,List.isEmpty_iff.1 h3];rfl
    have hr:results (o.2.st.ins ρ').fr (o.2.st.ins ρ').H F.results=some (PV.Aj ρ' vs):=qux hn.m.sc e5
    have hev:qbb T.env lpI F (ds.map .d) []=some (qa5 (PV.Aj ρ' vs),(o.2.st.ins ρ').H):=by
     unfold qbb;rw[if_pos hlen];simp only at he;rw[e1]at he;show (match qah T.env lpI 0 F.body ⟨Fr.Aa 0 (ds.map .d),[]⟩with
      |some (.norm,s)|some (.ret,s)=>match Bo T.env (qan s.fr) s.H with
       |some H'=>match results s.fr H' F.results with
        |some vs=>some (qa5 vs,H')
        |none=>none
       |none=>none
      |_=>none)=_
     rw[he];obtain⟨ex,σ1⟩:=o;cases ex with
     |exit i=>cases h2
     |norm=>simp only[hg,Bo,hr]
     |ret=>simp only[hg,Bo,hr]
    rw[hev];simp only;rw[<-qBl];exact p1
   ·cases h4
  ·cases h4
 ·cases h
end
mutual
def Ty.ta:Ty->TA
 |.b=>.b
 |.i k=>.i k
 |.s=>.s
 |.e=>.e 0
 |.l k w ts=>.l k (if Nat.beq w 0 then maxLen else qbf/w) (Ty.taL ts)
def Ty.taL:CF Ty->CF TA
 |[]=>[]
 |t::ts=>Ty.ta t::Ty.taL ts
end
def qwo:∀{x:DV},XL x->∃n,XD n x:=by
 intro x hx;refine XL.rec (motive_1:=λx _=>∃n,XD n x) (motive_2:=λe _=>∃n,∃o m s a,e=.a [.i .i64 o,.i .i64 m,.s s,a]/\(Lit.int .i64 o).wf=true/\(Lit.int .i64 m).wf=true/\s.length<=maxLen/\XD n a) ?_ ?_ hx
 ·intro es _ _ hc ih;have key:∀es:Ct,(∀e∈es,∃n,∃o m s a,e=.a [.i .i64 o,.i .i64 m,.s s,a]/\(Lit.int .i64 o).wf=true/\(Lit.int .i64 m).wf=true/\s.length<=maxLen/\XD n a)->∃n,∀e∈es,∃o m s a,e=.a [.i .i64 o,.i .i64 m,.s s,a]/\(Lit.int .i64 o).wf=true/\(Lit.int .i64 m).wf=true/\s.length<=maxLen/\XD n a:=by
   intro es;induction es with
   |nil=>intro _;exact⟨0,λe he=>by cases he⟩
   |cons e es ih=>
    intro h;obtain⟨n,o,m,s,a,h1,h2,h3,h4,h5⟩:=h e (zzr ..);obtain⟨k,hk⟩:=ih λe he=>h e (zzi _ he)
    refine⟨max n k,λe' he=>?_⟩
    rcases List.mem_cons.1 he with rfl|he
    ·exact⟨o,m,s,a,h1,h2,h3,h4,qrC (Nat.le_max_left ..) h5⟩
    ·obtain⟨o,m,s,a,h1,h2,h3,h4,h5⟩:=hk e' he;exact⟨o,m,s,a,h1,h2,h3,h4,qrC (Nat.le_max_right ..) h5⟩
  obtain⟨n,hn⟩:=key es ih;exact⟨n+1,es,rfl,hc,hn⟩
 ·intro o n s a h1 h2 h3 _ ⟨k,hk⟩;exact⟨k,o,n,s,a,rfl,h1,h2,h3,hk⟩
def qwm:∀{n:Nat} {x:DV},XD n x->XL x
 |0,_,h=>by
  have:_=_:=h
  subst this;exact .mk [] (zzK _) (λe he=>by cases he) (by simp)
 |n+1,_,⟨es,h,hc,he⟩=>by
  subst h;refine .mk es ?_ (λe hm=>?_) hc
  ·unfold qbf at hc;have:maxLen=9223372036854775807:=rfl
   omega
  ·obtain⟨o,m,s,a,h1,h2,h3,h4,h5⟩:=he e hm;rw[h1];exact .mk o m s a h2 h3 h4 (qwm h5)
mutual
def qQS(d:Nat):∀(t:Ty) {x:DV},Has t x->Hs d t.ta x
 |.b,_,h=>h
 |.i _,_,h=>h
 |.s,_,h=>h
 |.e,_,h=>qwo h
 |.l k b ts,_,⟨es,h,h1,h2,h3⟩=>⟨es,false,h,h1,by
   split
   ·exact h1
   ·rename_i hb;exact (Nat.le_div_iff_mul_le (Nat.pos_of_ne_zero λc=>hb (by rw[c];rfl))).2 h2,λe he=>by
   obtain⟨cs,c1,c2⟩:=h3 e he;exact⟨cs,c1,qvA d ts c2⟩⟩
def qvA(d:Nat):∀(ts:CF Ty) {xs:Ct},qaA ts xs->HsL d (Ty.taL ts) xs
 |[],[],_=>trivial
 |t::ts,x::xs,h=>⟨qQS d t h.1,qvA d ts h.2⟩
 |[],_::_,h=>h.elim
 |_::_,[],h=>h.elim
end
def qak(T:Tab)(f:Nat)(s:Sg):Prop:=∀d ds,qbm d s.args ds->∃vs own,T.val f ds=some (qa5 (vs.map .d),own)/\qbm d s.res vs
def qaz{d:Nat}{V:Nat->Ct->Cz}:qcW d V []:=λ_ _ h=>by cases h
def qas{T:Tab}{d f:Nat}{s:Sg}{S:CF (Nat×Sg)}(h:qak T f s)(r:qcW d T.val S):qcW d T.val ((f,s)::S):=by
 intro g t hl;unfold qk3 at hl;split at hl
 ·rename_i e;cases hl;rw[<-zzy e];exact h d
 ·exact r g t hl
def qaH{T:Tab}{f:Nat}{F:PF}{s:Sg}{S:CF (Nat×Sg)}(hF:T.F f=some F)(h:qat S F s=true)(hS:∀d,qcW d T.val S):qak T f s:=λd _ hd=>qwI hF h (hS d) hd
mutual
def TA.pl:TA->CG
 |.e _=>false
 |.l _ _ ts=>TA.plL ts
 |_=>true
def TA.plL:CF TA->CG
 |[]=>true
 |t::ts=>TA.pl t&&TA.plL ts
end
mutual
def qDO{d d':Nat}:∀(t:TA) {x:DV},t.pl=true->Hs d t x->Hs d' t x
 |.b,_,_,h=>h
 |.i _,_,_,h=>h
 |.s,_,_,h=>h
 |.e _,_,hp,_=>by cases hp
 |.l k m ts,_,hp,⟨es,t,h,h1,h2,h3⟩=>⟨es,t,h,h1,h2,λe he=>by
   obtain⟨cs,c1,c2⟩:=h3 e he;exact⟨cs,c1,qq7 ts hp c2⟩⟩
def qq7{d d':Nat}:∀(ts:CF TA) {xs:Ct},TA.plL ts=true->HsL d ts xs->HsL d' ts xs
 |[],[],_,_=>trivial
 |t::ts,x::xs,hp,h=>by
  rw[TA.plL,zzf]at hp;exact⟨qDO t hp.1 h.1,qq7 ts hp.2 h.2⟩
 |[],_::_,_,h=>h.elim
 |_::_,[],_,h=>h.elim
end
def qnV:CF (K×CF TA)->CG
 |[]=>true
 |k::ks=>TA.plL k.2&&qnV ks
def qmH{d d':Nat}:∀{ks:CF (K×CF TA)} {vs:Ct},qnV ks=true->qbm d ks vs->qbm d' ks vs
 |[],[],_,_=>trivial
 |k::ks,v::vs,hp,h=>by
  rw[qnV,zzf]at hp;obtain⟨⟨cs,c1,c2⟩,h2⟩:=h;exact⟨⟨cs,c1,qq7 _ hp.1 c2⟩,qmH hp.2 h2⟩
 |[],_::_,_,h=>h.elim
 |_::_,[],_,h=>h.elim
def kX(m:Nat):K×CF TA:=(some 4,[.i .i64,.i .i64,.s,.e m])
def sX(m:Nat)(rest res:CF (K×CF TA)):Sg:=⟨kX m::rest,res⟩
def qaU{d:Nat}{t:TA}{ts:CF TA}{xs:Ct}(h:HsL d (t::ts) xs):∃x r,xs=x::r/\Hs d t x/\HsL d ts r:=by
 cases xs with
 |nil=>exact h.elim
 |cons x r=>exact⟨x,r,rfl,h.1,h.2⟩
def qbQ{d:Nat}{xs:Ct}(h:HsL d [] xs):xs=[]:=by
 cases xs with
 |nil=>rfl
 |cons x r=>exact h.elim
def qs9{d m:Nat}{x:DV}(hx:HsK d (kX m) x):∃o n s a,x=.a [.i .i64 o,.i .i64 n,.s s,a]/\(Lit.int .i64 o).wf=true/\(Lit.int .i64 n).wf=true/\s.length<=maxLen/\XT d m a:=by
 obtain⟨cs,c1,c2⟩:=hx;obtain⟨w1,r1,rfl,⟨o,rfl,h1⟩,c3⟩:=qaU c2;obtain⟨w2,r2,rfl,⟨n,rfl,h2⟩,c4⟩:=qaU c3;obtain⟨w3,r3,rfl,⟨s,rfl,h3⟩,c5⟩:=qaU c4;obtain⟨w4,r4,rfl,h4,c6⟩:=qaU c5;obtain rfl:=qbQ c6;have e:x=.a [.i .i64 o,.i .i64 n,.s s,w4]:=(Option.some.inj c1).symm
 exact⟨o,n,s,w4,e,h1,h2,h3,h4⟩
def qs8{d m:Nat}{o n:Int}{s:Cv}{a:DV}(h1:(Lit.int .i64 o).wf=true)(h2:(Lit.int .i64 n).wf=true)(h3:s.length<=maxLen)(h4:XT d m a):HsK d (kX m) (.a [.i .i64 o,.i .i64 n,.s s,a]):=
 ⟨[.i .i64 o,.i .i64 n,.s s,a],rfl,⟨o,rfl,h1⟩,⟨n,rfl,h2⟩,⟨s,rfl,h3⟩,h4,trivial⟩
def qut{T:Tab}{f:Nat}{F:PF}{rest res:CF (K×CF TA)}{S:CF (Nat×Sg)}(hF:T.F f=some F)(h:qat ((f,sX 2 rest res)::S) F (sX 1 rest res)=true)(hp:(qnV rest&&qnV res)=true)(hS:∀d,qcW d T.val S):qak T f (sX 0 rest res):=by
 rw[zzf]at hp;have key:∀(n d:Nat),d<n->∀ds,qbm d (sX 1 rest res).args ds->∃vs own,T.val f ds=some (qa5 (vs.map .d),own)/\qbm d res vs:=by
  intro n;induction n with
  |zero=>intro d hd;exact absurd hd (zzm _)
  |succ n ih=>
   intro d hd ds hds;refine qwI hF h ?_ hds;intro g t hl;unfold qk3 at hl;split at hl
   ·rename_i e;cases hl;have e2:=zzy e
    subst e2;intro ds hds;cases ds with
    |nil=>exact hds.elim
    |cons x ds=>
     obtain⟨h1,h2⟩:=hds;obtain⟨o,m,s,a,rfl,q1,q2,q3,⟨k,hk,q4⟩⟩:=qs9 h1;have hx:HsK k (kX 1) (.a [.i .i64 o,.i .i64 m,.s s,a]):=qs8 q1 q2 q3 q4
     obtain⟨vs,own,v1,v2⟩:=ih k (by omega) (_::ds) ⟨hx,qmH hp.1 h2⟩
     exact⟨vs,own,v1,qmH hp.2 v2⟩
   ·exact hS d g t hl
 intro d ds hds;cases ds with
 |nil=>exact hds.elim
 |cons x ds=>
  obtain⟨h1,h2⟩:=hds;obtain⟨o,m,s,a,rfl,q1,q2,q3,⟨k,q4⟩⟩:=qs9 h1;have hx:HsK k (kX 1) (.a [.i .i64 o,.i .i64 m,.s s,a]):=qs8 q1 q2 q3 q4
  obtain⟨vs,own,v1,v2⟩:=key (k+1) k (Nat.lt_succ_self k) (_::ds) ⟨hx,qmH hp.1 h2⟩;exact⟨vs,own,v1,qmH hp.2 v2⟩
def qln:CF TA:=[.s,.i .i64]
def qjT:CF TA:=[.s,.l K0 17592186044416 [.i .i64],.l K0 17592186044416 [.i .i64]]
def qoe:CF TA:=[.s,.i .i64]
def qqP:CF TA:=[.i .i64,.i .i64]
def tX:CF TA:=[.i .i64,.i .i64,.s,.e 0]
def qQQ:CF TA:=[.l (K1 2) 8796093022208 qqP,.b,.i .i64,.i .i64,.b]
def qCM:CF TA:=[.s,.i .i64,.i .i64,.i .i64,.s,.e 0,.i .i64,.i .i64,.s,.e 0]
def qCO:CF TA:=[.s,.i .i64,.i .i64,.i .i64,.s,.e 0]
def qdM:CF TA:=[.s,.s,.s,.i .i64,.i .i64,.i .i64,.i .i64,.l (K1 2) 8796093022208 qqP,.b,.i .i64,.i .i64,.b,.l (K1 2) 8796093022208 qqP,.b,.i .i64,.i .i64,.b,.l (K1 10) 1034834473200 qCM,.l (K1 6) 1759218604441 qCO]
def tGl:CF TA:=[.i .i64,.i .i64,.i .i64,.s]
def qCN:CF TA:=[.i .i64,.i .i64,.s]
def qlo:CF TA:=[.i .i64,.i .i64,.i .i64,.i .i64,.i .i64,.i .i64,.s,.s,.l (K1 3) 4398046511104 qCN,.i .u64]
def qlp:CF TA:=[.i .i64,.i .i64,.i .i64,.i .i64,.i .i64,.s]
def qqO:CF TA:=[.i .i64,.i .i64,.i .i64,.i .i64,.i .i64,.i .i64,.s]
def qod:CF TA:=[.i .i64,.i .i64,.i .i64,.i .i64,.s,.s,.s]
def qQR:CF TA:=[.i .i64,.i .i64,.i .i64,.i .i64,.i .i64,.i .i64,.i .i64,.i .i64,.i .i64,.i .i64,.i .i64,.i .i64,.i .i64,.i .i64]
def qcC:CF TA:=[.l (K1 2) 5864062014805 qln,.l (K1 3) 2199023255552 qjT,.l (K1 4) 3518437208883 tGl,.i .i64,.i .i64,.i .i64,.i .i64,.i .i64,.i .i64,.i .i64,.i .i64,.i .i64,.i .i64,.i .i64,.i .i64,.i .i64,.i .i64,.l (K1 19) 586406201480 qdM,.l (K1 7) 1759218604441 qod,.l (K1 10) 1256584717458 qlo,.l (K1 6) 2513169434916 qlp,.l (K1 7) 2199023255552 qqO]
def quJ:Sg:=⟨[(K0,[.i .i64])],[(K0,[.s])]⟩
def qCc:Sg:=⟨[(K0,[.s])],[(K0,[.s]),(K0,[.i .i64])]⟩
def qCd:Sg:=⟨[(K0,[.s])],[(K0,[.b])]⟩
def qCe:Sg:=⟨[(K0,[.l (K1 2) 5864062014805 qln])],[(K0,[.i .i64])]⟩
def qCf:Sg:=⟨[(K0,[.l (K1 4) 3518437208883 tGl]),(K1 14,qQR)],[(K0,[.i .i64])]⟩
def qCg:Sg:=⟨[(K1 22,qcC)],[(K0,[.i .i64])]⟩
def qCh:Sg:=⟨[(K0,[.l (K1 6) 2513169434916 qlp])],[(K0,[.i .i64])]⟩
def qCi:Sg:=⟨[(K0,[.l (K1 7) 2199023255552 qqO])],[(K0,[.i .i64])]⟩
def quQ:Sg:=⟨[(K0,[.s])],[(K0,[.b])]⟩
def s513:Sg:=⟨[(K0,[.l (K1 3) 2199023255552 qjT]),(K0,[.s])],[(K1 3,qjT),(K0,[.b])]⟩
def quR:Sg:=⟨[(K0,[.s])],[(K0,[.b])]⟩
def qCj:Sg:=⟨[(K1 3,qjT)],[(K0,[.i .i64])]⟩
def quS:Sg:=⟨[(K0,[.s])],[(K0,[.b])]⟩
def qn6:Sg:=⟨[(K0,[.l (K1 4) 3518437208883 tGl]),(K0,[.i .i64])],[(K1 4,tGl),(K0,[.b])]⟩
def quT:Sg:=⟨[(K0,[.l (K1 4) 3518437208883 tGl]),(K0,[.i .i64]),(K0,[.i .i64])],[(K0,[.i .i64])]⟩
def qCk:Sg:=⟨[(K0,[.l (K1 19) 586406201480 qdM])],[(K0,[.i .i64])]⟩
def qCl:Sg:=⟨[(K1 19,qdM),(K0,[.l (K1 2) 5864062014805 qln]),(K0,[.l (K1 3) 2199023255552 qjT])],[(K0,[.i .i64])]⟩
def qiu:Sg:=⟨[(K0,[.i .i64])],[(K0,[.b])]⟩
def quU:Sg:=⟨[(K1 7,qod)],[(K0,[.b])]⟩
def quV:Sg:=⟨[(K1 22,qcC),(K1 7,qod)],[(K0,[.i .i64])]⟩
def quW:Sg:=⟨[(K1 6,qlp)],[(K0,[.i .i64])]⟩
def quX:Sg:=⟨[(K0,[.l (K1 6) 2513169434916 qlp]),(K0,[.s])],[(K0,[.b])]⟩
def quY:Sg:=⟨[(K1 7,qqO)],[(K0,[.b])]⟩
def qqD:Sg:=⟨[(K0,[.s])],[(K0,[.b])]⟩
def quZ:Sg:=⟨[(K0,[.l K0 17592186044416 [.i .i64]])],[(K0,[.b])]⟩
def qu0:Sg:=⟨[(K0,[.l (K1 4) 3518437208883 tGl]),(K0,[.i .i64])],[(K0,[.b])]⟩
def qu1:Sg:=⟨[(K1 19,qdM),(K1 19,qdM)],[(K0,[.b])]⟩
def qlk:Sg:=⟨[(K0,[.s])],[(K0,[.b])]⟩
def s599:Sg:=⟨[(K0,[.l (K1 2) 5864062014805 qln]),(K0,[.s])],[(K1 2,qln),(K0,[.b])]⟩
def qu2:Sg:=⟨[(K1 5,qQQ)],[(K0,[.i .i64])]⟩
def qu3:Sg:=⟨[(K1 10,qCM)],[(K0,[.i .i64])]⟩
def qu4:Sg:=⟨[(K1 6,qCO)],[(K0,[.i .i64])]⟩
def qqE:Sg:=⟨[(K0,[.l (K1 19) 586406201480 qdM]),(K0,[.s]),(K0,[.i .i64])],[(K1 19,qdM),(K0,[.b])]⟩
def qu5:Sg:=⟨[(K0,[.s])],[(K0,[.b])]⟩
def qu6:Sg:=⟨[(K0,[.l (K1 2) 8796093022208 qqP])],[(K0,[.i .i64])]⟩
def qqF:Sg:=⟨[(K1 4,tX),(K0,[.l (K1 2) 9223372036854775807 qoe]),(K0,[.i .i64])],[(K0,[.i .i64])]⟩
def qqG:Sg:=⟨[],[(K0,[.l (K1 2) 9223372036854775807 qoe])]⟩
def qu7:Sg:=⟨[(K1 10,qlo)],[(K0,[.i .i64])]⟩
def qqH:Sg:=⟨[(K1 22,qcC),(K0,[.i .i64])],[(K1 7,qod),(K0,[.b])]⟩
def qu8:Sg:=⟨[(K1 22,qcC),(K0,[.i .i64]),(K0,[.i .i64])],[(K0,[.b])]⟩
def qu9:Sg:=⟨[(K0,[.s]),(K0,[.i .i64]),(K0,[.i .u8])],[(K0,[.b])]⟩
def qva:Sg:=⟨[(K1 4,tX),(K0,[.l (K1 2) 9223372036854775807 qoe])],[(K0,[.i .i64]),(K0,[.i .i64])]⟩
def qvb:Sg:=⟨[(K1 4,tX)],[(K0,[.i .i64])]⟩
def qvc:Sg:=⟨[(K1 4,tX),(K0,[.l (K1 2) 9223372036854775807 qoe])],[(K0,[.i .i64]),(K0,[.i .i64])]⟩
def qvd:Sg:=⟨[(K1 4,tX),(K0,[.i .i64])],[(K0,[.b])]⟩
def qCm:Sg:=⟨[(K0,[.s])],[(K0,[.b])]⟩
def qve:Sg:=⟨[(K0,[.i .i64])],[(K0,[.b])]⟩
def qCn:Sg:=⟨[(K0,[.i .i64]),(K0,[.l K0 9223372036854775807 [.i .i64]])],[(K0,[.i .i64]),(K0,[.b])]⟩
def qvf:Sg:=⟨[(K0,[.i .i64])],[(K0,[.i .i64])]⟩
def qvg:Sg:=⟨[(K0,[.i .i64])],[(K0,[.i .i64])]⟩
def qvh:Sg:=⟨[(K0,[.s])],[(K0,[.b])]⟩
def qvi:Sg:=⟨[(K0,[.i .i64]),(K0,[.l K0 9223372036854775807 [.i .i64]])],[(K0,[.i .i64]),(K0,[.b])]⟩
def qvj:Sg:=⟨[],[(K0,[.l K0 9223372036854775807 [.s]])]⟩
def qn7:Sg:=⟨[(K0,[.i .i64])],[(K0,[.b])]⟩
def qvk:Sg:=⟨[(K0,[.i .i64]),(K0,[.i .i64]),(K0,[.i .i64])],[(K0,[.i .i64]),(K0,[.b])]⟩
def qvl:Sg:=⟨[(K0,[.i .i64]),(K0,[.i .i64])],[(K0,[.i .i64]),(K0,[.b])]⟩
def quI:Sg:=⟨[(K1 22,qcC),(K0,[.i .i64]),(K0,[.i .i64])],[(K1 19,qdM),(K0,[.b])]⟩
def qB9:Sg:=⟨[(K1 22,qcC)],[(K0,[.b])]⟩
def quK:Sg:=⟨[(K0,[.l (K1 6) 2513169434916 qlp])],[(K0,[.b])]⟩
def quL:Sg:=⟨[(K1 19,qdM)],[(K0,[.b])]⟩
def quM:Sg:=⟨[(K1 10,qlo)],[(K0,[.b])]⟩
def qCa:Sg:=⟨[(K1 22,qcC)],[(K0,[.b])]⟩
def quN:Sg:=⟨[(K1 22,qcC),(K1 10,qlo)],[(K0,[.b])]⟩
def quO:Sg:=⟨[(K0,[.l (K1 4) 3518437208883 tGl]),(K0,[.i .i64])],[(K0,[.l K0 9223372036854775807 [.i .i64]])]⟩
def qCb:Sg:=⟨[(K0,[.l (K1 4) 3518437208883 tGl]),(K0,[.i .i64]),(K0,[.i .i64])],[(K0,[.b])]⟩
def quP:Sg:=⟨[(K0,[.l (K1 4) 3518437208883 tGl]),(K0,[.i .i64])],[(K0,[.l K0 9223372036854775807 [.i .i64]])]⟩
def qui:CF (K×CF TA):=[]
def quj:CF (K×CF TA):=[(K0,[.i .i64])]
def qQm:Sg:=sX 0 qui quj
def quk:CF (K×CF TA):=[]
def qul:CF (K×CF TA):=[(K0,[.b])]
def qQn:Sg:=sX 0 quk qul
def qum:CF (K×CF TA):=[(K0,[.i .i64])]
def qun:CF (K×CF TA):=[(K0,[.i .i64])]
def qCo:Sg:=sX 0 qum qun
def qIE:qat [(685,qu9)] qfd qu5=true:=by kernel_rfl
def qIt:qat [(544,qiu)] qde quY=true:=by kernel_rfl
def qIi:qat [(544,qiu),(552,qqD),(595,quZ)] qlV qCj=true:=by kernel_rfl
def qIz:qat [] ql7 s599=true:=by kernel_rfl
def qIG:qat [(769,qva)] qmd qqF=true:=by kernel_rfl
def qIn:qat [(513,s513),(544,qiu),(598,qlk),(599,s599),(600,qu2),(601,qu3),(602,qu4)] qdy qCl=true:=by kernel_rfl
def qH3:qat [] qhF quK=true:=by kernel_rfl
def qIJ:qat [(683,qqH)] qkd qu8=true:=by kernel_rfl
def qIU:qat [] qmA qvg=true:=by kernel_rfl
def qIV:qat [(968,qvj)] qmB qvh=true:=by kernel_rfl
def qI0:qat [(969,qn7)] qmG qvl=true:=by kernel_rfl
def qH8:qat [(1103,quP)] qlw qCb=true:=by kernel_rfl
def qIj:qat [] qlW quS=true:=by kernel_rfl
def qIw:qat [] ql4 qu0=true:=by kernel_rfl
def qIb:qat [(539,quS),(540,qn6),(541,quT)] qlR qCf=true:=by kernel_rfl
def qIy:qat [] ql6 qlk=true:=by kernel_rfl
def qIr:qat [(544,qiu),(607,qu5)] qeF quW=true:=by kernel_rfl
def qIu:qat [] ql2 qqD=true:=by kernel_rfl
def qIx:qat [] ql5 qu1=true:=by kernel_rfl
def qIF:qat [] qmc qu6=true:=by kernel_rfl
def qIH:qat [] qme qqG=true:=by kernel_rfl
def qIS:qat ((950,sX 2 qum qun)::[]) F950 (sX 1 qum qun)=true:=by kernel_rfl
def qH4:qat [(919,qvd)] qj0 quL=true:=by kernel_rfl
def qH2:qat [(1094,quK),(1095,quL),(1096,quM)] qcG qB9=true:=by kernel_rfl
def qH1:qat [(603,qqE),(683,qqH)] qjZ quI=true:=by kernel_rfl
def qIO:qat ((921,sX 2 quk qul)::[(951,qvf),(952,qvg)]) qms (sX 1 quk qul)=true:=by kernel_rfl
def qIP:qat [(512,quQ),(954,qvh)] qmt qCm=true:=by kernel_rfl
def qIZ:qat [(969,qn7),(985,qvl)] qmF qvk=true:=by kernel_rfl
def qH9:qat [] qlA qCd=true:=by kernel_rfl
def qIa:qat [(537,quR)] qlQ qCe=true:=by kernel_rfl
def qIo:qat [] qfc qiu=true:=by kernel_rfl
def qID:qat [] qkb qqE=true:=by kernel_rfl
def qIq:qat [(598,qlk),(603,qqE)] ql0 quV=true:=by kernel_rfl
def qIs:qat [] ql1 quX=true:=by kernel_rfl
def qIe:qat [(551,quY),(552,qqD)] F511 qCi=true:=by kernel_rfl
def qIm:qat [(597,qu1)] qlZ qCk=true:=by kernel_rfl
def qIA:qat [(676,qu6)] ql8 qu2=true:=by kernel_rfl
def qIB:qat [(598,qlk),(677,qqF),(678,qqG)] ql9 qu3=true:=by kernel_rfl
def qIM:qat [(950,qCo)] qhM qvd=true:=by kernel_rfl
def qH5:qat [] qj1 quM=true:=by kernel_rfl
def qH6:qat [(679,qu7),(1100,quN)] qiF qCa=true:=by kernel_rfl
def qIN:qat ((920,sX 2 qui quj)::[]) qmr (sX 1 qui quj)=true:=by kernel_rfl
def qIf:qat [] qlS quQ=true:=by kernel_rfl
def qIQ:qat [] qmu qve=true:=by kernel_rfl
def qIW:qat [(969,qn7),(970,qvk)] qmC qvi=true:=by kernel_rfl
def qIh:qat [] qlU quR=true:=by kernel_rfl
def qIk:qat [] qlX qn6=true:=by kernel_rfl
def qIl:qat [(540,qn6),(596,qu0)] qlY quT=true:=by kernel_rfl
def qIp:qat [(106,quJ),(544,qiu)] qiK quU=true:=by kernel_rfl
def qIc:qat [(544,qiu),(545,quU),(546,quV)] F508 qCg=true:=by kernel_rfl
def qIK:qat [] F685 qu9=true:=by kernel_rfl
def qId:qat [(549,quW),(550,quX)] F510 qCh=true:=by kernel_rfl
def qIv:qat [] ql3 quZ=true:=by kernel_rfl
def qIg:qat [] qlT s513=true:=by kernel_rfl
def qIL:qat [(859,qvb),(860,qvc)] qmi qva=true:=by kernel_rfl
def qIC:qat [(598,qlk),(677,qqF),(678,qqG)] qma qu4=true:=by kernel_rfl
def qII:qat [] qkc qqH=true:=by kernel_rfl
def qH7:qat [(540,qn6),(599,s599),(684,qu8),(1023,quI),(1101,quO)] qlv quN=true:=by kernel_rfl
def qIT:qat [] qmz qvf=true:=by kernel_rfl
def qIX:qat [] qmD qvj=true:=by kernel_rfl
def qIY:qat [] qmE qn7=true:=by kernel_rfl
def qIR:qat [(924,qve),(955,qvi)] qmv qCn=true:=by kernel_rfl
structure BF (T:Tab):Prop where
 a679:qak T 679 qu7
 a859:qak T 859 qvb
 a860:qak T 860 qvc
 a106:qak T 106 quJ
 a177:qak T 177 qCc
 a1103:qak T 1103 quP
 a1101:qak T 1101 quO
def qEc(T:Tab)(hS:HS T):qak T 537 quR:=qaH (hS 537 qlU rfl) qIh λ_=>qaz
def qD6(T:Tab)(hS:HS T):qak T 504 qCe:=qaH (hS 504 qlQ rfl) qIa λ_=>qas (qEc T hS) (qaz)
def qEe(T:Tab)(hS:HS T):qak T 539 quS:=qaH (hS 539 qlW rfl) qIj λ_=>qaz
def qoN(T:Tab)(hS:HS T):qak T 540 qn6:=qaH (hS 540 qlX rfl) qIk λ_=>qaz
def qwz(T:Tab)(hS:HS T):qak T 596 qu0:=qaH (hS 596 ql4 rfl) qIw λ_=>qaz
def qEf(T:Tab)(hS:HS T):qak T 541 quT:=qaH (hS 541 qlY rfl) qIl λ_=>qas (qoN T hS) (qas (qwz T hS) (qaz))
def qD7(T:Tab)(hS:HS T):qak T 506 qCf:=qaH (hS 506 qlR rfl) qIb λ_=>qas (qEe T hS) (qas (qoN T hS) (qas (qEf T hS) (qaz)))
def qhU(T:Tab)(hS:HS T):qak T 544 qiu:=qaH (hS 544 qfc rfl) qIo λ_=>qaz
def qwu(T:Tab)(hS:HS T)(hH:BF T):qak T 545 quU:=qaH (hS 545 qiK rfl) qIp λ_=>qas hH.a106 (qas (qhU T hS) (qaz))
def qmR(T:Tab)(hS:HS T):qak T 598 qlk:=qaH (hS 598 ql6 rfl) qIy λ_=>qaz
def qwA(T:Tab)(hS:HS T):qak T 603 qqE:=qaH (hS 603 qkb rfl) qID λ_=>qaz
def qwv(T:Tab)(hS:HS T):qak T 546 quV:=qaH (hS 546 ql0 rfl) qIq λ_=>qas (qmR T hS) (qas (qwA T hS) (qaz))
def qD8(T:Tab)(hS:HS T)(hH:BF T):qak T 508 qCg:=qaH (hS 508 F508 rfl) qIc λ_=>qas (qhU T hS) (qas (qwu T hS hH) (qas (qwv T hS) (qaz)))
def qEp(T:Tab)(hS:HS T):qak T 685 qu9:=qaH (hS 685 F685 rfl) qIK λ_=>qaz
def qEm(T:Tab)(hS:HS T):qak T 607 qu5:=qaH (hS 607 qfd rfl) qIE λ_=>qas (qEp T hS) (qaz)
def qww(T:Tab)(hS:HS T):qak T 549 quW:=qaH (hS 549 qeF rfl) qIr λ_=>qas (qhU T hS) (qas (qEm T hS) (qaz))
def qwx(T:Tab)(hS:HS T):qak T 550 quX:=qaH (hS 550 ql1 rfl) qIs λ_=>qaz
def qD9(T:Tab)(hS:HS T):qak T 510 qCh:=qaH (hS 510 F510 rfl) qId λ_=>qas (qww T hS) (qas (qwx T hS) (qaz))
def qwy(T:Tab)(hS:HS T):qak T 551 quY:=qaH (hS 551 qde rfl) qIt λ_=>qas (qhU T hS) (qaz)
def qrE(T:Tab)(hS:HS T):qak T 552 qqD:=qaH (hS 552 ql2 rfl) qIu λ_=>qaz
def qEa(T:Tab)(hS:HS T):qak T 511 qCi:=qaH (hS 511 F511 rfl) qIe λ_=>qas (qwy T hS) (qas (qrE T hS) (qaz))
def qEh(T:Tab)(hS:HS T):qak T 595 quZ:=qaH (hS 595 ql3 rfl) qIv λ_=>qaz
def qEd(T:Tab)(hS:HS T):qak T 538 qCj:=qaH (hS 538 qlV rfl) qIi λ_=>qas (qhU T hS) (qas (qrE T hS) (qas (qEh T hS) (qaz)))
def qEi(T:Tab)(hS:HS T):qak T 597 qu1:=qaH (hS 597 ql5 rfl) qIx λ_=>qaz
def qEg(T:Tab)(hS:HS T):qak T 542 qCk:=qaH (hS 542 qlZ rfl) qIm λ_=>qas (qEi T hS) (qaz)
def qws(T:Tab)(hS:HS T):qak T 513 s513:=qaH (hS 513 qlT rfl) qIg λ_=>qaz
def qrF(T:Tab)(hS:HS T):qak T 599 s599:=qaH (hS 599 ql7 rfl) qIz λ_=>qaz
def qEn(T:Tab)(hS:HS T):qak T 676 qu6:=qaH (hS 676 qmc rfl) qIF λ_=>qaz
def qEj(T:Tab)(hS:HS T):qak T 600 qu2:=qaH (hS 600 ql8 rfl) qIA λ_=>qas (qEn T hS) (qaz)
def qEq(T:Tab)(hS:HS T)(hH:BF T):qak T 769 qva:=qaH (hS 769 qmi rfl) qIL λ_=>qas hH.a859 (qas hH.a860 (qaz))
def qwB(T:Tab)(hS:HS T)(hH:BF T):qak T 677 qqF:=qaH (hS 677 qmd rfl) qIG λ_=>qas (qEq T hS hH) (qaz)
def qwC(T:Tab)(hS:HS T):qak T 678 qqG:=qaH (hS 678 qme rfl) qIH λ_=>qaz
def qEk(T:Tab)(hS:HS T)(hH:BF T):qak T 601 qu3:=qaH (hS 601 ql9 rfl) qIB λ_=>qas (qmR T hS) (qas (qwB T hS hH) (qas (qwC T hS) (qaz)))
def qEl(T:Tab)(hS:HS T)(hH:BF T):qak T 602 qu4:=qaH (hS 602 qma rfl) qIC λ_=>qas (qmR T hS) (qas (qwB T hS hH) (qas (qwC T hS) (qaz)))
def qwt(T:Tab)(hS:HS T)(hH:BF T):qak T 543 qCl:=qaH (hS 543 qdy rfl) qIn λ_=>qas (qws T hS) (qas (qhU T hS) (qas (qmR T hS) (qas (qrF T hS) (qas (qEj T hS) (qas (qEk T hS hH) (qas (qEl T hS hH) (qaz)))))))
def qwp(T:Tab)(hS:HS T):qak T 1094 quK:=qaH (hS 1094 qhF rfl) qH3 λ_=>qaz
def qEw(T:Tab)(hS:HS T):qak T 950 qCo:=qut (hS 950 F950 rfl) qIS rfl λ_=>qaz
def qEr(T:Tab)(hS:HS T):qak T 919 qvd:=qaH (hS 919 qhM rfl) qIM λ_=>qas (qEw T hS) (qaz)
def qD1(T:Tab)(hS:HS T):qak T 1095 quL:=qaH (hS 1095 qj0 rfl) qH4 λ_=>qas (qEr T hS) (qaz)
def qD2(T:Tab)(hS:HS T):qak T 1096 quM:=qaH (hS 1096 qj1 rfl) qH5 λ_=>qaz
def qD0(T:Tab)(hS:HS T):qak T 1090 qB9:=qaH (hS 1090 qcG rfl) qH2 λ_=>qas (qwp T hS) (qas (qD1 T hS) (qas (qD2 T hS) (qaz)))
def qwD(T:Tab)(hS:HS T):qak T 683 qqH:=qaH (hS 683 qkc rfl) qII λ_=>qaz
def qEo(T:Tab)(hS:HS T):qak T 684 qu8:=qaH (hS 684 qkd rfl) qIJ λ_=>qas (qwD T hS) (qaz)
def qDZ(T:Tab)(hS:HS T):qak T 1023 quI:=qaH (hS 1023 qjZ rfl) qH1 λ_=>qas (qwA T hS) (qas (qwD T hS) (qaz))
def qwq(T:Tab)(hS:HS T)(hH:BF T):qak T 1100 quN:=qaH (hS 1100 qlv rfl) qH7 λ_=>qas (qoN T hS) (qas (qrF T hS) (qas (qEo T hS) (qas (qDZ T hS) (qas hH.a1101 (qaz)))))
def qD3(T:Tab)(hS:HS T)(hH:BF T):qak T 1099 qCa:=qaH (hS 1099 qiF rfl) qH6 λ_=>qas hH.a679 (qas (qwq T hS hH) (qaz))
def qEs(T:Tab)(hS:HS T):qak T 920 qQm:=qut (hS 920 qmr rfl) qIN rfl λ_=>qaz
def qEx(T:Tab)(hS:HS T):qak T 951 qvf:=qaH (hS 951 qmz rfl) qIT λ_=>qaz
def qEy(T:Tab)(hS:HS T):qak T 952 qvg:=qaH (hS 952 qmA rfl) qIU λ_=>qaz
def qEt(T:Tab)(hS:HS T):qak T 921 qQn:=qut (hS 921 qms rfl) qIO rfl λ_=>qas (qEx T hS) (qas (qEy T hS) (qaz))
def qEb(T:Tab)(hS:HS T):qak T 512 quQ:=qaH (hS 512 qlS rfl) qIf λ_=>qaz
def qEB(T:Tab)(hS:HS T):qak T 968 qvj:=qaH (hS 968 qmD rfl) qIX λ_=>qaz
def qEz(T:Tab)(hS:HS T):qak T 954 qvh:=qaH (hS 954 qmB rfl) qIV λ_=>qas (qEB T hS) (qaz)
def qEu(T:Tab)(hS:HS T):qak T 923 qCm:=qaH (hS 923 qmt rfl) qIP λ_=>qas (qEb T hS) (qas (qEz T hS) (qaz))
def qwE(T:Tab)(hS:HS T):qak T 924 qve:=qaH (hS 924 qmu rfl) qIQ λ_=>qaz
def qrG(T:Tab)(hS:HS T):qak T 969 qn7:=qaH (hS 969 qmE rfl) qIY λ_=>qaz
def qED(T:Tab)(hS:HS T):qak T 985 qvl:=qaH (hS 985 qmG rfl) qI0 λ_=>qas (qrG T hS) (qaz)
def qEC(T:Tab)(hS:HS T):qak T 970 qvk:=qaH (hS 970 qmF rfl) qIZ λ_=>qas (qrG T hS) (qas (qED T hS) (qaz))
def qEA(T:Tab)(hS:HS T):qak T 955 qvi:=qaH (hS 955 qmC rfl) qIW λ_=>qas (qrG T hS) (qas (qEC T hS) (qaz))
def qEv(T:Tab)(hS:HS T):qak T 925 qCn:=qaH (hS 925 qmv rfl) qIR λ_=>qas (qwE T hS) (qas (qEA T hS) (qaz))
def qD5(T:Tab)(hS:HS T):qak T 259 qCd:=qaH (hS 259 qlA rfl) qH9 λ_=>qaz
noncomputable def tabU:PT:=
 (.bin 719 qiL (.bin 50 F50 (.bin 19 F19 (.bin 16 F16 (.bin 12 F12 .nil .nil) (.bin 18 F18 .nil .nil)) (.bin 30 F30 (.bin 24 F24 .nil .nil) .nil)) (.bin 683 qkc (.bin 603 qkb (.bin 59 F59 .nil .nil) (.bin 634 qmb .nil .nil)) (.bin 716 F716 (.bin 715 qmg .nil .nil) .nil))) (.bin 950 F950 (.bin 918 F918 (.bin 803 F803 (.bin 720 F720 .nil .nil) (.bin 804 qmj .nil .nil)) (.bin 949 qmy (.bin 919 qhM .nil .nil) .nil)) (.bin 1094 qhF (.bin 1090 qcG (.bin 1023 qjZ .nil .nil) .nil) (.bin 1096 qj1 (.bin 1095 qj0 .nil .nil) .nil))))
noncomputable def tabN:PT:=
 (.bin 265 qiG (.bin 181 qlx (.bin 179 F179 (.bin 110 qlu .nil .nil) (.bin 180 F180 .nil .nil)) (.bin 263 qlB (.bin 262 F262 .nil .nil) .nil)) (.bin 342 qlE (.bin 341 F341 (.bin 268 qlD .nil .nil) .nil) (.bin 382 qlG (.bin 344 qlF .nil .nil) .nil)))
abbrev HN(T:Tab):Prop:=∀n F,tabN.get n=some F->T.F n=some F
noncomputable def tabT:PT:=
 (.bin 417 qdR (.bin 74 F74 (.bin 47 F47 (.bin 42 F42 (.bin 36 F36 (.bin 35 F35 (.bin 31 F31 .nil .nil) .nil) (.bin 37 F37 .nil .nil)) (.bin 45 F45 (.bin 44 F44 (.bin 43 F43 .nil .nil) .nil) (.bin 46 F46 .nil .nil))) (.bin 57 F57 (.bin 55 F55 (.bin 49 F49 (.bin 48 F48 .nil .nil) .nil) (.bin 56 F56 .nil .nil)) (.bin 68 F68 (.bin 58 F58 .nil .nil) (.bin 73 F73 .nil .nil)))) (.bin 408 qhH (.bin 400 F400 (.bin 387 qiH (.bin 291 qj3 (.bin 207 qlz .nil .nil) .nil) (.bin 399 qlH .nil .nil)) (.bin 406 F406 (.bin 405 F405 .nil .nil) (.bin 407 qj4 .nil .nil))) (.bin 413 qlK (.bin 411 F411 (.bin 410 F410 (.bin 409 qlI .nil .nil) .nil) (.bin 412 qlJ .nil .nil)) (.bin 415 qdQ (.bin 414 qcV .nil .nil) (.bin 416 qj5 .nil .nil))))) (.bin 443 qlN (.bin 430 qhI (.bin 424 F424 (.bin 420 F420 (.bin 419 qok (.bin 418 qcj .nil .nil) .nil) (.bin 422 F422 .nil .nil)) (.bin 426 qj6 (.bin 425 F425 .nil .nil) (.bin 429 qj7 .nil .nil))) (.bin 436 qiI (.bin 433 qdd (.bin 432 qj8 (.bin 431 qlL .nil .nil) .nil) (.bin 434 qhJ .nil .nil)) (.bin 439 qfb (.bin 437 qlM .nil .nil) (.bin 441 F441 .nil .nil)))) (.bin 947 F947 (.bin 461 qiJ (.bin 450 qlP (.bin 449 qlO (.bin 446 F446 .nil .nil) .nil) (.bin 460 qj9 .nil .nil)) (.bin 916 qdS (.bin 468 qka .nil .nil) (.bin 946 F946 .nil .nil))) (.bin 996 qkg (.bin 983 qbL (.bin 967 F967 (.bin 966 qcH .nil .nil) .nil) (.bin 984 qdT .nil .nil)) (.bin 998 qhN (.bin 997 qkh .nil .nil) (.bin 999 qeG .nil .nil))))))
def HT(T:Tab):Prop:=∀n F,tabT.get n=some F->T.F n=some F
