/- Part 21 of the proof. -/
import Derived.Test.YtpfeklkomlghlaaGreatDoorB20
set_option linter.all false
namespace Go.Sim
set_option maxRecDepth 100000
set_option maxHeartbeats 8000000
section
variable {ρ:Nat->DV}
def qP5(hρ:Sc ρ){H H':CW}{k:K}{p v:PV}(h:qbY H k p v=some H'):qbY (H.ins ρ) k (p.ins ρ) (v.ins ρ)=some (H'.ins ρ):=by
 unfold qbY at h;split at h
 ·rename_i o i c;simp only[PV.ins,qbY];rw[qo4 hρ,qgC];split at h
  ·rename_i hf;rw[if_pos hf];split at h
   ·rename_i kb w e;rw[e];simp only[Option.map,Obj.ins];split at h
    ·rename_i e1;rw[if_pos e1];split at h
     ·rename_i e2;rw[if_pos e2];cases h;rw[qh2];rfl
     ·rename_i e2;rw[if_neg e2,qp9 hρ,qnu];split at h
      ·rename_i e3;rw[if_pos e3];split at h
       ·rename_i w' e4;rw[qp9 hρ,<-qBv,qtw e4];cases h;rw[qh2];rfl
       ·cases h
      ·cases h
    ·cases h
   ·rename_i kb ro es e;rw[e];simp only[Option.map,Obj.ins];rw[qsK];split at h
    ·rename_i x he;rw[he];simp only[Option.map];split at h
     ·rename_i e1;rw[if_pos e1];split at h
      ·rename_i y os e2;rw[qtU e2];simp only;split at h
       ·cases h
       ·rename_i e3;rw[if_neg e3];split at h
        ·rename_i e4;rw[if_pos e4];cases h;rw[qh2,qo7];simp only[Option.map,Obj.ins,qed,List.map_set]
        ·rename_i e4;rw[if_neg e4,qrI hρ,qcX];split at h
         ·rename_i e5;rw[if_pos e5];split at h
          ·rename_i x' e6;rw[qrI hρ,<-qOR,qts e6];cases h;rw[qh2,qo7];simp only[Option.map,Obj.ins,qed,List.map_set]
          ·cases h
         ·cases h
      ·cases h
     ·cases h
    ·cases h
   ·cases h
  ·cases h
 ·cases h
def qJa{H:CW}{b:CO}{v:PV}{n:Nat}(h:qbZ H b v=some n):qbZ (H.ins ρ) b (v.ins ρ)=some n:=by
 unfold qbZ at h;split at h
 ·simp only[PV.ins,DV.ins,qbZ,qcX];exact h
 ·simp only[PV.ins,qbZ];rw[qgC];split at h
  ·cases h
  ·rename_i hb;rw[if_neg hb];split at h
   ·rename_i k' ro es e;rw[e];simp only[Option.map,Obj.ins,qcX];exact h
   ·cases h
 ·exact h
 ·cases h
def qEq{v:PV}{n:Int}(h:asI v=some n):asI (v.ins ρ)=some n:=by
 unfold asI at h;split at h
 ·exact h
 ·cases h
def qGQ{H:CW}{k:K}{x i p:PV}(h:AJ H k x i=some p):AJ (H.ins ρ) k (x.ins ρ) (i.ins ρ)=some (p.ins ρ):=by
 unfold AJ at h;split at h
 ·cases h
 ·rename_i n hn;unfold AJ;rw[qEq hn];simp only;split at h
  ·simp only[PV.ins,DV.ins,qcX];split at h
   ·rename_i j hj;try rw[hj]
    try simp only
    rw[qsK];split at h
    ·rename_i e he;rw[he];simp only[Option.map];split at h
     ·rename_i e1;rw[if_pos e1];cases h;rfl
     ·cases h
    ·cases h
   ·cases h
  ·simp only[PV.ins];rw[qgC];split at h
   ·rename_i j k'' ro es hj ho;rw[hj,ho];simp only[Option.map,Obj.ins,qcX];split at h
    ·rename_i e1;rw[if_pos e1];cases h;rfl
    ·cases h
   ·cases h
  ·cases h
def IOp.par:IOp->CO
 |.mov _|.pick .. |.box .. |.load .. |.store .. |.Bo .. |.field .. |.ext .. |.len .. |.AJ .. =>true
 |.alloc _ z=>z.noT
 |.agg z _=>DV.noTL z
 |.bsl _ z _ _=>z.noT
 |.bin .. |.un .. |.eqb .. =>true
 |_=>false
def qEA{op:BinOp}{x y:PV}{v:DV}(h:qaL op x y=some v):qaL op (x.ins ρ) (y.ins ρ)=some v/\v.noT=true:=by
 unfold qaL at h;split at h
 ·refine⟨h,?_⟩;have h1:∀(op:BinOp) (k:IntKind) (a b:Int) (v:DV),qch op k a b=some v->v.noT=true:=by intro op k a b v h;unfold qch at h;split at h<;>(try split at h)<;>first|(cases h;rfl)|cases h
  have h2:∀(op:BinOp) (k:IntKind) (a b:Int) (v:DV),qjE op k a b=some v->v.noT=true:=by
   intro op k a b v h;unfold qjE at h;simp only at h;split at h
   ·cases h
   ·split at h<;>first|(cases h;rfl)|cases h
  split at h
  ·exact h2 _ _ _ _ _ h
  ·exact h2 _ _ _ _ _ h
  ·split at h
   ·exact h1 _ _ _ _ _ h
   ·cases h
 ·refine⟨h,?_⟩;unfold qks at h;split at h<;>(try split at h)<;>first|(cases h;rfl)|cases h
 ·cases h
def qQv{op:UnOp}{x:PV}{v:DV}(h:unA op x=some v):unA op (x.ins ρ)=some v/\v.noT=true:=by
 unfold unA at h;split at h
 ·refine⟨h,?_⟩;split at h<;>first|(cases h;rfl)|cases h
 ·refine⟨h,?_⟩;split at h<;>first|(cases h;rfl)|cases h
 ·cases h
def qjs{v:DV}(h:v.noT=true):(PV.d v).ins ρ=.d v:=by simp only[PV.ins];rw[qpu ρ v h]
def qOe(hρ:Sc ρ)(E:Env)(r:Ab->PV){H H':CW}{id:Nat}{op:IOp}{v:PV}(hp:op.par=true)(h:qaa E r H id op=some (v,H')):qaa E (λx=>(r x).ins ρ) (H.ins ρ) id op=some (v.ins ρ,H'.ins ρ):=by
 cases op<;>simp only[IOp.par,reduceCtorEq,zzg]at hp<;>simp only[qaa]at h⊢
 case mov=>cases h;rfl
 case pick c a b=>
  split at h
  ·rename_i e;rw[e];cases h;rfl
  ·rename_i e;rw[e];cases h;rfl
  ·cases h
 case alloc k z=>cases h;rw[qh2];simp only[Option.map,Obj.ins,qjs hp];rfl
 case box k x=>
  rw[qo4 hρ];split at h
  ·rename_i e;rw[if_pos e];cases h;rw[qh2];rfl
  ·cases h
 case agg z ps=>
  split at h
  ·rename_i cs e;cases h;have:=qwt hρ _ e;rw[qtN,qpv ρ z hp,List.map_map]at this;have e2:(λx:Nat×K×PV=>(x.1,x.2.1,x.2.2.ins ρ))∘(λx:Nat×K×Ab=>(x.1,x.2.1,r x.2.2))=λx=>(x.1,x.2.1,(r x.2.2).ins ρ):=rfl;rw[e2]at this;rw[this];simp only[qAp]
  ·cases h
 case bsl k z len ps=>
  split at h
  ·rename_i es os e;cases h;have:=qwP hρ _ e;rw[qed,List.map_replicate,qpu ρ z hp,List.map_map]at this;have e2:(λx:Nat×PV=>(x.1,x.2.ins ρ))∘(λx:Nat×Ab=>(x.1,r x.2))=λx=>(x.1,(r x.2).ins ρ):=rfl;rw[e2]at this;rw[this];simp only;rw[qh2,qo7];rfl
  ·cases h
 case load k x=>
  cases e:qbT H k (r x)with
  |none=>rw[e]at h;cases h
  |some w=>rw[e]at h;cases h;rw[qz4 hρ e];rfl
 case store k x y=>
  split at h
  ·rename_i H1 e;cases h;rw[qP5 hρ e];rfl
  ·cases h
 case bin op x y=>
  cases e:qaL op (r x) (r y)with
  |none=>rw[e]at h;cases h
  |some w=>rw[e]at h;cases h;have:=qEA (ρ:=ρ) e;rw[this.1,qjs this.2];rfl
 case eqb neg x y=>
  split at h
  ·rename_i e1 e2;rw[e1,e2];cases h;rfl
  ·cases h
 case un op x=>
  cases e:unA op (r x)with
  |none=>rw[e]at h;cases h
  |some w=>rw[e]at h;cases h;have:=qQv (ρ:=ρ) e;rw[this.1,qjs this.2];rfl
 case Bo off x=>
  cases e:qdJ off (r x)with
  |none=>rw[e]at h;cases h
  |some w=>rw[e]at h;cases h;rw[qKo e];rfl
 case field off k x=>
  cases e:qew off k (r x)with
  |none=>rw[e]at h;cases h
  |some w=>rw[e]at h;cases h;rw[qF1 e];rfl
 case AJ k x i=>
  cases e:AJ H k (r x) (r i)with
  |none=>rw[e]at h;cases h
  |some w=>rw[e]at h;cases h;rw[qGQ e];rfl
 case len s x=>
  split at h
  ·rename_i n e;rw[qJa e];cases h;rfl
  ·cases h
 case ext x i=>
  split at h
  ·rename_i vs e;rw[e];simp only[PV.ins];rw[qie,zzj];cases e2:vs[i]? with
   |none=>rw[e2]at h;cases h
   |some w=>rw[e2]at h;cases h;rfl
  ·cases h
end
structure AS where
 fr:Fr
 H:Heap
 G:List TA
 fx:List Fact
 cs:List (Nat×List DV×PV):=[]
 deriving Inhabited
def AS.st(σ:AS):St:=⟨σ.fr,σ.H⟩
structure Sg where
 args:List (K×List TA)
 res:List (K×List TA)
mutual
def isT(G:CL TA)(t:TA):DV->CO
 |.tok n=>match G[n]? with|some u=>TA.sub t u|none=>false
 |.b _=>match t with|.b=>true|_=>false
 |.i k n=>match t with|.i k'=>decide (k'=k)&&(Lit.int k n).wf|_=>false
 |.s x=>match t with|.s=>Nat.ble x.length 1000000|_=>false
 |.l k es _=>match t with
  |.l k' m ts=>K.eq k k'&&(Nat.ble es.length m&&Nat.ble es.length 1000000)&&qpz G k ts es
  |_=>false
 |_=>false
def qkP(G:CL TA)(ts:CL TA):Cy->CO
 |[]=>ts.isEmpty
 |v::vs=>match ts with|t::us=>isT G t v&&qkP G us vs|[]=>false
def qpz(G:CL TA)(k:K)(ts:CL TA):Cy->CO
 |[]=>true
 |v::vs=>(match k,v with
  |some n,.a cs=>Nat.beq cs.length n&&qkP G ts cs
  |none,x=>match ts with|[t]=>isT G t x|_=>false
  |_,_=>false)&&qpz G k ts vs
end
def isK(G:CL TA)(kt:K×CL TA)(v:DV):CO:=match kt.1,v with
 |some n,.a cs=>Nat.beq cs.length n&&qkP G kt.2 cs
 |none,x=>match kt.2 with|[t]=>isT G t x|_=>false
 |_,_=>false
def qkO(G:CL TA):CL (K×CL TA)->Cy->CO
 |[],[]=>true
 |k::ks,v::vs=>isK G k v&&qkO G ks vs
 |_,_=>false
def qe0:Int:=9223372036854775807
def qmU(n:Nat):TA->CL Fact
 |.s|.e _|.l .. =>[(0,n,0),(n,0,-qe0)]
 |.i .u8=>[(0,n,0),(n,0,-255)]
 |_=>[]
def qc2:Nat->CL TA->Cy
 |_,[]=>[]
 |n,_::ts=>.tok n::qc2 (n+1) ts
def fxs:Nat->CL TA->CL Fact
 |_,[]=>[]
 |n,t::ts=>qmU n t++fxs (n+1) ts
def AS.news(σ:AS)(ts:CL TA):AS:={ σ with G:=σ.G++ts,fx:=fxs σ.G.length ts++σ.fx }
def AS.add(σ:AS)(l:CL Fact):AS:={ σ with fx:=l++σ.fx }
def qcZ(σ:AS)(k:IntKind)(l:CL Fact):CK (CL (PV×AS)):=some [(.d (.tok σ.G.length),(σ.news [.i k]).add l)]
def opI(G:CL TA):PV->CK (IntKind×Nat×Int)
 |.d (.i k n)=>if (Lit.int k n).wf then some (k,0,n)else none
 |.d (.tok m)=>match G[m]? with|some (.i k)=>some (k,m,0)|_=>none
 |_=>none
def leq(fx:CL Fact)(x y:Nat×Int)(c:Int):CO:=prv fx 4 x.1 y.1 (x.2+c-y.2)
def fle(x y:Nat×Int)(c:Int):Fact:=(x.1,y.1,x.2+c-y.2)
def qmF(σ:AS)(t f:CL Fact):CK (CL (PV×AS)):=some [(.d (.b true),σ.add t),(.d (.b false),σ.add f)]
def tru(σ:AS)(b:CO):CK (CL (PV×AS)):=some [(.d (.b b),σ)]
def qrR(σ:AS)(op:BinOp)(x y:Nat×Int):CK (CL (PV×AS)):=
 let lt (σ:AS) (a b:Nat×Int) (n:CO):CK (CL (PV×AS)):=
  if leq σ.fx a b 1 then tru σ (!n)else if leq σ.fx b a 0 then tru σ n else some [(.d (.b (!n)),σ.add [fle a b 1]),(.d (.b n),σ.add [fle b a 0])]
 let eq (n:CO):CK (CL (PV×AS)):=
  if leq σ.fx x y 1||leq σ.fx y x 1 then tru σ n
  else some [(.d (.b (!n)),σ.add [fle x y 0,fle y x 0]),(.d (.b n),σ.add (if leq σ.fx x y 0 then [fle x y 1]else if leq σ.fx y x 0 then [fle y x 1]else []))]
 match op with
 |.lss=>lt σ x y false
 |.gtr=>lt σ y x false
 |.geq=>lt σ x y true
 |.leq=>lt σ y x true
 |.eql=>eq false
 |.neq=>eq true
 |_=>none
def z0:Nat×Int:=(0,0)
def qrx(σ:AS)(op:BinOp)(k:IntKind)(x y:Nat×Int):CK (CL (PV×AS)):=
 let n:=σ.G.length
 match op with
 |.add=>qcZ σ k (if decide (k=.i64)&&Nat.beq y.1 0&&leq σ.fx x (0,qe0) y.2&&leq σ.fx (0,-qe0) x (0-y.2)then [fle x (n,0) y.2,fle (n,0) x (0-y.2)]else [])
 |.sub=>qcZ σ k (if decide (k=.i64)&&Nat.beq y.1 0&&leq σ.fx x (0,qe0) (0-y.2)&&leq σ.fx (0,-qe0) x y.2 then [fle x (n,0) (0-y.2),fle (n,0) x y.2]else [])
 |.mul|.and|.or|.xor|.andNot=>qcZ σ k []
 |.quo=>if Nat.beq y.1 0 && !decide (y.2=0)then qcZ σ k (if decide (0<y.2)&&leq σ.fx z0 x 0&&decide (k=.i64)then [(0,n,0)]else [])else none
 |.rem=>if Nat.beq y.1 0 && !decide (y.2=0)then qcZ σ k (if decide (0<y.2)&&leq σ.fx z0 x 0&&decide (k=.i64)then [(0,n,0),(n,0,1-y.2)]else [])else none
 |_=>none
def opS(G:CL TA):PV->CK (CK Nat×CB)
 |.d (.s x)=>some (none,x)
 |.d (.tok m)=>match G[m]? with|some .s=>some (some m,[])|_=>none
 |_=>none
def emF:CK Nat×CB->CK Nat×CB->CL Fact×CL Fact
 | (some m,_),(none,[])=>([(m,0,0)],[(0,m,1)])
 | (none,[]),(some m,_)=>([(m,0,0)],[(0,m,1)])
 |_,_=>([],[])
def qrS(σ:AS)(op:BinOp)(x y:CK Nat×CB):CK (CL (PV×AS)):=
 let e:=emF x y
 match op with
 |.eql=>qmF σ e.1 e.2
 |.neq=>qmF σ e.2 e.1
 |.lss|.leq|.gtr|.geq=>qmF σ [] []
 |_=>none
def eqT(G:CL TA):CF->Cy->Cy->CO
 |[],[],[]=>true
 |k::ks,x::xs,y::ys=>(match k with
  |1=>match opI G (.d x),opI G (.d y)with|some a,some b=>decide (a.1=b.1)|_,_=>false
  |2=>isT G .b x&&isT G .b y
  |3=>isT G .s x&&isT G .s y
  |_=>false)&&eqT G ks xs ys
 |_,_,_=>false
def qkW(f:Nat):CL (Nat×Sg)->CK Sg
 |[]=>none
 | (g,s)::r=>if Nat.beq g f then some s else qkW f r
def qcB:Nat->CL (K×CL TA)->Cz
 |_,[]=>[]
 |n,(k,ts)::r=>.d (match k with|none=>.tok n|some _=>.a (qc2 n ts))::qcB (n+ts.length) r
def qdg:CL (K×CL TA)->CL TA
 |[]=>[]
 | (_,ts)::r=>ts++qdg r
def qmX:CL (Nat×Cy×PV)->Nat->Cy->CK PV
 |[],_,_=>none
 | (g,es,v)::r,f,ds=>if Nat.beq g f&&DV.Bw es ds then some v else qmX r f ds
def xTs(m:Nat):CL TA:=[.i .i64,.i .i64,.s,.e (match m with|0=>0|_=>2)]
def qca(S:CL (Nat×Sg))(r:Ab->PV)(σ:AS):IOp->CK (CL (PV×AS))
 |.bin op x y=>match opI σ.G (r x),opI σ.G (r y)with
  |some (k,a),some (k',b)=>if k=k' then match qrR σ op a b with
   |some l=>some l
   |none=>qrx σ op k a b
   else none
  |_,_=>match opS σ.G (r x),opS σ.G (r y)with
   |some a,some b=>qrS σ op a b
   |_,_=>none
 |.minmax _ [x,y]=>match opI σ.G (r x),opI σ.G (r y)with
  |some (k,_),some (k',_)=>if k=k' then qcZ σ k []else none
  |_,_=>none
 |.eqv _ ks x y=>match r x,r y with
  |.d (.a xs),.d (.a ys)=>if eqT σ.G ks xs ys then qmF σ [] []else none
  |_,_=>none
 |.un .neg x=>match opI σ.G (r x)with|some (k,_)=>qcZ σ k []|none=>none
 |.conv k x=>match opI σ.G (r x)with|some _=>qcZ σ k []|none=>none
 |.len s x=>match r x with
  |.d (.tok n)=>match s,σ.G[n]? with
   |true,some .s|false,some (.e _)|false,some (.l ..)=>qcZ σ .i64 [(n,σ.G.length,0),(σ.G.length,n,0)]
   |_,_=>none
  |_=>none
 |.AJ k x i=>match r x,opI σ.G (r i)with
  |.d (.tok n),some (_,a)=>if leq σ.fx z0 a 0&&leq σ.fx a (n,0) 1 then match σ.G[n]? with
   |some (.l k' _ ts)=>if K.eq k k' then match k with
    |none=>match ts with|[_]=>some [(.q (.tok σ.G.length) none 0,σ.news ts)]|_=>none
    |some m=>if Nat.beq ts.length m then some [(.q (.a (qc2 σ.G.length ts)) (some m) 0,σ.news ts)]else none
    else none
   |some (.e m)=>if K.eq k (some 4)then some [(.q (.a (qc2 σ.G.length (xTs m))) (some 4) 0,σ.news (xTs m))]else none
   |_=>none
   else none
  |_,_=>none
 |.idxS x i=>match opS σ.G (r x),opI σ.G (r i)with
  |some (some n,_),some (_,a)=>if leq σ.fx z0 a 0&&leq σ.fx a (n,0) 1 then qcZ σ .u8 []else none
  |some (none,s),some (_,a)=>if leq σ.fx z0 a 0&&leq σ.fx a (0,s.length) 1 then qcZ σ .u8 []else none
  |_,_=>none
 |.sl k x none (some h) none=>match r x,opI σ.G (r h)with
  |.d (.tok n),some (_,a)=>if leq σ.fx z0 a 0&&leq σ.fx a (n,0) 0 then match σ.G[n]? with
   |some (.l k' m ts)=>if K.eq k k' then some [(.d (.tok σ.G.length),(σ.news [.l k' m ts]).add [fle a (σ.G.length,0) 0,fle (σ.G.length,0) a 0])]else none
   |_=>none
   else none
  |_,_=>none
 |.call 0 f args=>match qkW f S with
  |some g=>match qac (args.map r)with
   |some ds=>match qmX σ.cs f ds with
    |some v=>some [(v,σ)]
    |none=>if qkO σ.G g.args ds then some [(qbi (qcB σ.G.length g.res),{ σ.news (qdg g.res)with cs:=(f,ds,qbi (qcB σ.G.length g.res))::σ.cs })]else none
   |none=>none
  |none=>none
 |_=>none
def Ab.okR:Ab->CO
 |.t _=>true
 |.c v=>v.noT
 |.g _=>false
 |.f _=>true
def IOp.A8:IOp->CL Ab
 |.mov x|.box _ x|.load _ x|.Bo _ x|.field _ _ x|.ext x _|.len _ x|.un _ x|.conv _ x=>[x]
 |.pick c a b=>[c,a,b]
 |.store _ x y|.AJ _ x y|.bin _ x y|.eqb _ x y|.eqv _ _ x y|.idxS x y=>[x,y]
 |.agg _ ps=>ps.map λx=>x.2.2
 |.bsl _ _ _ ps=>ps.map λx=>x.2
 |.call _ _ as0|.minmax _ as0=>as0
 |.sl _ x a b c=>x::(a.toList++b.toList++c.toList)
 |.alloc .. =>[]
 |_=>[.g 0]
def rdA(fr:Fr):Ab->PV
 |.t n=>fr.get n
 |.c v=>.d v
 |.g _=>.u
 |.f n=>.f n []
def qdp:Env:=⟨λ_=>none,λ_ _ _=>none,λ_ _=>none,λ_ _ _=>none,λ_ _ _ _=>none,λ_=>false⟩
def qrY(l:CL (PV×AS)):CL (PV×AS):=l.flatMap λx=>match x.1 with
 |.d (.tok n)=>match x.2.G[n]? with
  |some .b=>[(.d (.b true),x.2),(.d (.b false),x.2)]
  |_=>[x]
 |_=>[x]
def qoY(S:CL (Nat×Sg))(id:Nat)(op:IOp)(σ:AS):CK (CL (PV×AS)):=
 if op.A8.all Ab.okR then
  match (if op.par then qaa qdp (rdA σ.fr) σ.H id op else none)with
  |some (v,H')=>some (qrY [(v,{ σ with H:=H' })])
  |none=>match qca S (rdA σ.fr) σ op with
   |some l=>some (qrY l)
   |none=>none
 else none
def qld(d:CK Nat)(x:PV×AS):AS:=match d with
 |some t=>{ x.2 with fr:=x.2.fr.set t x.1 }
 |none=>x.2
def qva(S:CL (Nat×Sg))(o:Ap)(id:Nat)(σ:AS):CK (CL AS):=
 let go:CK (CL AS):=match qoY S id o.op σ with
  |some l=>some (l.map (qld o.dst))
  |none=>none
 let no:CK (CL AS):=some [qld o.dst (.t [],σ)]
 match o.g with
 |none=>go
 |some (t,want)=>match σ.fr.get t with
  |.d (.b b)=>if b==want then go else no
  |.t []=>no
  |_=>none
def qkm{α β:Type}(f:α->CK (CL β)):CL α->CK (CL β)
 |[]=>some []
 |x::r=>match f x,qkm f r with
  |some a,some b=>some (a++b)
  |_,_=>none
def qoZ(S:CL (Nat×Sg))(D:CO):CL Ap->CF->CL (CF×CF)->Nat->AS->CK (CL AS)
 |[],_,_,_,σ=>some [σ]
 |o::r,bf,acc,id,σ=>match qva S o id σ with
  |none=>none
  |some l=>qkm (λσ'=>
   let w:=Ar qdp o id σ.st σ'.st;let t:=Az qdp o σ.st
   if !D||(o.op.okD (rd qdp σ.fr)&&qaM (bf.headD 0) 0 acc (w++t) w)then qoZ S D r bf.tail (acc++[(w++t,w)]) (if o.op.adds then id+1 else id) σ' else none) l
mutual
def DV.bnd(n:Nat):DV->CO
 |.tok m=>Nat.blt m n
 |.a cs=>DV.BC n cs
 |.l _ es _=>DV.BC n es
 |.ifc _ v=>DV.bnd n v
 |_=>true
def DV.BC(n:Nat):Cy->CO
 |[]=>true
 |v::vs=>DV.bnd n v&&DV.BC n vs
end
mutual
def PV.bnd(n:Nat):PV->CO
 |.d v|.q v _ _=>v.bnd n
 |.a cs=>PV.BC n cs
 |.t cs=>PV.BC n cs
 |.f _ cs=>PV.BC n cs
 |.m _ cs=>PV.BC n cs
 |.g v=>PV.bnd n v
 |.w _ v=>PV.bnd n v
 |_=>true
def PV.BC(n:Nat):Cz->CO
 |[]=>true
 |v::vs=>PV.bnd n v&&PV.BC n vs
end
def Obj.bnd(n:Nat):Obj->CO
 |.box _ v=>v.bnd n
 |.sl _ _ es=>DV.BC n es
 |.mp _=>false
 |_=>true
def Fr.bnd(n:Nat):Fr->CO
 |[]=>true
 | (_,v)::r=>v.bnd n&&Fr.bnd n r
def qjc(n:Nat):CW->CO
 |[]=>true
 |none::r=>qjc n r
 |some x::r=>x.bnd n&&qjc n r
def qmC(n:Nat)(f:Fact):CO:=Nat.blt f.1 n&&Nat.blt f.2.1 n
def qi6:Fr->Fr->CO
 |[],[]=>true
 | (j,v)::r,(j',w)::r'=>Nat.beq j j'&&v.same w&&qi6 r r'
 |_,_=>false
def qjd:CW->CW->CO
 |[],[]=>true
 |x::r,y::r'=>qk2 x y&&qjd r r'
 |_,_=>false
def qnK(f g:Fact):CO:=Nat.beq f.1 g.1&&(Nat.beq f.2.1 g.2.1&&decide (f.2.2=g.2.2))
def qnJ(c e:Nat×Cy×PV):CO:=Nat.beq c.1 e.1&&(DV.Bw c.2.1 e.2.1&&c.2.2.same e.2.2)
def jnA(x y:AS):AS:={ x with fx:=x.fx.filter λf=>y.fx.any (qnK f),cs:=x.cs.filter λc=>y.cs.any (qnJ c) }
def qti(x y:AS):CO:=qi6 x.fr y.fr&&(qjd x.H y.H&&TA.subL x.G y.G)
def qnj(x:AS):CL AS->CL AS
 |[]=>[x]
 |y::r=>if qti x y then jnA x y::r else y::qnj x r
def mrg:CL AS->CL AS
 |[]=>[]
 |x::r=>qnj x (mrg r)
def qxu(n:Nat)(fx:CL Fact):CL Fact:=
 ((fx.filter λf=>Nat.beq f.2.1 n && !Nat.beq f.1 n).flatMap λf=>(fx.filter λg=>Nat.beq g.1 n && !Nat.beq g.2.1 n).flatMap λg=>if Nat.beq f.1 g.2.1 then []else [(f.1,g.2.1,f.2.2+g.2.2)])++fx.filter λf=>!(Nat.beq f.1 n||Nat.beq f.2.1 n)
def qr9(base:Nat):Nat->CL Fact->CL Fact
 |0,fx=>fx
 |k+1,fx=>qr9 base k (qxu (base+k) fx)
def csB(n:Nat)(c:Nat×Cy×PV):CO:=DV.BC n c.2.1&&c.2.2.bnd n
def qio(σ x:AS):CK AS:=if x.fr.bnd σ.G.length&&qjc σ.G.length x.H then some { σ with fr:=x.fr,H:=x.H,fx:=(qr9 σ.G.length (x.G.length-σ.G.length) x.fx).filter (qmC σ.G.length),cs:=x.cs.filter (csB σ.G.length) }else none
def qil(σ:AS):CL AS->CL AS×CL AS
 |[]=>([],[])
 |x::r=>match qio σ x,qil σ r with
  |some y,(a,b)=>(y::a,b)
  |none,(a,b)=>(a,x::b)
def qkZ(x:AS):CL AS->CL AS
 |[]=>[x]
 |y::r=>if qi6 x.fr y.fr&&qjd x.H y.H then jnA x y::r else y::qkZ x r
def qnk:CL AS->CL AS
 |[]=>[]
 |x::r=>qkZ x (qnk r)
def qtB(σ:AS)(l:CL AS):CL AS:=match qil σ l with
 | (a,b)=>qnk a++mrg b
def qo0(S:CL (Nat×Sg))(D:CO)(ops:CL Ap)(bf kill:CF)(σ:AS):CK (CL (Ex×AS)):=
 match qoZ S D ops bf [] σ.H.length { σ with H:=σ.H++List.replicate (qar ops) none }with
 |some l=>some ((qtB σ (l.map λσ'=>{ σ' with fr:=σ'.fr.drop kill })).map λσ'=>(.norm,σ'))
 |none=>none
def AS.gc(live:CF)(σ:AS):AS:=let s:=Sim.gc live 0 σ.st; { σ with fr:=s.fr,H:=s.H }
def tyD(G:CL TA):DV->CK TA
 |.b _=>some .b
 |.i k _=>some (.i k)
 |.s _=>some .s
 |.tok n=>G[n]?
 |_=>none
def qwz(G0 G1:CL TA)(n0:Nat)(g:CL TA)(v w:DV):CK (DV×CL TA):=
 if v.same w then some (v,g)else
 match v with
 |.tok n=>if Nat.ble n0 n then some (v,g)else (tyD G0 v).bind λt=>some (.tok (n0+g.length),g++[t])
 |_=>match tyD G0 v with
  |some t=>some (.tok (n0+g.length),g++[t])
  |none=>match w with
   |.tok n=>if Nat.ble n0 n then (G1[n]?).bind λt=>some (.tok (n0+g.length),g++[t])else (G1[n]?).bind λt=>some (.tok (n0+g.length),g++[t])
   |_=>none
def auL(G0 G1:CL TA)(n0:Nat):CL TA->Cy->Cy->CK (Cy×CL TA)
 |g,[],[]=>some ([],g)
 |g,v::vs,w::ws=>(qwz G0 G1 n0 g v w).bind λx=>(auL G0 G1 n0 x.2 vs ws).bind λy=>some (x.1::y.1,y.2)
 |_,_,_=>none
def auD(G0 G1:CL TA)(n0:Nat)(g:CL TA):DV->DV->CK (DV×CL TA)
 |.a cs,.a ds=>(auL G0 G1 n0 g cs ds).bind λx=>some (.a x.1,x.2)
 |v,w=>qwz G0 G1 n0 g v w
def auP(G0 G1:CL TA)(n0:Nat)(g:CL TA):PV->PV->CK (PV×CL TA)
 |.d v,.d w=>(auD G0 G1 n0 g v w).bind λx=>some (.d x.1,x.2)
 |v,w=>if v.same w then some (v,g)else none
def auF(G0 G1:CL TA)(n0:Nat):CL TA->Fr->Fr->CK (Fr×CL TA)
 |g,[],[]=>some ([],g)
 |g,(j,v)::r,(j',w)::r'=>if Nat.beq j j' then (auP G0 G1 n0 g v w).bind λx=>(auF G0 G1 n0 x.2 r r').bind λy=>some ((j,x.1)::y.1,y.2)else none
 |_,_,_=>none
def auO(G0 G1:CL TA)(n0:Nat)(g:CL TA):CK Obj->CK Obj->CK (CK Obj×CL TA)
 |some (.box k v),some (.box _ w)=>(auP G0 G1 n0 g v w).bind λx=>some (some (.box k x.1),x.2)
 |x,y=>if qk2 x y then some (x,g)else none
def auH(G0 G1:CL TA)(n0:Nat):CL TA->CW->CW->CK (CW×CL TA)
 |g,[],[]=>some ([],g)
 |g,v::r,w::r'=>(auO G0 G1 n0 g v w).bind λx=>(auH G0 G1 n0 x.2 r r').bind λy=>some (x.1::y.1,y.2)
 |_,_,_=>none
def auS(n0:Nat)(x:Fr×CW×CL TA)(G0:CL TA)(σ:AS):CK (Fr×CW×CL TA):=
 (auF (G0++x.2.2) σ.G n0 x.2.2 x.1 σ.fr).bind λa=>(auH (G0++x.2.2) σ.G n0 a.2 x.2.1 σ.H).bind λb=>some (a.1,b.1,b.2)
abbrev Bd:=CL (Nat×DV)
def qyD(n0:Nat)(v w:DV):CK Bd:=match v with
 |.tok n=>if Nat.ble n0 n then some [(n,w)]else if v.same w then some []else none
 |_=>if v.same w then some []else none
def inL(n0:Nat):Cy->Cy->CK Bd
 |[],[]=>some []
 |v::vs,w::ws=>match qyD n0 v w,inL n0 vs ws with|some a,some b=>some (a++b)|_,_=>none
 |_,_=>none
def inD(n0:Nat):DV->DV->CK Bd
 |.a cs,.a ds=>inL n0 cs ds
 |v,w=>qyD n0 v w
def inP(n0:Nat):PV->PV->CK Bd
 |.d v,.d w=>inD n0 v w
 |v,w=>if v.same w then some []else none
def inF(n0:Nat):Fr->Fr->CK Bd
 |[],[]=>some []
 | (j,v)::r,(j',w)::r'=>if Nat.beq j j' then match inP n0 v w,inF n0 r r' with|some a,some b=>some (a++b)|_,_=>none else none
 |_,_=>none
def inO(n0:Nat):CK Obj->CK Obj->CK Bd
 |some (.box k v),some (.box k' w)=>if K.eq k k' then inP n0 v w else none
 |x,y=>if qk2 x y then some []else none
def inH(n0:Nat):CW->CW->CK Bd
 |[],[]=>some []
 |v::r,w::r'=>match inO n0 v w,inH n0 r r' with|some a,some b=>some (a++b)|_,_=>none
 |_,_=>none
def inS(n0:Nat)(fr:Fr)(H:CW)(σ:AS):CK Bd:=match inF n0 fr σ.fr,inH n0 H σ.H with
 |some a,some b=>some (a++b)
 |_,_=>none
def qoD:Bd->Nat->CK DV
 |[],_=>none
 | (m,v)::r,n=>if Nat.beq m n then some v else qoD r n
def thD(n0 m:Nat)(bd:Bd)(n:Nat):DV:=if Nat.ble n0 n&&Nat.blt n (n0+m)then match qoD bd n with
  |some v=>v
  |none=>.tok n
 else .tok n
def qpZ:DV->CK (Nat×Int)
 |.i _ c=>some (0,c)
 |.tok m=>some (m,0)
 |.s x=>some (0,x.length)
 |.l _ es _=>some (0,es.length)
 |_=>none
def thF(th:Nat->DV)(fx:CL Fact)(f:Fact):CO:=match qpZ (th f.1),qpZ (th f.2.1)with
 |some a,some b=>leq fx a b f.2.2
 |_,_=>false
def thT(G:CL TA)(th:Nat->DV):Nat->CL TA->CO
 |_,[]=>true
 |n,t::ts=>isT G t (th n)&&thT G th (n+1) ts
def qo2(th:Nat->DV)(n0:Nat)(fr:Fr)(H:CW)(g:CL TA)(cs:CL Fact)(σ:AS):CO:=
 qi6 (fr.ins th) σ.fr&&qjd (H.ins th) σ.H&&thT σ.G th n0 g&&cs.all (thF th σ.fx)
def qsj(th:Nat->DV)(n0 m:Nat)(fx:CL Fact)(ms:CO×Nat×Nat):CO:=match qpZ (th ms.2.1)with
 |some a=>Nat.blt ms.2.1 (n0+m)&&(if ms.1 then Nat.blt ms.2.2 n0&&leq fx (ms.2.1,0) a 1&&leq fx (ms.2.1,0) (ms.2.2,0) 1 else leq fx a (ms.2.1,0) 1&&leq fx z0 (ms.2.1,0) 1)
 |none=>false
def qcP(x:Ex×AS):CO:=isN x.1
def qG8:Ex->CO
 |.exit _=>true
 |_=>false
def qm8(live:CF)(n0:Nat)(fr:Fr)(H:CW)(g:CL TA)(cs:CL Fact)(ms:CO×Nat×Nat)(σ:AS):CO:=
 match inS n0 fr H (σ.gc live)with
 |some bd=>qo2 (thD n0 g.length bd) n0 fr H g cs (σ.gc live)&&qsj (thD n0 g.length bd) n0 g.length (σ.gc live).fx ms
 |none=>false
def qrB(n0:Nat)(fr:Fr)(H:CW)(g:CL TA)(cs:CL Fact)(σ0:AS):CO:=match inS n0 fr H σ0 with
 |some bd=>qo2 (thD n0 g.length bd) n0 fr H g cs σ0&&(cs.all (qmC (n0+g.length))&&(fr.bnd (n0+g.length)&&qjc (n0+g.length) H))
 |none=>false
def qrH(bd:Bd):Nat->CL TA->CL Fact
 |_,[]=>[]
 |n,.i _::ts=>(match qoD bd n with
  |some (.i _ c)=>[(0,n,c)]
  |some (.tok m)=>[(n,m,0),(0,n,0)]
  |_=>[])++qrH bd (n+1) ts
 |n,_::ts=>qrH bd (n+1) ts
def qrU(bd:Bd):Nat->CL TA->CL (Nat×Int)
 |_,[]=>[]
 |n,.i _::ts=>(match qoD bd n with
  |some (.i _ c)=>[(n,c)]
  |_=>[])++qrU bd (n+1) ts
 |n,_::ts=>qrU bd (n+1) ts
def qth(G:CL TA):Fr->CF
 |[]=>[]
 | (_,.d (.tok m))::r=>(match G[m]? with
  |some (.l ..)|some (.e _)|some .s=>[m]
  |_=>[])++qth G r
 |_::r=>qth G r
def qEN(σ0:AS)(bd:Bd)(g:CL TA):CL Fact:=
 let is:=qrU bd σ0.G.length g
 qrH bd σ0.G.length g++(is.flatMap λa=>(is.flatMap λb=>if Nat.beq a.1 b.1 then []else [(a.1,b.1,b.2-a.2)])++(qth σ0.G σ0.fr).map λm=>(a.1,m,0))
def qmQ(live:CF)(n0:Nat)(fr:Fr)(H:CW)(g:CL TA)(cs:CL Fact)(l:CL AS):CL (CO×Nat×Nat)->CK (CO×Nat×Nat)
 |[]=>none
 |m::r=>if l.all (qm8 live n0 fr H g cs m)then some m else qmQ live n0 fr H g cs l r
def qKu(n0:Nat)(g:CL TA)(l:CL AS):CL (CO×Nat×Nat):=match l with
 |[]=>[(true,0,0)]
 |σ::_=>(List.range g.length).flatMap λi=>((σ.fx.filter λf=>Nat.beq f.1 (n0+i)&&Nat.blt f.2.1 n0&&decide (1<=f.2.2)).map λf=>(true,n0+i,f.2.1))++(σ.fx.flatMap λf=>if Nat.beq f.1 (n0+i)&&Nat.ble n0 f.2.1&&decide (1<=f.2.2)then (σ.fx.filter λf'=>Nat.beq f'.1 f.2.1&&Nat.blt f'.2.1 n0&&decide (0<=f'.2.2)).map λf'=>(true,n0+i,f'.2.1)else [])++[(false,n0+i,0)]
def qmW(f:AS->CK (CL (Ex×AS)))(live:CF)(σ0:AS):Nat->Fr×CW×CL TA->CL Fact->CK (CL (Ex×AS))
 |0,_,_=>none
 |n+1,x,bad=>
  let n0:=σ0.G.length
  match inS n0 x.1 x.2.1 σ0 with
  |none=>none
  |some bd=>
   let cs:=((qEN σ0 bd x.2.2).filter λc=>!(bad.any λb=>Nat.beq b.1 c.1&&(Nat.beq b.2.1 c.2.1&&decide (b.2.2=c.2.2)))).filter (thF (thD n0 x.2.2.length bd) σ0.fx);let σg:AS:=({ σ0 with fr:=x.1,H:=x.2.1 }.news x.2.2).add cs
   match f σg with
   |none=>none
   |some outs=>
    let rounds:=(outs.filter qcP).map (·.2)
    match rounds.foldlM (λy σ=>auS n0 y σ0.G (σ.gc live)) x with
    |none=>none
    |some y=>
     if Nat.blt x.2.2.length y.2.2.length then qmW f live σ0 n y bad
     else
      let bads:=cs.filter λc=>!(rounds.all λσ=>match inS n0 x.1 x.2.1 (σ.gc live)with|some b=>thF (thD n0 x.2.2.length b) (σ.gc live).fx c|none=>false)
      if !bads.isEmpty then qmW f live σ0 n x (bads++bad)
      else if qrB n0 x.1 x.2.1 x.2.2 cs σ0 then
       match qmQ live n0 x.1 x.2.1 x.2.2 cs rounds (qKu n0 x.2.2 rounds)with
       |some _=>some (outs.filter λo=>!qcP o)
       |none=>none
      else none
def qoX(f:AS->CK (CL (Ex×AS)))(live:CF):Nat->AS->CK (CL (Ex×AS))
 |0,_=>none
 |n+1,σ=>
  let σ0:=σ.gc live
  match f σ0 with
  |none=>none
  |some outs=>
   if outs.any λo=>qG8 o.1 then
    match ((outs.filter qcP).map (·.2)).foldlM (λy σ=>auS σ0.G.length y σ0.G (σ.gc live)) (σ0.fr,σ0.H,[])with
    |some x=>qmW f live σ0 6 x []
    |none=>none
   else qkm (λo=>if qcP o then qoX f live n o.2 else some [o]) outs
def qeu(S:CL (Nat×Sg)):PC->AS->CK (CL (Ex×AS))
 |.skip,σ=>some [(.norm,σ)]
 |.reg ops kill,σ=>qo0 S false ops [] kill σ
 |.Ba ops bf kill,σ=>qo0 S true ops bf kill σ
 |.seq a b,σ=>match qeu S a σ with
  |some l=>qkm (λo=>if qcP o then qeu S b o.2 else some [o]) l
  |none=>none
 |.cond c x y,σ=>match rdA σ.fr c with
  |.d (.b true)=>qeu S x σ
  |.d (.b false)=>qeu S y σ
  |_=>none
 |.block id x,σ=>match qeu S x σ with
  |some l=>some (l.map λo=>match o.1 with|.exit j=>if j==id then (.norm,o.2)else o|_=>o)
  |none=>none
 |.loop live x,σ=>qoX (qeu S x) live 40 σ
 |.exit id,σ=>some [(.exit id,σ)]
 |.ret,σ=>some [(.ret,σ)]
 |_,_=>none
section
variable {d:Nat}{ρ:Nat->DV}
def Keq{a b:K}(h:K.eq a b=true):a=b:=by cases a<;>cases b<;>simp_all[K.eq]
def qv9:∀{n:Nat} {x:DV},XD n x->XD (n+1) x
 |0,x,h=>⟨[],h,by simp,λe he=>by cases he⟩
 |n+1,x,⟨es,h,hl,he⟩=>⟨es,h,hl,λe hm=>by
   obtain⟨o,m,s,a,h1,h2,h3,h4,h5⟩:=he e hm;exact⟨o,m,s,a,h1,h2,h3,h4,qv9 h5⟩⟩
def qrl{n m:Nat}{x:DV}(h:n<=m)(hx:XD n x):XD m x:=by
 induction m with
 |zero=>
  have:n=0:=by omega
  subst this;exact hx
 |succ m ih=>
  by_cases e:n=m+1
  ·subst e;exact hx
  ·exact qv9 (ih (by omega))
def qot{n m:Nat}{x:DV}(h:n<=m)(hx:XT d m x):XT d n x:=by
 match n,m,h with
 |0,0,_=>exact hx
 |0,1,_=>exact⟨d,hx⟩
 |0,m+2,_=>obtain⟨k,_,hk⟩:=hx;exact⟨k,hk⟩
 |1,1,_=>exact hx
 |1,m+2,_=>obtain⟨k,hl,hk⟩:=hx;exact qrl (by omega) hk
 |n+2,m+2,_=>exact hx
mutual
def qve:∀(t u:TA) {x:DV},TA.sub t u=true->Hs d u x->Hs d t x
 |.b,.b,_,_,hx=>hx
 |.i k,.i k1,_,h,hx=>by have:k=k1:=of_decide_eq_true h;subst this;exact hx
 |.s,.s,_,_,hx=>hx
 |.e n,.e m,_,h,hx=>qot (Nat.le_of_ble_eq_true h) hx
 |.l k m ts,.l k1 m1 us,_,h,hx=>by
  rw[TA.sub,zzf,zzf]at h;have:=Keq h.1;subst this;obtain⟨es,t,h1,h2,h3,h4⟩:=hx;exact⟨es,t,h1,h2,zzL h3 (Nat.le_of_ble_eq_true h.2.1),λe he=>by
   obtain⟨cs,e1,e2⟩:=h4 e he;exact⟨cs,e1,qCr ts us h.2.2 e2⟩⟩
 |.b,.i _,_,h,_|.b,.s,_,h,_|.b,.e _,_,h,_|.b,.l ..,_,h,_=>by cases h
 |.i _,.b,_,h,_|.i _,.s,_,h,_|.i _,.e _,_,h,_|.i _,.l ..,_,h,_=>by cases h
 |.s,.b,_,h,_|.s,.i _,_,h,_|.s,.e _,_,h,_|.s,.l ..,_,h,_=>by cases h
 |.e _,.b,_,h,_|.e _,.i _,_,h,_|.e _,.s,_,h,_|.e _,.l ..,_,h,_=>by cases h
 |.l ..,.b,_,h,_|.l ..,.i _,_,h,_|.l ..,.s,_,h,_|.l ..,.e _,_,h,_=>by cases h
def qCr:∀(ts us:CL TA) {xs:Cy},TA.subL ts us=true->HsL d us xs->HsL d ts xs
 |[],[],_,_,hx=>hx
 |t::ts,u::us,[],_,hx=>hx.elim
 |t::ts,u::us,x::xs,h,hx=>by rw[TA.subL,zzf]at h;exact⟨qve t u h.1 hx.1,qCr ts us h.2 hx.2⟩
 |[],_::_,_,h,_=>by cases h
 |_::_,[],_,h,_=>by cases h
end
def qkj(d:Nat)(G:CL TA)(ρ:Nat->DV):Prop:=∀n t,G[n]? = some t->Hs d t (ρ n)
mutual
def qh3{G:CL TA}(hG:qkj d G ρ):∀(t:TA) (v:DV),isT G t v=true->Hs d t (v.ins ρ)
 |t,.tok n,h=>by
  unfold isT at h;split at h
  ·rename_i u e;exact qve t u h (hG n u e)
  ·cases h
 |t,.b c,h=>by
  unfold isT at h;split at h
  ·exact⟨c,rfl⟩
  ·cases h
 |t,.i k n,h=>by
  unfold isT at h;split at h
  ·rename_i k';rw[zzf]at h;have:=of_decide_eq_true h.1;subst this;exact⟨n,rfl,h.2⟩
  ·cases h
 |t,.s x,h=>by
  unfold isT at h;split at h
  ·have:=Nat.le_of_ble_eq_true h;exact⟨x,rfl,zzL this (by decide)⟩
  ·cases h
 |t,.l k es tt,h=>by
  unfold isT at h;split at h
  ·rename_i k' m ts;simp only[zzf]at h;have h1:=Keq h.1.1;subst h1;refine⟨DV.Ak ρ es,tt,rfl,?_,?_,qyQ hG k ts es h.2⟩
   ·rw[qcX];exact zzL (Nat.le_of_ble_eq_true h.1.2.2) (by decide)
   ·rw[qcX];exact Nat.le_of_ble_eq_true h.1.2.1
  ·cases h
 |_,.a _,h|_,.np,h|_,.nf,h|_,.ni,h|_,.nm,h|_,.ifc ..,h=>by unfold isT at h;cases h
def qsO{G:CL TA}(hG:qkj d G ρ):∀(ts:CL TA) (vs:Cy),qkP G ts vs=true->HsL d ts (DV.Ak ρ vs)
 |ts,[],h=>by unfold qkP at h;have:=List.isEmpty_iff.1 h;subst this;exact trivial
 |ts,v::vs,h=>by
  unfold qkP at h;split at h
  ·rename_i t us;rw[zzf]at h;exact⟨qh3 hG t v h.1,qsO hG us vs h.2⟩
  ·cases h
def qyQ{G:CL TA}(hG:qkj d G ρ)(k:K)(ts:CL TA):∀(es:Cy),qpz G k ts es=true->∀e∈DV.Ak ρ es,∃cs,mkD k cs=some e/\HsL d ts cs
 |[],_,e,he=>by cases he
 |v::vs,h,e,he=>by
  unfold qpz at h;rw[zzf]at h;rcases List.mem_cons.1 he with e1|he
  ·subst e1;have h1:=h.1;split at h1
   ·rename_i n cs;rw[zzf]at h1;have hl:=zzy h1.1;refine⟨DV.Ak ρ cs,?_,qsO hG ts cs h1.2⟩;simp only[mkD,qcX];rw[if_pos hl];rfl
   ·split at h1
    ·rename_i t;exact⟨[v.ins ρ],rfl,qh3 hG t _ h1,trivial⟩
    ·cases h1
   ·cases h1
  ·exact qyQ hG k ts vs h.2 e he
end
def HsK(d:Nat)(kt:K×CL TA)(x:DV):Prop:=∃cs,mkD kt.1 cs=some x/\HsL d kt.2 cs
def qHa{G:CL TA}(hG:qkj d G ρ){kt:K×CL TA}{v:DV}(h:isK G kt v=true):HsK d kt (v.ins ρ):=by
 obtain⟨k,ts⟩:=kt;unfold isK at h;split at h
 ·rename_i n cs hk;simp only at hk;subst hk;rw[zzf]at h;refine⟨DV.Ak ρ cs,?_,qsO hG _ cs h.2⟩;simp only[mkD,qcX];rw[if_pos (zzy h.1)];rfl
 ·rename_i hk;simp only at hk;subst hk;split at h
  ·rename_i t e;simp only at e;subst e;exact⟨[_],rfl,qh3 hG t _ h,trivial⟩
  ·cases h
 ·cases h
def qbO(d:Nat):CL (K×CL TA)->Cy->Prop
 |[],[]=>True
 |k::ks,v::vs=>HsK d k v/\qbO d ks vs
 |_,_=>False
def qsM{G:CL TA}(hG:qkj d G ρ):∀{ks:CL (K×CL TA)} {vs:Cy},qkO G ks vs=true->qbO d ks (DV.Ak ρ vs)
 |[],[],_=>trivial
 |k::ks,v::vs,h=>by rw[qkO,zzf]at h;exact⟨qHa hG h.1,qsM hG h.2⟩
 |[],_::_,h=>by cases h
 |_::_,[],h=>by cases h
end
section
variable {d:Nat}{ρ ρ':Nat->DV}{V:Nat->Cy->CG}
structure Mod (d:Nat) (V:Nat->List DV->Option (PV×Bool)) (σ:AS) (ρ:Nat->DV):Prop where
 sc:Sc ρ
 ty:qkj d σ.G ρ
 fx:∀f∈σ.fx,Fact.ok ρ f
 z:ρ 0=.i .i64 0
 cs:∀c∈σ.cs,∃own,V c.1 (DV.Ak ρ c.2.1)=some (c.2.2.ins ρ,own)
def Agr(n:Nat)(ρ ρ':Nat->DV):Prop:=∀m,m<n->ρ' m=ρ m
structure AS.wf (σ:AS):Prop where
 st:∀ρ ρ',Sc ρ->Sc ρ'->Agr σ.G.length ρ ρ'->σ.st.ins ρ'=σ.st.ins ρ
 cs:∀ρ ρ',Sc ρ->Sc ρ'->Agr σ.G.length ρ ρ'->∀c∈σ.cs,DV.Ak ρ' c.2.1=DV.Ak ρ c.2.1/\c.2.2.ins ρ'=c.2.2.ins ρ
 fx:∀f∈σ.fx,f.1<σ.G.length/\f.2.1<σ.G.length
 z:0<σ.G.length
def Agr.le{n m:Nat}(h:n<=m)(a:Agr m ρ ρ'):Agr n ρ ρ':=λk hk=>a k (by omega)
def Agr.trans{n:Nat}{ρ'':Nat->DV}(a:Agr n ρ ρ')(b:Agr n ρ' ρ''):Agr n ρ ρ'':=λk hk=>(b k hk).trans (a k hk)
def Agr.rfl'{n:Nat}:Agr n ρ ρ:=λ_ _=>rfl
def qvX{t:TA}{x:DV}(h:Hs d t x):∀cs,x≠.a cs:=by
 intro cs e;subst e;cases t with
 |b=>obtain⟨c,h⟩:=h;cases h
 |i k=>obtain⟨n,h,_⟩:=h;cases h
 |s=>obtain⟨l,h,_⟩:=h;cases h
 |l k m ts=>obtain⟨es,t,h,_⟩:=h;cases h
 |e n=>
  have:XT d 0 (.a cs):=qot (zzK n) h;obtain⟨m,hm⟩:=this;cases m with
  |zero=>cases hm
  |succ m=>obtain⟨es,h,_⟩:=hm;cases h
def upn(ρ:Nat->DV)(n:Nat)(xs:Cy):Nat->DV:=λm=>if n<=m then match xs[m-n]? with|some x=>x|none=>ρ m else ρ m
def qiq{n m:Nat}{xs:Cy}(h:m<n):upn ρ n xs m=ρ m:=by unfold upn;rw[if_neg (by omega)]
def qip(n:Nat)(xs:Cy):Agr n ρ (upn ρ n xs):=λ_ h=>qiq h
def qej{n i:Nat}{xs:Cy}{x:DV}(h:xs[i]? = some x):upn ρ n xs (n+i)=x:=by unfold upn;rw[if_pos (by omega),show n+i-n=i by omega,h]
def qqO:∀{ts:CL TA} {xs:Cy},HsL d ts xs->∀(i:Nat) (t:TA),ts[i]? = some t->∃x,xs[i]? = some x/\Hs d t x
 |_::_,x::_,h,0,_,e=>by cases e;exact⟨x,rfl,h.1⟩
 |_::ts,_::_,h,i+1,u,e=>qqO (ts:=ts) h.2 i u e
 |[],_,_,_,_,e=>by simp at e
 |_::_,[],h,_,_,_=>h.elim
def qn3:∀{ts:CL TA} {xs:Cy},HsL d ts xs->ts.length=xs.length
 |[],[],_=>rfl
 |t::ts,x::xs,h=>by rw[zzn,zzn,qn3 h.2]
 |[],_::_,h=>h.elim
 |_::_,[],h=>h.elim
def qvW:∀{ts:CL TA} {xs:Cy},HsL d ts xs->∀x∈xs,∀cs,x≠.a cs
 |[],[],_,_,hx=>by cases hx
 |t::ts,x::xs,h,y,hy=>by
  rcases List.mem_cons.1 hy with e|hy
  ·subst e;exact qvX h.1
  ·exact qvW h.2 y hy
 |[],_::_,h,_,_=>h.elim
 |_::_,[],h,_,_=>h.elim
def qCK{ts:CL TA}{xs:Cy}{n:Nat}(hs:Sc ρ)(h:HsL d ts xs):Sc (upn ρ n xs):=by
 intro m cs;unfold upn;split
 ·split
  ·rename_i x e;exact qvW h x (List.mem_of_getElem? e) cs
  ·exact hs m cs
 ·exact hs m cs
def qyG{xs:Cy}:∀(ts:CL TA) (n k:Nat),ts.length+k=xs.length->DV.Ak (upn ρ n xs) (qc2 (n+k) ts)=xs.drop k
 |[],n,k,h=>by
  have:k=xs.length:=by simpa using h
  subst this;rw[List.drop_length];rfl
 |t::ts,n,k,h=>by
  have hk:k<xs.length:=by rw[zzn]at h;omega
  rw[qc2,DV.Ak,show n+k+1=n+(k+1)by omega,qyG ts n (k+1) (by rw[zzn]at h;omega)];rw[DV.ins,qej (zze hk),List.getElem_cons_drop]
def qGj{t:TA}{n:Nat}(hz:ρ 0=.i .i64 0)(h:Hs d t (ρ n)):∀f∈qmU n t,Fact.ok ρ f:=by
 intro f hf;have h0:vI (ρ 0)=0:=by rw[hz];rfl
 have hm:(maxLen:Int)=9223372036854775807:=by decide
 have hx:∀es:Cy,es.length<=maxLen->(es.length:Int)<=9223372036854775807:=λes h=>by omega
 have key:0<=vI (ρ n)->vI (ρ n)<=9223372036854775807->f∈[((0:Nat),n,(0:Int)),(n,0,-qe0)]->Fact.ok ρ f:=by
  intro a b hf;simp only[List.mem_cons,zzC,or_false]at hf;unfold Fact.ok;rcases hf with e|e
  ·subst e;simp only;rw[h0];omega
  ·subst e;simp only;rw[h0];unfold qe0;omega
 unfold qmU at hf;split at hf
 ·obtain⟨l,e,hl⟩:=h;refine key ?_ ?_ hf<;>rw[e]<;>simp only[vI]<;>omega
 ·rename_i m;have:XT d 0 (ρ n):=qot (zzK m) h;obtain⟨k,hk⟩:=this;obtain⟨es,t,e,hl⟩:∃es t,ρ n=.l (some 4) es t/\es.length<=maxLen:=by
   cases k with
   |zero=>exact⟨[],false,hk,zzK _⟩
   |succ k=>obtain⟨es,h,hl,_⟩:=hk;exact⟨es,false,h,by unfold qbt at hl;have:maxLen=9223372036854775807:=rfl;omega⟩
  refine key ?_ ?_ hf<;>rw[e]<;>simp only[vI]<;>omega
 ·obtain⟨es,t,e,hl,_⟩:=h;refine key ?_ ?_ hf<;>rw[e]<;>simp only[vI]<;>omega
 ·obtain⟨m,e,hw⟩:=h;have h1:0<=m/\m<=255:=by simp[Lit.wf,IntKind.min,IntKind.max,IntKind.signed,IntKind.bits]at hw;omega
  simp only[List.mem_cons,zzC,or_false]at hf;unfold Fact.ok;rcases hf with e1|e1
  ·subst e1;simp only;rw[h0,e];simp only[vI];omega
  ·subst e1;simp only;rw[h0,e];simp only[vI];omega
 ·cases hf
end
section
variable {d:Nat}{ρ ρ':Nat->DV}{V:Nat->Cy->CG}{σ:AS}
def qpa(hz:ρ 0=.i .i64 0):∀(ts:CL TA) (n:Nat),(∀i t,ts[i]? = some t->Hs d t (ρ (n+i)))->∀f∈fxs n ts,Fact.ok ρ f
 |[],_,_,f,hf=>by cases hf
 |t::ts,n,h,f,hf=>by
  rcases zzB.1 hf with hf|hf
  ·exact qGj hz (h 0 t rfl) f hf
  ·refine qpa hz ts (n+1) (λi u e=>?_) f hf;have:=h (i+1) u e
   rwa [show n+(i+1)=n+1+i by omega]at this
def qGi{t:TA}{n:Nat}:∀f∈qmU n t,f.1<=n/\f.2.1<=n:=by intro f hf;unfold qmU at hf;split at hf<;>simp at hf<;>rcases hf with e|e<;>subst e<;>simp
def qo9:∀(ts:CL TA) (n:Nat),∀f∈fxs n ts,f.1<n+ts.length/\f.2.1<n+ts.length
 |[],_,f,hf=>by cases hf
 |t::ts,n,f,hf=>by
  rw[zzn];rcases zzB.1 hf with hf|hf
  ·have:=qGi f hf;omega
  ·have:=qo9 ts (n+1) f hf;omega
def qxK{f:Fact}{n:Nat}(h1:f.1<n)(h2:f.2.1<n)(a:Agr n ρ ρ')(h:Fact.ok ρ f):Fact.ok ρ' f:=by unfold Fact.ok at h⊢;rw[a _ h1,a _ h2];exact h
def qpX(hM:Mod d V σ ρ)(hW:σ.wf){ts:CL TA}{xs:Cy}(h:HsL d ts xs):Mod d V (σ.news ts) (upn ρ σ.G.length xs):=by
 have hs:=qCK (n:=σ.G.length) hM.sc h;have ha:Agr σ.G.length ρ (upn ρ σ.G.length xs):=qip _ _;have hz:upn ρ σ.G.length xs 0=.i .i64 0:=by rw[ha 0 hW.z];exact hM.z
 have hn:∀i t,ts[i]? = some t->Hs d t (upn ρ σ.G.length xs (σ.G.length+i)):=by intro i t e;obtain⟨x,e1,e2⟩:=qqO h i t e;rw[qej e1];exact e2
 refine⟨hs,?_,?_,hz,?_⟩
 ·intro n t e;change (σ.G++ts)[n]? = some t at e;by_cases hlt:n<σ.G.length
  ·rw[List.getElem?_append_left hlt]at e;rw[ha n hlt];exact hM.ty n t e
  ·rw[List.getElem?_append_right (by omega)]at e;have:=hn _ t e
   rwa [show σ.G.length+(n-σ.G.length)=n by omega]at this
 ·intro f hf;rcases zzB.1 hf with hf|hf
  ·exact qpa hz ts _ hn f hf
  ·exact qxK (hW.fx f hf).1 (hW.fx f hf).2 ha (hM.fx f hf)
 ·intro c hc;obtain⟨own,h1⟩:=hM.cs c hc;have:=hW.cs _ _ hM.sc hs ha c hc;exact⟨own,by rw[this.1,this.2];exact h1⟩
def qk1(ts:CL TA):(σ.news ts).G.length=σ.G.length+ts.length:=by show (σ.G++ts).length=_;rw[zzp]
def qpY(hW:σ.wf)(ts:CL TA):(σ.news ts).wf:=by
 have hl:=qk1 (σ:=σ) ts;refine⟨λρ ρ' h h' a=>hW.st ρ ρ' h h' (a.le (by omega)),λρ ρ' h h' a=>hW.cs ρ ρ' h h' (a.le (by omega)),?_,by have:=hW.z;omega⟩;intro f hf;rw[hl];rcases zzB.1 hf with hf|hf
 ·exact qo9 ts _ f hf
 ·have:=hW.fx f hf;omega
def qrs(hM:Mod d V σ ρ){l:CL Fact}(h:∀f∈l,Fact.ok ρ f):Mod d V (σ.add l) ρ:=
 ⟨hM.sc,hM.ty,λf hf=>(zzB.1 hf).elim (h f) (hM.fx f),hM.z,hM.cs⟩
def qrt(hW:σ.wf){l:CL Fact}(h:∀f∈l,f.1<σ.G.length/\f.2.1<σ.G.length):(σ.add l).wf:=
 ⟨hW.st,hW.cs,λf hf=>(zzB.1 hf).elim (h f) (hW.fx f),hW.z⟩
def nv(ρ:Nat->DV)(x:Nat×Int):Int:=vI (ρ x.1)+x.2
def qeh(hM:Mod d V σ ρ)(hW:σ.wf){v:PV}{k:IntKind}{x:Nat×Int}(h:opI σ.G v=some (k,x)):v.ins ρ=.d (.i k (nv ρ x))/\x.1<σ.G.length/\(Lit.int k (nv ρ x)).wf=true:=by
 unfold opI at h;split at h
 ·rename_i k' n;split at h
  ·rename_i hw;cases h;have e:nv ρ (0,n)=n:=by unfold nv;rw[hM.z];simp[vI]
   rw[e];exact⟨rfl,hW.z,hw⟩
  ·cases h
 ·rename_i m;split at h
  ·rename_i k' e;cases h;obtain⟨n,h1,h2⟩:=hM.ty m _ e;have e1:nv ρ (m,0)=n:=by unfold nv;simp only;rw[h1];simp[vI]
   rw[e1];exact⟨congrArg PV.d h1,(zzk.1 e).1,h2⟩
  ·cases h
 ·cases h
def qcc(hM:Mod d V σ ρ){x y:Nat×Int}{c:Int}(h:leq σ.fx x y c=true):nv ρ x+c<=nv ρ y:=by have:=qBf hM.fx 4 _ _ _ h;unfold nv;omega
def qeS{x y:Nat×Int}{c:Int}(h:nv ρ x+c<=nv ρ y):Fact.ok ρ (fle x y c):=by unfold Fact.ok fle;unfold nv at h;simp only;omega
end
section
variable {d:Nat}{ρ ρ':Nat->DV}{V:Nat->Cy->CG}{σ:AS}
structure Good (d:Nat) (V:Nat->List DV->Option (PV×Bool)) (σ:AS) (ρ:Nat->DV) (x:PV×AS) (ρ':Nat->DV):Prop where
 ag:Agr σ.G.length ρ ρ'
 m:Mod d V x.2 ρ'
 wf:x.2.wf
 fr:x.2.fr=σ.fr
 le:σ.G.length<=x.2.G.length
 v:∀ρ1 ρ2,Sc ρ1->Sc ρ2->Agr x.2.G.length ρ1 ρ2->x.1.ins ρ2=x.1.ins ρ1
def qbP(d:Nat)(V:Nat->Cy->CG)(σ:AS)(ρ:Nat->DV)(l:CL (PV×AS))(ev:CJ):Prop:=
 ∃x∈l,∃ρ',Good d V σ ρ x ρ'/\ev=some (x.1.ins ρ',x.2.H.ins ρ')
def qjD(hM:Mod d V σ ρ)(hW:σ.wf){l:CL (PV×AS)}{v:DV}{fs:CL Fact}(hx:(PV.d v,σ.add fs)∈l)(hv:v.noT=true)(h:∀f∈fs,Fact.ok ρ f)(hb:∀f∈fs,f.1<σ.G.length/\f.2.1<σ.G.length):qbP d V σ ρ l (some (.d v,σ.H.ins ρ)):=by
 refine⟨_,hx,ρ,⟨Agr.rfl',qrs hM h,qrt hW hb,rfl,zzt _,λρ1 ρ2 _ _ _=>?_⟩,?_⟩
 ·show (PV.d v).ins ρ2=(PV.d v).ins ρ1;rw[qjs hv,qjs hv]
 ·show _=some ((PV.d v).ins ρ,_);rw[qjs hv];rfl
def qvn(hM:Mod d V σ ρ)(hW:σ.wf){b:CO}{l:CL (PV×AS)}(h:tru σ b=some l):qbP d V σ ρ l (some (.d (.b b),σ.H.ins ρ)):=by cases h;exact qjD (fs:=[]) hM hW (zzH.2 rfl) rfl (λf hf=>by cases hf) (λf hf=>by cases hf)
def qc0(hM:Mod d V σ ρ)(hW:σ.wf){k:IntKind}{fs:CL Fact}{l:CL (PV×AS)}{n:Int}(h:qcZ σ k fs=some l)(hn:(Lit.int k n).wf=true)(hf:∀f∈fs,Fact.ok (upn ρ σ.G.length [.i k n]) f)(hb:∀f∈fs,f.1<σ.G.length+1/\f.2.1<σ.G.length+1):qbP d V σ ρ l (some (.d (.i k n),σ.H.ins ρ)):=by
 cases h;have hL:HsL d [TA.i k] [DV.i k n]:=⟨⟨n,rfl,hn⟩,trivial⟩;have hM':=qpX hM hW hL;have hl:(σ.news [.i k]).G.length=σ.G.length+1:=qk1 _;refine⟨_,zzH.2 rfl,upn ρ σ.G.length [.i k n],⟨qip _ _,qrs hM' hf,qrt (qpY hW _) (by rw[hl];exact hb),rfl,?_,λρ1 ρ2 _ _ a=>?_⟩,?_⟩
 ·show σ.G.length<=(σ.news [.i k]).G.length;omega
 ·show PV.d (ρ2 σ.G.length)=PV.d (ρ1 σ.G.length);rw[a σ.G.length (by show σ.G.length<(σ.news [.i k]).G.length;omega)]
 ·show _=some (PV.d (upn ρ σ.G.length [.i k n] σ.G.length),Heap.ins _ σ.H);have e1:upn ρ σ.G.length [.i k n] σ.G.length=.i k n:=qej (i:=0) rfl;have e2:=hW.st _ _ hM.sc hM'.sc (qip _ _);have e3:σ.H.ins (upn ρ σ.G.length [.i k n])=σ.H.ins ρ:=congrArg St.H e2;rw[e1,e3]
def qpP(hM:Mod d V σ ρ)(hW:σ.wf){a b:Nat×Int}(ha:a.1<σ.G.length)(hb:b.1<σ.G.length){n:CO}{l:CL (PV×AS)}
  (h:(if leq σ.fx a b 1 then tru σ (!n)else if leq σ.fx b a 0 then tru σ n else some [(.d (.b (!n)),σ.add [fle a b 1]),(.d (.b n),σ.add [fle b a 0])])=some l) :
  qbP d V σ ρ l (some (.d (.b (if nv ρ a<nv ρ b then !n else n)),σ.H.ins ρ)):=by
 split at h
 ·rename_i e;have:=qcc hM e;rw[if_pos (by omega)];exact qvn hM hW h
 ·split at h
  ·rename_i e;have:=qcc hM e;rw[if_neg (by omega)];exact qvn hM hW h
  ·cases h;by_cases hlt:nv ρ a<nv ρ b
   ·rw[if_pos hlt];exact qjD hM hW (zzr ..) rfl (λf hf=>by rw[zzH.1 hf];exact qeS (by omega)) (λf hf=>by rw[zzH.1 hf];exact⟨ha,hb⟩)
   ·rw[if_neg hlt];exact qjD hM hW (zzi _ (zzr ..)) rfl (λf hf=>by rw[zzH.1 hf];exact qeS (by omega)) (λf hf=>by rw[zzH.1 hf];exact⟨hb,ha⟩)
def qxE(hM:Mod d V σ ρ)(hW:σ.wf){x y:Nat×Int}(hx:x.1<σ.G.length)(hy:y.1<σ.G.length){n:CO}{l:CL (PV×AS)}
  (h:(if leq σ.fx x y 1||leq σ.fx y x 1 then tru σ n
  else some [(.d (.b (!n)),σ.add [fle x y 0,fle y x 0]),(.d (.b n),σ.add (if leq σ.fx x y 0 then [fle x y 1]else if leq σ.fx y x 0 then [fle y x 1]else []))])=some l) :
  qbP d V σ ρ l (some (.d (.b (if nv ρ x=nv ρ y then !n else n)),σ.H.ins ρ)):=by
 split at h
 ·rename_i e;have:nv ρ x≠nv ρ y:=by rcases Bool.or_eq_true _ _▸e with e|e<;>have:=qcc hM e<;>omega
  rw[if_neg this];exact qvn hM hW h
 ·cases h;by_cases he:nv ρ x=nv ρ y
  ·rw[if_pos he];refine qjD hM hW (zzr ..) rfl (λf hf=>?_) (λf hf=>?_)
   ·rcases List.mem_cons.1 hf with e|hf
    ·rw[e];exact qeS (by omega)
    ·rw[zzH.1 hf];exact qeS (by omega)
   ·rcases List.mem_cons.1 hf with e|hf
    ·rw[e];exact⟨hx,hy⟩
    ·rw[zzH.1 hf];exact⟨hy,hx⟩
  ·rw[if_neg he];refine qjD hM hW (zzi _ (zzr ..)) rfl (λf hf=>?_) (λf hf=>?_)
   ·split at hf
    ·rename_i e;have:=qcc hM e;rw[zzH.1 hf];exact qeS (by omega)
    ·split at hf
     ·rename_i e;have:=qcc hM e;rw[zzH.1 hf];exact qeS (by omega)
     ·cases hf
   ·split at hf
    ·rw[zzH.1 hf];exact⟨hx,hy⟩
    ·split at hf
     ·rw[zzH.1 hf];exact⟨hy,hx⟩
     ·cases hf
def qFf(hM:Mod d V σ ρ)(hW:σ.wf){op:BinOp}{k:IntKind}{x y:Nat×Int}(hx:x.1<σ.G.length)(hy:y.1<σ.G.length){l:CL (PV×AS)}(h:qrR σ op x y=some l) :
  ∃v,qch op k (nv ρ x) (nv ρ y)=some v/\qbP d V σ ρ l (some (.d v,σ.H.ins ρ)):=by
 unfold qrR at h;simp only at h;split at h
 ·refine⟨_,rfl,?_⟩;have:=qpP hM hW hx hy h;have e:decide (nv ρ x<nv ρ y)=(if nv ρ x<nv ρ y then !false else false):=by split<;>simp[*]
  rw[e];exact this
 ·refine⟨_,rfl,?_⟩;have:=qpP hM hW hy hx h;have e:decide (nv ρ x>nv ρ y)=(if nv ρ y<nv ρ x then !false else false):=by split<;>simp[*]
  rw[e];exact this
 ·refine⟨_,rfl,?_⟩;have:=qpP hM hW hx hy h;have e:decide (nv ρ x>=nv ρ y)=(if nv ρ x<nv ρ y then !true else true):=by split<;>simp<;>omega
  rw[e];exact this
 ·refine⟨_,rfl,?_⟩;have:=qpP hM hW hy hx h;have e:decide (nv ρ x<=nv ρ y)=(if nv ρ y<nv ρ x then !true else true):=by split<;>simp<;>omega
  rw[e];exact this
 ·refine⟨_,rfl,?_⟩;have:=qxE hM hW hx hy h;have e:(nv ρ x==nv ρ y)=(if nv ρ x=nv ρ y then !false else false):=by split<;>simp[*]
  rw[e];exact this
 ·refine⟨_,rfl,?_⟩;have:=qxE hM hW hx hy h;have e:(nv ρ x != nv ρ y)=(if nv ρ x=nv ρ y then !true else true):=by split<;>simp[*]
  rw[e];exact this
 ·cases h
end
section
variable {d:Nat}{ρ ρ':Nat->DV}{V:Nat->Cy->CG}{σ:AS}
def qvA{n:Int}:(Lit.int .i64 n).wf=true↔-9223372036854775808<=n/\n<=9223372036854775807:=by simp[Lit.wf,IntKind.min,IntKind.max,IntKind.signed,IntKind.bits]
def qe7(k:IntKind)(n:Int):(Lit.int k (k.wrap n)).wf=true:=by cases k<;>simp[Lit.wf,IntKind.wrap,IntKind.min,IntKind.max,IntKind.signed,IntKind.bits]<;>(try split)<;>omega
def qp0{x:Nat×Int}{xs:Cy}(hx:x.1<σ.G.length):nv (upn ρ σ.G.length xs) x=nv ρ x:=by unfold nv;rw[qiq hx]
def qAP{k:IntKind}{n:Int}:nv (upn ρ σ.G.length [.i k n]) (σ.G.length,0)=n:=by unfold nv;have:upn ρ σ.G.length [.i k n] σ.G.length=.i k n:=qej (i:=0) rfl;simp only;rw[this];simp[vI]
def qeg(hM:Mod d V σ ρ)(c:Int):nv ρ (0,c)=c:=by unfold nv;rw[hM.z];simp[vI]
def qR8{k:IntKind}{a b:Int}(h:(Lit.int k a).wf=true):(Lit.int k (a.tmod b)).wf=true:=by
 have h1:(a.tmod b).natAbs<=a.natAbs:=by rw[Int.natAbs_tmod];exact Nat.mod_le _ _
 have h2:0<=a->0<=a.tmod b:=λha=>Int.tmod_nonneg _ ha;have h3:a<=0->a.tmod b<=0:=λha=>by have e:(-a).tmod b=-(a.tmod b):=Int.neg_tmod ..;have:=Int.tmod_nonneg (a:=-a) b (by omega);omega
 cases k<;>simp[Lit.wf,IntKind.min,IntKind.max,IntKind.signed,IntKind.bits]at h⊢ <;> omega
def qzZ(hM:Mod d V σ ρ)(hW:σ.wf){k:IntKind}{x y:Nat×Int}(hx:x.1<σ.G.length)(m:Int){l:CL (PV×AS)}{c1 c2:Int}
  (hy:Nat.beq y.1 0=true->m=nv ρ x+c1/\c2=-c1)
  (h:qcZ σ k (if decide (k=.i64)&&Nat.beq y.1 0&&leq σ.fx x (0,qe0) c1&&leq σ.fx (0,-qe0) x c2 then [fle x (σ.G.length,0) c1,fle (σ.G.length,0) x c2]else [])=some l) :
  qbP d V σ ρ l (some (.d (.i k (k.wrap m)),σ.H.ins ρ)):=by
 have hb:∀f∈[fle x (σ.G.length,0) c1,fle (σ.G.length,0) x c2],f.1<σ.G.length+1/\f.2.1<σ.G.length+1:=by
  intro f hf;rcases List.mem_cons.1 hf with e|hf
  ·rw[e];exact⟨Nat.lt_succ_of_lt hx,Nat.lt_succ_self _⟩
  ·rw[zzH.1 hf];exact⟨Nat.lt_succ_self _,Nat.lt_succ_of_lt hx⟩
 split at h
 ·rename_i e;simp only[zzf,zzq]at e;obtain⟨⟨⟨e1,e2⟩,e3⟩,e4⟩:=e;subst e1;obtain⟨h1,h2⟩:=hy e2;have h3:=qcc hM e3;have h4:=qcc hM e4;rw[qeg hM]at h3 h4;have hmx:qe0=9223372036854775807:=rfl;have hw:IntKind.i64.wrap m=m:=by rw[IntKind.wrap_i64];omega
  rw[hw];refine qc0 hM hW h (qvA.2 (by omega)) (λf hf=>?_) hb;rcases List.mem_cons.1 hf with e|hf
  ·rw[e];refine qeS ?_;rw[qp0 hx,qAP];omega
  ·rw[zzH.1 hf];refine qeS ?_;rw[qp0 hx,qAP];omega
 ·exact qc0 hM hW h (qe7 _ _) (λf hf=>by cases hf) (λf hf=>by cases hf)
def qEx{n:Nat}(h:Nat.beq n 0=true):n=0:=zzy h
def qEp(hM:Mod d V σ ρ)(hW:σ.wf){op:BinOp}{k:IntKind}{x y:Nat×Int}(hx:x.1<σ.G.length)(hw:(Lit.int k (nv ρ x)).wf=true){l:CL (PV×AS)}(h:qrx σ op k x y=some l) :
  ∃v,qch op k (nv ρ x) (nv ρ y)=some v/\qbP d V σ ρ l (some (.d v,σ.H.ins ρ)):=by
 have hy0:Nat.beq y.1 0=true->nv ρ y=y.2:=by
  intro e;have:y=(0,y.2):=by rw[<-qEx e]
  rw[this,qeg hM]
 unfold qrx at h;simp only at h;split at h
 ·refine⟨_,rfl,qzZ hM hW hx _ (λe=>⟨by rw[hy0 e],by omega⟩) h⟩
 ·refine⟨_,rfl,qzZ hM hW hx _ (c1:=0-y.2) (c2:=y.2) (λe=>⟨by rw[hy0 e];omega,by omega⟩) h⟩
 ·exact⟨_,rfl,qc0 hM hW h (qe7 _ _) (λf hf=>by cases hf) (λf hf=>by cases hf)⟩
 ·exact⟨_,rfl,qc0 hM hW h (qe7 _ _) (λf hf=>by cases hf) (λf hf=>by cases hf)⟩
 ·exact⟨_,rfl,qc0 hM hW h (qe7 _ _) (λf hf=>by cases hf) (λf hf=>by cases hf)⟩
 ·exact⟨_,rfl,qc0 hM hW h (qe7 _ _) (λf hf=>by cases hf) (λf hf=>by cases hf)⟩
 ·exact⟨_,rfl,qc0 hM hW h (qe7 _ _) (λf hf=>by cases hf) (λf hf=>by cases hf)⟩
 ·split at h
  ·rename_i e;simp only[zzf,Bool.not_eq_true',zzE]at e;have h1:=hy0 e.1;refine⟨.i k (k.wrap ((nv ρ x).tdiv (nv ρ y))),by simp only[qch];rw[if_neg (by rw[h1];exact e.2)],?_⟩;split at h
   ·rename_i e2;simp only[zzf,zzq]at e2;obtain⟨⟨e3,e4⟩,e5⟩:=e2;subst e5;have h4:=qcc hM e4;unfold z0 at h4;rw[qeg hM]at h4;refine qc0 hM hW h (qe7 _ _) (λf hf=>?_) (λf hf=>by rw[zzH.1 hf];exact⟨by simp,Nat.lt_succ_self _⟩);rw[zzH.1 hf];have h6:=qvA.1 hw;have h7:0<=(nv ρ x).tdiv (nv ρ y):=Int.tdiv_nonneg (by omega) (by omega);have h8:(nv ρ x).tdiv (nv ρ y)<=nv ρ x:=by rw[Int.tdiv_eq_ediv_of_nonneg (by omega)];exact Int.ediv_le_self _ (by omega)
    have h9:IntKind.i64.wrap ((nv ρ x).tdiv (nv ρ y))=(nv ρ x).tdiv (nv ρ y):=by rw[IntKind.wrap_i64];omega
    show vI (upn ρ _ _ 0)+0<=vI (upn ρ _ _ σ.G.length);have e1:upn ρ σ.G.length [.i .i64 (IntKind.i64.wrap ((nv ρ x).tdiv (nv ρ y)))] σ.G.length=.i .i64 (IntKind.i64.wrap ((nv ρ x).tdiv (nv ρ y))):=qej (i:=0) rfl;rw[e1,qiq hW.z,hM.z,h9];simp only[vI];omega
   ·exact qc0 hM hW h (qe7 _ _) (λf hf=>by cases hf) (λf hf=>by cases hf)
  ·cases h
 ·split at h
  ·rename_i e;simp only[zzf,Bool.not_eq_true',zzE]at e;have h1:=hy0 e.1;have hr:(Lit.int k ((nv ρ x).tmod (nv ρ y))).wf=true:=qR8 hw;refine⟨.i k ((nv ρ x).tmod (nv ρ y)),by simp only[qch];rw[if_neg (by rw[h1];exact e.2)],?_⟩;split at h
   ·rename_i e2;simp only[zzf,zzq]at e2;obtain⟨⟨e3,e4⟩,e5⟩:=e2;have h4:=qcc hM e4;unfold z0 at h4;rw[qeg hM]at h4;have h7:0<=(nv ρ x).tmod (nv ρ y):=Int.tmod_nonneg _ (by omega);have h8:(nv ρ x).tmod (nv ρ y)<nv ρ y:=Int.tmod_lt_of_pos _ (by omega);have e1:upn ρ σ.G.length [.i k ((nv ρ x).tmod (nv ρ y))] σ.G.length=.i k ((nv ρ x).tmod (nv ρ y)):=qej (i:=0) rfl;refine qc0 hM hW h hr (λf hf=>?_) (λf hf=>?_)
    ·rcases List.mem_cons.1 hf with e|hf
     ·rw[e];show vI (upn ρ _ _ 0)+0<=vI (upn ρ _ _ σ.G.length);rw[e1,qiq hW.z,hM.z];simp only[vI];omega
     ·rw[zzH.1 hf];show vI (upn ρ _ _ σ.G.length)+(1-y.2)<=vI (upn ρ _ _ 0);rw[e1,qiq hW.z,hM.z];simp only[vI];omega
    ·rcases List.mem_cons.1 hf with e|hf
     ·rw[e];exact⟨by simp,Nat.lt_succ_self _⟩
     ·rw[zzH.1 hf];exact⟨Nat.lt_succ_self _,by simp⟩
   ·exact qc0 hM hW h hr (λf hf=>by cases hf) (λf hf=>by cases hf)
  ·cases h
 ·cases h
end
section
variable {d:Nat}{ρ ρ':Nat->DV}{V:Nat->Cy->CG}{σ:AS}
def qiT(hM:Mod d V σ ρ)(hW:σ.wf){t f:CL Fact}{l:CL (PV×AS)}(h:qmF σ t f=some l)(b:CO)(ht:b=true->∀x∈t,Fact.ok ρ x)(hf:b=false->∀x∈f,Fact.ok ρ x)(bt:∀x∈t,x.1<σ.G.length/\x.2.1<σ.G.length)(bf:∀x∈f,x.1<σ.G.length/\x.2.1<σ.G.length):qbP d V σ ρ l (some (.d (.b b),σ.H.ins ρ)):=by
 cases h;cases b with
 |true=>exact qjD hM hW (zzr ..) rfl (ht rfl) bt
 |false=>exact qjD hM hW (zzi _ (zzr ..)) rfl (hf rfl) bf
def tv(ρ:Nat->DV)(x:CK Nat×CB):CB:=match x.1 with
 |some m=>match ρ m with|.s l=>l|_=>[]
 |none=>x.2
def qk4(hM:Mod d V σ ρ){v:PV}{x:CK Nat×CB}(h:opS σ.G v=some x):v.ins ρ=.d (.s (tv ρ x))/\(∀m,x.1=some m->m<σ.G.length/\ρ m=.s (tv ρ x)):=by
 unfold opS at h;split at h
 ·cases h;exact⟨rfl,λm e=>by cases e⟩
 ·rename_i m;split at h
  ·rename_i e;cases h;obtain⟨l,h1,_⟩:=hM.ty m _ e;have e1:tv ρ (some m,[])=l:=by unfold tv;simp only;rw[h1]
   rw[e1];refine⟨congrArg PV.d h1,λk hk=>?_⟩;cases hk;exact⟨(zzk.1 e).1,h1⟩
  ·cases h
 ·cases h
def qAM{l:CB}:(l==[])=true↔(l.length:Int)=0:=by cases l<;>simp<;>omega
def qFG(hM:Mod d V σ ρ)(hW:σ.wf):∀(x y:CK Nat×CB),(∀m,x.1=some m->m<σ.G.length/\ρ m=.s (tv ρ x))->(∀m,y.1=some m->m<σ.G.length/\ρ m=.s (tv ρ y))->
  ((tv ρ x==tv ρ y)=true->∀a∈(emF x y).1,Fact.ok ρ a)/\((tv ρ x==tv ρ y)=false->∀a∈(emF x y).2,Fact.ok ρ a)/\(∀a∈(emF x y).1,a.1<σ.G.length/\a.2.1<σ.G.length)/\(∀a∈(emF x y).2,a.1<σ.G.length/\a.2.1<σ.G.length):=by
 have no:∀(P:Fact->Prop),∀a∈([]:CL Fact),P a:=λP a ha=>by cases ha
 have one:∀(m:Nat) (l:CB) (b:CO),m<σ.G.length->ρ m=.s l->((l==[])=b)->
   (b=true->∀a∈[((m,0,0):Fact)],Fact.ok ρ a)/\(b=false->∀a∈[((0,m,1):Fact)],Fact.ok ρ a)/\(∀a∈[((m,0,0):Fact)],a.1<σ.G.length/\a.2.1<σ.G.length)/\(∀a∈[((0,m,1):Fact)],a.1<σ.G.length/\a.2.1<σ.G.length):=by
  intro m l b h1 h2 hb;refine⟨λe a ha=>?_,λe a ha=>?_,λa ha=>?_,λa ha=>?_⟩<;>rw[zzH.1 ha]
  ·unfold Fact.ok;simp only;rw[h2,hM.z];have:=qAM.1 (hb.trans e);simp only[vI];omega
  ·unfold Fact.ok;simp only;rw[h2,hM.z];have:¬(l.length:Int)=0:=λc=>by rw[qAM.2 c]at hb;rw[<-hb]at e;cases e
   simp only[vI];omega
  ·exact⟨h1,hW.z⟩
  ·exact⟨hW.z,h1⟩
 have es:∀l:CB,(([]:CB)==l)=(l==[]):=λl=>by cases l<;>rfl
 rintro⟨x1,x2⟩ ⟨y1,y2⟩ hx hy;match x1,x2,y1,y2,hx,hy with
 |some m,x2,none,[],hx,_=>obtain⟨h1,h2⟩:=hx m rfl;exact one m _ _ h1 h2 rfl
 |none,[],some m,y2,_,hy=>obtain⟨h1,h2⟩:=hy m rfl;exact one m _ _ h1 h2 (es _).symm
 |none,[],none,[],_,_=>exact⟨λ_=>no _,λ_=>no _,no _,no _⟩
 |none,[],none,_::_,_,_=>exact⟨λ_=>no _,λ_=>no _,no _,no _⟩
 |none,_::_,none,[],_,_=>exact⟨λ_=>no _,λ_=>no _,no _,no _⟩
 |none,_::_,none,_::_,_,_=>exact⟨λ_=>no _,λ_=>no _,no _,no _⟩
 |some _,_,some _,_,_,_=>exact⟨λ_=>no _,λ_=>no _,no _,no _⟩
 |some _,_,none,_::_,_,_=>exact⟨λ_=>no _,λ_=>no _,no _,no _⟩
 |none,_::_,some _,_,_,_=>exact⟨λ_=>no _,λ_=>no _,no _,no _⟩
def qFg(hM:Mod d V σ ρ)(hW:σ.wf){op:BinOp}{vx vy:PV}{x y:CK Nat×CB}(hx:opS σ.G vx=some x)(hy:opS σ.G vy=some y){l:CL (PV×AS)}(h:qrS σ op x y=some l) :
  ∃v,qks op (tv ρ x) (tv ρ y)=some v/\qbP d V σ ρ l (some (.d v,σ.H.ins ρ)):=by
 obtain⟨k1,k2,k3,k4⟩:=qFG hM hW x y (qk4 hM hx).2 (qk4 hM hy).2;have no:∀a∈([]:CL Fact),a.1<σ.G.length/\a.2.1<σ.G.length:=λa ha=>by cases ha
 have no':∀a∈([]:CL Fact),Fact.ok ρ a:=λa ha=>by cases ha
 unfold qrS at h;simp only at h;split at h
 ·exact⟨_,rfl,qiT hM hW h _ k1 k2 k3 k4⟩
 ·refine⟨_,rfl,qiT hM hW h _ (λe=>k2 ?_) (λe=>k1 ?_) k4 k3⟩
  ·cases c:(tv ρ x==tv ρ y)with
   |false=>rfl
   |true=>rw[c]at e;cases e
  ·cases c:(tv ρ x==tv ρ y)with
   |true=>rfl
   |false=>rw[c]at e;cases e
 ·exact⟨_,rfl,qiT hM hW h _ (λ_=>no') (λ_=>no') no no⟩
 ·exact⟨_,rfl,qiT hM hW h _ (λ_=>no') (λ_=>no') no no⟩
 ·exact⟨_,rfl,qiT hM hW h _ (λ_=>no') (λ_=>no') no no⟩
 ·exact⟨_,rfl,qiT hM hW h _ (λ_=>no') (λ_=>no') no no⟩
 ·cases h
end
section
variable {d:Nat}{ρ ρ':Nat->DV}{V:Nat->Cy->CG}{σ:AS}
def qxD(hM:Mod d V σ ρ)(hW:σ.wf):∀(ks:CF) (xs ys:Cy),eqT σ.G ks xs ys=true->∃b,eqL ks (DV.Ak ρ xs) (DV.Ak ρ ys)=some b
 |[],[],[],_=>⟨true,rfl⟩
 |k::ks,x::xs,y::ys,h=>by
  unfold eqT at h;rw[zzf]at h;obtain⟨b,hb⟩:=qxD hM hW ks xs ys h.2;have h1:=h.1;have:∃c,eqK k (x.ins ρ) (y.ins ρ)=some c:=by
   split at h1
   ·split at h1
    ·rename_i a b ea eb;have:=of_decide_eq_true h1;obtain⟨k1,x1⟩:=a;obtain⟨k2,x2⟩:=b;simp only at this;subst this;have e1:=(qeh hM hW ea).1;have e2:=(qeh hM hW eb).1;simp only[PV.ins,PV.d.injEq]at e1 e2;rw[e1,e2];exact⟨_,if_pos rfl⟩
    ·cases h1
   ·rw[zzf]at h1;obtain⟨a,ea⟩:=qh3 hM.ty .b x h1.1;obtain⟨b,eb⟩:=qh3 hM.ty .b y h1.2;rw[ea,eb];exact⟨_,rfl⟩
   ·rw[zzf]at h1;obtain⟨a,ea,_⟩:=qh3 hM.ty .s x h1.1;obtain⟨b,eb,_⟩:=qh3 hM.ty .s y h1.2;rw[ea,eb];exact⟨_,rfl⟩
   ·cases h1
  obtain⟨c,hc⟩:=this;refine⟨c&&b,?_⟩;rw[DV.Ak,DV.Ak,eqL,hc,hb]
 |[],[],_::_,h|[],_::_,_,h|_::_,[],_,h|_::_,_::_,[],h=>by simp[eqT]at h
def qtg(hM:Mod d V σ ρ)(hW:σ.wf){n:Nat}{s:CO}{H:CW}{l:CL (PV×AS)}{t:TA}(ht:σ.G[n]? = some t)(hs:(s=true/\t=.s)\/(s=false/\((∃m,t=.e m)\/∃k m ts,t=.l k m ts)))(h:qcZ σ .i64 [(n,σ.G.length,0),(σ.G.length,n,0)]=some l) :
  ∃m,qbZ H s (.d (ρ n))=some m/\qbP d V σ ρ l (some (.d (.i .i64 m),σ.H.ins ρ)):=by
 have hn:=(zzk.1 ht).1;have hy:=hM.ty n t ht;have key:∃m:Nat,qbZ H s (.d (ρ n))=some m/\vI (ρ n)=m/\m<=maxLen:=by
  rcases hs with ⟨e1,e2⟩|⟨e1,⟨m,e2⟩|⟨k,mx,ts,e2⟩⟩
  ·subst e1;subst e2;obtain⟨x,e,hl⟩:=hy;rw[e];exact⟨x.length,rfl,rfl,hl⟩
  ·subst e1;subst e2;have:XT d 0 (ρ n):=qot (zzK m) hy;obtain⟨k,hk⟩:=this;cases k with
   |zero=>have e:ρ n=.l (some 4) [] false:=hk;rw[e];exact⟨0,rfl,rfl,zzK _⟩
   |succ k=>obtain⟨es,e,hl,_⟩:=hk;rw[e];exact⟨es.length,rfl,rfl,by unfold qbt at hl;have:maxLen=9223372036854775807:=rfl;omega⟩
  ·subst e1;subst e2;obtain⟨es,t,e,hl,_⟩:=hy;rw[e];exact⟨es.length,rfl,rfl,hl⟩
 obtain⟨m,h1,h2,h3⟩:=key;have hm:(maxLen:Int)=9223372036854775807:=by decide
 have e1:upn ρ σ.G.length [.i .i64 m] σ.G.length=.i .i64 m:=qej (i:=0) rfl;refine⟨m,h1,qc0 hM hW h (qvA.2 (by omega)) (λf hf=>?_) (λf hf=>?_)⟩
 ·rcases List.mem_cons.1 hf with e|hf
  ·rw[e];unfold Fact.ok;simp only;rw[e1,qiq hn,h2];simp[vI]
  ·rw[zzH.1 hf];unfold Fact.ok;simp only;rw[e1,qiq hn,h2];simp[vI]
 ·rcases List.mem_cons.1 hf with e|hf
  ·rw[e];exact⟨Nat.lt_succ_of_lt hn,Nat.lt_succ_self _⟩
  ·rw[zzH.1 hf];exact⟨Nat.lt_succ_self _,Nat.lt_succ_of_lt hn⟩
def qEI(hM:Mod d V σ ρ)(hW:σ.wf){s:CB}{i:Int}(h0:0<=i)(h1:i<s.length){l:CL (PV×AS)}(h:qcZ σ .u8 []=some l) :
  ∃b,s[i.toNat]? = some b/\qbP d V σ ρ l (some (.d (.i .u8 (b.toNat:Int)),σ.H.ins ρ)):=by
 have hi:i.toNat<s.length:=by omega
 refine⟨s[i.toNat],zze hi,qc0 hM hW h ?_ (λf hf=>by cases hf) (λf hf=>by cases hf)⟩;have:=s[i.toNat].toNat_lt;simp[Lit.wf,IntKind.min,IntKind.max,IntKind.signed,IntKind.bits];omega
end
section
variable {d:Nat}{ρ ρ':Nat->DV}{V:Nat->Cy->CG}{σ:AS}
def qrK(hM:Mod d V σ ρ)(hW:σ.wf){ts:CL TA}{cs:Cy}(hc:HsL d ts cs){k:K}{e:DV}(he:mkD k cs=some e){l:CL (PV×AS)}{v:DV}{c:Nat}
  (hl:(PV.q v k c,σ.news ts)∈l) (hv:(k=none/\ts.length=1/\v=.tok σ.G.length)\/(∃m,k=some m/\v=.a (qc2 σ.G.length ts))) :
  qbP d V σ ρ l (some (.q e k c,σ.H.ins ρ)):=by
 have hM':=qpX hM hW hc;have hn:=qk1 (σ:=σ) ts;have hlen:=qn3 hc;have e3:σ.H.ins (upn ρ σ.G.length cs)=σ.H.ins ρ:=congrArg St.H (hW.st _ _ hM.sc hM'.sc (qip _ _));have tk:∀(ρ1 ρ2:Nat->DV) (us:CL TA) (n:Nat),n+us.length<=(σ.news ts).G.length->Agr (σ.news ts).G.length ρ1 ρ2->DV.Ak ρ2 (qc2 n us)=DV.Ak ρ1 (qc2 n us):=by
  intro ρ1 ρ2 us;induction us with
  |nil=>intro n _ _;rfl
  |cons u us ih=>intro n hn a;rw[zzn]at hn;rw[qc2,DV.Ak,DV.Ak,ih (n+1) (by omega) a];have:ρ2 n=ρ1 n:=a n (by omega);show ρ2 n::_=ρ1 n::_;rw[this]
 refine⟨_,hl,upn ρ σ.G.length cs,⟨qip _ _,hM',qpY hW _,rfl,by show σ.G.length<=(σ.news ts).G.length;omega,λρ1 ρ2 _ _ a=>?_⟩,?_⟩
 ·rcases hv with ⟨_,h1,e1⟩|⟨m,_,e1⟩
  ·subst e1;show PV.q (ρ2 _) _ _=PV.q (ρ1 _) _ _;rw[a σ.G.length (by show σ.G.length<(σ.news ts).G.length;omega)]
  ·subst e1;show PV.q (.a (DV.Ak ρ2 _)) _ _=PV.q (.a (DV.Ak ρ1 _)) _ _;rw[tk ρ1 ρ2 ts σ.G.length (by omega) a]
 ·show _=some (PV.q (v.ins _) k c,Heap.ins _ σ.H);rw[e3];rcases hv with ⟨e0,h1,e1⟩|⟨m,e0,e1⟩
  ·subst e0;subst e1
   match cs,he,hc with
   |[x],he,_=>
    have hxe:x=e:=by simpa[mkD]using he
    have:upn ρ σ.G.length [x] σ.G.length=x:=qej (i:=0) rfl;show _=some (PV.q (upn ρ σ.G.length [x] σ.G.length) none c,_);rw[this,hxe]
  ·subst e0;subst e1;have:DV.Ak (upn ρ σ.G.length cs) (qc2 σ.G.length ts)=cs:=by have:=qyG (ρ:=ρ) (xs:=cs) ts σ.G.length 0 (by omega);simpa using this
   have he':e=.a cs:=by
    simp only[mkD]at he;split at he
    ·cases he;rfl
    ·cases he
   show _=some (PV.q (.a (DV.Ak _ _)) _ _,_);rw[this,he']
def qGW{n:Int}{m:Nat}(h0:0<=n)(h1:n<m):inR n m=some n.toNat:=by unfold inR;rw[if_pos ⟨h0,h1⟩]
def iad{H:CW}{k k':K}{kd:IntKind}{es:Cy}{t:CO}{i:Int}{e:DV}(h0:0<=i)(h1:i<es.length)(he:es[i.toNat]? = some e)(hk:K.eq k k'=true):AJ H k (.d (.l k' es t)) (.d (.i kd i))=some (.q e k 0):=by have:k=k':=Keq hk;subst this;simp only[AJ,asI,qGW h0 h1,he,hk,if_true]
end
section
variable {d:Nat}{ρ ρ':Nat->DV}{V:Nat->Cy->CG}{σ:AS}
def qOb(hM:Mod d V σ ρ)(hW:σ.wf){t:TA}{x:DV}(hx:Hs d t x){fs:CL Fact}{l:CL (PV×AS)}(hl:(PV.d (.tok σ.G.length),(σ.news [t]).add fs)∈l)(hf:∀f∈fs,Fact.ok (upn ρ σ.G.length [x]) f)(hb:∀f∈fs,f.1<σ.G.length+1/\f.2.1<σ.G.length+1):qbP d V σ ρ l (some (.d x,σ.H.ins ρ)):=by
 have hL:HsL d [t] [x]:=⟨hx,trivial⟩;have hM':=qpX hM hW hL;have hn:(σ.news [t]).G.length=σ.G.length+1:=qk1 _;refine⟨_,hl,upn ρ σ.G.length [x],⟨qip _ _,qrs hM' hf,qrt (qpY hW _) (by rw[hn];exact hb),rfl,?_,λρ1 ρ2 _ _ a=>?_⟩,?_⟩
 ·show σ.G.length<=(σ.news [t]).G.length;omega
 ·show PV.d (ρ2 σ.G.length)=PV.d (ρ1 σ.G.length);rw[a σ.G.length (by show σ.G.length<(σ.news [t]).G.length;omega)]
 ·show _=some (PV.d (upn ρ σ.G.length [x] σ.G.length),Heap.ins _ σ.H);have e1:upn ρ σ.G.length [x] σ.G.length=x:=qej (i:=0) rfl;have e3:σ.H.ins (upn ρ σ.G.length [x])=σ.H.ins ρ:=congrArg St.H (hW.st _ _ hM.sc hM'.sc (qip _ _));rw[e1,e3]
def qQg{k:K}{m:Nat}{ts:CL TA}{es:Cy}{t u:CO}{i:Nat}(h:Hs d (.l k m ts) (.l k es t)):Hs d (.l k m ts) (.l k (es.take i) u):=by obtain⟨es',t',e,hl,hm,he⟩:=h;cases e;exact⟨_,_,rfl,by rw[zzI];omega,by rw[zzI];omega,λe hm=>he e (List.mem_of_mem_take hm)⟩
end
section
variable {d:Nat}{ρ ρ':Nat->DV}
def qyF{xs:Cy}:∀(ts:CL TA) (n k:Nat),ts.length+k<=xs.length->DV.Ak (upn ρ n xs) (qc2 (n+k) ts)=(xs.drop k).take ts.length
 |[],n,k,h=>by rw[List.length_nil,List.take_zero];rfl
 |t::ts,n,k,h=>by
  have hk:k<xs.length:=by rw[zzn]at h;omega
  rw[qc2,DV.Ak,show n+k+1=n+(k+1)by omega,qyF ts n (k+1) (by rw[zzn]at h;omega)];rw[DV.ins,qej (zze hk),zzn,<-List.getElem_cons_drop hk,List.take_succ_cons]
def qvV:∀{ts us:CL TA} {xs ys:Cy},HsL d ts xs->HsL d us ys->HsL d (ts++us) (xs++ys)
 |[],_,[],_,_,h=>h
 |t::ts,us,x::xs,ys,h1,h2=>⟨h1.1,qvV h1.2 h2⟩
 |[],_,_::_,_,h,_=>h.elim
 |_::_,_,[],_,h,_=>h.elim
def qug:∀(res:CL (K×CL TA)) (vs:Cy),qbO d res vs->∃css,HsL d (qdg res) css/\∀(ρ:Nat->DV) (n:Nat) (pre:Cy),PV.Ak (upn ρ n (pre++css)) (qcB (n+pre.length) res)=vs.map .d
 |[],[],_=>⟨[],trivial,λ_ _ _=>rfl⟩
 | (k,ts)::res,v::vs,h=>by
  obtain⟨⟨cs,h1,h2⟩,h3⟩:=h;obtain⟨css,h4,h5⟩:=qug res vs h3;have hl:ts.length=cs.length:=qn3 h2;refine⟨cs++css,qvV h2 h4,λρ n pre=>?_⟩;have e1:PV.Ak (upn ρ n (pre++(cs++css))) (qcB (n+pre.length+ts.length) res)=vs.map .d:=by have:=h5 ρ n (pre++cs);rw[zzp,zzM,<-hl]at this;rwa [show n+pre.length+ts.length=n+(pre.length+ts.length)by omega]
  unfold qcB;rw[PV.Ak,e1,zzu];congr 1;have e2:DV.Ak (upn ρ n (pre++(cs++css))) (qc2 (n+pre.length) ts)=cs:=by rw[qyF ts n pre.length (by rw[zzp,zzp];omega),List.drop_left,hl,List.take_left]
  cases k with
  |none=>
   match cs,ts,h1,hl,e2 with
   |[x],[t],h1,_,e2=>
    have hx:x=v:=by simpa[mkD]using h1
    have:[(DV.tok (n+pre.length)).ins (upn ρ n (pre++([x]++css)))]=[x]:=e2;show PV.d _=PV.d v;rw[<-hx];exact congrArg PV.d (List.cons.inj this).1
  |some m=>
   have hv:v=.a cs:=by
    simp only[mkD]at h1;split at h1
    ·cases h1;rfl
    ·cases h1
   show PV.d (.a (DV.Ak _ _))=_;rw[e2,hv]
 |[],_::_,h=>h.elim
 |_::_,[],h=>h.elim
end
section
variable {d:Nat}{ρ ρ':Nat->DV}{V:Nat->Cy->CG}{σ:AS}{E:Env}{id:Nat}{r:Ab->PV}
def qdl(d:Nat)(V:Nat->Cy->CG)(S:CL (Nat×Sg)):Prop:=∀f g,qkW f S=some g->∀ds,qbO d g.args ds->∃vs own,V f ds=some (qbi (vs.map .d),own)/\qbO d g.res vs
def qwG{op:BinOp}{k:IntKind}{a b:Int}{v:DV}(h:qch op k a b=some v):qaL op (.d (.i k a)) (.d (.i k b))=some v:=by cases op<;>first|(simp only[qch]at h;cases h;done)|(simp only[qaL,if_true];exact h)
def qEz{op:BinOp}{a b:CB}{v:DV}(h:qks op a b=some v):qaL op (.d (.s a)) (.d (.s b))=some v:=h
def qkt{a b:Nat}(h:Nat.blt a b=true):a<b:=by rw[Nat.blt_eq]at h;exact h
def qAi{a b:Nat}(h:a<b):Nat.blt a b=true:=by rw[Nat.blt_eq];exact h
mutual
def qoE{n:Nat}(a:Agr n ρ ρ'):∀v:DV,v.bnd n=true->v.ins ρ'=v.ins ρ
 |.tok m,h=>a m (qkt h)
 |.a cs,h=>by rw[DV.ins,DV.ins,qmD a cs h]
 |.l _ es _,h=>by rw[DV.ins,DV.ins,qmD a es h]
 |.ifc _ v,h=>by rw[DV.ins,DV.ins,qoE a v h]
 |.b _,_|.i _ _,_|.s _,_|.np,_|.nf,_|.ni,_|.nm,_=>rfl
def qmD{n:Nat}(a:Agr n ρ ρ'):∀l:Cy,DV.BC n l=true->DV.Ak ρ' l=DV.Ak ρ l
 |[],_=>rfl
 |v::vs,h=>by rw[DV.BC,zzf]at h;rw[DV.Ak,DV.Ak,qoE a v h.1,qmD a vs h.2]
end
mutual
def qjv{n:Nat}(a:Agr n ρ ρ'):∀v:PV,v.bnd n=true->v.ins ρ'=v.ins ρ
 |.d v,h=>by rw[PV.ins,PV.ins,qoE a v h]
 |.q v _ _,h=>by rw[PV.ins,PV.ins,qoE a v h]
 |.a cs,h=>by rw[PV.ins,PV.ins,qk5 a cs h]
 |.t cs,h=>by rw[PV.ins,PV.ins,qk5 a cs h]
 |.f _ cs,h=>by rw[PV.ins,PV.ins,qk5 a cs h]
 |.m _ cs,h=>by rw[PV.ins,PV.ins,qk5 a cs h]
 |.g v,h=>by rw[PV.ins,PV.ins,qjv a v h]
 |.w _ v,h=>by rw[PV.ins,PV.ins,qjv a v h]
 |.u,_|.r ..,_|.p ..,_|.h _,_=>rfl
def qk5{n:Nat}(a:Agr n ρ ρ'):∀l:Cz,PV.BC n l=true->PV.Ak ρ' l=PV.Ak ρ l
 |[],_=>rfl
 |v::vs,h=>by rw[PV.BC,zzf]at h;rw[PV.Ak,PV.Ak,qjv a v h.1,qk5 a vs h.2]
end
def qCC:∀(ts:CL TA) (n m:Nat),n+ts.length<=m->DV.BC m (qc2 n ts)=true
 |[],_,_,_=>rfl
 |t::ts,n,m,h=>by rw[zzn]at h;rw[qc2,DV.BC,qCC ts (n+1) m (by omega),Bool.and_true];exact qAi (by omega)
def quf:∀(res:CL (K×CL TA)) (vs:Cy),qbO d res vs->∀(n m:Nat),n+(qdg res).length<=m->PV.BC m (qcB n res)=true
 |[],[],_,_,_,_=>rfl
 | (k,ts)::res,v::vs,hk,n,m,h=>by
  obtain⟨⟨cs,h1,h2⟩,h3⟩:=hk;have hl:=qn3 h2;rw[qdg,zzp]at h;unfold qcB;rw[PV.BC,quf res vs h3 _ m (by omega),Bool.and_true];cases k with
  |none=>
   match cs,h1 with
   |[x],_=>exact qAi (by simp at hl;omega)
  |some _=>exact qCC ts n m (by omega)
 |[],_::_,h,_,_,_=>h.elim
 |_::_,[],h,_,_,_=>h.elim
def qA4(l:Cz):(qbi l).ins ρ=qbi (PV.Ak ρ l):=by
 match l with
 |[]=>rfl
 |[v]=>rfl
 |_::_::_=>rfl
def qOp{l:Cz}{n:Nat}(h:PV.BC n l=true):(qbi l).bnd n=true:=by
 match l,h with
 |[],_=>rfl
 |[v],h=>rw[PV.BC,zzf]at h;exact h.1
 |_::_::_,h=>exact h
def qBu(H:CW):∀ds:Cy,qaN H (ds.map .d)=some (ds,[])
 |[]=>rfl
 |x::ds=>by simp only[List.map,qaN,pur,qaW];rw[qBu H ds];rfl
def qyg:∀{cs:CL (Nat×Cy×PV)} {f:Nat} {ds:Cy} {v:PV},qmX cs f ds=some v->(f,ds,v)∈cs
 |[],_,_,_,h=>by cases h
 | (g,es,w)::r,f,ds,v,h=>by
  unfold qmX at h;split at h
  ·rename_i e;rw[zzf]at e;cases h;rw[zzy e.1,qi4 _ _ e.2];exact zzr ..
  ·exact zzi _ (qyg h)
def qEK(hM:Mod d V σ ρ)(hW:σ.wf){S:CL (Nat×Sg)}(hS:qdl d V S){f:Nat}{g:Sg}(hg:qkW f S=some g){ds:Cy}(hd:∀ρ1 ρ2,Sc ρ1->Sc ρ2->Agr σ.G.length ρ1 ρ2->DV.Ak ρ2 ds=DV.Ak ρ1 ds){l:CL (PV×AS)}
  (h:(match qmX σ.cs f ds with
   |some v=>some [(v,σ)]
   |none=>if qkO σ.G g.args ds then some [(qbi (qcB σ.G.length g.res),{ σ.news (qdg g.res)with cs:=(f,ds,qbi (qcB σ.G.length g.res))::σ.cs })]else none)=some l) :
  ∃v own,V f (DV.Ak ρ ds)=some (v,own)/\qbP d V σ ρ l (some (v,σ.H.ins ρ)):=by
 split at h
 ·rename_i v e;cases h;have hc:=qyg e;obtain⟨own,h1⟩:=hM.cs _ hc;refine⟨_,own,h1,_,zzH.2 rfl,ρ,⟨Agr.rfl',hM,hW,rfl,zzt _,λρ1 ρ2 s1 s2 a=>(hW.cs ρ1 ρ2 s1 s2 a _ hc).2⟩,rfl⟩
 ·split at h
  ·rename_i e;cases h;obtain⟨vs,own,h1,h2⟩:=hS f g hg _ (qsM hM.ty e);obtain⟨css,h3,h4⟩:=qug g.res vs h2;have hM':=qpX hM hW h3;have hn:=qk1 (σ:=σ) (qdg g.res);have e1:PV.Ak (upn ρ σ.G.length css) (qcB σ.G.length g.res)=vs.map .d:=by have:=h4 ρ σ.G.length [];simpa using this
   have e2:(qbi (qcB σ.G.length g.res)).ins (upn ρ σ.G.length css)=qbi (vs.map .d):=by rw[qA4,e1]
   have ha:Agr σ.G.length ρ (upn ρ σ.G.length css):=qip _ _;have e3:σ.H.ins (upn ρ σ.G.length css)=σ.H.ins ρ:=congrArg St.H (hW.st _ _ hM.sc hM'.sc ha);have hw:=qpY hW (qdg g.res);have hb:∀ρ1 ρ2,Agr (σ.news (qdg g.res)).G.length ρ1 ρ2->(qbi (qcB σ.G.length g.res)).ins ρ2=(qbi (qcB σ.G.length g.res)).ins ρ1:=by intro ρ1 ρ2 a;exact qjv a _ (qOp (quf _ _ h2 _ _ (by omega)))
   refine⟨_,own,h1,_,zzH.2 rfl,upn ρ σ.G.length css,⟨ha,⟨hM'.sc,hM'.ty,hM'.fx,hM'.z,λc hc=>?_⟩,⟨hw.st,λρ1 ρ2 s1 s2 a c hc=>?_,hw.fx,hw.z⟩,rfl,by show σ.G.length<=(σ.news (qdg g.res)).G.length;omega,λρ1 ρ2 _ _ a=>hb ρ1 ρ2 a⟩,?_⟩
   ·rcases List.mem_cons.1 hc with rfl|hc
    ·refine⟨own,?_⟩;show V f (DV.Ak (upn ρ σ.G.length css) ds)=_;rw[hd _ _ hM.sc hM'.sc ha,h1,e2]
    ·exact hM'.cs c hc
   ·rcases List.mem_cons.1 hc with rfl|hc
    ·exact⟨hd _ _ s1 s2 (a.le (by show σ.G.length<=(σ.news (qdg g.res)).G.length;omega)),hb ρ1 ρ2 a⟩
    ·exact hw.cs ρ1 ρ2 s1 s2 a c hc
   ·rw[e2];exact congrArg (λx=>some (qbi (vs.map .d),x)) e3.symm
  ·cases h
end
section
variable {d:Nat}{ρ ρ':Nat->DV}{V:Nat->Cy->CG}{σ:AS}{E:Env}{id:Nat}{r:Ab->PV}{l:CL (PV × AS)}
abbrev qcf(d:Nat)(V:Nat->Cy->CG)(σ:AS)(ρ:Nat->DV)(l:CL (PV×AS))(E:Env)(r:Ab->PV)(id:Nat)(op:IOp):Prop:=qbP d V σ ρ l (qaa E (λx=>(r x).ins ρ) (σ.H.ins ρ) id op)
def qKn{mx:CO}{k:IntKind}{a b:Int}(ha:(Lit.int k a).wf=true)(hb:(Lit.int k b).wf=true):∃n,mm2 mx (.d (.i k a)) (.d (.i k b))=some (.d (.i k n))/\(Lit.int k n).wf=true:=by refine⟨(if mx=true then if b>a then b else a else if b<a then b else a),by simp only[mm2,if_true],?_⟩;split<;>split<;>assumption
def qPr(hM:Mod d V σ ρ)(hW:σ.wf){S:CL (Nat×Sg)}{op:BinOp}{x y:Ab}(h:qca S r σ (.bin op x y)=some l):qcf d V σ ρ l E r id (.bin op x y):=by
 simp only[qca]at h;simp only[qcf,qaa];split at h
 ·rename_i k a k' b e1 e2;obtain⟨h1,l1,w1⟩:=qeh hM hW e1;obtain⟨h2,l2,w2⟩:=qeh hM hW e2;split at h
  ·rename_i ek;subst ek;split at h
   ·rename_i l' e3;cases h;obtain⟨v,hv,ho⟩:=qFf hM hW (k:=k) l1 l2 e3;rw[h1,h2,qwG hv];exact ho
   ·obtain⟨v,hv,ho⟩:=qEp hM hW l1 w1 h;rw[h1,h2,qwG hv];exact ho
  ·cases h
 ·split at h
  ·rename_i a b e1 e2;obtain⟨v,hv,ho⟩:=qFg hM hW e1 e2 h;rw[(qk4 hM e1).1,(qk4 hM e2).1,qEz hv];exact ho
  ·cases h
def qPy(hM:Mod d V σ ρ)(hW:σ.wf){S:CL (Nat×Sg)}{mx:CO}{x y:Ab}(h:qca S r σ (.minmax mx [x,y])=some l):qcf d V σ ρ l E r id (.minmax mx [x,y]):=by
 simp only[qca]at h;simp only[qcf,qaa,List.map];split at h
 ·rename_i k a k' b e1 e2;obtain⟨h1,l1,w1⟩:=qeh hM hW e1;obtain⟨h2,l2,w2⟩:=qeh hM hW e2;split at h
  ·rename_i ek;subst ek;obtain⟨n,hn,hw⟩:=qKn (mx:=mx) w1 w2;simp only[mmA];rw[h1,h2,hn];exact qc0 hM hW h hw (λf hf=>by cases hf) (λf hf=>by cases hf)
  ·cases h
 ·cases h
def qPu(hM:Mod d V σ ρ)(hW:σ.wf){S:CL (Nat×Sg)}{neg:CO}{ks:CF}{x y:Ab}(h:qca S r σ (.eqv neg ks x y)=some l):qcf d V σ ρ l E r id (.eqv neg ks x y):=by
 simp only[qca]at h;simp only[qcf,qaa];split at h
 ·rename_i xs ys e1 e2;split at h
  ·rename_i e3;obtain⟨b,hb⟩:=qxD hM hW ks xs ys e3;rw[e1,e2];show qbP d V σ ρ l (match eqL ks (DV.Ak ρ xs) (DV.Ak ρ ys)with|some e=>_|none=>none);rw[hb];have no:∀f∈([]:CL Fact),f.1<σ.G.length/\f.2.1<σ.G.length:=λf hf=>by cases hf
   exact qiT hM hW h _ (λ_ f hf=>by cases hf) (λ_ f hf=>by cases hf) no no
  ·cases h
 ·cases h
def qPz(hM:Mod d V σ ρ)(hW:σ.wf){S:CL (Nat×Sg)}{x:Ab}(h:qca S r σ (.un .neg x)=some l):qcf d V σ ρ l E r id (.un .neg x):=by
 simp only[qca]at h;simp only[qcf,qaa];split at h
 ·rename_i k a e1;obtain⟨h1,l1,w1⟩:=qeh hM hW e1;rw[h1];exact qc0 hM hW h (qe7 _ _) (λf hf=>by cases hf) (λf hf=>by cases hf)
 ·cases h
def qPt(hM:Mod d V σ ρ)(hW:σ.wf){S:CL (Nat×Sg)}{k:IntKind}{x:Ab}(h:qca S r σ (.conv k x)=some l):qcf d V σ ρ l E r id (.conv k x):=by
 simp only[qca]at h;simp only[qcf,qaa];split at h
 ·rename_i a e1;obtain⟨h1,l1,w1⟩:=qeh hM hW e1;rw[h1];exact qc0 hM hW h (qe7 _ _) (λf hf=>by cases hf) (λf hf=>by cases hf)
 ·cases h
def qPx(hM:Mod d V σ ρ)(hW:σ.wf){S:CL (Nat×Sg)}{s:CO}{x:Ab}(h:qca S r σ (.len s x)=some l):qcf d V σ ρ l E r id (.len s x):=by
 simp only[qca]at h;simp only[qcf,qaa];split at h
 ·rename_i n e1;rw[e1];show qbP d V σ ρ l (match qbZ (σ.H.ins ρ) s (.d (ρ n))with|some n=>_|none=>none);split at h
  ·rename_i e2;obtain⟨m,h1,h2⟩:=qtg hM hW (H:=σ.H.ins ρ) e2 (.inl ⟨rfl,rfl⟩) h;rw[h1];exact h2
  ·rename_i m e2;obtain⟨m,h1,h2⟩:=qtg hM hW (H:=σ.H.ins ρ) e2 (.inr ⟨rfl,.inl ⟨_,rfl⟩⟩) h;rw[h1];exact h2
  ·rename_i k mx ts e2;obtain⟨m,h1,h2⟩:=qtg hM hW (H:=σ.H.ins ρ) e2 (.inr ⟨rfl,.inr ⟨_,_,_,rfl⟩⟩) h;rw[h1];exact h2
  ·cases h
 ·cases h
def qvE{m:Nat}(n:Nat)(x:DV)(hx:XD n x)(hk:∀k a,k<n->XD k a->Hs d (.e (match m with|0=>0|_=>2)) a):∃es t,x=.l (some 4) es t/\∀e∈es,∃cs,mkD (some 4) cs=some e/\HsL d (xTs m) cs:=by
 cases n with
 |zero=>exact⟨[],false,hx,λe he=>by cases he⟩
 |succ n=>obtain⟨es,e,_,he⟩:=hx;refine⟨es,false,e,λe hm=>?_⟩;obtain⟨o,q,s,a,h1,h2,h3,h4,h5⟩:=he e hm;exact⟨[.i .i64 o,.i .i64 q,.s s,a],by rw[h1];rfl,⟨o,rfl,h2⟩,⟨q,rfl,h3⟩,⟨s,rfl,h4⟩,hk n a (Nat.lt_succ_self n) h5,trivial⟩
def qSk{m:Nat}{x:DV}(h:XT d m x):∃es t,x=.l (some 4) es t/\∀e∈es,∃cs,mkD (some 4) cs=some e/\HsL d (xTs m) cs:=by
 match m,h with
 |0,h=>obtain⟨n,hn⟩:=h;exact qvE (m:=0) n x hn (λk a _ ha=>⟨k,ha⟩)
 |1,h=>exact qvE (m:=1) d x h (λk a hk ha=>⟨k,hk,ha⟩)
 |m+2,h=>obtain⟨n,hl,hn⟩:=h;exact qvE (m:=m+2) n x hn (λk a hk ha=>⟨k,by omega,ha⟩)
def qPv(hM:Mod d V σ ρ)(hW:σ.wf){S:CL (Nat×Sg)}{k:K}{x i:Ab}(h:qca S r σ (.AJ k x i)=some l):qcf d V σ ρ l E r id (.AJ k x i):=by
 simp only[qca]at h;simp only[qcf,qaa];split at h
 ·rename_i n kd a e1 e2;obtain⟨h1,l1,w1⟩:=qeh hM hW e2;rw[e1,h1];show qbP d V σ ρ l (opt (AJ _ k (.d (ρ n)) _) _);split at h
  ·rename_i e3;rw[zzf]at e3;have b1:=qcc hM e3.1;have b2:=qcc hM e3.2;unfold z0 at b1;rw[qeg hM]at b1;have b3:nv ρ (n,0)=vI (ρ n):=by unfold nv;simp
   rw[b3]at b2;have fin:∀(k':K) (es:Cy) (t:CO) (ts:CL TA),ρ n=.l k' es t->K.eq k k'=true->(∀e∈es,∃cs,mkD k cs=some e/\HsL d ts cs)->(∀cs e,mkD k cs=some e->HsL d ts cs->qbP d V σ ρ l (some (.q e k 0,σ.H.ins ρ)))->qbP d V σ ρ l (opt (AJ (σ.H.ins ρ) k (.d (ρ n)) (.d (.i kd (nv ρ a)))) (σ.H.ins ρ)):=by
    intro k' es t ts hn hk he hf;rw[hn]at b2⊢;have b4:nv ρ a<es.length:=by simp only[vI]at b2;omega
    have hi:(nv ρ a).toNat<es.length:=by omega
    obtain⟨cs,c1,c2⟩:=he _ (zzs hi);rw[iad (by omega) b4 (zze hi) hk];exact hf cs _ c1 c2
   split at h
   ·rename_i k' mx ts e4;obtain⟨es,t,hn,_,_,he⟩:=hM.ty n _ e4;split at h
    ·rename_i hk;have hk':=Keq hk;subst hk';split at h
     ·split at h
      ·rename_i t1;cases h;exact fin _ es t _ hn hk he λcs e c1 c2=>qrK hM hW c2 c1 (zzH.2 rfl) (.inl ⟨rfl,rfl,rfl⟩)
      ·cases h
     ·rename_i m;split at h
      ·rename_i hm;cases h;exact fin _ es t _ hn hk he λcs e c1 c2=>qrK hM hW c2 c1 (zzH.2 rfl) (.inr ⟨m,rfl,rfl⟩)
      ·cases h
    ·cases h
   ·rename_i m e4;obtain⟨es,t,hn,he⟩:=qSk (hM.ty n _ e4);split at h
    ·rename_i hk;have hk':=Keq hk;subst hk';cases h;exact fin _ es t _ hn hk he λcs e c1 c2=>qrK hM hW c2 c1 (zzH.2 rfl) (.inr ⟨4,rfl,rfl⟩)
    ·cases h
   ·cases h
  ·cases h
 ·cases h
def qPw(hM:Mod d V σ ρ)(hW:σ.wf){S:CL (Nat×Sg)}{x i:Ab}(h:qca S r σ (.idxS x i)=some l):qcf d V σ ρ l E r id (.idxS x i):=by
 simp only[qca]at h;simp only[qcf,qaa];have fin:∀(s:CB) (n:Int) (kd:IntKind),0<=n->n<s.length->qcZ σ .u8 []=some l->qbP d V σ ρ l (match PV.d (.s s),asI (.d (.i kd n))with
   |.d (.s s),some n=>if 0<=n then match s[n.toNat]? with
    |some b=>some (.d (.i .u8 b.toNat),σ.H.ins ρ)
    |none=>none
    else none
   |_,_=>none):=by
  intro s n kd h0 h1 h2;obtain⟨b,hb,ho⟩:=qEI hM hW h0 h1 h2;simp only[asI];rw[if_pos h0,hb];exact ho
 split at h
 ·rename_i n x2 kd a e1 e2;obtain⟨h1,l1,w1⟩:=qeh hM hW e2;obtain⟨g1,g2⟩:=qk4 hM e1;rw[g1,h1];split at h
  ·rename_i e3;rw[zzf]at e3;have b1:=qcc hM e3.1;have b2:=qcc hM e3.2;unfold z0 at b1;rw[qeg hM]at b1;have b3:nv ρ (n,0)=(tv ρ (some n,x2)).length:=by unfold nv;simp only;rw[(g2 n rfl).2];simp[vI]
   exact fin _ _ kd (by omega) (by omega) h
  ·cases h
 ·rename_i s kd a e1 e2;obtain⟨h1,l1,w1⟩:=qeh hM hW e2;obtain⟨g1,g2⟩:=qk4 hM e1;rw[g1,h1];split at h
  ·rename_i e3;rw[zzf]at e3;have b1:=qcc hM e3.1;have b2:=qcc hM e3.2;unfold z0 at b1;rw[qeg hM]at b1 b2;exact fin _ _ kd (by omega) (by show nv ρ a<(s.length:Int);omega) h
  ·cases h
 ·cases h
def qPB(hM:Mod d V σ ρ)(hW:σ.wf){S:CL (Nat×Sg)}{k:K}{x i:Ab}(h:qca S r σ (.sl k x none (some i) none)=some l):qcf d V σ ρ l E r id (.sl k x none (some i) none):=by
 simp only[qca]at h;simp only[qcf,qaa,Option.map];split at h
 ·rename_i n kd a e1 e2;obtain⟨h1,l1,w1⟩:=qeh hM hW e2;rw[e1,h1];show qbP d V σ ρ l (opt (slA _ k (.d (ρ n)) _ _ _) _);split at h
  ·rename_i e3;rw[zzf]at e3;have b1:=qcc hM e3.1;have b2:=qcc hM e3.2;unfold z0 at b1;rw[qeg hM]at b1;have b3:nv ρ (n,0)=vI (ρ n):=by unfold nv;simp
   rw[b3]at b2;split at h
   ·rename_i k' mx ts e4;have hy:=hM.ty n _ e4;obtain⟨es,t,hn,hl,_,he⟩:=hy;split at h
    ·rename_i hk;have hk':=Keq hk;subst hk';cases h;rw[hn]at b2⊢;simp only[vI]at b2;have hh:=hM.ty n _ e4;rw[hn]at hh;have hs:=qQg (u:=(if (none:CK PV).isSome then true else t&&(nv ρ a).toNat==es.length)) (i:=(nv ρ a).toNat) hh;have ev:slA (σ.H.ins ρ) k (.d (.l k es t)) none (some (.d (.i kd (nv ρ a)))) none=some (.d (.l k (es.take (nv ρ a).toNat) (if (none:CK PV).isSome then true else t&&(nv ρ a).toNat==es.length))):=by simp only[slA,bnd,asI,hk,Bool.true_or,if_true];rw[if_pos (by omega)];simp
     rw[ev];have hlen:(es.take (nv ρ a).toNat).length=(nv ρ a).toNat:=by rw[zzI];omega
     refine qOb hM hW hs (zzH.2 rfl) (λf hf=>?_) (λf hf=>?_)
     ·have e5:∀z,nv (upn ρ σ.G.length [.l k (es.take (nv ρ a).toNat) z]) (σ.G.length,0)=nv ρ a:=by intro z;have:upn ρ σ.G.length [.l k (es.take (nv ρ a).toNat) z] σ.G.length=.l k (es.take (nv ρ a).toNat) z:=qej (i:=0) rfl;show vI (upn ρ σ.G.length [.l k (es.take (nv ρ a).toNat) z] σ.G.length)+0=nv ρ a;rw[this];simp only[vI];rw[hlen];omega
      rcases List.mem_cons.1 hf with e|hf
      ·rw[e];refine qeS ?_;rw[qp0 l1,e5];omega
      ·rw[zzH.1 hf];refine qeS ?_;rw[qp0 l1,e5];omega
     ·rcases List.mem_cons.1 hf with e|hf
      ·rw[e];exact⟨Nat.lt_succ_of_lt l1,Nat.lt_succ_self _⟩
      ·rw[zzH.1 hf];exact⟨Nat.lt_succ_self _,Nat.lt_succ_of_lt l1⟩
    ·cases h
   ·cases h
  ·cases h
 ·cases h
def qAm:∀{a b:Cy},a.map PV.d=b.map PV.d->a=b
 |[],[],_=>rfl
 |x::a,y::b,h=>by rw[zzu,zzu]at h;have h1:=List.cons.inj h;rw[PV.d.inj h1.1,qAm h1.2]
 |[],_::_,h=>by cases h
 |_::_,[],h=>by cases h
def qPs(hM:Mod d V σ ρ)(hW:σ.wf){S:CL (Nat×Sg)}(hS:qdl d V S)(hE:E.val=V){f:Nat}{args:CL Ab}(hr:∀ρ1 ρ2,Sc ρ1->Sc ρ2->Agr σ.G.length ρ1 ρ2->∀x∈args,(r x).ins ρ2=(r x).ins ρ1)(h:qca S r σ (.call 0 f args)=some l):qcf d V σ ρ l E r id (.call 0 f args):=by
 simp only[qca]at h;simp only[qcf,qaa];split at h
 ·rename_i g e1;split at h
  ·rename_i ds e2;have hm:=qk6 e2;have hi:∀ρ1:Nat->DV,args.map (λx=>(r x).ins ρ1)=(DV.Ak ρ1 ds).map .d:=by
    intro ρ1;have:PV.Ak ρ1 (args.map r)=PV.Ak ρ1 (ds.map .d):=by rw[hm]
    rw[qtN,qie,List.map_map]at this;exact this
   have hd:∀ρ1 ρ2,Sc ρ1->Sc ρ2->Agr σ.G.length ρ1 ρ2->DV.Ak ρ2 ds=DV.Ak ρ1 ds:=by intro ρ1 ρ2 s1 s2 a;have e3:args.map (λx=>(r x).ins ρ2)=args.map (λx=>(r x).ins ρ1):=List.map_congr_left λx hx=>hr ρ1 ρ2 s1 s2 a x hx;rw[hi,hi]at e3;exact qAm e3
   obtain⟨v,own,h1,h2⟩:=qEK hM hW hS e1 hd h;rw[hi,qBu,hE];simp only[h1,List.isEmpty_nil,Bool.true_or,if_true];exact h2
  ·cases h
 ·cases h
def qPA(hM:Mod d V σ ρ)(hW:σ.wf){S:CL (Nat×Sg)}(hS:qdl d V S)(hE:E.val=V){op:IOp}(hr:∀ρ1 ρ2,Sc ρ1->Sc ρ2->Agr σ.G.length ρ1 ρ2->∀x∈op.A8,(r x).ins ρ2=(r x).ins ρ1)(h:qca S r σ op=some l):qcf d V σ ρ l E r id op:=by
 have h0:=h;unfold qca at h;split at h
 ·exact qPr hM hW h0
 ·exact qPy hM hW h0
 ·exact qPu hM hW h0
 ·exact qPz hM hW h0
 ·exact qPt hM hW h0
 ·exact qPx hM hW h0
 ·exact qPv hM hW h0
 ·exact qPw hM hW h0
 ·exact qPB hM hW h0
 ·exact qPs hM hW hS hE hr h0
 ·cases h
end
section
variable {d:Nat}{ρ ρ':Nat->DV}{V:Nat->Cy->CG}{σ σ':AS}{E:Env}{S:CL (Nat × Sg)}
def qAX{r r':Ab->PV}{H:CW}{id:Nat}{op:IOp}(hok:op.A8.all Ab.okR=true)(h:∀x∈op.A8,r x=r' x):qaa E r H id op=qaa E r' H id op:=by
 have ho:∀o:CK Ab,(∀x∈o.toList,r x=r' x)->o.map r=o.map r':=by
  intro o ho;cases o with
  |none=>rfl
  |some x=>exact congrArg some (ho x (zzH.2 rfl))
 cases op with
 |alloc=>rfl
 |mov x=>simp only[qaa];rw[h x (zzH.2 rfl)]
 |box k x=>simp only[qaa];rw[h x (zzH.2 rfl)]
 |load k x=>simp only[qaa];rw[h x (zzH.2 rfl)]
 |Bo k x=>simp only[qaa];rw[h x (zzH.2 rfl)]
 |field k j x=>simp only[qaa];rw[h x (zzH.2 rfl)]
 |ext x k=>simp only[qaa];rw[h x (zzH.2 rfl)]
 |len k x=>simp only[qaa];rw[h x (zzH.2 rfl)]
 |un k x=>simp only[qaa];rw[h x (zzH.2 rfl)]
 |conv k x=>simp only[qaa];rw[h x (zzH.2 rfl)]
 |pick c a b=>simp only[qaa];rw[h c (by simp[IOp.A8]),h a (by simp[IOp.A8]),h b (by simp[IOp.A8])]
 |store k x y=>simp only[qaa];rw[h x (by simp[IOp.A8]),h y (by simp[IOp.A8])]
 |AJ k x y=>simp only[qaa];rw[h x (by simp[IOp.A8]),h y (by simp[IOp.A8])]
 |bin k x y=>simp only[qaa];rw[h x (by simp[IOp.A8]),h y (by simp[IOp.A8])]
 |eqb k x y=>simp only[qaa];rw[h x (by simp[IOp.A8]),h y (by simp[IOp.A8])]
 |eqv k j x y=>simp only[qaa];rw[h x (by simp[IOp.A8]),h y (by simp[IOp.A8])]
 |idxS x y=>simp only[qaa];rw[h x (by simp[IOp.A8]),h y (by simp[IOp.A8])]
 |agg z ps=>
  have e:(ps.map λx=>(x.1,x.2.1,r x.2.2))=ps.map λx=>(x.1,x.2.1,r' x.2.2):=List.map_congr_left λx hx=>by rw[h x.2.2 (zzN.2 ⟨x,hx,rfl⟩)]
  simp only[qaa];rw[e]
 |bsl k z n ps=>
  have e:(ps.map λx=>(x.1,r x.2))=ps.map λx=>(x.1,r' x.2):=List.map_congr_left λx hx=>by rw[h x.2 (zzN.2 ⟨x,hx,rfl⟩)]
  simp only[qaa];rw[e]
 |call m f as0=>
  have e:as0.map r=as0.map r':=List.map_congr_left h
  match m with
  |0=>simp only[qaa];rw[e]
  |1=>simp only[qaa];rw[e]
  |_+2=>simp only[qaa];rw[e]
 |minmax m as0=>have e:as0.map r=as0.map r':=List.map_congr_left h;simp only[qaa];rw[e]
 |sl k x a b c=>simp only[qaa];rw[h x (by simp[IOp.A8]),ho a λy hy=>h y (by simp[IOp.A8]at hy⊢;simp[hy]),ho b λy hy=>h y (by simp[IOp.A8]at hy⊢;simp[hy]),ho c λy hy=>h y (by simp[IOp.A8]at hy⊢;simp[hy])]
 |_=>simp[IOp.A8,Ab.okR]at hok
def qOu{r:Ab->PV}{H:CW}{id:Nat}{op:IOp}(hp:op.par=true)(E:Env):qaa qdp r H id op=qaa E r H id op:=by cases op<;>first|rfl|(simp[IOp.par]at hp;done)
def qqg{x:Ab}(h:x.okR=true)(fr:Fr)(ρ:Nat->DV):rd E (fr.ins ρ) x=(rdA fr x).ins ρ:=by
 cases x with
 |t n=>exact qje ρ n fr
 |c v=>exact (qjs h).symm
 |g n=>cases h
 |f n=>rfl
def qBC(hW:σ.wf){ρ1 ρ2:Nat->DV}(s1:Sc ρ1)(s2:Sc ρ2)(a:Agr σ.G.length ρ1 ρ2){x:Ab}(h:x.okR=true):(rdA σ.fr x).ins ρ2=(rdA σ.fr x).ins ρ1:=by have e:σ.fr.ins ρ2=σ.fr.ins ρ1:=congrArg St.fr (hW.st ρ1 ρ2 s1 s2 a);rw[<-qqg (E:=qdp) h,<-qqg (E:=qdp) h,e]
def qxd{l:CL (PV×AS)}{ev:CJ}(h:qbP d V σ ρ l ev):qbP d V σ ρ (qrY l) ev:=by
 obtain⟨x,hx,ρ',hg,he⟩:=h;by_cases hb:∃n,x.1=.d (.tok n)/\x.2.G[n]? = some .b
 ·obtain⟨n,e1,e2⟩:=hb;obtain⟨c,hc⟩:=hg.m.ty n _ e2;refine⟨(.d (.b c),x.2),List.mem_flatMap.2 ⟨x,hx,?_⟩,ρ',⟨hg.ag,hg.m,hg.wf,hg.fr,hg.le,λ_ _ _ _ _=>rfl⟩,?_⟩
  ·simp only[e1,e2];cases c<;>simp
  ·rw[he,e1];show some (PV.d (ρ' n),_)=some (PV.d (.b c),_);rw[hc]
 ·refine⟨x,List.mem_flatMap.2 ⟨x,hx,?_⟩,ρ',hg,he⟩;split
  ·rename_i n e1;split
   ·rename_i e2;exact absurd ⟨n,e1,e2⟩ hb
   ·exact zzH.2 rfl
  ·exact zzH.2 rfl
def qFX(hM:Mod d V σ ρ)(hW:σ.wf)(hS:qdl d V S)(hE:E.val=V){id:Nat}{op:IOp}{l:CL (PV×AS)}(h:qoY S id op σ=some l):op.A8.all Ab.okR=true/\qbP d V σ ρ l (qaa E (rd E (σ.fr.ins ρ)) (σ.H.ins ρ) id op):=by
 unfold qoY at h;split at h
 ·rename_i hok;have hk:=List.all_eq_true.1 hok;refine⟨hok,?_⟩;rw[qAX hok λx hx=>qqg (hk x hx) σ.fr ρ];split at h
  ·rename_i v H' e;cases h;split at e
   ·rename_i hp;have h1:=λ(ρ:Nat->DV) (s:Sc ρ)=>qOe s qdp (rdA σ.fr) hp e;have h2:∀ρ1 ρ2,Sc ρ1->Sc ρ2->Agr σ.G.length ρ1 ρ2->v.ins ρ2=v.ins ρ1/\H'.ins ρ2=H'.ins ρ1:=by intro ρ1 ρ2 s1 s2 a;have e1:=h1 ρ1 s1;have e2:=h1 ρ2 s2;have e3:σ.H.ins ρ2=σ.H.ins ρ1:=congrArg St.H (hW.st ρ1 ρ2 s1 s2 a);rw[qAX hok λx hx=>qBC hW s1 s2 a (hk x hx),e3,e1]at e2;have:=Option.some.inj e2;exact⟨(congrArg Prod.fst this).symm,(congrArg Prod.snd this).symm⟩
    refine qxd ⟨_,zzH.2 rfl,ρ,⟨Agr.rfl',⟨hM.sc,hM.ty,hM.fx,hM.z,hM.cs⟩,⟨λρ1 ρ2 s1 s2 a=>?_,hW.cs,hW.fx,hW.z⟩,rfl,zzt _,λρ1 ρ2 s1 s2 a=>(h2 ρ1 ρ2 s1 s2 a).1⟩,?_⟩
    ·show St.mk (σ.fr.ins ρ2) (H'.ins ρ2)=St.mk (σ.fr.ins ρ1) (H'.ins ρ1);rw[(h2 ρ1 ρ2 s1 s2 a).2,show σ.fr.ins ρ2=σ.fr.ins ρ1 from congrArg St.fr (hW.st ρ1 ρ2 s1 s2 a)]
    ·rw[<-qOu hp E];exact h1 ρ hM.sc
   ·cases e
  ·split at h
   ·rename_i l' e2;cases h;exact qxd (qPA hM hW hS hE (λρ1 ρ2 s1 s2 a x hx=>qBC hW s1 s2 a (hk x hx)) e2)
   ·cases h
 ·cases h
structure Nx (d:Nat) (V:Nat->List DV->Option (PV×Bool)) (σ:AS) (ρ:Nat->DV) (σ':AS) (ρ':Nat->DV):Prop where
 ag:Agr σ.G.length ρ ρ'
 m:Mod d V σ' ρ'
 wf:σ'.wf
 le:σ.G.length<=σ'.G.length
def Nx.trans{σ1 σ2:AS}{ρ1 ρ2:Nat->DV}(a:Nx d V σ ρ σ1 ρ1)(b:Nx d V σ1 ρ1 σ2 ρ2):Nx d V σ ρ σ2 ρ2:=⟨a.ag.trans (b.ag.le a.le),b.m,b.wf,zzL a.le b.le⟩
def qlg(E:Env)(o:Ap)(id:Nat)(s:St):CK St:=
 let go:CK St:=match qaa E (rd E s.fr) s.H id o.op with
  |some (v,H)=>some ⟨match o.dst with|some t=>s.fr.set t v|none=>s.fr,H⟩
  |none=>none
 let no:CK St:=some ⟨match o.dst with|some t=>s.fr.set t (.t [])|none=>s.fr,s.H⟩
 match o.g with
 |none=>go
 |some (t,want)=>match s.fr.get t with
  |.d (.b b)=>if b==want then go else no
  |.t []=>no
  |_=>none
def qFU(o:Ap)(r:CL Ap)(id:Nat)(s s':St)(h:qlg E o id s=some s'):qaF E (o::r) id s=qaF E r (if o.op.adds then id+1 else id) s':=by
 have hgo:∀{s':St},(match qaa E (rd E s.fr) s.H id o.op with
  |some (v,H)=>some (⟨match o.dst with|some t=>s.fr.set t v|none=>s.fr,H⟩:St)
  |none=>none)=some s'->(match qaa E (rd E s.fr) s.H id o.op with
   |some (v,H)=>qaF E r (if o.op.adds then id+1 else id) ⟨match o.dst with|some t=>s.fr.set t v|none=>s.fr,H⟩
   |none=>none)=qaF E r (if o.op.adds then id+1 else id) s':=by
  intro s' h;split at h
  ·rename_i v H e;cases h;rfl
  ·cases h
 unfold qlg at h;simp only[qaF];simp only at h;split at h
 ·rename_i e;rw[e];exact hgo h
 ·rename_i t want e;rw[e];simp only;split at h
  ·rename_i b e2;rw[e2];simp only;split at h
   ·rename_i hw;rw[if_pos hw];exact hgo h
   ·rename_i hw;rw[if_neg hw];cases h;rfl
  ·rename_i e2;rw[e2];cases h;rfl
  ·cases h
def qP2{o:Ap}{id:Nat}{s:St}(h:runs o s.fr=true->o.op.okD (rd E s.fr)=true):Bi E o id s=qlg E o id s:=by
 unfold Bi qlg;unfold runs at h;simp only;have hgo:o.op.okD (rd E s.fr)=true->qaq E (rd E s.fr) s.H id o.op=qaa E (rd E s.fr) s.H id o.op:=by intro e;unfold qaq;rw[if_pos e]
 cases e:o.g with
 |none=>rw[e]at h;simp only;rw[hgo (h rfl)];rfl
 |some x=>
  obtain⟨t,want⟩:=x;rw[e]at h;simp only at h⊢;cases e2:s.fr.get t with
  |d v=>
   cases v with
   |b b=>
    rw[e2]at h;simp only at h⊢;by_cases hw:(b==want)=true
    ·rw[if_pos hw,if_pos hw,hgo (h hw)];rfl
    ·rw[if_neg hw,if_neg hw];rfl
   |_=>rfl
  |t vs=>cases vs<;>rfl
  |_=>rfl
def qCh{x:PV×AS}(hM:Mod d V σ ρ)(hW:σ.wf)(hg:Good d V σ ρ x ρ')(dst:CK Nat):Nx d V σ ρ (qld dst x) ρ'/\(qld dst x).st.ins ρ'=⟨match dst with|some t=>(σ.fr.ins ρ).set t (x.1.ins ρ')|none=>σ.fr.ins ρ,x.2.H.ins ρ'⟩:=by
 have e1:σ.fr.ins ρ'=σ.fr.ins ρ:=congrArg St.fr (hW.st _ _ hM.sc hg.m.sc hg.ag);have e2:x.2.fr.ins ρ'=σ.fr.ins ρ:=by rw[hg.fr];exact e1
 cases dst with
 |none=>exact⟨⟨hg.ag,hg.m,hg.wf,hg.le⟩,by show St.mk (x.2.fr.ins ρ') (x.2.H.ins ρ')=_;rw[e2]⟩
 |some t=>
  refine⟨⟨hg.ag,⟨hg.m.sc,hg.m.ty,hg.m.fx,hg.m.z,hg.m.cs⟩,⟨λρ1 ρ2 s1 s2 a=>?_,hg.wf.cs,hg.wf.fx,hg.wf.z⟩,hg.le⟩,?_⟩
  ·show St.mk ((x.2.fr.set t x.1).ins ρ2) (x.2.H.ins ρ2)=St.mk ((x.2.fr.set t x.1).ins ρ1) (x.2.H.ins ρ1);have:=hg.wf.st ρ1 ρ2 s1 s2 a;rw[qpx,qpx,hg.v ρ1 ρ2 s1 s2 a,show x.2.fr.ins ρ2=x.2.fr.ins ρ1 from congrArg St.fr this,show x.2.H.ins ρ2=x.2.H.ins ρ1 from congrArg St.H this]
  ·show St.mk ((x.2.fr.set t x.1).ins ρ') _=_;rw[qpx,e2];rfl
structure Seen (E:Env) (o:Ap) (id:Nat) (σ:AS) (ρ:Nat->DV) (σ':AS) (ρ':Nat->DV):Prop where
 runs:runs o (σ.fr.ins ρ)=runs o σ.fr
 ok:Sim.runs o σ.fr=true->o.op.A8.all Ab.okR=true
def qP0(hM:Mod d V σ ρ)(hW:σ.wf)(hS:qdl d V S)(hE:E.val=V){o:Ap}{id:Nat}{l:CL AS}(h:qva S o id σ=some l) :
  ∃σ'∈l,∃ρ',Nx d V σ ρ σ' ρ'/\qlg E o id (σ.st.ins ρ)=some (σ'.st.ins ρ')/\Seen E o id σ ρ σ' ρ':=by
 have hgo:∀{l:CL AS},(match qoY S id o.op σ with
  |some l=>some (l.map (qld o.dst))
  |none=>none)=some l->o.op.A8.all Ab.okR=true/\∃σ'∈l,∃ρ',Nx d V σ ρ σ' ρ'/\(match qaa E (rd E (σ.fr.ins ρ)) (σ.H.ins ρ) id o.op with
   |some (v,H)=>some (⟨match o.dst with|some t=>(σ.fr.ins ρ).set t v|none=>σ.fr.ins ρ,H⟩:St)
   |none=>none)=some (σ'.st.ins ρ'):=by
  intro l h;split at h
  ·rename_i l' e;cases h;obtain⟨hok,x,hx,ρ',hg,he⟩:=qFX (E:=E) hM hW hS hE e;obtain⟨h1,h2⟩:=qCh hM hW hg o.dst;refine⟨hok,_,zzN.2 ⟨x,hx,rfl⟩,ρ',h1,?_⟩;rw[he,h2];try rfl
  ·cases h
 have hno:∀{l:CL AS},some [qld o.dst (.t [],σ)]=some l->∃σ'∈l,∃ρ',Nx d V σ ρ σ' ρ'/\some (⟨match o.dst with|some t=>(σ.fr.ins ρ).set t (.t [])|none=>σ.fr.ins ρ,σ.H.ins ρ⟩:St)=some (σ'.st.ins ρ'):=by intro l h;cases h;have hg:Good d V σ ρ (.t [],σ) ρ:=⟨Agr.rfl',hM,hW,rfl,zzt _,λ_ _ _ _ _=>rfl⟩;obtain⟨h1,h2⟩:=qCh hM hW hg o.dst;exact⟨_,zzH.2 rfl,ρ,h1,by rw[h2];rfl⟩
 unfold qva at h;unfold qlg;simp only at h⊢;split at h
 ·rename_i eg;obtain⟨hok,σ',h1,ρ',h2,h3⟩:=hgo h;refine⟨σ',h1,ρ',h2,?_,?_,λ_=>hok⟩
  ·(try rw[eg]);exact h3
  ·unfold runs;rw[eg]
 ·rename_i t want eg;(try rw[eg]); (try simp only)
  have ht:(σ.st.ins ρ).fr.get t=(σ.fr.get t).ins ρ:=qje ρ t σ.fr;have ht':(σ.fr.ins ρ).get t=(σ.fr.get t).ins ρ:=qje ρ t σ.fr;split at h
  ·rename_i b e;(try rw[ht,e]); (try simp only[PV.ins,DV.ins])
   split at h
   ·rename_i hw;obtain⟨hok,σ',h1,ρ',h2,h3⟩:=hgo h;refine⟨σ',h1,ρ',h2,?_,?_,λ_=>hok⟩
    ·(try rw[if_pos hw]);exact h3
    ·unfold runs;rw[eg];simp only;rw[ht',e];rfl
   ·rename_i hw;obtain⟨σ',h1,ρ',h2,h3⟩:=hno h;refine⟨σ',h1,ρ',h2,?_,?_,λhr=>?_⟩
    ·(try rw[if_neg hw]);exact h3
    ·unfold runs;rw[eg];simp only;rw[ht',e];rfl
    ·unfold runs at hr;rw[eg]at hr;simp only at hr;rw[e]at hr;exact absurd hr hw
  ·rename_i e;(try rw[ht,e])
   obtain⟨σ',h1,ρ',h2,h3⟩:=hno h;refine⟨σ',h1,ρ',h2,h3,?_,λhr=>?_⟩
   ·unfold runs;rw[eg];simp only;rw[ht',e];rfl
   ·unfold runs at hr;rw[eg]at hr;simp only at hr;rw[e]at hr;cases hr
  ·cases h
end
section
variable {d:Nat}{ρ ρ':Nat->DV}{V:Nat->Cy->CG}{σ σ':AS}{E:Env}{S:CL (Nat × Sg)}
def qsm{α β:Type}{f g:α->CL β}:∀{l:CL α},(∀x∈l,f x=g x)->l.flatMap f=l.flatMap g
  |[],_=>rfl
  |x::l,h=>by rw[List.flatMap_cons,List.flatMap_cons,h x (zzr ..),qsm λy hy=>h y (zzi _ hy)]
def qGb{r r':Ab->PV}{op:IOp}(hok:op.A8.all Ab.okR=true)(h:∀x∈op.A8,(r x).refs=(r' x).refs):qas r op=qas r' op/\qaP r op=qaP r' op/\op.okD r=op.okD r':=by
  cases op with
  |load k x=>exact⟨h x (zzH.2 rfl),rfl,rfl⟩
  |len k x=>exact⟨h x (zzH.2 rfl),rfl,rfl⟩
  |sl k x a b c=>exact⟨h x (zzr ..),rfl,rfl⟩
  |AJ k x y=>exact⟨h x (zzr ..),rfl,rfl⟩
  |call m f as0=>exact⟨qsm h,rfl,rfl⟩
  |bsl k z n ps=>exact⟨qsm λx hx=>h x.2 (zzN.2 ⟨x,hx,rfl⟩),rfl,rfl⟩
  |store k x y=>have h1:=h x (zzr ..);have h2:=h y (zzi _ (zzr ..));refine⟨?_,h1,rfl⟩;show (r x).refs++(r y).refs=(r' x).refs++(r' y).refs;rw[h1,h2]
  |app=>simp[IOp.A8,Ab.okR]at hok
  |BI=>simp[IOp.A8,Ab.okR]at hok
  |mkif=>simp[IOp.A8,Ab.okR]at hok
  |_=>exact⟨rfl,rfl,rfl⟩
def rd0{x:Ab}(h:x.okR=true)(fr:Fr):rd qdp fr x=rdA fr x:=by
  cases x with
  |g n=>cases h
  |_=>rfl
def qBM(ρ:Nat->DV)(H:CW)(o:Nat):qaY ((H.ins ρ).obj o)=qaY (H.obj o):=by
  rw[qgC];cases H.obj o with
  |none=>rfl
  |some x=>cases x<;>rfl
def qwZ(H H':CW):∀l:CF,chg (H.ins ρ) (H'.ins ρ') l=chg H H' l
  |[]=>rfl
  |o::r=>by simp only[chg];rw[qBM,qBM,qwZ H H' r]
def qSc{o:Ap}{id:Nat}(hs:Seen E o id σ ρ σ' ρ')(hk:runs o σ.fr=true->o.op.okD (rd qdp σ.fr)=true) :
    Ar E o id (σ.st.ins ρ) (σ'.st.ins ρ')=Ar qdp o id σ.st σ'.st/\Az E o (σ.st.ins ρ)=Az qdp o σ.st/\(runs o (σ.st.ins ρ).fr=true->o.op.okD (rd E (σ.st.ins ρ).fr)=true):=by
  unfold Ar Az;have hr:runs o (σ.st.ins ρ).fr=runs o σ.st.fr:=hs.runs;rw[hr];by_cases e:runs o σ.st.fr=true
  · have hok:=hs.ok e;have hk2:=List.all_eq_true.1 hok;have hf:=qGb (r:=rd E (σ.st.ins ρ).fr) (r':=rd qdp σ.st.fr) hok λx hx=>by have e1:rd E (σ.st.ins ρ).fr x=(rdA σ.fr x).ins ρ:=qqg (hk2 x hx) σ.fr ρ;rw[e1,qkN];exact congrArg PV.refs (rd0 (hk2 x hx) σ.fr).symm
    have hk3:o.op.okD (rd qdp σ.st.fr)=true:=hk e;rw[if_pos e,if_pos e,if_pos e,if_pos e,hf.2.2,hf.1,hf.2.1,if_pos hk3,if_pos hk3,if_pos hk3,if_pos hk3];refine⟨?_,rfl,λ_=>hk3⟩;congr 2;exact qwZ (ρ:=ρ) (ρ':=ρ') σ.H σ'.H _
  · rw[if_neg e,if_neg e,if_neg e,if_neg e];exact⟨rfl,rfl,λc=>absurd c e⟩
def qox{α β:Type}{f:α->CK (CL β)}:∀{l:CL α} {out:CL β},qkm f l=some out->∀x∈l,∃y,f x=some y/\∀z∈y,z∈out
  |[],_,_,x,hx=>by cases hx
  |a::l,out,h,x,hx=>by
    unfold qkm at h;split at h
    · rename_i y ys e1 e2;cases h;rcases List.mem_cons.1 hx with rfl|hx
      · exact⟨y,e1,λz hz=>List.mem_append_left _ hz⟩
      · obtain⟨w,h1,h2⟩:=qox e2 x hx;exact⟨w,h1,λz hz=>List.mem_append_right _ (h2 z hz)⟩
    · cases h
def qxI(hS:qdl d V S)(hE:E.val=V)(D:CO):∀(ops:CL Ap) (bf:CF) (acc:CL (CF×CF)) (id:Nat) (σ:AS) (ρ:Nat->DV) (l:CL AS),Mod d V σ ρ->σ.wf->qoZ S D ops bf acc id σ=some l->
    ∃σ'∈l,∃ρ',Nx d V σ ρ σ' ρ'/\(if D=true then qbW E ops bf acc id (σ.st.ins ρ)else qaF E ops id (σ.st.ins ρ))=some (σ'.st.ins ρ')
  |[],bf,acc,id,σ,ρ,l,hM,hW,h=>by cases h;refine⟨σ,zzH.2 rfl,ρ,⟨Agr.rfl',hM,hW,zzt _⟩,?_⟩;cases D<;>rfl
  |o::r,bf,acc,id,σ,ρ,l,hM,hW,h=>by
    unfold qoZ at h;split at h
    · cases h
    · rename_i l1 e1;obtain⟨σ1,h1,ρ1,n1,s1,seen⟩:=qP0 hM hW hS hE e1;obtain⟨l2,e2,h2⟩:=qox h σ1 h1;simp only at e2;split at e2
      · rename_i hc;obtain⟨σ2,h3,ρ2,n2,s2⟩:=qxI hS hE D r _ _ _ σ1 ρ1 l2 n1.m n1.wf e2;refine⟨σ2,h2 _ h3,ρ2,n1.trans n2,?_⟩;cases D with
        |false=>rw[if_neg (by decide)]at s2⊢;rw[qFU _ _ _ _ _ s1];exact s2
        |true=>simp only[Bool.not_true,Bool.false_or,zzf]at hc;obtain⟨w1,w2,w3⟩:=qSc seen (λ_=>hc.1);rw[if_pos rfl]at s2⊢;simp only[qbW];rw[qP2 w3,s1];simp only;rw[w1,w2,if_pos hc.2];exact s2
      · cases e2
def que(n:Nat):Heap.ins ρ (List.replicate n none)=List.replicate n none:=by unfold Heap.ins;rw[List.map_replicate];rfl
def qCe{f g:Fact}(h:qnK f g=true):f=g:=by obtain⟨a,b,c⟩:=f;obtain⟨a',b',c'⟩:=g;simp only[qnK,zzf,zzq]at h;obtain⟨h1,h2,h3⟩:=h;rw[zzy h1,zzy h2,h3]
def qCd{c e:Nat×Cy×PV}(h:qnJ c e=true):c=e:=by obtain⟨a,b,c⟩:=c;obtain⟨a',b',c'⟩:=e;simp only[qnJ,zzf]at h;obtain⟨h1,h2,h3⟩:=h;rw[zzy h1,qi4 _ _ h2,qnB _ _ h3]
def qo6:∀{a b:Fr},qi6 a b=true->a=b
  |[],[],_=>rfl
  | (j,v)::r,(j',w)::r',h=>by simp only[qi6,zzf]at h;rw[zzy h.1.1,qnB _ _ h.1.2,qo6 h.2]
  |[],_::_,h=>by cases h
  |_::_,[],h=>by cases h
def qpl:∀{a b:CW},qjd a b=true->a=b
  |[],[],_=>rfl
  |x::r,y::r',h=>by simp only[qjd,zzf]at h;rw[qAQ h.1,qpl h.2]
  |[],_::_,h=>by cases h
  |_::_,[],h=>by cases h
structure Cov (d:Nat) (V:Nat->List DV->Option (PV×Bool)) (x y:AS):Prop where
  st:y.st=x.st
  len:y.G.length=x.G.length
  m:∀ρ,Mod d V x ρ->Mod d V y ρ
  wf:x.wf->y.wf
def Cov.nx{x y:AS}(c:Cov d V x y)(n:Nx d V σ ρ x ρ'):Nx d V σ ρ y ρ':=⟨n.ag,c.m _ n.m,c.wf n.wf,by rw[c.len];exact n.le⟩
def qCq:∀{ts us:CL TA},TA.subL ts us=true->ts.length=us.length
  |[],[],_=>rfl
  |t::ts,u::us,h=>by rw[TA.subL,zzf]at h;rw[zzn,zzn,qCq h.2]
  |[],_::_,h=>by cases h
  |_::_,[],h=>by cases h
def qCp:∀{ts us:CL TA},TA.subL ts us=true->∀(n:Nat) (t:TA),ts[n]? = some t->∃u,us[n]? = some u/\TA.sub t u=true
  |[],[],_,n,t,e=>by simp at e
  |t::ts,u::us,h,n,t',e=>by
    rw[TA.subL,zzf]at h;cases n with
    |zero=>simp at e;subst e;exact⟨u,rfl,h.1⟩
    |succ n=>exact qCp h.2 n t' (by simpa using e)
  |[],_::_,h,_,_,_=>by cases h
  |_::_,[],h,_,_,_=>by cases h
def qky(x:AS):Cov d V x x:=⟨rfl,rfl,λ_ h=>h,λh=>h⟩
def qw9{x y:AS}:Cov d V x (jnA x y):=
  ⟨rfl,rfl,λρ h=>⟨h.sc,h.ty,λf hf=>h.fx f (List.mem_filter.1 hf).1,h.z,λc hc=>h.cs c (List.mem_filter.1 hc).1⟩,
   λh=>⟨h.st,λρ1 ρ2 s1 s2 a c hc=>h.cs ρ1 ρ2 s1 s2 a c (List.mem_filter.1 hc).1,λf hf=>h.fx f (List.mem_filter.1 hf).1,h.z⟩⟩
def qoz{α:Type}{p:α->α->CO}(hp:∀a b,p a b=true->a=b){l:CL α}{x:α}(h:l.any (p x)=true):x∈l:=by obtain⟨y,h1,h2⟩:=List.any_eq_true.1 h;rw[hp _ _ h2];exact h1
def qFm{x y:AS}(h:qti x y=true):Cov d V y (jnA x y):=by
  unfold qti at h;simp only[zzf]at h;obtain⟨h1,h2,h3⟩:=h;have e1:=qo6 h1;have e2:=qpl h2;have el:=qCq h3;have es:(jnA x y).st=y.st:=by show St.mk x.fr x.H=St.mk y.fr y.H;rw[e1,e2]
  have hf:∀f∈(jnA x y).fx,f∈y.fx:=λf hf=>qoz (p:=qnK) (λa b=>qCe) (List.mem_filter.1 hf).2;have hc:∀c∈(jnA x y).cs,c∈y.cs:=λc hc=>qoz (p:=qnJ) (λa b=>qCd) (List.mem_filter.1 hc).2;refine⟨es,el,λρ h=>⟨h.sc,λn t e=>?_,λf q=>h.fx f (hf f q),h.z,λc q=>h.cs c (hc c q)⟩,λh=>⟨λρ1 ρ2 s1 s2 a=>?_,λρ1 ρ2 s1 s2 a c q=>h.cs ρ1 ρ2 s1 s2 (a.le (Nat.le_of_eq el.symm)) c (hc c q),λf q=>?_,?_⟩⟩
  · obtain⟨u,hu,hs⟩:=qCp h3 n t e;exact qve t u hs (h.ty n u hu)
  · rw[es];exact h.st ρ1 ρ2 s1 s2 (a.le (Nat.le_of_eq el.symm))
  · have:=h.fx f (hf f q);show f.1<x.G.length/\f.2.1<x.G.length;rw[el];exact this
  · show 0<x.G.length;rw[el];exact h.z
def qAy(x:AS):∀(l:CL AS),(∃y∈qnj x l,Cov d V x y)/\∀z∈l,∃y∈qnj x l,Cov d V z y
  |[]=>⟨⟨x,zzH.2 rfl,qky x⟩,λz hz=>by cases hz⟩
  |y::r=>by
    unfold qnj;split
    · rename_i e;refine⟨⟨_,zzr ..,qw9⟩,λz hz=>?_⟩;rcases List.mem_cons.1 hz with rfl|hz
      · exact⟨_,zzr ..,qFm e⟩
      · exact⟨z,zzi _ hz,qky z⟩
    · obtain⟨⟨w,h1,h2⟩,h3⟩:=qAy x r;refine⟨⟨w,zzi _ h1,h2⟩,λz hz=>?_⟩;rcases List.mem_cons.1 hz with rfl|hz
      · exact⟨z,zzr ..,qky z⟩
      · obtain⟨w,h1,h2⟩:=h3 z hz;exact⟨w,zzi _ h1,h2⟩
def Cov.trans{x y z:AS}(a:Cov d V x y)(b:Cov d V y z):Cov d V x z:=⟨b.st.trans a.st,b.len.trans a.len,λρ h=>b.m ρ (a.m ρ h),λh=>b.wf (a.wf h)⟩
def qAB:∀(l:CL AS),∀z∈l,∃y∈mrg l,Cov d V z y
  |[],z,hz=>by cases hz
  |x::r,z,hz=>by
    obtain⟨h1,h2⟩:=qAy (d:=d) (V:=V) x (mrg r);rcases List.mem_cons.1 hz with rfl|hz
    · exact h1
    · obtain⟨y,h3,h4⟩:=qAB r z hz;obtain⟨w,h5,h6⟩:=h2 y h3;exact⟨w,h5,h4.trans h6⟩
def qso{n:Nat}(a:Agr n ρ ρ'):∀fr:Fr,fr.bnd n=true->fr.ins ρ'=fr.ins ρ
  |[],_=>rfl
  | (j,v)::r,h=>by simp only[Fr.bnd,zzf]at h;simp only[Fr.ins];rw[qjv a v h.1,qso a r h.2]
def qpk{n:Nat}(a:Agr n ρ ρ'):∀H:CW,qjc n H=true->H.ins ρ'=H.ins ρ
  |[],_=>rfl
  |none::r,h=>by have:=qpk a r h;unfold Heap.ins at this⊢;rw[zzu,zzu,this];rfl
  |some x::r,h=>by
    simp only[qjc,zzf]at h;have:=qpk a r h.2;unfold Heap.ins at this⊢;rw[zzu,zzu,this];congr 1;show some _=some _;congr 1;cases x with
    |box k v=>show Obj.box k _=Obj.box k _;rw[qjv a v h.1]
    |sl k ro es=>show Obj.sl k ro _=Obj.sl k ro _;rw[qmD a es h.1]
    |mp es=>cases h.1
    |si=>rfl
    |lp=>rfl
    |df=>rfl
def qwJ{n:Nat}{f:Fact}(h:qmC n f=true):f.1<n/\f.2.1<n:=by unfold qmC at h;rw[zzf]at h;exact⟨qkt h.1,qkt h.2⟩
def qFF{n:Nat}{fx:CL Fact}(h:∀f∈fx,Fact.ok ρ f):∀f∈qxu n fx,Fact.ok ρ f:=by
  intro f hf;rcases zzB.1 hf with hf|hf
  · obtain⟨a,ha,hf⟩:=List.mem_flatMap.1 hf;obtain⟨b,hb,hf⟩:=List.mem_flatMap.1 hf;have ha2:=List.mem_filter.1 ha;have hb2:=List.mem_filter.1 hb;have ea:a.2.1=n:=zzy (zzf _ _▸ha2.2).1;have eb:b.1=n:=zzy (zzf _ _▸hb2.2).1;split at hf
    · cases hf
    · rw[zzH.1 hf];have h1:=h a ha2.1;have h2:=h b hb2.1;unfold Fact.ok at h1 h2⊢;rw[ea]at h1;rw[eb]at h2;simp only;omega
  · exact h f (List.mem_filter.1 hf).1
def qxv{base:Nat}:∀(k:Nat) {fx:CL Fact},(∀f∈fx,Fact.ok ρ f)->∀f∈qr9 base k fx,Fact.ok ρ f
  |0,_,h=>h
  |k+1,_,h=>qxv k (qFF h)
def qFp{n:Nat}{c:Nat×Cy×PV}(h:csB n c=true)(a:Agr n ρ ρ'):DV.Ak ρ' c.2.1=DV.Ak ρ c.2.1/\c.2.2.ins ρ'=c.2.2.ins ρ:=by unfold csB at h;rw[zzf]at h;exact⟨qmD a _ h.1,qjv a _ h.2⟩
def qQr(hM:Mod d V σ ρ)(hW:σ.wf){x y:AS}(hn:Nx d V σ ρ x ρ')(h:qio σ x=some y):Nx d V σ ρ y ρ'/\y.st=x.st/\y.G=σ.G:=by
  unfold qio at h;split at h
  · rename_i e;cases h;rw[zzf]at e;refine⟨⟨hn.ag,⟨hn.m.sc,λn t et=>?_,λf hf=>qxv _ hn.m.fx f (List.mem_filter.1 hf).1,hn.m.z,λc hc=>hn.m.cs c (List.mem_filter.1 hc).1⟩,⟨λρ1 ρ2 _ _ a=>?_,λρ1 ρ2 _ _ a c hc=>qFp (List.mem_filter.1 hc).2 a,λf hf=>qwJ (List.mem_filter.1 hf).2,hW.z⟩,zzt _⟩,rfl,rfl⟩
    · rw[hn.ag n (zzk.1 et).1];exact hM.ty n t et
    · show St.mk (x.fr.ins ρ2) (x.H.ins ρ2)=St.mk (x.fr.ins ρ1) (x.H.ins ρ1);rw[qso a _ e.1,qpk a _ e.2]
  · cases h
def qCk(σ:AS){x:AS}:∀{l:CL AS},x∈l->(∃y∈(qil σ l).1,qio σ x=some y)\/x∈(qil σ l).2
  |z::r,hx=>by
    unfold qil;rcases List.mem_cons.1 hx with e|hx
    · subst e;cases e2:qio σ x with
      |none=>exact .inr (zzr ..)
      |some y=>exact .inl ⟨y,zzr ..,rfl⟩
    · have ih:=qCk σ hx;cases e2:qio σ z with
      |none=>
        rcases ih with ⟨y,h1,h2⟩|h
        · exact .inl ⟨y,h1,h2⟩
        · exact .inr (zzi _ h)
      |some w=>
        rcases ih with ⟨y,h1,h2⟩|h
        · exact .inl ⟨y,zzi _ h1,h2⟩
        · exact .inr h
def qu8:∀{l:CL AS},∀y∈(qil σ l).1,y.G=σ.G
  |[],y,hy=>by cases hy
  |z::r,y,hy=>by
    unfold qil at hy;cases e2:qio σ z with
    |none=>rw[e2]at hy;exact qu8 (l:=r) y hy
    |some w=>
      rw[e2]at hy;rcases List.mem_cons.1 hy with e|hy
      · subst e;unfold qio at e2;split at e2
        · cases e2;rfl
        · cases e2
      · exact qu8 (l:=r) y hy
def qFl{x y:AS}(h:(qi6 x.fr y.fr&&qjd x.H y.H)=true)(hG:x.G=y.G):Cov d V y (jnA x y):=by
  rw[zzf]at h;have e1:=qo6 h.1;have e2:=qpl h.2;have es:(jnA x y).st=y.st:=by show St.mk x.fr x.H=St.mk y.fr y.H;rw[e1,e2]
  have hf:∀f∈(jnA x y).fx,f∈y.fx:=λf hf=>qoz (p:=qnK) (λa b=>qCe) (List.mem_filter.1 hf).2;have hc:∀c∈(jnA x y).cs,c∈y.cs:=λc hc=>qoz (p:=qnJ) (λa b=>qCd) (List.mem_filter.1 hc).2;have eg:(jnA x y).G=y.G:=hG;refine⟨es,by rw[eg],λρ h=>⟨h.sc,by rw[eg];exact h.ty,λf q=>h.fx f (hf f q),h.z,λc q=>h.cs c (hc c q)⟩,λh=>⟨λρ1 ρ2 s1 s2 a=>?_,λρ1 ρ2 s1 s2 a c q=>h.cs ρ1 ρ2 s1 s2 (by rw[eg]at a;exact a) c (hc c q),λf q=>by rw[eg];exact h.fx f (hf f q),by rw[eg];exact h.z⟩⟩;rw[es];exact h.st ρ1 ρ2 s1 s2 (by rw[eg]at a;exact a)
def qAz{G:CL TA}(x:AS)(hx:x.G=G):∀(l:CL AS),(∀y∈l,y.G=G)->((∃y∈qkZ x l,Cov d V x y)/\∀z∈l,∃y∈qkZ x l,Cov d V z y)/\∀y∈qkZ x l,y.G=G
  |[],_=>⟨⟨⟨x,zzH.2 rfl,qky x⟩,λz hz=>by cases hz⟩,λy hy=>by rw[zzH.1 hy];exact hx⟩
  |y::r,hl=>by
    have hy:=hl y (zzr ..);unfold qkZ;split
    · rename_i e;refine⟨⟨⟨_,zzr ..,qw9⟩,λz hz=>?_⟩,λz hz=>?_⟩
      · rcases List.mem_cons.1 hz with rfl|hz
        · exact⟨_,zzr ..,qFl e (hx.trans hy.symm)⟩
        · exact⟨z,zzi _ hz,qky z⟩
      · rcases List.mem_cons.1 hz with rfl|hz
        · exact hx
        · exact hl z (zzi _ hz)
    · obtain⟨⟨⟨w,h1,h2⟩,h3⟩,h4⟩:=qAz x hx r λz hz=>hl z (zzi _ hz);refine⟨⟨⟨w,zzi _ h1,h2⟩,λz hz=>?_⟩,λz hz=>?_⟩
      · rcases List.mem_cons.1 hz with rfl|hz
        · exact⟨z,zzr ..,qky z⟩
        · obtain⟨w,h1,h2⟩:=h3 z hz;exact⟨w,zzi _ h1,h2⟩
      · rcases List.mem_cons.1 hz with rfl|hz
        · exact hy
        · exact h4 z hz
def qAA{G:CL TA}:∀(l:CL AS),(∀y∈l,y.G=G)->(∀z∈l,∃y∈qnk l,Cov d V z y)/\∀y∈qnk l,y.G=G
  |[],_=>⟨(λz hz=>by cases hz),(λz hz=>by cases hz)⟩
  |x::r,hl=>by
    obtain⟨h1,h2⟩:=qAA r λz hz=>hl z (zzi _ hz);obtain⟨⟨h3,h4⟩,h5⟩:=qAz (d:=d) (V:=V) x (hl x (zzr ..)) (qnk r) h2;refine⟨λz hz=>?_,h5⟩;rcases List.mem_cons.1 hz with rfl|hz
    · exact h3
    · obtain⟨y,h6,h7⟩:=h1 z hz;obtain⟨w,h8,h9⟩:=h4 y h6;exact⟨w,h8,h7.trans h9⟩
def qKp(hM:Mod d V σ ρ)(hW:σ.wf){x:AS}{l:CL AS}(hn:Nx d V σ ρ x ρ')(hx:x∈l):∃y∈qtB σ l,Nx d V σ ρ y ρ'/\y.st=x.st:=by
  have hs:=qCk σ hx;have hG:=qu8 (σ:=σ) (l:=l);unfold qtB;cases e:qil σ l with
  |mk a b=>
    rw[e]at hs hG;simp only at hs hG⊢;rcases hs with ⟨y,h1,h2⟩|h
    · obtain⟨n1,n2,n3⟩:=qQr hM hW hn h2;obtain⟨w,h3,h4⟩:=(qAA (d:=d) (V:=V) a hG).1 y h1;exact⟨w,List.mem_append_left _ h3,h4.nx n1,h4.st.trans n2⟩
    · obtain⟨w,h3,h4⟩:=qAB (d:=d) (V:=V) b x h;exact⟨w,List.mem_append_right _ h3,h4.nx hn,h4.st⟩
def qxJ(hM:Mod d V σ ρ)(hW:σ.wf)(hS:qdl d V S)(hE:E.val=V){D:CO}{ops:CL Ap}{bf kill:CF}{l:CL (Ex×AS)}(h:qo0 S D ops bf kill σ=some l) :
    ∃o∈l,∃ρ',o.1=.norm/\Nx d V σ ρ o.2 ρ'/\(if D=true then qdq E ops bf kill (σ.st.ins ρ)else qcn E ops kill (σ.st.ins ρ))=some (o.2.st.ins ρ'):=by
  unfold qo0 at h;split at h
  · rename_i l1 e1;cases h;have hW':({ σ with H:=σ.H++List.replicate (qar ops) none }:AS).wf:=⟨λρ1 ρ2 s1 s2 a=>by
      have:=hW.st ρ1 ρ2 s1 s2 a;show St.mk (σ.fr.ins ρ2) (Heap.ins ρ2 (σ.H++_))=St.mk (σ.fr.ins ρ1) (Heap.ins ρ1 (σ.H++_));rw[qps,qps,que,que,show σ.fr.ins ρ2=σ.fr.ins ρ1 from congrArg St.fr this,show σ.H.ins ρ2=σ.H.ins ρ1 from congrArg St.H this],hW.cs,hW.fx,hW.z⟩
    obtain⟨σ1,h1,ρ1,n1,s1⟩:=qxI (E:=E) hS hE D ops bf [] _ { σ with H:=σ.H++List.replicate (qar ops) none } ρ l1 ⟨hM.sc,hM.ty,hM.fx,hM.z,hM.cs⟩ hW' e1;have e2:({ σ with H:=σ.H++List.replicate (qar ops) none }:AS).st.ins ρ=⟨(σ.st.ins ρ).fr,(σ.st.ins ρ).H++List.replicate (qar ops) none⟩:=by show St.mk _ (Heap.ins ρ (σ.H++_))=_;rw[qps,que];rfl
    have e3:(σ.st.ins ρ).H.length=σ.H.length:=qG4 ρ σ.H;have hd:Nx d V σ ρ { σ1 with fr:=σ1.fr.drop kill } ρ1:=⟨n1.ag,⟨n1.m.sc,n1.m.ty,n1.m.fx,n1.m.z,n1.m.cs⟩,⟨λρ1 ρ2 s1 s2 a=>by
      have:=n1.wf.st ρ1 ρ2 s1 s2 a;show St.mk ((σ1.fr.drop kill).ins ρ2) (σ1.H.ins ρ2)=St.mk ((σ1.fr.drop kill).ins ρ1) (σ1.H.ins ρ1);rw[qm0,qm0,show σ1.fr.ins ρ2=σ1.fr.ins ρ1 from congrArg St.fr this,show σ1.H.ins ρ2=σ1.H.ins ρ1 from congrArg St.H this],n1.wf.cs,n1.wf.fx,n1.wf.z⟩,n1.le⟩
    obtain⟨σ2,h2,nx,hst⟩:=qKp hM hW hd (zzN.2 ⟨σ1,h1,rfl⟩:_∈l1.map λσ'=>{ σ' with fr:=σ'.fr.drop kill });refine⟨_,zzN.2 ⟨σ2,h2,rfl⟩,ρ1,rfl,nx,?_⟩;have e4:(St.mk ((σ1.fr.drop kill).ins ρ1) (σ1.H.ins ρ1))=⟨(σ1.st.ins ρ1).fr.drop kill,(σ1.st.ins ρ1).H⟩:=by rw[qm0];rfl
    show _=some (σ2.st.ins ρ1);rw[hst];show _=some (St.mk ((σ1.fr.drop kill).ins ρ1) (σ1.H.ins ρ1));rw[e4];rw[e2]at s1;unfold qdq qcn;rw[e3];cases D with
    |true=>rw[if_pos rfl]at s1⊢;rw[s1]
    |false=>rw[if_neg (by decide)]at s1⊢;rw[s1]
  · cases h
def qpd(live:CF)(ρ:Nat->DV):(σ.gc live).st.ins ρ=Sim.gc live 0 (σ.st.ins ρ):=qG1 ρ live 0 σ.st
def qss(hM:Mod d V σ ρ)(hW:σ.wf)(live:CF):Nx d V σ ρ (σ.gc live) ρ:=
  ⟨Agr.rfl',⟨hM.sc,hM.ty,hM.fx,hM.z,hM.cs⟩,⟨λρ1 ρ2 s1 s2 a=>by rw[qpd,qpd,hW.st ρ1 ρ2 s1 s2 a],hW.cs,hW.fx,hW.z⟩,zzt _⟩
end
section
variable {d:Nat}{ρ ρ' ρ1:Nat->DV}{V:Nat->Cy->CG}{σ σ' σ0:AS}{E:Env}{S:CL (Nat × Sg)}
mutual
def qkL(th ρ:Nat->DV):∀v:DV,(v.ins th).ins ρ=v.ins λn=>(th n).ins ρ
 |.tok _=>rfl
 |.a cs=>by rw[DV.ins,DV.ins,DV.ins,qpo th ρ cs]
 |.l _ es _=>by rw[DV.ins,DV.ins,DV.ins,qpo th ρ es]
 |.ifc _ v=>by rw[DV.ins,DV.ins,DV.ins,qkL th ρ v]
 |.b _|.i _ _|.s _|.np|.nf|.ni|.nm=>rfl
def qpo(th ρ:Nat->DV):∀l:Cy,DV.Ak ρ (DV.Ak th l)=DV.Ak (λn=>(th n).ins ρ) l
 |[]=>rfl
 |v::vs=>by rw[DV.Ak,DV.Ak,DV.Ak,qkL th ρ v,qpo th ρ vs]
end
mutual
def qns(th ρ:Nat->DV):∀v:PV,(v.ins th).ins ρ=v.ins λn=>(th n).ins ρ
 |.d v=>by rw[PV.ins,PV.ins,PV.ins,qkL]
 |.q v _ _=>by rw[PV.ins,PV.ins,PV.ins,qkL]
 |.a cs=>by rw[PV.ins,PV.ins,PV.ins,qnt th ρ cs]
 |.t cs=>by rw[PV.ins,PV.ins,PV.ins,qnt th ρ cs]
 |.f _ cs=>by rw[PV.ins,PV.ins,PV.ins,qnt th ρ cs]
 |.m _ cs=>by rw[PV.ins,PV.ins,PV.ins,qnt th ρ cs]
 |.g v=>by rw[PV.ins,PV.ins,PV.ins,qns th ρ v]
 |.w _ v=>by rw[PV.ins,PV.ins,PV.ins,qns th ρ v]
 |.u|.r .. |.p .. |.h _=>rfl
def qnt(th ρ:Nat->DV):∀l:Cz,PV.Ak ρ (PV.Ak th l)=PV.Ak (λn=>(th n).ins ρ) l
 |[]=>rfl
 |v::vs=>by rw[PV.Ak,PV.Ak,PV.Ak,qns th ρ v,qnt th ρ vs]
end
def qKO(th ρ:Nat->DV)(x:Obj):(x.ins th).ins ρ=x.ins λn=>(th n).ins ρ:=by
 cases x with
 |box k v=>simp only[Obj.ins];rw[qns]
 |sl k ro es=>simp only[Obj.ins];rw[qpo]
 |mp es=>simp only[Obj.ins,List.map_map];congr 1;apply List.map_congr_left;intro y _;simp only[Function.comp];rw[qkL,qkL]
 |si=>rfl
 |lp=>rfl
 |df=>rfl
def qGN(th ρ:Nat->DV)(H:CW):(H.ins th).ins ρ=H.ins λn=>(th n).ins ρ:=by
 unfold Heap.ins;rw[List.map_map];apply List.map_congr_left;intro x _;cases x with
 |none=>rfl
 |some x=>exact congrArg some (qKO th ρ x)
def qxS(th ρ:Nat->DV):∀fr:Fr,(fr.ins th).ins ρ=fr.ins λn=>(th n).ins ρ
 |[]=>rfl
 | (j,v)::r=>by simp only[Fr.ins];rw[qns,qxS th ρ r]
def qtF(hM:Mod d V σ ρ){v:DV}{a:Nat×Int}(h:qpZ v=some a):vI (v.ins ρ)=nv ρ a:=by
 cases v with
 |i k c=>cases h;rw[qeg hM];rfl
 |tok m=>cases h;unfold nv;simp[DV.ins]
 |s x=>cases h;rw[qeg hM];rfl
 |l k es t=>cases h;rw[qeg hM];simp only[DV.ins,vI,qcX]
 |_=>cases h
def qCz(hM:Mod d V σ ρ){th:Nat->DV}:∀(n:Nat) (g:CL TA),thT σ.G th n g=true->∀i t,g[i]? = some t->Hs d t ((th (n+i)).ins ρ)
 |_,[],_,i,t,e=>by simp at e
 |n,t::ts,h,i,u,e=>by
  simp only[thT,zzf]at h;cases i with
  |zero=>simp at e;subst e;exact qh3 hM.ty _ _ h.1
  |succ i=>
   have:=qCz hM (n+1) ts h.2 i u (by simpa using e)
   rwa [show n+1+i=n+(i+1)by omega]at this
def qxT(hM:Mod d V σ ρ){th:Nat->DV}{n0:Nat}{fr:Fr}{H:CW}{g:CL TA}{cs:CL Fact}(h:qo2 th n0 fr H g cs σ=true) :
  (St.mk fr H).ins (λn=>(th n).ins ρ)=σ.st.ins ρ/\(∀i t,g[i]? = some t->Hs d t ((th (n0+i)).ins ρ))/\∀f∈cs,Fact.ok (λn=>(th n).ins ρ) f:=by
 unfold qo2 at h;simp only[zzf]at h;obtain⟨⟨⟨h1,h2⟩,h3⟩,h4⟩:=h;refine⟨?_,qCz hM n0 g h3,λf hf=>?_⟩
 ·show St.mk (fr.ins _) (H.ins _)=St.mk (σ.fr.ins ρ) (σ.H.ins ρ);rw[<-qxS,<-qGN,qo6 h1,qpl h2]
 ·have h5:=List.all_eq_true.1 h4 f hf;unfold thF at h5;split at h5
  ·rename_i a b e1 e2;have:=qcc hM h5;unfold Fact.ok;rw[qtF hM e1,qtF hM e2];exact this
  ·cases h5
def qvm{n0 m n:Nat}{bd:Bd}(h:n<n0):thD n0 m bd n=.tok n:=by unfold thD;rw[if_neg];rw[zzf];intro c;have:=Nat.le_of_ble_eq_true c.1;omega
def qCy(hs:Sc ρ){n0:Nat}{g:CL TA}{bd:Bd}(h:∀i t,g[i]? = some t->Hs d t ((thD n0 g.length bd (n0+i)).ins ρ)):Sc λn=>(thD n0 g.length bd n).ins ρ:=by
 intro n cs e;by_cases hn:n0<=n/\n<n0+g.length
 ·have hi:n-n0<g.length:=by omega
  have:=h (n-n0) _ (zze hi);rw[show n0+(n-n0)=n by omega]at this;exact qvX this cs e
 ·have:thD n0 g.length bd n=.tok n:=by unfold thD;rw[if_neg];rw[zzf];intro c;exact hn ⟨Nat.le_of_ble_eq_true c.1,qkt c.2⟩
  simp only at e;rw[this]at e;exact hs n cs e
def qjb(σ0:AS)(fr:Fr)(H:CW)(g:CL TA)(cs:CL Fact):AS:=({ σ0 with fr:=fr,H:=H }.news g).add cs
def qsu(fr:Fr)(H:CW)(g:CL TA)(cs:CL Fact):(qjb σ0 fr H g cs).G.length=σ0.G.length+g.length:=qk1 (σ:={ σ0 with fr:=fr,H:=H }) g
def qyf(hM:Mod d V σ0 ρ)(hW:σ0.wf){fr:Fr}{H:CW}{g:CL TA}{cs:CL Fact}(ha:Agr σ0.G.length ρ ρ')(hs:Sc ρ')(hg:∀i t,g[i]? = some t->Hs d t (ρ' (σ0.G.length+i)))(hc:∀f∈cs,Fact.ok ρ' f):Mod d V (qjb σ0 fr H g cs) ρ':=by
 have hz:ρ' 0=.i .i64 0:=by rw[ha 0 hW.z];exact hM.z
 refine⟨hs,?_,?_,hz,?_⟩
 ·intro n t e;change (σ0.G++g)[n]? = some t at e;by_cases hlt:n<σ0.G.length
  ·rw[List.getElem?_append_left hlt]at e;rw[ha n hlt];exact hM.ty n t e
  ·rw[List.getElem?_append_right (by omega)]at e;have:=hg _ t e
   rwa [show σ0.G.length+(n-σ0.G.length)=n by omega]at this
 ·intro f hf;rcases zzB.1 hf with hf|hf
  ·exact hc f hf
  ·rcases zzB.1 hf with hf|hf
   ·exact qpa hz g _ hg f hf
   ·exact qxK (hW.fx f hf).1 (hW.fx f hf).2 ha (hM.fx f hf)
 ·intro c hc;obtain⟨own,h1⟩:=hM.cs c hc;have:=hW.cs _ _ hM.sc hs ha c hc;exact⟨own,by rw[this.1,this.2];exact h1⟩
def qGn(hW:σ0.wf){fr:Fr}{H:CW}{g:CL TA}{cs:CL Fact}(h1:cs.all (qmC (σ0.G.length+g.length))=true)(h2:fr.bnd (σ0.G.length+g.length)=true)(h3:qjc (σ0.G.length+g.length) H=true):(qjb σ0 fr H g cs).wf:=by
 have hl:=qsu (σ0:=σ0) fr H g cs;refine⟨λρ1 ρ2 s1 s2 a=>?_,λρ1 ρ2 s1 s2 a=>hW.cs ρ1 ρ2 s1 s2 (a.le (by omega)),?_,by have:=hW.z;omega⟩
 ·show St.mk (fr.ins ρ2) (H.ins ρ2)=St.mk (fr.ins ρ1) (H.ins ρ1);rw[hl]at a;rw[qso a fr h2,qpk a H h3]
 ·intro f hf;rw[hl];rcases zzB.1 hf with hf|hf
  ·exact qwJ (List.all_eq_true.1 h1 f hf)
  ·rcases zzB.1 hf with hf|hf
   ·exact qo9 g _ f hf
   ·have:=hW.fx f hf;omega
def mea(ρ:Nat->DV)(ms:CO×Nat×Nat):Nat:=if ms.1=true then (vI (ρ ms.2.2)-vI (ρ ms.2.1)).toNat else (vI (ρ ms.2.1)).toNat
def qxL(hM:Mod d V σ ρ1){n0 m:Nat}{bd:Bd}{ms:CO×Nat×Nat}(h:qsj (thD n0 m bd) n0 m σ.fx ms=true)(ha:Agr (n0+m) ρ' ρ1):mea (λn=>(thD n0 m bd n).ins ρ1) ms<mea ρ' ms:=by
 unfold qsj at h;split at h
 ·rename_i a e;rw[zzf]at h;have hc:=qkt h.1;have hn:=qtF hM e;have ec:=ha _ hc;have h2:=h.2;unfold mea;split at h2
  ·rename_i e1;simp only[zzf]at h2;obtain⟨⟨h3,h4⟩,h5⟩:=h2;have hb:=qkt h3;have b4:=qcc hM h4;have b5:=qcc hM h5;have eb:=ha ms.2.2 (by omega);rw[if_pos e1,if_pos e1];simp only;rw[qvm hb,hn];show (vI (ρ1 ms.2.2)-nv ρ1 a).toNat<_;unfold nv at b4 b5;simp only at b4 b5;unfold nv;rw[<-ec,<-eb];omega
  ·rename_i e1;rw[zzf]at h2;have b4:=qcc hM h2.1;have b5:=qcc hM h2.2;unfold z0 at b5;rw[qeg hM]at b5;rw[if_neg e1,if_neg e1];simp only;rw[hn];unfold nv at b4 b5;simp only at b4 b5;unfold nv;rw[<-ec];omega
 ·cases h
def Snd(d:Nat)(V:Nat->Cy->CG)(f:AS->CK (CL (Ex×AS)))(F:St->Res):Prop:=
 ∀σ ρ outs,Mod d V σ ρ->σ.wf->f σ=some outs->∃o∈outs,∃ρ',Nx d V σ ρ o.2 ρ'/\F (σ.st.ins ρ)=some (o.1,o.2.st.ins ρ')
def qsN{e:Ex}(h:isN e=true):e=.norm:=by cases e<;>first|rfl|cases h
def qJm{f:AS->CK (CL (Ex×AS))}{F:St->Res}(hF:Snd d V f F)(hM:Mod d V σ0 ρ){live:CF}{fr:Fr}{H:CW}{g:CL TA}{cs:CL Fact}{outs:CL (Ex×AS)}(hf:f (qjb σ0 fr H g cs)=some outs)(hW:σ0.wf)(hWg:(qjb σ0 fr H g cs).wf){ms:CO×Nat×Nat}
  (hk:∀σ1∈(outs.filter qcP).map (·.2),qm8 live σ0.G.length fr H g cs ms σ1=true):∀(k:Nat) (ρ':Nat->DV) (s:St),Mod d V (qjb σ0 fr H g cs) ρ'->Agr σ0.G.length ρ ρ'->gc live 0 s=(St.mk fr H).ins ρ'->mea ρ' ms<=k->
  ∃o∈outs.filter (λo=>!qcP o),∃ρ2,Nx d V σ0 ρ o.2 ρ2/\lpI (λs=>F (gc live 0 s)) s=some (o.1,o.2.st.ins ρ2):=by
 intro k;induction k with
 |zero=>
  intro ρ' s hMg ha hs hm;obtain⟨o,ho,ρ1,hn,he⟩:=hF _ ρ' outs hMg hWg hf;have hl:=qsu (σ0:=σ0) fr H g cs;have he':(λs=>F (gc live 0 s)) s=some (o.1,o.2.st.ins ρ1):=by show F (gc live 0 s)=_;rw[hs];exact he
  cases hb:isN o.1 with
  |true=>
   have:=hk o.2 (zzN.2 ⟨o,List.mem_filter.2 ⟨ho,hb⟩,rfl⟩);unfold qm8 at this;split at this
   ·rename_i bd _;rw[zzf]at this;have hgc:=qss hn.m hn.wf live;have:=qxL hgc.m this.2 (ρ':=ρ') (hn.ag.le (by omega));omega
   ·cases this
  |false=>refine⟨o,List.mem_filter.2 ⟨ho,by unfold qcP;rw[hb];rfl⟩,ρ1,⟨ha.trans (hn.ag.le (by omega)),hn.m,hn.wf,zzL (by omega) hn.le⟩,?_⟩;exact qtk (f:=λs=>F (gc live 0 s)) he' (λc=>by rw[c]at hb;cases hb)
 |succ k ih=>
  intro ρ' s hMg ha hs hm;obtain⟨o,ho,ρ1,hn,he⟩:=hF _ ρ' outs hMg hWg hf;have hl:=qsu (σ0:=σ0) fr H g cs;have he':(λs=>F (gc live 0 s)) s=some (o.1,o.2.st.ins ρ1):=by show F (gc live 0 s)=_;rw[hs];exact he
  cases hb:isN o.1 with
  |true=>
   have hkk:=hk o.2 (zzN.2 ⟨o,List.mem_filter.2 ⟨ho,hb⟩,rfl⟩);unfold qm8 at hkk;split at hkk
   ·rename_i bd _;rw[zzf]at hkk;have hgc:=qss hn.m hn.wf live;have hfall:=qxL hgc.m hkk.2 (ρ':=ρ') (hn.ag.le (by omega));obtain⟨f1,f2,f3⟩:=qxT hgc.m hkk.1;have hag:Agr σ0.G.length ρ λn=>(thD σ0.G.length g.length bd n).ins ρ1:=by intro n hlt;simp only;rw[qvm hlt];show ρ1 n=ρ n;rw[hn.ag n (by omega),ha n hlt]
    obtain⟨o2,h1,ρ2,h2,h3⟩:=ih _ (o.2.st.ins ρ1) (qyf hM hW hag (qCy hgc.m.sc f2) f2 f3) hag (by rw[f1,qpd]) (by omega);refine⟨o2,h1,ρ2,h2,?_⟩;rw[qsN hb]at he';exact (qAd (f:=λs=>F (gc live 0 s)) he').trans h3
   ·cases hkk
  |false=>refine⟨o,List.mem_filter.2 ⟨ho,by unfold qcP;rw[hb];rfl⟩,ρ1,⟨ha.trans (hn.ag.le (by omega)),hn.m,hn.wf,zzL (by omega) hn.le⟩,?_⟩;exact qtk (f:=λs=>F (gc live 0 s)) he' (λc=>by rw[c]at hb;cases hb)
end
section
variable {d:Nat}{ρ ρ' ρ1:Nat->DV}{V:Nat->Cy->CG}{σ σ' σ0:AS}{E:Env}{S:CL (Nat × Sg)}
def qxP{live:CF}{n0:Nat}{fr:Fr}{H:CW}{g:CL TA}{cs:CL Fact}{l:CL AS}{m:CO×Nat×Nat}:∀{ms:CL (CO×Nat×Nat)},qmQ live n0 fr H g cs l ms=some m->l.all (qm8 live n0 fr H g cs m)=true
 |[],h=>by cases h
 |x::r,h=>by
  unfold qmQ at h;split at h
  ·rename_i e;cases h;exact e
  ·exact qxP h
def qGl{f:AS->CK (CL (Ex×AS))}{F:St->Res}(hF:Snd d V f F)(hM:Mod d V σ0 ρ)(hW:σ0.wf){live:CF}{s:St}(hs:gc live 0 s=σ0.st.ins ρ){fr:Fr}{H:CW}{g:CL TA}{cs:CL Fact}{outs outs':CL (Ex×AS)}{ms:CL (CO×Nat×Nat)}(hf:f (qjb σ0 fr H g cs)=some outs)
  (hb:qrB σ0.G.length fr H g cs σ0=true) (h:(match qmQ live σ0.G.length fr H g cs ((outs.filter qcP).map (·.2)) ms with
   |some _=>some (outs.filter λo=>!qcP o)
   |none=>none)=some outs') :
  ∃o∈outs',∃ρ2,Nx d V σ0 ρ o.2 ρ2/\lpI (λs=>F (gc live 0 s)) s=some (o.1,o.2.st.ins ρ2):=by
 split at h
 ·rename_i m e;cases h;unfold qrB at hb;split at hb
  ·rename_i bd _;simp only[zzf]at hb;obtain⟨b1,b2,b3,b4⟩:=hb;obtain⟨f1,f2,f3⟩:=qxT hM b1;have hag:Agr σ0.G.length ρ λn=>(thD σ0.G.length g.length bd n).ins ρ:=by intro n hlt;simp only;rw[qvm hlt];rfl
   exact qJm hF hM hf hW (qGn hW b2 b3 b4) (λσ1 h1=>List.all_eq_true.1 (qxP e) σ1 h1) _ _ s (qyf hM hW hag (qCy hM.sc f2) f2 f3) hag (by rw[f1,hs]) (zzt _)
  ·cases hb
 ·cases h
def qGm{f:AS->CK (CL (Ex×AS))}{F:St->Res}(hF:Snd d V f F)(hM:Mod d V σ0 ρ)(hW:σ0.wf){live:CF}{s:St}(hs:gc live 0 s=σ0.st.ins ρ):∀(n:Nat) (x:Fr×CW×CL TA) (bad:CL Fact) (outs':CL (Ex×AS)),qmW f live σ0 n x bad=some outs'->
  ∃o∈outs',∃ρ2,Nx d V σ0 ρ o.2 ρ2/\lpI (λs=>F (gc live 0 s)) s=some (o.1,o.2.st.ins ρ2):=by
 intro n;induction n with
 |zero=>intro x bad outs' h;cases h
 |succ n ih=>
  intro x bad outs' h;unfold qmW at h;simp only at h;split at h
  ·cases h
  ·rename_i bd _;split at h
   ·cases h
   ·rename_i outs e1;split at h
    ·cases h
    ·rename_i y _;split at h
     ·exact ih _ _ _ h
     ·split at h
      ·exact ih _ _ _ h
      ·split at h
       ·rename_i hb;exact qGl hF hM hW hs e1 hb h
       ·cases h
def qFW{f:AS->CK (CL (Ex×AS))}{F:St->Res}(hF:Snd d V f F){live:CF}:∀(n:Nat),Snd d V (qoX f live n) (lpI λs=>F (gc live 0 s)):=by
 intro n;induction n with
 |zero=>intro σ ρ outs _ _ h;cases h
 |succ n ih=>
  intro σ ρ outs' hM hW h;unfold qoX at h;simp only at h;have hg:=qss hM hW live;have hs:gc live 0 (σ.st.ins ρ)=(σ.gc live).st.ins ρ:=(qpd live ρ).symm;split at h
  ·cases h
  ·rename_i outs e1;split at h
   ·split at h
    ·obtain⟨o,h1,ρ2,h2,h3⟩:=qGm hF hg.m hg.wf hs _ _ _ _ h;exact⟨o,h1,ρ2,hg.trans h2,h3⟩
    ·cases h
   ·obtain⟨o,ho,ρ1,hn,he⟩:=hF _ ρ outs hg.m hg.wf e1;have he':(λs=>F (gc live 0 s)) (σ.st.ins ρ)=some (o.1,o.2.st.ins ρ1):=by show F (gc live 0 _)=_;rw[hs];exact he
    obtain⟨y,e2,hy⟩:=qox h o ho;cases hb:isN o.1 with
    |true=>have hb':qcP o=true:=hb;rw[if_pos hb']at e2;obtain⟨o2,h1,ρ2,h2,h3⟩:=ih _ ρ1 y hn.m hn.wf e2;refine⟨o2,hy _ h1,ρ2,hg.trans (hn.trans h2),?_⟩;rw[qsN hb]at he';exact (qAd (f:=λs=>F (gc live 0 s)) he').trans h3
    |false=>
     have hb':¬qcP o=true:=by unfold qcP;rw[hb];decide
     rw[if_neg hb']at e2;cases e2;refine⟨o,hy _ (zzH.2 rfl),ρ1,hg.trans hn,?_⟩;exact qtk (f:=λs=>F (gc live 0 s)) he' (λc=>by rw[c]at hb;cases hb)
def qw8{fr:Fr}{c:Ab}{b:CO}(h:rdA fr c=.d (.b b)):rd E (fr.ins ρ) c=.d (.b b):=by
 cases c with
 |t n=>show (fr.ins ρ).get n=_;rw[qje];have:fr.get n=.d (.b b):=h;rw[this];rfl
 |c v=>exact h
 |g n=>cases h
 |f n=>cases h
def qFV(hS:qdl d V S)(hE:E.val=V):∀c:PC,Snd d V (qeu S c) (λs=>qag E lpI 0 c s):=by
 intro c;induction c with
 |skip=>intro σ ρ outs hM hW h;cases h;exact⟨_,zzH.2 rfl,ρ,⟨Agr.rfl',hM,hW,zzt _⟩,rfl⟩
 |reg ops kill=>intro σ ρ outs hM hW h;obtain⟨o,h1,ρ',h2,h3,h4⟩:=qxJ hM hW hS hE h;rw[if_neg (by decide)]at h4;refine⟨o,h1,ρ',h3,?_⟩;simp only[qag];rw[h4,h2]
 |Ba ops bf kill=>intro σ ρ outs hM hW h;obtain⟨o,h1,ρ',h2,h3,h4⟩:=qxJ hM hW hS hE h;rw[if_pos rfl]at h4;refine⟨o,h1,ρ',h3,?_⟩;simp only[qag];rw[h4,h2]
 |seq a b iha ihb=>
  intro σ ρ outs hM hW h;unfold qeu at h;split at h
  ·rename_i l e1;obtain⟨o,ho,ρ1,hn,he⟩:=iha σ ρ l hM hW e1;obtain⟨y,e2,hy⟩:=qox h o ho;simp only[qag];simp only at he;cases hb:isN o.1 with
   |true=>have hb':qcP o=true:=hb;rw[if_pos hb']at e2;obtain⟨o2,h1,ρ2,h2,h3⟩:=ihb _ ρ1 y hn.m hn.wf e2;refine⟨o2,hy _ h1,ρ2,hn.trans h2,?_⟩;rw[he,qsN hb];exact h3
   |false=>
    have hb':¬qcP o=true:=by unfold qcP;rw[hb];decide
    rw[if_neg hb']at e2;cases e2;refine⟨o,hy _ (zzH.2 rfl),ρ1,hn,?_⟩;rw[he];obtain⟨e,σ1⟩:=o;cases e with
    |norm=>cases hb
    |exit i=>rfl
    |ret=>rfl
  ·cases h
 |cond c x y ihx ihy=>
  intro σ ρ outs hM hW h;unfold qeu at h;simp only[qag];split at h
  ·rename_i e;have:rd E (σ.st.ins ρ).fr c=.d (.b true):=qw8 e;rw[this];exact ihx σ ρ outs hM hW h
  ·rename_i e;have:rd E (σ.st.ins ρ).fr c=.d (.b false):=qw8 e;rw[this];exact ihy σ ρ outs hM hW h
  ·cases h
 |block id x ih=>
  intro σ ρ outs hM hW h;unfold qeu at h;split at h
  ·rename_i l e1;cases h;obtain⟨o,ho,ρ1,hn,he⟩:=ih σ ρ l hM hW e1;simp only[qag];simp only at he;refine⟨_,zzN.2 ⟨o,ho,rfl⟩,ρ1,?_,?_⟩
   ·split
    ·split
     ·exact hn
     ·exact hn
    ·exact hn
   ·rw[he];obtain⟨e,σ1⟩:=o;cases e with
    |norm=>rfl
    |exit i=>
     simp only;split
     ·rfl
     ·rfl
    |ret=>rfl
  ·cases h
 |loop live x ih=>intro σ ρ outs hM hW h;exact qFW ih 40 σ ρ outs hM hW h
 |exit id=>intro σ ρ outs hM hW h;cases h;exact⟨_,zzH.2 rfl,ρ,⟨Agr.rfl',hM,hW,zzt _⟩,rfl⟩
 |ret=>intro σ ρ outs hM hW h;cases h;exact⟨_,zzH.2 rfl,ρ,⟨Agr.rfl',hM,hW,zzt _⟩,rfl⟩
 |rng=>intro σ ρ outs hM hW h;cases h
 |bad=>intro σ ρ outs hM hW h;cases h
end
section
variable {d:Nat}{ρ ρ' ρ1:Nat->DV}{V:Nat->Cy->CG}{σ σ' σ0:AS}{E:Env}{S:CL (Nat × Sg)}
def qjF(args:CL (K×CL TA)):AS:={ fr:=Fr.Aa 0 (qcB 1 args),H:=[],G:=.i .i64::qdg args,fx:=fxs 1 (qdg args) }
def qnF(H:CW):PV->CK (Cy)
 |.t vs=>match qaN H vs with|some (xs,_)=>if Nat.beq xs.length 1 then none else some xs|none=>none
 |.d x=>some [x]
 |.r o k off len t=>match qaW H (.r o k off len t)with|some (x,_)=>some [x]|none=>none
 |.a cs=>match qcd H cs with|some (xs,_)=>some [.a xs]|none=>none
 |_=>none
def qA2(res:CL (K×CL TA))(rs:CL RV)(o:Ex×AS):CO:=(match o.1 with|.exit _=>false|_=>true)&&((qao o.2.fr).isEmpty&&match results o.2.fr o.2.H rs with
 |some vs=>match qnF o.2.H (qbi vs)with
  |some xs=>qkO o.2.G res xs
  |none=>false
 |none=>false)
def qax(S:CL (Nat×Sg))(F:PF)(g:Sg):CO:=Nat.beq g.args.length F.Bn&&match qeu S F.body (qjF g.args)with
 |some l=>l.all (qA2 g.res F.results)
 |none=>false
def quh(hρ:Sc ρ){fr:Fr}{H:CW}:∀{rs:CL RV} {vs:Cz},results fr H rs=some vs->results (fr.ins ρ) (H.ins ρ) rs=some (PV.Ak ρ vs)
 |[],vs,h=>by cases h;rfl
 |.t n::r,vs,h=>by
  simp only[results]at h⊢;split at h
  ·rename_i ws e;cases h;rw[quh hρ e,qje];rfl
  ·cases h
 |.c n k::r,vs,h=>by
  simp only[results]at h⊢;split at h
  ·rename_i v ws e1 e2;cases h;rw[quh hρ e2,qje,qz4 hρ e1];rfl
  ·cases h
def qsA:∀fr:Fr,qao (fr.ins ρ)=(qao fr).map (PV.ins ρ)
 |[]=>rfl
 | (j,v)::r=>by
  simp only[Fr.ins,qao];split
  ·rw[zzu,qsA r]
  ·exact qsA r
def qBt{H:CW}:∀{l:Cz} {xs:Cy} {os:CF},qaN H l=some (xs,os)->qaN (H.ins ρ) (PV.Ak ρ l)=some (DV.Ak ρ xs,os)
 |[],xs,os,h=>by cases h;rfl
 |v::r,xs,os,h=>by
  simp only[qaN]at h;split at h
  ·rename_i x os1 ys os2 e1 e2;cases h;simp only[PV.Ak,qaN];rw[qtU e1,qBt e2];rfl
  ·cases h
def qrm{es:Cy}{k:K}:∀{n:Nat},¬XD n (.l k es true)
 |0,h=>by cases h
 |_+1,⟨_,h,_⟩=>by cases h
def qDo{ty:TA}{es:Cy}{k:K}(h:Hs d ty (.l k es true)):Hs d ty (.l k es false):=by
 cases ty with
 |b=>obtain⟨_,h⟩:=h;cases h
 |i k=>obtain⟨_,h,_⟩:=h;cases h
 |s=>obtain⟨_,h,_⟩:=h;cases h
 |l k m ts=>obtain⟨_,_,h,hl,hm,he⟩:=h;cases h;exact⟨_,_,rfl,hl,hm,he⟩
 |e n=>
  match n,h with
  |0,⟨m,h⟩=>exact (qrm h).elim
  |1,h=>exact (qrm (n:=d) h).elim
  |n+2,⟨m,hm,h⟩=>exact (qrm h).elim
def qDm{kt:K×CL TA}{es:Cy}{k:K}(h:HsK d kt (.l k es true)):HsK d kt (.l k es false):=by
 obtain⟨k0,ts⟩:=kt;obtain⟨cs,h1,h2⟩:=h;cases k0 with
 |none=>
  match cs,ts,h1,h2 with
  |[x],[ty],h1,h2=>
   have:x=.l k es true:=by simpa[mkD]using h1
   subst this;exact⟨[.l k es false],rfl,qDo h2.1,trivial⟩
  |[_],[],_,h2=>exact h2.elim
  |[_],_::_::_,_,h2=>exact h2.2.elim
 |some n=>simp only[mkD]at h1;split at h1<;>cases h1
def qPk(hρ:Sc ρ){H:CW}{v:PV}{xs:Cy}(h:qnF H v=some xs){res:CL (K×CL TA)}(hx:qbO d res (DV.Ak ρ xs)):∃vs own,AC (H.ins ρ) (v.ins ρ)=some (qbi (vs.map .d),own)/\qbO d res vs:=by
 cases v with
 |t vs=>
  simp only[qnF]at h;split at h
  ·rename_i ys os e;split at h
   ·cases h
   ·rename_i hl;cases h;refine⟨DV.Ak ρ xs,false,?_,hx⟩;show AC (H.ins ρ) (.t (PV.Ak ρ vs))=_;simp only[AC];rw[qBt e];have hl2:xs.length≠1:=λc=>hl (by rw[c];rfl)
    match xs,hl2 with
    |[],_=>rfl
    |[x],c=>exact absurd rfl c
    |_::_::_,_=>rfl
  ·cases h
 |d x=>
  cases h;have key:∀y:DV,qbO d res [y]->∃vs own,AC (H.ins ρ) (.d y)=some (qbi (vs.map .d),own)/\qbO d res vs:=by
   intro y hy;match y,hy with
   |.l k es true,hy=>
    refine⟨[.l k es false],es.isEmpty,rfl,?_⟩;match res,hy with
    |[kt],hy=>exact⟨qDm hy.1,trivial⟩
   |.l k es false,hy=>exact⟨[_],false,rfl,hy⟩
   |.b _,hy|.i _ _,hy|.s _,hy|.a _,hy|.np,hy|.nf,hy|.ni,hy|.nm,hy|.ifc _ _,hy|.tok _,hy=>exact⟨[_],false,rfl,hy⟩
  exact key _ hx
 |r o k off len t=>
  simp only[qnF]at h;split at h
  ·rename_i x os e;cases h;have e2:=qtR (ρ:=ρ) e;refine⟨[x.ins ρ],?_⟩;simp only[PV.ins]at e2⊢;simp only[qaW]at e2;simp only[AC];split at e2
   ·rename_i k' ro es eo;split at e2
    ·rename_i hc;rw[if_pos hc];simp only[zzb,zzc]at e2;exact⟨_,by rw[e2.1];rfl,hx⟩
    ·cases e2
   ·cases e2
  ·cases h
 |a cs=>
  simp only[qnF]at h;split at h
  ·rename_i ys os e;cases h;refine⟨[.a (DV.Ak ρ ys)],false,?_,hx⟩;show AC (H.ins ρ) (.a (PV.Ak ρ cs))=_;simp only[AC,pur];rw[qtT cs e];rfl
  ·cases h
 |_=>cases h
def qp2:∀(l:Cz) (n:Nat),(Fr.Aa n l).ins ρ=Fr.Aa n (PV.Ak ρ l)
 |[],_=>rfl
 |v::r,n=>by
  have app:∀a b:Fr,Fr.ins ρ (a++b)=a.ins ρ++b.ins ρ:=by
   intro a b;induction a with
   |nil=>rfl
   |cons x a ih=>obtain⟨j,w⟩:=x;simp only[List.cons_append,Fr.ins];rw[ih]
  simp only[Fr.Aa,PV.Ak];rw[app,qp2 r (n+1)];rfl
def qwu{T:Tab}{f:Nat}{F:PF}(hF:T.F f=some F){g:Sg}(h:qax S F g=true)(hS:qdl d T.val S){ds:Cy}(hd:qbO d g.args ds):∃vs own,T.val f ds=some (qbi (vs.map .d),own)/\qbO d g.res vs:=by
 unfold qax at h;rw[zzf]at h;obtain⟨h0,h⟩:=h;split at h
 ·rename_i l e;obtain⟨css,c1,c2⟩:=qug g.args ds hd;have hρ0:Sc (λ_=>DV.i .i64 0):=λn cs e=>by cases e
  let ρ:=upn (λ_=>DV.i .i64 0) 1 css;have hsc:Sc ρ:=qCK hρ0 c1;have hz:ρ 0=.i .i64 0:=qiq (by omega);have hn:∀i t,(qdg g.args)[i]? = some t->Hs d t (ρ (1+i)):=by intro i t e;obtain⟨x,e1,e2⟩:=qqO c1 i t e;show Hs d t (upn _ 1 css (1+i));rw[qej e1];exact e2
  have hgl:(qjF g.args).G.length=1+(qdg g.args).length:=by show (_::_:CL TA).length=_;rw[zzn];omega
  have hM:Mod d T.val (qjF g.args) ρ:=by
   refine⟨hsc,?_,qpa hz _ 1 hn,hz,λc hc=>by cases hc⟩;intro n t e;cases n with
   |zero=>
    have:t=.i .i64:=by simpa[qjF]using e.symm
    subst this;exact⟨0,hz,by decide⟩
   |succ n=>
    have:=hn n t (by simpa[qjF]using e)
    rwa [show 1+n=n+1 by omega]at this
  have hW:(qjF g.args).wf:=by
   refine⟨λρ1 ρ2 _ _ a=>?_,(λ_ _ _ _ _ c hc=>by cases hc),λf hf=>?_,by omega⟩
   ·show St.mk ((Fr.Aa 0 (qcB 1 g.args)).ins ρ2) (Heap.ins ρ2 [])=St.mk ((Fr.Aa 0 (qcB 1 g.args)).ins ρ1) (Heap.ins ρ1 []);rw[hgl]at a;rw[qp2,qp2,qk5 a _ (quf _ _ hd 1 _ (zzt _))];rfl
   ·have:=qo9 _ 1 f hf;omega
  obtain⟨o,ho,ρ',hn,he⟩:=qFV (E:=T.env) hS rfl F.body _ ρ l hM hW e;have hout:=List.all_eq_true.1 h o ho;have e1:(qjF g.args).st.ins ρ=⟨Fr.Aa 0 (ds.map .d),[]⟩:=by
   show St.mk ((Fr.Aa 0 (qcB 1 g.args)).ins ρ) (Heap.ins ρ [])=_;have:=c2 (λ_=>DV.i .i64 0) 1 [];rw[qp2];have e3:PV.Ak ρ (qcB 1 g.args)=ds.map .d:=by simpa using this
   rw[e3];rfl
  have hlen:(ds.map PV.d).length=F.Bn:=by
   have hl:∀(ks:CL (K×CL TA)) (vs:Cy),qbO d ks vs->ks.length=vs.length:=by
    intro ks;induction ks with
    |nil=>intro vs h;cases vs with
     |nil=>rfl
     |cons=>exact h.elim
    |cons k ks ih=>intro vs h;cases vs with
     |nil=>exact h.elim
     |cons v vs=>rw[zzn,zzn,ih vs h.2]
   rw[zzo,<-hl _ _ hd];exact zzy h0
  unfold qA2 at hout;rw[zzf,zzf]at hout;obtain⟨h2,h3,h4⟩:=hout;split at h4
  ·rename_i vs e5;split at h4
   ·rename_i xs e6;have hk:=qsM hn.m.ty h4;obtain⟨ws,own,p1,p2⟩:=qPk hn.m.sc e6 hk;refine⟨ws,own,?_,p2⟩;rw[qC8 T hF];have hg:qao (o.2.st.ins ρ').fr=[]:=by show qao (o.2.fr.ins ρ')=[];rw[qsA,List.isEmpty_iff.1 h3];rfl
    have hr:results (o.2.st.ins ρ').fr (o.2.st.ins ρ').H F.results=some (PV.Ak ρ' vs):=quh hn.m.sc e5;have hev:qbr T.env lpI F (ds.map .d) []=some (qbi (PV.Ak ρ' vs),(o.2.st.ins ρ').H):=by
     unfold qbr;rw[if_pos hlen];simp only at he;rw[e1]at he;show (match qag T.env lpI 0 F.body ⟨Fr.Aa 0 (ds.map .d),[]⟩with
      |some (.norm,s)|some (.ret,s)=>match Bj T.env (qao s.fr) s.H with
       |some H'=>match results s.fr H' F.results with
        |some vs=>some (qbi vs,H')
        |none=>none
       |none=>none
      |_=>none)=_
     rw[he];obtain⟨ex,σ1⟩:=o;cases ex with
     |exit i=>cases h2
     |norm=>simp only[hg,Bj,hr]
     |ret=>simp only[hg,Bj,hr]
    rw[hev];simp only;rw[<-qA4];exact p1
   ·cases h4
  ·cases h4
 ·cases h
end
mutual
def Ty.ta:Ty->TA
 |.b=>.b
 |.i k=>.i k
 |.s=>.s
 |.e=>.e 0
 |.l k w ts=>.l k (if Nat.beq w 0 then maxLen else qbt/w) (Ty.taL ts)
def Ty.taL:CL Ty->CL TA
 |[]=>[]
 |t::ts=>Ty.ta t::Ty.taL ts
end
def qwa:∀{x:DV},XL x->∃n,XD n x:=by
 intro x hx;refine XL.rec (motive_1:=λx _=>∃n,XD n x) (motive_2:=λe _=>∃n,∃o m s a,e=.a [.i .i64 o,.i .i64 m,.s s,a]/\(Lit.int .i64 o).wf=true/\(Lit.int .i64 m).wf=true/\s.length<=maxLen/\XD n a) ?_ ?_ hx
 ·intro es _ _ hc ih;have key:∀es:Cy,(∀e∈es,∃n,∃o m s a,e=.a [.i .i64 o,.i .i64 m,.s s,a]/\(Lit.int .i64 o).wf=true/\(Lit.int .i64 m).wf=true/\s.length<=maxLen/\XD n a)->∃n,∀e∈es,∃o m s a,e=.a [.i .i64 o,.i .i64 m,.s s,a]/\(Lit.int .i64 o).wf=true/\(Lit.int .i64 m).wf=true/\s.length<=maxLen/\XD n a:=by
   intro es;induction es with
   |nil=>intro _;exact⟨0,λe he=>by cases he⟩
   |cons e es ih=>
    intro h;obtain⟨n,o,m,s,a,h1,h2,h3,h4,h5⟩:=h e (zzr ..);obtain⟨k,hk⟩:=ih λe he=>h e (zzi _ he);refine⟨max n k,λe' he=>?_⟩;rcases List.mem_cons.1 he with rfl|he
    ·exact⟨o,m,s,a,h1,h2,h3,h4,qrl (Nat.le_max_left ..) h5⟩
    ·obtain⟨o,m,s,a,h1,h2,h3,h4,h5⟩:=hk e' he;exact⟨o,m,s,a,h1,h2,h3,h4,qrl (Nat.le_max_right ..) h5⟩
  obtain⟨n,hn⟩:=key es ih;exact⟨n+1,es,rfl,hc,hn⟩
 ·intro o n s a h1 h2 h3 _ ⟨k,hk⟩;exact⟨k,o,n,s,a,rfl,h1,h2,h3,hk⟩
def qv8:∀{n:Nat} {x:DV},XD n x->XL x
 |0,_,h=>by have:_=_:=h;subst this;exact .mk [] (zzK _) (λe he=>by cases he) (by simp)
 |n+1,_,⟨es,h,hc,he⟩=>by
  subst h;refine .mk es ?_ (λe hm=>?_) hc
  ·unfold qbt at hc;have:maxLen=9223372036854775807:=rfl;omega
  ·obtain⟨o,m,s,a,h1,h2,h3,h4,h5⟩:=he e hm;rw[h1];exact .mk o m s a h2 h3 h4 (qv8 h5)
mutual
def qQd(d:Nat):∀(t:Ty) {x:DV},Has t x->Hs d t.ta x
 |.b,_,h=>h
 |.i _,_,h=>h
 |.s,_,h=>h
 |.e,_,h=>qwa h
 |.l k b ts,_,⟨es,h,h1,h2,h3⟩=>⟨es,false,h,h1,by
   split
   ·exact h1
   ·rename_i hb;exact (Nat.le_div_iff_mul_le (Nat.pos_of_ne_zero λc=>hb (by rw[c];rfl))).2 h2,λe he=>by
   obtain⟨cs,c1,c2⟩:=h3 e he;exact⟨cs,c1,qvi d ts c2⟩⟩
def qvi(d:Nat):∀(ts:CL Ty) {xs:Cy},qaD ts xs->HsL d (Ty.taL ts) xs
 |[],[],_=>trivial
 |t::ts,x::xs,h=>⟨qQd d t h.1,qvi d ts h.2⟩
 |[],_::_,h=>h.elim
 |_::_,[],h=>h.elim
end
def qap(T:Tab)(f:Nat)(s:Sg):Prop:=∀d ds,qbO d s.args ds->∃vs own,T.val f ds=some (qbi (vs.map .d),own)/\qbO d s.res vs
def qaA{d:Nat}{V:Nat->Cy->CG}:qdl d V []:=λ_ _ h=>by cases h
def qav{T:Tab}{d f:Nat}{s:Sg}{S:CL (Nat×Sg)}(h:qap T f s)(r:qdl d T.val S):qdl d T.val ((f,s)::S):=by
 intro g t hl;unfold qkW at hl;split at hl
 ·rename_i e;cases hl;rw[<-zzy e];exact h d
 ·exact r g t hl
def qaI{T:Tab}{f:Nat}{F:PF}{s:Sg}{S:CL (Nat×Sg)}(hF:T.F f=some F)(h:qax S F s=true)(hS:∀d,qdl d T.val S):qap T f s:=λd _ hd=>qwu hF h (hS d) hd
mutual
def TA.pl:TA->CO
 |.e _=>false
 |.l _ _ ts=>TA.plL ts
 |_=>true
def TA.plL:CL TA->CO
 |[]=>true
 |t::ts=>TA.pl t&&TA.plL ts
end
mutual
def qDn{d d':Nat}:∀(t:TA) {x:DV},t.pl=true->Hs d t x->Hs d' t x
 |.b,_,_,h=>h
 |.i _,_,_,h=>h
 |.s,_,_,h=>h
 |.e _,_,hp,_=>by cases hp
 |.l k m ts,_,hp,⟨es,t,h,h1,h2,h3⟩=>⟨es,t,h,h1,h2,λe he=>by
   obtain⟨cs,c1,c2⟩:=h3 e he;exact⟨cs,c1,qqP ts hp c2⟩⟩
def qqP{d d':Nat}:∀(ts:CL TA) {xs:Cy},TA.plL ts=true->HsL d ts xs->HsL d' ts xs
 |[],[],_,_=>trivial
 |t::ts,x::xs,hp,h=>by rw[TA.plL,zzf]at hp;exact⟨qDn t hp.1 h.1,qqP ts hp.2 h.2⟩
 |[],_::_,_,h=>h.elim
 |_::_,[],_,h=>h.elim
end
def qnv:CL (K×CL TA)->CO
 |[]=>true
 |k::ks=>TA.plL k.2&&qnv ks
def qmm{d d':Nat}:∀{ks:CL (K×CL TA)} {vs:Cy},qnv ks=true->qbO d ks vs->qbO d' ks vs
 |[],[],_,_=>trivial
 |k::ks,v::vs,hp,h=>by rw[qnv,zzf]at hp;obtain⟨⟨cs,c1,c2⟩,h2⟩:=h;exact⟨⟨cs,c1,qqP _ hp.1 c2⟩,qmm hp.2 h2⟩
 |[],_::_,_,h=>h.elim
 |_::_,[],_,h=>h.elim
def kX(m:Nat):K×CL TA:=(some 4,[.i .i64,.i .i64,.s,.e m])
def sX(m:Nat)(rest res:CL (K×CL TA)):Sg:=⟨kX m::rest,res⟩
def qa0{d:Nat}{t:TA}{ts:CL TA}{xs:Cy}(h:HsL d (t::ts) xs):∃x r,xs=x::r/\Hs d t x/\HsL d ts r:=by
 cases xs with
 |nil=>exact h.elim
 |cons x r=>exact⟨x,r,rfl,h.1,h.2⟩
def qck{d:Nat}{xs:Cy}(h:HsL d [] xs):xs=[]:=by
 cases xs with
 |nil=>rfl
 |cons x r=>exact h.elim
def qsT{d m:Nat}{x:DV}(hx:HsK d (kX m) x):∃o n s a,x=.a [.i .i64 o,.i .i64 n,.s s,a]/\(Lit.int .i64 o).wf=true/\(Lit.int .i64 n).wf=true/\s.length<=maxLen/\XT d m a:=by obtain⟨cs,c1,c2⟩:=hx;obtain⟨w1,r1,rfl,⟨o,rfl,h1⟩,c3⟩:=qa0 c2;obtain⟨w2,r2,rfl,⟨n,rfl,h2⟩,c4⟩:=qa0 c3;obtain⟨w3,r3,rfl,⟨s,rfl,h3⟩,c5⟩:=qa0 c4;obtain⟨w4,r4,rfl,h4,c6⟩:=qa0 c5;obtain rfl:=qck c6;have e:x=.a [.i .i64 o,.i .i64 n,.s s,w4]:=(Option.some.inj c1).symm;exact⟨o,n,s,w4,e,h1,h2,h3,h4⟩
def qsS{d m:Nat}{o n:Int}{s:CB}{a:DV}(h1:(Lit.int .i64 o).wf=true)(h2:(Lit.int .i64 n).wf=true)(h3:s.length<=maxLen)(h4:XT d m a):HsK d (kX m) (.a [.i .i64 o,.i .i64 n,.s s,a]):=
 ⟨[.i .i64 o,.i .i64 n,.s s,a],rfl,⟨o,rfl,h1⟩,⟨n,rfl,h2⟩,⟨s,rfl,h3⟩,h4,trivial⟩
def quc{T:Tab}{f:Nat}{F:PF}{rest res:CL (K×CL TA)}{S:CL (Nat×Sg)}(hF:T.F f=some F)(h:qax ((f,sX 2 rest res)::S) F (sX 1 rest res)=true)(hp:(qnv rest&&qnv res)=true)(hS:∀d,qdl d T.val S):qap T f (sX 0 rest res):=by
 rw[zzf]at hp;have key:∀(n d:Nat),d<n->∀ds,qbO d (sX 1 rest res).args ds->∃vs own,T.val f ds=some (qbi (vs.map .d),own)/\qbO d res vs:=by
  intro n;induction n with
  |zero=>intro d hd;exact absurd hd (zzm _)
  |succ n ih=>
   intro d hd ds hds;refine qwu hF h ?_ hds;intro g t hl;unfold qkW at hl;split at hl
   ·rename_i e;cases hl;have e2:=zzy e;subst e2;intro ds hds;cases ds with
    |nil=>exact hds.elim
    |cons x ds=>obtain⟨h1,h2⟩:=hds;obtain⟨o,m,s,a,rfl,q1,q2,q3,⟨k,hk,q4⟩⟩:=qsT h1;have hx:HsK k (kX 1) (.a [.i .i64 o,.i .i64 m,.s s,a]):=qsS q1 q2 q3 q4;obtain⟨vs,own,v1,v2⟩:=ih k (by omega) (_::ds) ⟨hx,qmm hp.1 h2⟩;exact⟨vs,own,v1,qmm hp.2 v2⟩
   ·exact hS d g t hl
 intro d ds hds;cases ds with
 |nil=>exact hds.elim
 |cons x ds=>obtain⟨h1,h2⟩:=hds;obtain⟨o,m,s,a,rfl,q1,q2,q3,⟨k,q4⟩⟩:=qsT h1;have hx:HsK k (kX 1) (.a [.i .i64 o,.i .i64 m,.s s,a]):=qsS q1 q2 q3 q4;obtain⟨vs,own,v1,v2⟩:=key (k+1) k (Nat.lt_succ_self k) (_::ds) ⟨hx,qmm hp.1 h2⟩;exact⟨vs,own,v1,qmm hp.2 v2⟩
def qin:CL TA:=[.s,.i .i64]
def qhx:CL TA:=[.s,.l K0 17592186044416 [.i .i64],.l K0 17592186044416 [.i .i64]]
def qnT:CL TA:=[.s,.i .i64]
def qqy:CL TA:=[.i .i64,.i .i64]
def tX:CL TA:=[.i .i64,.i .i64,.s,.e 0]
def qvg:CL TA:=[.l (K1 2) 8796093022208 qqy,.b,.i .i64,.i .i64,.b]
def qnR:CL TA:=[.s,.i .i64,.i .i64,.i .i64,.s,.e 0,.i .i64,.i .i64,.s,.e 0]
def qvh:CL TA:=[.s,.i .i64,.i .i64,.i .i64,.s,.e 0]
def qcJ:CL TA:=[.s,.s,.s,.i .i64,.i .i64,.i .i64,.i .i64,.l (K1 2) 8796093022208 qqy,.b,.i .i64,.i .i64,.b,.l (K1 2) 8796093022208 qqy,.b,.i .i64,.i .i64,.b,.l (K1 10) 1034834473200 qnR,.l (K1 6) 1759218604441 qvh]
def tGl:CL TA:=[.i .i64,.i .i64,.i .i64,.s]
def qCv:CL TA:=[.i .i64,.i .i64,.s]
def qnQ:CL TA:=[.i .i64,.i .i64,.i .i64,.i .i64,.i .i64,.i .i64,.s,.s,.l (K1 3) 4398046511104 qCv,.i .u64]
def qnS:CL TA:=[.i .i64,.i .i64,.i .i64,.i .i64,.i .i64,.s]
def qvf:CL TA:=[.i .i64,.i .i64,.i .i64,.i .i64,.i .i64,.i .i64,.s]
def qnP:CL TA:=[.i .i64,.i .i64,.i .i64,.i .i64,.s,.s,.s]
def qQc:CL TA:=[.i .i64,.i .i64,.i .i64,.i .i64,.i .i64,.i .i64,.i .i64,.i .i64,.i .i64,.i .i64,.i .i64,.i .i64,.i .i64,.i .i64]
def qcT:CL TA:=[.l (K1 2) 5864062014805 qin,.l (K1 3) 2199023255552 qhx,.l (K1 4) 3518437208883 tGl,.i .i64,.i .i64,.i .i64,.i .i64,.i .i64,.i .i64,.i .i64,.i .i64,.i .i64,.i .i64,.i .i64,.i .i64,.i .i64,.i .i64,.l (K1 19) 586406201480 qcJ,.l (K1 7) 1759218604441 qnP,.l (K1 10) 1256584717458 qnQ,.l (K1 6) 2513169434916 qnS,.l (K1 7) 2199023255552 qvf]
def qus:Sg:=⟨[(K0,[.i .i64])],[(K0,[.s])]⟩
def qBY:Sg:=⟨[(K0,[.s])],[(K0,[.s]),(K0,[.i .i64])]⟩
def qBZ:Sg:=⟨[(K0,[.s])],[(K0,[.b])]⟩
def qB0:Sg:=⟨[(K0,[.l (K1 2) 5864062014805 qin])],[(K0,[.i .i64])]⟩
def qB1:Sg:=⟨[(K0,[.l (K1 4) 3518437208883 tGl]),(K1 14,qQc)],[(K0,[.i .i64])]⟩
def qB2:Sg:=⟨[(K1 22,qcT)],[(K0,[.i .i64])]⟩
def qB3:Sg:=⟨[(K0,[.l (K1 6) 2513169434916 qnS])],[(K0,[.i .i64])]⟩
def qB4:Sg:=⟨[(K0,[.l (K1 7) 2199023255552 qvf])],[(K0,[.i .i64])]⟩
def quz:Sg:=⟨[(K0,[.s])],[(K0,[.b])]⟩
def s513:Sg:=⟨[(K0,[.l (K1 3) 2199023255552 qhx]),(K0,[.s])],[(K1 3,qhx),(K0,[.b])]⟩
def quA:Sg:=⟨[(K0,[.s])],[(K0,[.b])]⟩
def qB5:Sg:=⟨[(K1 3,qhx)],[(K0,[.i .i64])]⟩
def quB:Sg:=⟨[(K0,[.s])],[(K0,[.b])]⟩
def qnH:Sg:=⟨[(K0,[.l (K1 4) 3518437208883 tGl]),(K0,[.i .i64])],[(K1 4,tGl),(K0,[.b])]⟩
def quC:Sg:=⟨[(K0,[.l (K1 4) 3518437208883 tGl]),(K0,[.i .i64]),(K0,[.i .i64])],[(K0,[.i .i64])]⟩
def qB6:Sg:=⟨[(K0,[.l (K1 19) 586406201480 qcJ])],[(K0,[.i .i64])]⟩
def qB7:Sg:=⟨[(K1 19,qcJ),(K0,[.l (K1 2) 5864062014805 qin]),(K0,[.l (K1 3) 2199023255552 qhx])],[(K0,[.i .i64])]⟩
def qij:Sg:=⟨[(K0,[.i .i64])],[(K0,[.b])]⟩
def quD:Sg:=⟨[(K1 7,qnP)],[(K0,[.b])]⟩
def quE:Sg:=⟨[(K1 22,qcT),(K1 7,qnP)],[(K0,[.i .i64])]⟩
def quF:Sg:=⟨[(K1 6,qnS)],[(K0,[.i .i64])]⟩
def quG:Sg:=⟨[(K0,[.l (K1 6) 2513169434916 qnS]),(K0,[.s])],[(K0,[.b])]⟩
def quH:Sg:=⟨[(K1 7,qvf)],[(K0,[.b])]⟩
def qqn:Sg:=⟨[(K0,[.s])],[(K0,[.b])]⟩
def quI:Sg:=⟨[(K0,[.l K0 17592186044416 [.i .i64]])],[(K0,[.b])]⟩
def quJ:Sg:=⟨[(K0,[.l (K1 4) 3518437208883 tGl]),(K0,[.i .i64])],[(K0,[.b])]⟩
def quK:Sg:=⟨[(K1 19,qcJ),(K1 19,qcJ)],[(K0,[.b])]⟩
def qlc:Sg:=⟨[(K0,[.s])],[(K0,[.b])]⟩
def s599:Sg:=⟨[(K0,[.l (K1 2) 5864062014805 qin]),(K0,[.s])],[(K1 2,qin),(K0,[.b])]⟩
def quL:Sg:=⟨[(K1 5,qvg)],[(K0,[.i .i64])]⟩
def quM:Sg:=⟨[(K1 10,qnR)],[(K0,[.i .i64])]⟩
def quN:Sg:=⟨[(K1 6,qvh)],[(K0,[.i .i64])]⟩
def qqo:Sg:=⟨[(K0,[.l (K1 19) 586406201480 qcJ]),(K0,[.s]),(K0,[.i .i64])],[(K1 19,qcJ),(K0,[.b])]⟩
def quO:Sg:=⟨[(K0,[.s])],[(K0,[.b])]⟩
def quP:Sg:=⟨[(K0,[.l (K1 2) 8796093022208 qqy])],[(K0,[.i .i64])]⟩
def qqp:Sg:=⟨[(K1 4,tX),(K0,[.l (K1 2) 9223372036854775807 qnT]),(K0,[.i .i64])],[(K0,[.i .i64])]⟩
def qqq:Sg:=⟨[],[(K0,[.l (K1 2) 9223372036854775807 qnT])]⟩
def quQ:Sg:=⟨[(K1 10,qnQ)],[(K0,[.i .i64])]⟩
def qqr:Sg:=⟨[(K1 22,qcT),(K0,[.i .i64])],[(K1 7,qnP),(K0,[.b])]⟩
def quR:Sg:=⟨[(K1 22,qcT),(K0,[.i .i64]),(K0,[.i .i64])],[(K0,[.b])]⟩
def quS:Sg:=⟨[(K0,[.s]),(K0,[.i .i64]),(K0,[.i .u8])],[(K0,[.b])]⟩
def quT:Sg:=⟨[(K1 4,tX),(K0,[.l (K1 2) 9223372036854775807 qnT])],[(K0,[.i .i64]),(K0,[.i .i64])]⟩
def quU:Sg:=⟨[(K1 4,tX)],[(K0,[.i .i64])]⟩
def quV:Sg:=⟨[(K1 4,tX),(K0,[.l (K1 2) 9223372036854775807 qnT])],[(K0,[.i .i64]),(K0,[.i .i64])]⟩
def quW:Sg:=⟨[(K1 4,tX),(K0,[.i .i64])],[(K0,[.b])]⟩
def qB8:Sg:=⟨[(K0,[.s])],[(K0,[.b])]⟩
def quX:Sg:=⟨[(K0,[.i .i64])],[(K0,[.b])]⟩
def qB9:Sg:=⟨[(K0,[.i .i64]),(K0,[.l K0 9223372036854775807 [.i .i64]])],[(K0,[.i .i64]),(K0,[.b])]⟩
def quY:Sg:=⟨[(K0,[.i .i64])],[(K0,[.i .i64])]⟩
def quZ:Sg:=⟨[(K0,[.i .i64])],[(K0,[.i .i64])]⟩
def qu0:Sg:=⟨[(K0,[.s])],[(K0,[.b])]⟩
def qu1:Sg:=⟨[(K0,[.i .i64]),(K0,[.l K0 9223372036854775807 [.i .i64]])],[(K0,[.i .i64]),(K0,[.b])]⟩
def qu2:Sg:=⟨[],[(K0,[.l K0 9223372036854775807 [.s]])]⟩
def qnI:Sg:=⟨[(K0,[.i .i64])],[(K0,[.b])]⟩
def qu3:Sg:=⟨[(K0,[.i .i64]),(K0,[.i .i64]),(K0,[.i .i64])],[(K0,[.i .i64]),(K0,[.b])]⟩
def qu4:Sg:=⟨[(K0,[.i .i64]),(K0,[.i .i64])],[(K0,[.i .i64]),(K0,[.b])]⟩
def qur:Sg:=⟨[(K1 22,qcT),(K0,[.i .i64]),(K0,[.i .i64])],[(K1 19,qcJ),(K0,[.b])]⟩
def qBV:Sg:=⟨[(K1 22,qcT)],[(K0,[.b])]⟩
def qut:Sg:=⟨[(K0,[.l (K1 6) 2513169434916 qnS])],[(K0,[.b])]⟩
def quu:Sg:=⟨[(K1 19,qcJ)],[(K0,[.b])]⟩
def quv:Sg:=⟨[(K1 10,qnQ)],[(K0,[.b])]⟩
def qBW:Sg:=⟨[(K1 22,qcT)],[(K0,[.b])]⟩
def quw:Sg:=⟨[(K1 22,qcT),(K1 10,qnQ)],[(K0,[.b])]⟩
def qux:Sg:=⟨[(K0,[.l (K1 4) 3518437208883 tGl]),(K0,[.i .i64])],[(K0,[.l K0 9223372036854775807 [.i .i64]])]⟩
def qBX:Sg:=⟨[(K0,[.l (K1 4) 3518437208883 tGl]),(K0,[.i .i64]),(K0,[.i .i64])],[(K0,[.b])]⟩
def quy:Sg:=⟨[(K0,[.l (K1 4) 3518437208883 tGl]),(K0,[.i .i64])],[(K0,[.l K0 9223372036854775807 [.i .i64]])]⟩
def qt2:CL (K×CL TA):=[]
def qt3:CL (K×CL TA):=[(K0,[.i .i64])]
def qPK:Sg:=sX 0 qt2 qt3
def qt4:CL (K×CL TA):=[]
def qt5:CL (K×CL TA):=[(K0,[.b])]
def qPL:Sg:=sX 0 qt4 qt5
def qt6:CL (K×CL TA):=[(K0,[.i .i64])]
def qt7:CL (K×CL TA):=[(K0,[.i .i64])]
def qCa:Sg:=sX 0 qt6 qt7
def qIh:qax [(685,quS)] qfc quO=true:=by kernel_rfl
def qH6:qax [(544,qij)] qlO quH=true:=by kernel_rfl
def qHV:qax [(544,qij),(552,qqn),(595,quI)] qlI qB5=true:=by kernel_rfl
def qIc:qax [] F599 s599=true:=by kernel_rfl
def qIj:qax [(769,quT)] qlW qqp=true:=by kernel_rfl
def qH0:qax [(513,s513),(544,qij),(598,qlc),(599,s599),(600,quL),(601,quM),(602,quN)] F543 qB7=true:=by kernel_rfl
def qHG:qax [] qhD qut=true:=by kernel_rfl
def qIm:qax [(683,qqr)] qjZ quR=true:=by kernel_rfl
def qIx:qax [] qmf quZ=true:=by kernel_rfl
def qIy:qax [(968,qu2)] qmg qu0=true:=by kernel_rfl
def qID:qax [(969,qnI)] qml qu4=true:=by kernel_rfl
def qHL:qax [(1103,quy)] qln qBX=true:=by kernel_rfl
def qHW:qax [] qlJ quB=true:=by kernel_rfl
def qH9:qax [] qlR quJ=true:=by kernel_rfl
def qHO:qax [(539,quB),(540,qnH),(541,quC)] qfa qB1=true:=by kernel_rfl
def qIb:qax [] F598 qlc=true:=by kernel_rfl
def qH4:qax [(544,qij),(607,quO)] qlM quF=true:=by kernel_rfl
def qH7:qax [] qlP qqn=true:=by kernel_rfl
def qIa:qax [] qlS quK=true:=by kernel_rfl
def qIi:qax [] qlV quP=true:=by kernel_rfl
def qIk:qax [] qlX qqq=true:=by kernel_rfl
def qIv:qax ((950,sX 2 qt6 qt7)::[]) F950 (sX 1 qt6 qt7)=true:=by kernel_rfl
def qHH:qax [(919,quW)] F1095 quu=true:=by kernel_rfl
def qHF:qax [(1094,qut),(1095,quu),(1096,quv)] F1090 qBV=true:=by kernel_rfl
def qHE:qax [(603,qqo),(683,qqr)] qjM qur=true:=by kernel_rfl
def qIr:qax ((921,sX 2 qt4 qt5)::[(951,quY),(952,quZ)]) ql9 (sX 1 qt4 qt5)=true:=by kernel_rfl
def qIs:qax [(512,quz),(954,qu0)] qma qB8=true:=by kernel_rfl
def qIC:qax [(969,qnI),(985,qu4)] qmk qu3=true:=by kernel_rfl
def qHM:qax [] qlq qBZ=true:=by kernel_rfl
def qHN:qax [(537,quA)] F504 qB0=true:=by kernel_rfl
def qH1:qax [] qfb qij=true:=by kernel_rfl
def qIg:qax [] qjX qqo=true:=by kernel_rfl
def qH3:qax [(598,qlc),(603,qqo)] qlL quE=true:=by kernel_rfl
def qH5:qax [] qlN quG=true:=by kernel_rfl
def qHR:qax [(551,quH),(552,qqn)] qlF qB4=true:=by kernel_rfl
def qHZ:qax [(597,quK)] qlK qB6=true:=by kernel_rfl
def qId:qax [(676,quP)] qlT quL=true:=by kernel_rfl
def qIe:qax [(598,qlc),(677,qqp),(678,qqq)] qiz quM=true:=by kernel_rfl
def qIp:qax [(950,qCa)] qhI quW=true:=by kernel_rfl
def qHI:qax [] qjN quv=true:=by kernel_rfl
def qHJ:qax [(679,quQ),(1100,quw)] qll qBW=true:=by kernel_rfl
def qIq:qax ((920,sX 2 qt2 qt3)::[]) ql8 (sX 1 qt2 qt3)=true:=by kernel_rfl
def qHS:qax [] qlG quz=true:=by kernel_rfl
def qIt:qax [] qmb quX=true:=by kernel_rfl
def qIz:qax [(969,qnI),(970,qu3)] qmh qu1=true:=by kernel_rfl
def qHU:qax [] F537 quA=true:=by kernel_rfl
def qHX:qax [] F540 qnH=true:=by kernel_rfl
def qHY:qax [(540,qnH),(596,quJ)] qix quC=true:=by kernel_rfl
def qH2:qax [(106,qus),(544,qij)] qiy quD=true:=by kernel_rfl
def qHP:qax [(544,qij),(545,quD),(546,quE)] F508 qB2=true:=by kernel_rfl
def qIn:qax [] F685 quS=true:=by kernel_rfl
def qHQ:qax [(549,quF),(550,quG)] qlE qB3=true:=by kernel_rfl
def qH8:qax [] qlQ quI=true:=by kernel_rfl
def qHT:qax [] qlH s513=true:=by kernel_rfl
def qIo:qax [(859,quU),(860,quV)] ql0 quT=true:=by kernel_rfl
def qIf:qax [(598,qlc),(677,qqp),(678,qqq)] qlU quN=true:=by kernel_rfl
def qIl:qax [] qjY qqr=true:=by kernel_rfl
def qHK:qax [(540,qnH),(599,s599),(684,quR),(1023,qur),(1101,qux)] qlm quw=true:=by kernel_rfl
def qIw:qax [] qme quY=true:=by kernel_rfl
def qIA:qax [] qmi qu2=true:=by kernel_rfl
def qIB:qax [] qmj qnI=true:=by kernel_rfl
def qIu:qax [(924,quX),(955,qu1)] qmc qB9=true:=by kernel_rfl
structure BH (T:Tab):Prop where
 a679:qap T 679 quQ
 a859:qap T 859 quU
 a860:qap T 860 quV
 a106:qap T 106 qus
 a177:qap T 177 qBY
 a1103:qap T 1103 quy
 a1101:qap T 1101 qux
def qDL(T:Tab)(hS:HS T):qap T 537 quA:=qaI (hS 537 F537 rfl) qHU λ_=>qaA
def qDF(T:Tab)(hS:HS T):qap T 504 qB0:=qaI (hS 504 F504 rfl) qHN λ_=>qav (qDL T hS) (qaA)
def qwe(T:Tab)(hS:HS T):qap T 539 quB:=qaI (hS 539 qlJ rfl) qHW λ_=>qaA
def qou(T:Tab)(hS:HS T):qap T 540 qnH:=qaI (hS 540 F540 rfl) qHX λ_=>qaA
def qwk(T:Tab)(hS:HS T):qap T 596 quJ:=qaI (hS 596 qlR rfl) qH9 λ_=>qaA
def qwf(T:Tab)(hS:HS T):qap T 541 quC:=qaI (hS 541 qix rfl) qHY λ_=>qav (qou T hS) (qav (qwk T hS) (qaA))
def qDG(T:Tab)(hS:HS T):qap T 506 qB1:=qaI (hS 506 qfa rfl) qHO λ_=>qav (qwe T hS) (qav (qou T hS) (qav (qwf T hS) (qaA)))
def qhP(T:Tab)(hS:HS T):qap T 544 qij:=qaI (hS 544 qfb rfl) qH1 λ_=>qaA
def qwh(T:Tab)(hS:HS T)(hH:BH T):qap T 545 quD:=qaI (hS 545 qiy rfl) qH2 λ_=>qav hH.a106 (qav (qhP T hS) (qaA))
def qkk(T:Tab)(hS:HS T):qap T 598 qlc:=qaI (hS 598 F598 rfl) qIb λ_=>qaA
def qwn(T:Tab)(hS:HS T):qap T 603 qqo:=qaI (hS 603 qjX rfl) qIg λ_=>qaA
def qwi(T:Tab)(hS:HS T):qap T 546 quE:=qaI (hS 546 qlL rfl) qH3 λ_=>qav (qkk T hS) (qav (qwn T hS) (qaA))
def qDH(T:Tab)(hS:HS T)(hH:BH T):qap T 508 qB2:=qaI (hS 508 F508 rfl) qHP λ_=>qav (qhP T hS) (qav (qwh T hS hH) (qav (qwi T hS) (qaA)))
def qDW(T:Tab)(hS:HS T):qap T 685 quS:=qaI (hS 685 F685 rfl) qIn λ_=>qaA
def qDT(T:Tab)(hS:HS T):qap T 607 quO:=qaI (hS 607 qfc rfl) qIh λ_=>qav (qDW T hS) (qaA)
def qDO(T:Tab)(hS:HS T):qap T 549 quF:=qaI (hS 549 qlM rfl) qH4 λ_=>qav (qhP T hS) (qav (qDT T hS) (qaA))
def qDP(T:Tab)(hS:HS T):qap T 550 quG:=qaI (hS 550 qlN rfl) qH5 λ_=>qaA
def qDI(T:Tab)(hS:HS T):qap T 510 qB3:=qaI (hS 510 qlE rfl) qHQ λ_=>qav (qDO T hS) (qav (qDP T hS) (qaA))
def qDQ(T:Tab)(hS:HS T):qap T 551 quH:=qaI (hS 551 qlO rfl) qH6 λ_=>qav (qhP T hS) (qaA)
def qwj(T:Tab)(hS:HS T):qap T 552 qqn:=qaI (hS 552 qlP rfl) qH7 λ_=>qaA
def qDJ(T:Tab)(hS:HS T):qap T 511 qB4:=qaI (hS 511 qlF rfl) qHR λ_=>qav (qDQ T hS) (qav (qwj T hS) (qaA))
def qDR(T:Tab)(hS:HS T):qap T 595 quI:=qaI (hS 595 qlQ rfl) qH8 λ_=>qaA
def qDM(T:Tab)(hS:HS T):qap T 538 qB5:=qaI (hS 538 qlI rfl) qHV λ_=>qav (qhP T hS) (qav (qwj T hS) (qav (qDR T hS) (qaA)))
def qDS(T:Tab)(hS:HS T):qap T 597 quK:=qaI (hS 597 qlS rfl) qIa λ_=>qaA
def qDN(T:Tab)(hS:HS T):qap T 542 qB6:=qaI (hS 542 qlK rfl) qHZ λ_=>qav (qDS T hS) (qaA)
def qwd(T:Tab)(hS:HS T):qap T 513 s513:=qaI (hS 513 qlH rfl) qHT λ_=>qaA
def qro(T:Tab)(hS:HS T):qap T 599 s599:=qaI (hS 599 F599 rfl) qIc λ_=>qaA
def qDU(T:Tab)(hS:HS T):qap T 676 quP:=qaI (hS 676 qlV rfl) qIi λ_=>qaA
def qrp(T:Tab)(hS:HS T):qap T 600 quL:=qaI (hS 600 qlT rfl) qId λ_=>qav (qDU T hS) (qaA)
def qDX(T:Tab)(hS:HS T)(hH:BH T):qap T 769 quT:=qaI (hS 769 ql0 rfl) qIo λ_=>qav hH.a859 (qav hH.a860 (qaA))
def qwo(T:Tab)(hS:HS T)(hH:BH T):qap T 677 qqp:=qaI (hS 677 qlW rfl) qIj λ_=>qav (qDX T hS hH) (qaA)
def qwp(T:Tab)(hS:HS T):qap T 678 qqq:=qaI (hS 678 qlX rfl) qIk λ_=>qaA
def qwl(T:Tab)(hS:HS T)(hH:BH T):qap T 601 quM:=qaI (hS 601 qiz rfl) qIe λ_=>qav (qkk T hS) (qav (qwo T hS hH) (qav (qwp T hS) (qaA)))
def qwm(T:Tab)(hS:HS T)(hH:BH T):qap T 602 quN:=qaI (hS 602 qlU rfl) qIf λ_=>qav (qkk T hS) (qav (qwo T hS hH) (qav (qwp T hS) (qaA)))
def qwg(T:Tab)(hS:HS T)(hH:BH T):qap T 543 qB7:=qaI (hS 543 F543 rfl) qH0 λ_=>qav (qwd T hS) (qav (qhP T hS) (qav (qkk T hS) (qav (qro T hS) (qav (qrp T hS) (qav (qwl T hS hH) (qav (qwm T hS hH) (qaA)))))))
def qrn(T:Tab)(hS:HS T):qap T 1094 qut:=qaI (hS 1094 qhD rfl) qHG λ_=>qaA
def qD2(T:Tab)(hS:HS T):qap T 950 qCa:=quc (hS 950 F950 rfl) qIv rfl λ_=>qaA
def qrq(T:Tab)(hS:HS T):qap T 919 quW:=qaI (hS 919 qhI rfl) qIp λ_=>qav (qD2 T hS) (qaA)
def qwb(T:Tab)(hS:HS T):qap T 1095 quu:=qaI (hS 1095 F1095 rfl) qHH λ_=>qav (qrq T hS) (qaA)
def qDA(T:Tab)(hS:HS T):qap T 1096 quv:=qaI (hS 1096 qjN rfl) qHI λ_=>qaA
def qDz(T:Tab)(hS:HS T):qap T 1090 qBV:=qaI (hS 1090 F1090 rfl) qHF λ_=>qav (qrn T hS) (qav (qwb T hS) (qav (qDA T hS) (qaA)))
def qwq(T:Tab)(hS:HS T):qap T 683 qqr:=qaI (hS 683 qjY rfl) qIl λ_=>qaA
def qDV(T:Tab)(hS:HS T):qap T 684 quR:=qaI (hS 684 qjZ rfl) qIm λ_=>qav (qwq T hS) (qaA)
def qDy(T:Tab)(hS:HS T):qap T 1023 qur:=qaI (hS 1023 qjM rfl) qHE λ_=>qav (qwn T hS) (qav (qwq T hS) (qaA))
def qDC(T:Tab)(hS:HS T)(hH:BH T):qap T 1100 quw:=qaI (hS 1100 qlm rfl) qHK λ_=>qav (qou T hS) (qav (qro T hS) (qav (qDV T hS) (qav (qDy T hS) (qav hH.a1101 (qaA)))))
def qDB(T:Tab)(hS:HS T)(hH:BH T):qap T 1099 qBW:=qaI (hS 1099 qll rfl) qHJ λ_=>qav hH.a679 (qav (qDC T hS hH) (qaA))
def qDY(T:Tab)(hS:HS T):qap T 920 qPK:=quc (hS 920 ql8 rfl) qIq rfl λ_=>qaA
def qD3(T:Tab)(hS:HS T):qap T 951 quY:=qaI (hS 951 qme rfl) qIw λ_=>qaA
def qD4(T:Tab)(hS:HS T):qap T 952 quZ:=qaI (hS 952 qmf rfl) qIx λ_=>qaA
def qDZ(T:Tab)(hS:HS T):qap T 921 qPL:=quc (hS 921 ql9 rfl) qIr rfl λ_=>qav (qD3 T hS) (qav (qD4 T hS) (qaA))
def qDK(T:Tab)(hS:HS T):qap T 512 quz:=qaI (hS 512 qlG rfl) qHS λ_=>qaA
def qD7(T:Tab)(hS:HS T):qap T 968 qu2:=qaI (hS 968 qmi rfl) qIA λ_=>qaA
def qD5(T:Tab)(hS:HS T):qap T 954 qu0:=qaI (hS 954 qmg rfl) qIy λ_=>qav (qD7 T hS) (qaA)
def qD0(T:Tab)(hS:HS T):qap T 923 qB8:=qaI (hS 923 qma rfl) qIs λ_=>qav (qDK T hS) (qav (qD5 T hS) (qaA))
def qwr(T:Tab)(hS:HS T):qap T 924 quX:=qaI (hS 924 qmb rfl) qIt λ_=>qaA
def qrr(T:Tab)(hS:HS T):qap T 969 qnI:=qaI (hS 969 qmj rfl) qIB λ_=>qaA
def qD9(T:Tab)(hS:HS T):qap T 985 qu4:=qaI (hS 985 qml rfl) qID λ_=>qav (qrr T hS) (qaA)
def qD8(T:Tab)(hS:HS T):qap T 970 qu3:=qaI (hS 970 qmk rfl) qIC λ_=>qav (qrr T hS) (qav (qD9 T hS) (qaA))
def qD6(T:Tab)(hS:HS T):qap T 955 qu1:=qaI (hS 955 qmh rfl) qIz λ_=>qav (qrr T hS) (qav (qD8 T hS) (qaA))
def qD1(T:Tab)(hS:HS T):qap T 925 qB9:=qaI (hS 925 qmc rfl) qIu λ_=>qav (qwr T hS) (qav (qD6 T hS) (qaA))
def qDE(T:Tab)(hS:HS T):qap T 259 qBZ:=qaI (hS 259 qlq rfl) qHM λ_=>qaA
