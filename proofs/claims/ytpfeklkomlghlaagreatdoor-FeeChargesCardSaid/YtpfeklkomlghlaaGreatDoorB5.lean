/- Part 5 of the proof. -/
import Derived.Test.YtpfeklkomlghlaaGreatDoorB4
import Derived.RangeFuncCalls
set_option linter.all false
namespace Go.Sim
set_option maxRecDepth 100000
set_option maxHeartbeats 8000000
section
open Go.RowKit
section
variable {P:CV}{N:Names}{C:Cx}{w:CU}{S:qad}{β:Pl}{B:Nat}{H:CW}
def qCm:Array CP->Sem CP:=λargs=>do
 let (x,y,b) <-Extern.MathBitsCarry.three "Sub64" args
 pure (Extern.MathBitsCarry.pair ((x+Extern.MathBitsCarry.m64-y-b)%Extern.MathBitsCarry.m64) (if x<y+b then 1 else 0))
def qPJ(x y b:Nat)(hb:b<=1)(w:CU):(qCm #[.int .u64 x,.int .u64 y,.int .u64 b]).run P w =
   .ok (.tuple #[.int .u64 (((x+18446744073709551616-y-b)%18446744073709551616:Nat):Int),.int .u64 ((if x<y+b then 1 else 0:Nat):Int)]) w:=by
 have:b=0\/b=1:=by omega
 rcases this with rfl|rfl<;>rfl
def qF5{fn:Func}(h:fn.name = "math/bits.Add64") (h0:fn.origin = ""):Extern.findNext fn=none/\Extern.find fn=some add64Entry:=by
 cases fn;dsimp only at h h0;subst h h0;exact⟨by kernel_rfl,by kernel_rfl⟩
def qF7{fn:Func}(h:fn.name = "math/bits.Sub64") (h0:fn.origin = ""):Extern.findNext fn=none/\Extern.find fn=some qCm:=by
 cases fn;dsimp only at h h0;subst h h0;exact⟨by kernel_rfl,by kernel_rfl⟩
def qxR{α:Type}{p q:α->CO}:∀{l:CL α},(∀x∈l,p x=q x)->l.find? p=l.find? q
 |[],_=>rfl
 |x::r,h=>by rw[List.find?_cons,List.find?_cons,h x (zzr ..),qxR λy hy=>h y (zzi _ hy)]
def qF6{fn:Func}(h:fn.name = "internal/bytealg.IndexByteString") (h0:fn.origin = ""):Extern.findNext fn=none/\Extern.find fn=some Extern.BytealgIndexByte.indexByte:=by
 cases fn;dsimp only at h h0;subst h h0;exact⟨by kernel_rfl,by kernel_rfl⟩
def qyT(c:Nat):∀(l:CB) (k:Nat),ixB c l k=((List.range l.length).find? λi=>decide ((l.getD i 0).toNat=c)).map (· + k)
 |[],k=>rfl
 |x::r,k=>by
  rw[ixB,zzn,List.range_succ_eq_map,List.find?_cons];by_cases h:x.toNat=c
  ·have:Nat.beq x.toNat c=true:=by rw[h];exact Nat.beq_refl c
   simp[this,h]
  ·have h1:Nat.beq x.toNat c=false:=by
    cases hb:Nat.beq x.toNat c with
    |false=>rfl
    |true=>exact absurd (zzy hb) h
   simp only[h1,List.getD_cons_zero,h,decide_false,zzg,if_false];rw[qyT c r (k+1),List.find?_map];simp only[Option.map_map];have e:((λi=>decide (((x::r).getD i 0).toNat=c))∘Nat.succ)=λi=>decide ((r.getD i 0).toNat=c):=by funext i;simp
   rw[e];congr 1;funext i;simp only[Function.comp];omega
def qPF(s:ByteArray)(c:Int)(h0:0<=c)(h1:c<256)(w:CU):(Extern.BytealgIndexByte.indexByte #[.string s,.int .u8 c]).run P w=.ok (.int .i64 (match ixB c.toNat s.data.toList 0 with|some i=>(i:Int)|none=>-1)) w:=by
 have hp:(List.range s.size).find? (λi=>s[i]! == c.toNat.toUInt8)=(List.range s.data.toList.length).find? λi=>decide ((s.data.toList.getD i 0).toNat=c.toNat):=by
  have hl:s.data.toList.length=s.size:=by simp
  rw[hl];refine qxR λi hi=>?_;have hi':i<s.size:=List.mem_range.1 hi;have e1:s[i]! = s.data.toList.getD i 0:=by rw[getElem!_pos s i hi'];simp[List.getD,hi',ByteArray.getElem_eq_getElem_data]
  rw[e1];generalize s.data.toList.getD i 0=x;have hc:(c.toNat.toUInt8).toNat=c.toNat:=by simp[Nat.toUInt8];omega
  by_cases hx:x=c.toNat.toUInt8
  ·subst hx;simp[hc]
  ·have:x.toNat≠c.toNat:=λh=>hx (UInt8.toNat_inj.1 (h.trans hc.symm));simp[hx,this]
 have hb:=qyT c.toNat s.data.toList 0;have e:Extern.BytealgIndexByte.indexByte #[.string s,.int .u8 c]=(match (List.range s.size).find? λi=>s[i]! == c.toNat.toUInt8 with
  |some i=>pure (goInt i)
  |none=>pure (goInt (-1)):Sem CP):=rfl
 rw[e,hp];cases hf:(List.range s.data.toList.length).find? λi=>decide ((s.data.toList.getD i 0).toNat=c.toNat)with
 |none=>rw[hf]at hb;simp only[Option.map_none]at hb;rw[hb];rfl
 |some i=>rw[hf]at hb;simp only[Option.map_some,Nat.add_zero]at hb;rw[hb];rfl
def qm4{k:IntKind}{n:Int}{u:CP}(h:Ac C w S β (.d (.i k n)) u):u=.int k n:=by
 cases h with
 |d _ _ h=>cases h;rfl
def qCA{x y c:Int}{vs:Cz}{us:CL CP}(hv:vs=[.d (.i .u64 x),.d (.i .u64 y),.d (.i .u64 c)])(hl:vs.length=us.length)(hr:∀j (h:j<vs.length) (h':j<us.length),Ac C w S β vs[j] us[j]):us=[.int .u64 x,.int .u64 y,.int .u64 c]:=by
 subst hv;match us,hl with
 |[a,b,d],_=>have h0:=hr 0 (by simp) (by simp);have h1:=hr 1 (by simp) (by simp);have h2:=hr 2 (by simp) (by simp);simp only[List.getElem_cons_zero,zzG]at h0 h1 h2;rw[qm4 h0,qm4 h1,qm4 h2]
def qCJ(a b:Int):Ac C w S β (.t [.d (.i .u64 a),.d (.i .u64 b)]) (.tuple #[.int .u64 a,.int .u64 b]):=by
 refine .t _ [.int .u64 a,.int .u64 b] rfl λj hj hj'=>?_
 match j,hj with
 |0,_=>exact .d _ _ (.i _ _)
 |1,_=>exact .d _ _ (.i _ _)
def qOy{p:Nat}{fn:Func}(hp:qtQ fn.name fn.origin=some p){f:FuncId}(hfn:P.funcs[f]? = some fn)(hb:fn.body.isNone=true){vs:Cz}{us:CL CP}(hl:vs.length=us.length)(hr:∀j (h:j<vs.length) (h':j<us.length),Ac C w S β vs[j] us[j]){v:PV}(h:qeD p vs=some v) :
  ∃u,(callFunc f us.toArray).run P w=.ok (.value u) w/\Ac C w S β v u:=by
 unfold qtQ at hp;split at hp;case isFalse=>cases hp
 rename_i h0;split at hp
 ·rename_i hn;cases hp;obtain⟨e1,e2⟩:=qF5 hn h0;unfold qeD at h;split at h
  ·split at h
   ·rename_i x y c _ hc;cases h;obtain⟨c1,c2,c3,c4⟩:=hc;rw[qCA rfl hl hr];refine⟨_,?_,qCJ _ _⟩;have:=run_callFunc_extern (P:=P) hfn (by rw[hn];decide) hb e1 e2 #[.int .u64 x,.int .u64 y,.int .u64 c] w;rw[this,run_add64 x y c c1 c2 c3 c4];rfl
   ·cases h
  ·rename_i heq;cases heq
  ·rename_i heq;cases heq
  ·cases h
 ·split at hp;case isFalse=>
   split at hp;case isFalse=>cases hp
   rename_i hn;cases hp;obtain⟨e1,e2⟩:=qF6 hn h0;unfold qeD at h;split at h
   ·rename_i heq;cases heq
   ·rename_i heq;cases heq
   ·rename_i l c _hq;by_cases hc:0<=c/\c<256
    ·rw[if_pos hc]at h;simp only[zzb]at h;subst h;match us,hl with
     |[a,b],_=>
     have k0:=hr 0 (by simp) (by simp);have k1:=hr 1 (by simp) (by simp);simp only[List.getElem_cons_zero,zzG]at k0 k1;rw[qm4 k1];obtain⟨z,rfl,hz⟩:∃z:ByteArray,a=.string z/\z.data.toList=l:=by
      cases k0 with
      |d _ _ k0=>cases k0 with
       |s _ z hz=>exact⟨z,rfl,hz⟩
     refine⟨_,?_,.d _ _ (.i _ _)⟩;have:=run_callFunc_extern (P:=P) hfn (by rw[hn];decide) hb e1 e2 #[.string z,.int .u8 c] w;rw[this,qPF z c hc.1 hc.2,hz];rfl
    ·rw[if_neg hc]at h;cases h
   ·cases h
  rename_i hn;cases hp;obtain⟨e1,e2⟩:=qF7 hn h0;unfold qeD at h;split at h
  ·rename_i heq;cases heq
  ·split at h
   ·rename_i x y c _ hc;cases h;obtain⟨c1,c2,c3,c4,c5⟩:=hc;rw[qCA rfl hl hr];refine⟨_,?_,qCJ _ _⟩;obtain⟨x,rfl⟩:=Int.eq_ofNat_of_zero_le c1;obtain⟨y,rfl⟩:=Int.eq_ofNat_of_zero_le c2;obtain⟨c,rfl⟩:=Int.eq_ofNat_of_zero_le c4;have:=run_callFunc_extern (P:=P) hfn (by rw[hn];decide) hb e1 e2 #[.int .u64 x,.int .u64 y,.int .u64 c] w;rw[this,qPJ x y c (by omega)];simp only[Result.andThen];congr 6
    ·omega
    ·by_cases hlt:x<y+c
     ·rw[if_pos hlt,if_pos (by omega)];rfl
     ·rw[if_neg hlt,if_neg (by omega)];rfl
   ·cases h
  ·rename_i heq;cases heq
  ·cases h
end
def qoo(w:CU)(S:qad)(k:K)(es:Cy)(v:CP)(B:Nat):Prop:=
 (es=[]/\∃a,v=.slice a 0 0)\/∃blk off cap cells e,v=.slice (some ⟨blk,off,none⟩) es.length cap/\es.length<=cap/\B<=blk/\w.heap[blk]? = some (.cells cells e (0,0))/\
  off+cap*k.size<=cells.size/\(∀j,off<=j->¬S blk j)/\ERel w S k es (cells.toList.drop off)
def qe8(P:CV)(C:Cx)(N:Names)(G:Nat->CK (DV×K))(f:Nat)(ds:Cy)(r:PV)(own:CO):Prop:=
 ∀(w:CU) (S:qad) (us:CL CP),Swf w S->GOK N G w S->ds.length=us.length->(∀j (h:j<ds.length) (h':j<us.length),Al w S ds[j] us[j])->
  Calls P (C.μ f) us.toArray w λe w'=>∃v S',e=.returned v/\Ext w.heap.size w S w' S'/\Swf w' S'/\(own=false->Ac C w' S' (λ_=>.pend) r v)/\
   (own=true->∃k es,r=.d (.l k es false)/\qoo w' S' k es v w.heap.size)
def qnZ(P:CV)(C:Cx)(N:Names)(G:Nat->CK (DV×K))(f:Nat)(args:Cz)(H:CW)(r:PV)(H':CW):Prop:=
 ∀(B:Nat) (w:CU) (S:qad) (β:Pl) (us:CL CP),B<=w.heap.size->Swf w S->GOK N G w S->HOK C B w S β H->args.length=us.length->(∀j (h:j<args.length) (h':j<us.length),Ac C w S β args[j] us[j])->
  Calls P (C.μ f) us.toArray w λe w'=>∃v S' β',e=.returned v/\Ext B w S w' S'/\Swf w' S'/\HOK C B w' S' β' H'/\Later β β'/\Ac C w' S' β' r v/\H.length<=H'.length/\Kp H.length H.length β β'
def Lb(base:Nat)(β β':Pl):Prop:=∀o,o<base->(β' o=β o\/β' o=.dead\/β o=.pend)/\(β o=.pend->β' o=.pend)
def Lb.refl(base:Nat)(β:Pl):Lb base β β:=λ_ _=>⟨.inl rfl,λh=>h⟩
def Lb.trans{base:Nat}{β β' β'':Pl}(h:Lb base β β')(k:Lb base β' β''):Lb base β β'':=λo ho=>by
 refine⟨?_,λhp=>(k o ho).2 ((h o ho).2 hp)⟩;rcases (h o ho).1 with h1|h1|h1
 ·rcases (k o ho).1 with k1|k1|k1
  ·exact .inl (k1.trans h1)
  ·exact .inr (.inl k1)
  ·exact .inr (.inr (h1.symm.trans k1))
 ·rcases (k o ho).1 with k1|k1|k1
  ·exact .inr (.inl (k1.trans h1))
  ·exact .inr (.inl k1)
  ·rw[h1]at k1;cases k1
 ·exact .inr (.inr h1)
def Lb.mono{b b':Nat}{β β':Pl}(h:Lb b β β')(hb:b'<=b):Lb b' β β':=λo ho=>h o (Nat.lt_of_lt_of_le ho hb)
def YOK(P:CV)(C:Cx)(N:Names)(G:Nat->CK (DV×K))(Y:Nat->Cz->CW->CJ)(B:Nat)(w0:CU)(S0:qad)(β0:Pl)(base:Nat):Prop:=
 ∀o args H r H',Y o args H=some (r,H')->H.obj o=some (.lp 0 none)/\∀(w:CU) (S:qad) (β:Pl) (us:CL CP) (blk:Nat) (r0:Loop),Ext B w0 S0 w S->Lb base β0 β->base<=H.length->B<=w.heap.size->Swf w S->GOK N G w S->HOK C B w S β H->β o=.sp blk (.loop r0)->
  args.length=us.length->(∀j (h:j<args.length) (h':j<us.length),Ac C w S β args[j] us[j])->∀(F:Fence) (nf:Nat),(∀f,F.fn f)->F.depth=none->F.alive=false->∃rr:Loop,w.heap[blk]? = some (.loop rr)/\us.length=rr.params.size/\
   RoundIn F nf P blk rr.fn ((rr.params.zip us.toArray).foldl (λtmps (t,a)=>tmps.setIfInBounds t a) rr.tmps) rr.assign rr.body w λe w'=>
    ∃v S' β',e=.returned v/\Ext B w S w' S'/\Swf w' S'/\HOK C B w' S' β' H'/\Later β β'/\Ac C w' S' β' r v/\H.length<=H'.length/\Kp H.length H.length β β'
def YOK.later{P:CV}{C:Cx}{N:Names}{G:Nat->CK (DV×K)}{Y:Nat->Cz->CW->CJ}{B:Nat}{w0 w1:CU}{S0 S1:qad}{β0 β1:Pl}{base:Nat}(h:YOK P C N G Y B w0 S0 β0 base)
  (e:Ext B w0 S0 w1 S1) (l:Lb base β0 β1):YOK P C N G Y B w1 S1 β1 base:=λo args H r H' hy=>by
 obtain⟨h1,h2⟩:=h o args H r H' hy;exact⟨h1,λw S β us blk r0 e1 l1=>h2 w S β us blk r0 (e.trans e1) (l.trans l1)⟩
def qqI{P:CV}{C:Cx}{N:Names}{G:Nat->CK (DV×K)}{B:Nat}{w:CU}{S:qad}{β:Pl}{base:Nat}:YOK P C N G noY B w S β base:=λ_ _ _ _ _ h=>by cases h
def qvH(P:CV)(C:Cx)(N:Names)(G:Nat->CK (DV×K))(Y:Nat->Cz->CW->CJ)(f:Nat)(args:Cz)(H:CW)(r:PV)(H':CW):Prop:=
 ∀(B:Nat) (w:CU) (S:qad) (β:Pl) (us:CL CP),B<=w.heap.size->Swf w S->GOK N G w S->HOK C B w S β H->args.length=us.length->(∀j (h:j<args.length) (h':j<us.length),Ac C w S β args[j] us[j])->YOK P C N G Y B w S β H.length->
  Calls P (C.μ f) us.toArray w λe w'=>∃v S' β',e=.returned v/\Ext B w S w' S'/\Swf w' S'/\HOK C B w' S' β' H'/\Later β β'/\Ac C w' S' β' r v/\H.length<=H'.length/\Kp H.length H.length β β'
def qDi(P:CV)(C:Cx)(N:Names)(G:Nat->CK (DV×K))(f:Nat)(args:Cz)(H:CW)(r:PV)(H':CW):Prop:=
 ∀(B:Nat) (w:CU) (S:qad) (β:Pl) (us:CL CP) (u:FrameMode) (nf:Nat),B<=w.heap.size->Swf w S->GOK N G w S->HOK C B w S β H->args.length=us.length->(∀j (h:j<args.length) (h':j<us.length),Ac C w S β args[j] us[j])->
  CallsDIn Fence.wide nf P (C.μ f) us.toArray u w λe u' w'=>u'=u/\∃v S' β',e=.returned v/\Ext B w S w' S'/\Swf w' S'/\HOK C B w' S' β' H'/\Later β β'/\Ac C w' S' β' r v/\H.length<=H'.length/\Kp H.length H.length β β'
structure OrOK (P:Program) (C:Cx) (N:Names) (E:Env):Prop where
 val:∀f ds r own,E.val f ds=some (r,own)->qe8 P C N E.G f ds r own
 ref:∀f args H r H',E.ref f args H=some (r,H')->qnZ P C N E.G f args H r H'
 dfr:∀f args H r H',E.dok f=true->E.ref f args H=some (r,H')->qDi P C N E.G f args H r H'
 it:∀Y f args H r H',E.it Y f args H=some (r,H')->qvH P C N E.G Y f args H r H'
 fni:∀Y f args H r,E.it Y f args H=some r->∃fn,P.funcs[C.μ f]? = some fn/\fn.body.isNone=false/\fn.name ≠ "runtime.NumGoroutine"
 fnv:∀f ds r,E.val f ds=some r->∃fn,P.funcs[C.μ f]? = some fn/\fn.body.isNone=false/\fn.name ≠ "runtime.NumGoroutine"
 fn:∀f args H r,E.ref f args H=some r->∃fn,P.funcs[C.μ f]? = some fn/\fn.body.isNone=false/\fn.name ≠ "runtime.NumGoroutine"
section
variable {P:CV}{N:Names}{C:Cx}{w:CU}{S:qad}{β:Pl}{B:Nat}{H:CW}
def qOo{k:K}{es:Cy}{v:CP}(hS:Swf w S)(h:qoo w S k es v B):∃S',Ext B w S w S'/\Swf w S'/\Al w S' (.l k es false) v/\(∀b j,b<B->S' b j->S b j):=by
 rcases h with ⟨rfl,a,rfl⟩|⟨blk,off,cap,cells,e,rfl,h1,h2,h3,h4,h5,h6⟩
 ·exact⟨S,Ext.refl _ _ _,hS,.l _ [] false a 0 0 0 (λ_ _=>undef) (zzt _) (λ_=>rfl) (λh=>absurd h (Nat.lt_irrefl _)) (λ_ hj=>absurd hj (zzm _)) (λ_ hj=>absurd hj (zzm _)),λ_ _ _ h=>h⟩
 ·obtain⟨g0,c,g1,g2⟩:=h6;have hdrop:∀x y,(cells.toList.drop off)[x]? = some y->cells[off+x]? = some y:=λx y h=>by rw[List.getElem?_drop]at h;simpa using h
  refine⟨λb j=>S b j\/(b=blk/\off<=j/\j<off+es.length*k.size),⟨Below.refl _ _,λ_ _ h=>.inl h,λ_ _ _=>rfl,?_,λ_ _ _ h=>h⟩,?_,?_,?_⟩
  ·rintro b j (h|⟨rfl,-,-⟩)
   ·exact .inl h
   ·exact .inr h2
  ·rintro b j (h|⟨rfl,q1,q2⟩)
   ·exact hS b j h
   ·have hlt:j<cells.size:=by have:es.length*k.size<=cap*k.size:=zzh _ h1;omega
    exact⟨cells[j],qiU h3 (by simp[hlt])⟩
  ·refine .l _ es false _ cap blk off c h1 (λh=>by cases h) (λ_=>rfl) ?_ ?_
   ·intro j hj m hm;have h7:(j+1)*k.size<=es.length*k.size:=zzh _ hj;rw[zzl,Nat.one_mul]at h7;have h8:=hdrop _ _ (g1 j hj m hm).1;rw[<-Nat.add_assoc]at h8;exact⟨qiU h3 h8,.inr ⟨rfl,by omega,by omega⟩,(g1 j hj m hm).2⟩
   ·intro j hj;exact (g2 j hj).more (λ_ _ h=>.inl h)
  ·rintro b j hb (h|⟨rfl,-,-⟩)
   ·exact h
   ·omega
def qrC{w':CU}{S':qad}(hH:HOK C B w S β H)(hB:B<=w.heap.size)(e:Ext w.heap.size w S w' S') :
  Ext B w S w' S'/\HOK C B w' S' β H:=by
 have e':Ext B w S w' S':=⟨e.below.mono hB,e.stab,e.cell,λb j h=>(e.new b j h).imp id (λh=>zzL hB h),e.shape⟩;refine⟨e',hH.ext e' (λo blk base k h=>e.below.block blk (hH.lt h)) ?_ (λo blk x h=>e.below.block blk (hH.splt h))⟩;intro o blk base k h j hj;rcases e.new blk j hj with h1|h1
 ·exact h1
 ·have:=hH.lt h;omega
def qPN{w':CU}{S':qad}{x:DV}{v:CP}(hs:x.AU=true)(h:Al w S x v):Al w' S' x v:=by
 cases h with
 |b x=>exact .b x
 |i k n=>exact .i k n
 |s l x h=>exact .s l x h
 |np=>exact .np
 |nf=>exact .nf
 |ni=>exact .ni
 |nm=>exact .nm
 |a cs vs h1 h2 h3=>simp[DV.AU]at hs
 |l=>simp[DV.AU]at hs
 |ifc=>simp[DV.AU]at hs
 |tok=>simp[DV.AU]at hs
def qCf{w':CU}{S':qad}{x:DV}{v:CP}(hs:x.AY=true)(h:Al w S x v):Al w' S' x v:=by
 cases h with
 |a cs vs h1 h2 h3=>
  refine .a cs vs h1 h2 ?_;intro j hj hj';have hsc:∀c∈cs,DV.AU c=true:=by simpa[DV.AY]using hs
  exact qPN (hsc _ (zzs hj)) (h3 j hj hj')
 |l=>simp[DV.AY,DV.AU]at hs
 |ifc=>simp[DV.AY,DV.AU]at hs
 |tok=>simp[DV.AY,DV.AU]at hs
 |b x=>exact .b x
 |i k n=>exact .i k n
 |s l x h=>exact .s l x h
 |np=>exact .np
 |nf=>exact .nf
 |ni=>exact .ni
 |nm=>exact .nm
def qPO{w':CU}{S':qad}{β':Pl}{x:PV}{v:CP}(hs:x.AU=true)(h:Ac C w S β x v):Ac C w' S' β' x v:=by
 cases h with
 |d x v h=>exact .d x v (qCf (by simpa[PV.AU]using hs) h)
 |_=>simp[PV.AU]at hs
def qPP{w':CU}{S':qad}{β':Pl}{x:PV}{v:CP}(hs:x.AY=true)(h:Ac C w S β x v):Ac C w' S' β' x v:=by
 cases h with
 |t cs vs h1 h2=>
  refine .t cs vs h1 ?_;intro j hj hj';have hsc:∀c∈cs,PV.AU c=true:=by simpa[PV.AY]using hs
  exact qPO (hsc _ (zzs hj)) (h2 j hj hj')
 |d x v h=>exact .d x v (qCf (by simpa[PV.AY,PV.AU]using hs) h)
 |_=>simp[PV.AY,PV.AU]at hs
def qGO(hH:HOK C B w S β H){B':Nat}(hBB:B<=B'){id blk off:Nat}(hp:β id=.pend)(hlt:id<H.length)(hblk:B'<=blk)(hlow:∀o blk base k,β o=.at blk base k->blk<B'){cells:Array CP}{e:CQ}(hw:w.heap[blk]? = some (.cells cells e (0,0))){x:Obj}
  (hc:OCells C w S β cells blk off x):HOK C B w S (upd β id (.at blk off x.shape)) (H.put id (some x))/\Later β (upd β id (.at blk off x.shape)):=by
 have hlat:=qne (x:=BO.at blk off x.shape) hp;have hat:∀p blk1 base1 k1,upd β id (.at blk off x.shape) p=.at blk1 base1 k1->(p=id/\blk1=blk/\base1=off/\k1=x.shape)\/(p≠id/\β p=.at blk1 base1 k1):=by
  intro p blk1 base1 k1 h;by_cases h1:p=id
  ·subst h1;rw[qa5]at h;cases h;exact .inl ⟨rfl,rfl,rfl,rfl⟩
  ·rw[qaC h1]at h;exact .inr ⟨h1,h⟩
 have hsp:=spf hH (β':=upd β id (.at blk off x.shape)) (H':=H.put id (some x)) (Ext.refl B w S) (λ_ _ _ h=>(qeF (by simp) h).2) (λ_ _ _ h=>qa7 (λh'=>(qeF (by simp) h).1 h'.symm)) (λ_ _ _ _=>rfl);refine⟨⟨?_,?_,?_,?_,?_,hsp.1,hsp.2⟩,hlat⟩
 ·intro p blk1 base1 k1 h;rcases hat p blk1 base1 k1 h with ⟨rfl,rfl,rfl,rfl⟩|⟨h1,h2⟩
  ·exact⟨zzL hBB hblk,x,cells,e,qdv hlt,rfl,hw,hc.ext (Ext.refl B w S) hlat (λ_ h=>h)⟩
  ·obtain⟨a1,x0,c0,e0,a2,a3,a4,a5⟩:=hH.live p blk1 base1 k1 h2;exact⟨a1,x0,c0,e0,by rw[qa7 (λh=>h1 h.symm)];exact a2,a3,a4,a5.ext (Ext.refl B w S) hlat (λ_ h=>h)⟩
 ·intro p h;have h1:p≠id:=λh1=>by subst h1;rw[qa5]at h;cases h
  rw[qaC h1]at h;rw[qa7 (λh=>h1 h.symm)];exact hH.dead p h
 ·intro p h;have h1:p≠id:=λh1=>by subst h1;rw[qa5]at h;cases h
  rw[qaC h1]at h;rw[qa7 (λh=>h1 h.symm)];exact hH.Bq p h
 ·intro p p' blk1 base1 k1 base2 k2 h1 h2;rcases hat _ _ _ _ h1 with ⟨rfl,rfl,rfl,rfl⟩|⟨a1,a3⟩
  ·rcases hat _ _ _ _ h2 with ⟨rfl,-,-,-⟩|⟨b1,b3⟩
   ·rfl
   ·have:=hlow _ _ _ _ b3;omega
  ·rcases hat _ _ _ _ h2 with ⟨rfl,rfl,rfl,rfl⟩|⟨b1,b3⟩
   ·have:=hlow _ _ _ _ a3;omega
   ·exact hH.inj p p' blk1 base1 k1 base2 k2 a3 b3
 ·intro p h;rw[qa2]at h;rw[qaC (by omega)];exact hH.out p h
def qwT{us:CL CP}{vs:Cz}{ds:Cy}{os:CF}(hH:HOK C B w S β H)(hp:qaN H vs=some (ds,os))(hl:vs.length=us.length)(hr:∀j (h:j<vs.length) (h':j<us.length),Ac C w S β vs[j] us[j]) :
  ds.length=us.length/\∀j (h:j<ds.length) (h':j<us.length),Al w (FSq β H os S) ds[j] us[j]:=by
 obtain⟨h1,h2⟩:=qtX hH hp;exact⟨by omega,h2 us hr⟩
def Ac.plain{β':Pl}{x:PV}{v:CP}(h:Ac C w S (λ_=>.pend) x v):Ac C w S β' x v:=
 h.ext (Ext.refl 0 w S) (λ_=>.inr (.inr rfl))
end
def FR(r:CK Nat):Fence:={ Fence.wide with round:=r }
section
variable {P:CV}{N:Names}{C:Cx}{w:CU}{S:qad}{β:Pl}{B:Nat}{H:CW}{a:Act}{ro:CK Nat}{nf:Nat}
def qrG{f:FuncId}{args:Array CP}{R:Ending->CU->Prop}:CallsIn (FR ro) nf P f args w R↔Calls P f args w R:=by
 cases ro with
 |none=>exact callsIn_wide
 |some l=>exact⟨λh=>callsIn_wide.1 (CallsIn.outOfRound (F:=Fence.wide) (l:=l) h),λh=>CallsIn.inRound (F:=Fence.wide) l (callsIn_wide.2 h)⟩
def qaV{o:Oper}(hnd:∀c,o.op≠.defer c){next:Act->CU->Prop}{Q:Exit->Act->CU->Prop}{u:CP}{w':CU}(h:(execOp a.eval o).run P w=.ok (.value u) w')(hn:next (a.put o.dst u) w'):o.wpIn (FR ro) nf P a w next Q:=by refine⟨λ_ _=>trivial,?_⟩;rw[Oper.semAt_eq _ _ _ hnd,h];exact hn
def qDc{o:Oper}(hnd:∀c,o.op≠.defer c){next:Act->CU->Prop}{Q:Exit->Act->CU->Prop}{w':CU}(h:(execOp a.eval o).run P w=.ok .skip w')(hn:next (a.put o.dst undef) w'):o.wpIn (FR ro) nf P a w next Q:=by refine⟨λ_ _=>trivial,?_⟩;rw[Oper.semAt_eq _ _ _ hnd,h];exact hn
def qnW{o:Oper}(hnd:∀c,o.op≠.defer c){next:Act->CU->Prop}{Q:Exit->Act->CU->Prop}{f:FuncId}{args:Array CP}{R:Ending->CU->Prop}(h:(execOp a.eval o).run P w=.ok (.enter f args) w)(hc:Calls P f args w R)
  (hn:∀e w',R e w'->∃v,e=.returned v/\next (a.put o.dst v) w'):o.wpIn (FR ro) nf P a w next Q:=by
 refine⟨λ_ _=>trivial,?_⟩;rw[Oper.semAt_eq _ _ _ hnd,h];refine⟨(λh=>by simp[FR,Fence.wide]at h),(qrG.2 hc).mono ?_⟩;intro e w' hr;obtain⟨v,rfl,hv⟩:=hn e w' hr;exact hv
def qa8{s:Sem CP}{u:CP}{w w':CU}(h:s.run P w=.ok u w'):(do pure (Next.value (<-s)):Sem Next).run P w=.ok (.value u) w':=by simp[h]
def quq{s:Sem Unit}{w w':CU}(h:s.run P w=.ok () w'):(do s;pure Next.skip:Sem Next).run P w=.ok .skip w':=by simp[h]
def qv5(o:Go.Obj):Prop:=∀c t f,o≠.cells c t f
def qQb(hS:Swf w S){b j:Nat}(h:S b j):∃c t f,w.heap[b]? = some (.cells c t f):=by
 obtain⟨v,hv⟩:=hS b j h;unfold World.cell? at hv;split at hv
 ·exact⟨_,_,_,by assumption⟩
 ·cases hv
def qAK(hS:Swf w S)(hB:B<=w.heap.size)(ob:Go.Obj):Ext B w S (w.alloc ob) S:=qhR hS hB ob
def qsG(hH:HOK C B w S β H)(hS:Swf w S)(hB:B<=w.heap.size){id:Nat}(hp:β id=.pend)(hlt:id<H.length){ob:Go.Obj}{x:Sp}{y:Obj}(hy:SpOK (w.alloc ob) S w.heap.size x y) :
  HOK C B (w.alloc ob) S (upd β id (.sp w.heap.size x)) (H.put id (some y))/\Later β (upd β id (.sp w.heap.size x)):=by
 have hl:=qne (x:=.sp w.heap.size x) hp;have hext:=qhR hS hB ob;have hat:∀o blk base k,upd β id (.sp w.heap.size x) o=.at blk base k->o≠id/\β o=.at blk base k:=λo blk base k h=>by
  by_cases ho:o=id
  ·subst ho;rw[qa5]at h;cases h
  ·rw[qaC ho]at h;exact⟨ho,h⟩
 refine⟨⟨?_,?_,?_,?_,?_,?_,?_⟩,hl⟩
 ·intro o blk base k ho;obtain⟨h0,ho⟩:=hat _ _ _ _ ho;obtain⟨h1,x0,c0,e0,h2,h3,h4,h5⟩:=hH.live o blk base k ho;refine⟨h1,x0,c0,e0,by rw[qa7 (λh'=>h0 h'.symm)];exact h2,h3,?_,h5.ext hext hl (λ_ h=>h)⟩;rw[Below.heap_alloc w _ blk (hH.lt ho)];exact h4
 ·intro o ho;have h:o≠id:=λh=>by subst h;rw[qa5]at ho;cases ho
  rw[qaC h]at ho;rw[qa7 (λh'=>h h'.symm)];exact hH.dead o ho
 ·intro o ho;have h:o≠id:=λh=>by subst h;rw[qa5]at ho;cases ho
  rw[qaC h]at ho;rw[qa7 (λh'=>h h'.symm)];exact hH.Bq o ho
 ·intro o o' blk base k base' k' h1 h2;exact hH.inj o o' blk base k base' k' (hat _ _ _ _ h1).2 (hat _ _ _ _ h2).2
 ·intro o ho;rw[qa2]at ho;have h:o≠id:=by omega
  rw[qaC h];exact hH.out o ho
 ·intro o blk x' ho;by_cases h:o=id
  ·subst h;rw[qa5]at ho;cases ho;exact⟨hB,y,qdv hlt,hy⟩
  ·rw[qaC h]at ho;obtain⟨h1,y0,h2,h3⟩:=hH.sp o blk x' ho;exact⟨h1,y0,by rw[qa7 (λh'=>h h'.symm)];exact h2,h3.ext hext (Below.heap_alloc w _ blk (hH.splt ho))⟩
 ·intro o o' blk x1 x2 h1 h2;by_cases ha:o=id
  ·by_cases hb:o'=id
   ·rw[ha,hb]
   ·subst ha;rw[qa5]at h1;cases h1;rw[qaC hb]at h2;exact absurd (hH.splt h2) (Nat.lt_irrefl _)
  ·by_cases hb:o'=id
   ·subst hb;rw[qa5]at h2;cases h2;rw[qaC ha]at h1;exact absurd (hH.splt h1) (Nat.lt_irrefl _)
   ·rw[qaC ha]at h1;rw[qaC hb]at h2;exact hH.spi o o' blk x1 x2 h1 h2
def SpOK.obj{blk:Nat}{x:Sp}{y:Obj}(h:SpOK w S blk x y):∃ob,w.heap[blk]? = some ob/\qv5 ob:=by
 unfold SpOK at h;split at h
 ·obtain⟨ms,clock,h1,-⟩:=h;exact⟨_,h1,λ_ _ _ h=>by cases h⟩
 ·obtain⟨s,-,h1⟩:=h;exact⟨_,h1,λ_ _ _ h=>by cases h⟩
 ·exact⟨_,h,λ_ _ _ h=>by cases h⟩
 ·exact⟨_,h,λ_ _ _ h=>by cases h⟩
 ·exact h.elim
def qt0(hS:Swf w S){blk:Nat}(hB:B<=blk){o0:Go.Obj}(h0:w.heap[blk]? = some o0)(hn:qv5 o0)(ob:Go.Obj):Ext B w S (w.putObj blk ob) S:=by
 have hne:∀b j,S b j->b≠blk:=λb j hs hb=>by subst hb;obtain⟨c,t,f,h⟩:=qQb hS hs;rw[h0]at h;cases h;exact hn _ _ _ rfl
 refine⟨⟨rfl,rfl,rfl,by simp,λk hk=>World.putObj_heap_other (by omega)⟩,λ_ _ h=>h,?_,λ_ _ h=>.inl h,?_⟩
 ·intro b j hs;simp only[World.cell?,World.putObj_heap_other (hne b j hs)]
 ·intro b e n h;by_cases hb:b=blk
  ·subst hb;unfold World.shape? at h;rw[h0]at h;cases o0<;>first|(cases h;done)|exact absurd rfl (hn _ _ _)
  ·unfold World.shape? at h⊢;rw[World.putObj_heap_other hb];exact h
def qqu(hH:HOK C B w S β H)(hS:Swf w S){o blk:Nat}{x:Sp}(hb:β o=.sp blk x)(ob:Go.Obj){y':Obj}(hy:SpOK (w.putObj blk ob) S blk x y') :
  Ext B w S (w.putObj blk ob) S/\HOK C B (w.putObj blk ob) S β (H.put o (some y')):=by
 obtain⟨g1,y,g2,g3⟩:=hH.sp o blk x hb;obtain⟨o0,g4,g5⟩:=g3.obj;have hext:=qt0 hS g1 g4 g5 ob;have hlt:o<H.length:=qic g2;refine⟨hext,⟨?_,?_,?_,hH.inj,?_,?_,hH.spi⟩⟩
 ·intro o' blk' base k h;obtain⟨h1,x0,c0,e0,h2,h3,h4,h5⟩:=hH.live o' blk' base k h;have hne:o≠o':=λhq=>by subst hq;rw[hb]at h;cases h
  have hbn:=hH.spne hb h4;exact⟨h1,x0,c0,e0,by rw[qa7 hne];exact h2,h3,by rw[World.putObj_heap_other (λh=>hbn h.symm)];exact h4,h5.ext hext (Later.refl _) (λ_ h=>h)⟩
 ·intro o' h;have hne:o≠o':=λhq=>by subst hq;rw[hb]at h;cases h
  rw[qa7 hne];exact hH.dead o' h
 ·intro o' h;have hne:o≠o':=λhq=>by subst hq;rw[hb]at h;cases h
  rw[qa7 hne];exact hH.Bq o' h
 ·intro o' h;rw[qa2]at h;exact hH.out o' h
 ·intro o' blk' x' h;by_cases ho:o=o'
  ·subst ho;rw[hb]at h;cases h;exact⟨g1,y',qdv hlt,hy⟩
  ·obtain⟨h1,y0,h2,h3⟩:=hH.sp o' blk' x' h;have hbn:blk'≠blk:=λhq=>ho (hH.spi o o' blk x x' hb (hq▸h));exact⟨h1,y0,by rw[qa7 ho];exact h2,h3.ext hext (World.putObj_heap_other hbn)⟩
def qv6(d:TypeDesc):Prop:=d=.bool\/d=.string\/∃k,d=.int k
def qIS{x y:DV}{u z:CP}(hx:Al w S x u)(hy:Al w S y z){e:CO}(h:qdb x y=some e){d:TypeDesc}(hd:qv6 d)(hk:MapKept.IsKey d u):Instr.sameNow d u z=some e:=by
 unfold qdb at h;split at h
 ·split at h
  ·rename_i hkk;subst hkk;cases h;cases hx;cases hy;rcases hd with rfl|rfl|⟨k,rfl⟩<;>simp_all[MapKept.IsKey,Instr.sameNow]
  ·cases h
 ·cases h;cases hx with
  |s _ x hx=>
  cases hy with
  |s _ y hy=>
  subst hx hy;rcases hd with rfl|rfl|⟨k,rfl⟩
  ·simp[MapKept.IsKey]at hk
  ·simp only[Instr.sameNow];congr 1;rw[Bool.eq_iff_iff,MapKept.bytes_beq];simp only[beq_iff_eq];constructor
   ·rintro rfl;rfl
   ·intro h;obtain⟨⟨x⟩⟩:=x;obtain⟨⟨y⟩⟩:=y;simpa using h
  ·simp[MapKept.IsKey]at hk
 ·cases h;cases hx;cases hy;rcases hd with rfl|rfl|⟨k,rfl⟩<;>simp_all[MapKept.IsKey,Instr.sameNow]
 ·cases h
def qzv{x y:DV}(h:qdb x y=some true):x=y:=by
 unfold qdb at h;split at h
 ·split at h
  ·rename_i hq;subst hq;simp at h;subst h;rfl
  ·cases h
 ·simp at h;subst h;rfl
 ·simp at h;subst h;rfl
 ·cases h
def qzr:∀{xs ys:Cy},qdI xs ys=some true->xs=ys
 |[],[],_=>rfl
 |x::xs,y::ys,h=>by
  simp only[qdI]at h;split at h
  ·rename_i e r h1 h2;simp only[zzb,zzf]at h;rw[h.1]at h1;rw[h.2]at h2;rw[qzv h1,qzr h2]
  ·cases h
 |[],_::_,h=>by cases h
 |_::_,[],h=>by cases h
def qIT{x y:DV}(h:qbS x y=some true):x=y:=by
 unfold qbS at h;split at h
 ·rw[qzr h]
 ·exact qzv h
def qIR{k:Nat}{x y:DV}{e:CO}(hk:qkT k x=true)(h:qdb x y=some e):eqK k x y=some e:=by
 unfold qkT at hk;split at hk
 ·cases y<;>first|(cases h;done)|exact h
 ·cases y<;>first|(cases h;done)|exact h
 ·cases y<;>first|(cases h;done)|exact h
 ·cases hk
def qzs:∀{ks:CF} {xs ys:Cy} {e:CO},qh6 ks xs=true->qdI xs ys=some e->eqL ks xs ys=some e
 |[],[],[],_,_,h=>h
 |[],[],_::_,_,_,h=>by cases h
 |[],_::_,_,_,hk,_=>by cases hk
 |_::_,[],_,_,hk,_=>by cases hk
 |_::_,_::_,[],_,_,h=>by cases h
 |k::ks,x::xs,y::ys,e,hk,h=>by
  simp only[qh6,zzf]at hk;simp only[qdI]at h;cases h1:qdb x y with
  |none=>rw[h1]at h;cases h
  |some e1=>
   cases h2:qdI xs ys with
   |none=>rw[h1,h2]at h;cases h
   |some r=>rw[h1,h2]at h;simp only[zzb]at h;subst h;simp only[eqL,qIR hk.1 h1,qzs hk.2 h2]
def ML(w:CU)(S:qad):CL (DV×DV)->CL MapEntry->Prop
 |[],[]=>True
 |e::es,m::ms=>(Al w S e.1 m.key/\Al w S e.2 m.val)/\ML w S es ms
 |_,_=>False
def qAu:∀{es:CL (DV×DV)} {ms:CL MapEntry},es.length=ms.length->(∀j (h:j<es.length) (h':j<ms.length),Al w S es[j].1 ms[j].key/\Al w S es[j].2 ms[j].val)->ML w S es ms
 |[],[],_,_=>trivial
 |e::es,m::ms,hl,h=>⟨h 0 (by simp) (by simp),qAu (by simpa using hl) λj hj hj'=>h (j+1) (by simpa using hj) (by simpa using hj')⟩
 |[],_::_,hl,_=>by cases hl
 |_::_,[],hl,_=>by cases hl
def qtz:∀{es:CL (DV×DV)} {ms:CL MapEntry},ML w S es ms->es.length=ms.length/\∀j (h:j<es.length) (h':j<ms.length),Al w S es[j].1 ms[j].key/\Al w S es[j].2 ms[j].val
 |[],[],_=>⟨rfl,λj h=>absurd h (zzm _)⟩
 |e::es,m::ms,h=>by
  obtain⟨h1,h2⟩:=qtz h.2;refine⟨by simp[h1],λj hj hj'=>?_⟩;cases j with
  |zero=>exact h.1
  |succ j=>exact h2 j (by simpa using hj) (by simpa using hj')
 |[],_::_,h=>h.elim
 |_::_,[],h=>h.elim
def qpS{es:CL (DV×DV)}{ms:Array MapEntry}:MR0 w S es ms↔ML w S es ms.toList:=
 ⟨λh=>qAu (by simpa using h.1) λj hj hj'=>by simpa using h.2 j hj (by simpa using hj'),λh=>⟨by simpa using (qtz h).1,λj hj hj'=>by have:=(qtz h).2 j hj (by simpa using hj');simp only[Array.getElem_toList]at this;exact this⟩⟩
def Fnd(cmp:CP->CK CO):CL MapEntry->Nat->CK (CK (Nat×CP))
 |[],_=>some none
 |e::es,i=>match cmp e.key with
  |some true=>some (some (i,e.val))
  |some false=>Fnd cmp es (i+1)
  |none=>none
def qxZ(d:TypeDesc)(u:CP):∀(ms:CL MapEntry) (i:Nat),Instr.findNow d u ms i=Fnd (Instr.sameNow d u) ms i
 |[],_=>rfl
 |e::es,i=>by
  simp only[Instr.findNow,Fnd,qxZ d u es (i+1)];cases Instr.sameNow d u e.key with
  |none=>rfl
  |some b=>cases b<;>rfl
def qxY{P:CV}{kt:CQ}{u:CP}{cmp:CP->CK CO}(h:∀z b,cmp z=some b->(Op.equal kt u z).run P w=.ok b w):∀(ms:CL MapEntry) (i:Nat) (r:CK (Nat×CP)),Fnd cmp ms i=some r->(Instr.findAsking kt u ms i).run P w=.ok r w
 |[],_,r,hf=>by simp only[Fnd,zzb]at hf;subst hf;simp[Instr.findAsking]
 |e::es,i,r,hf=>by
  simp only[Fnd]at hf;cases hc:cmp e.key with
  |none=>rw[hc]at hf;cases hf
  |some b=>
   rw[hc]at hf;have hr:=h _ _ hc;cases b with
   |true=>simp only[zzb]at hf;subst hf;simp[Instr.findAsking,hr]
   |false=>have ih:=qxY h es (i+1) r hf;simp[Instr.findAsking,hr,ih]
def qyk{k:DV}{cmp:CP->CK CO}(hc:∀y z e,Al w S y z->qbS k y=some e->cmp z=some e):∀{es:CL (DV×DV)} {ms:CL MapEntry} {r:CK DV} (i:Nat),ML w S es ms->qcG k es=some r->
  match r with
  |none=>Fnd cmp ms i=some none
  |some v=>∃j z,Fnd cmp ms i=some (some (j,z))/\Al w S v z
 |[],[],r,i,_,h=>by cases h;rfl
 | (a,v)::es,m::ms,r,i,hm,h=>by
  simp only[qcG]at h;obtain⟨⟨h1,h2⟩,h3⟩:=hm;split at h
  ·rename_i he;cases h;have:=hc _ _ _ h1 he;exact⟨i,m.val,by simp[Fnd,this],h2⟩
  ·rename_i he;have hs:=hc _ _ _ h1 he;have ih:=qyk hc (i+1) h3 h;cases r with
   |none=>simpa[Fnd,hs]using ih
   |some v=>simpa[Fnd,hs]using ih
  ·cases h
 |[],_::_,_,_,h,_=>h.elim
 |_::_,[],_,_,h,_=>h.elim
def qBx{k x:DV}{u z:CP}(hk:Al w S k u)(hx:Al w S x z){cmp:CP->CK CO}(hc:∀y z e,Al w S y z->qbS k y=some e->cmp z=some e)(clock:Nat):∀{es es':CL (DV×DV)} {ms:CL MapEntry} (i:Nat),ML w S es ms->qdx k x es=some es'->
  (Fnd cmp ms i=some none/\ML w S es' (ms++[{ key:=u,val:=z,born:=clock }]))\/
  ∃j v,Fnd cmp ms i=some (some (i+j,v))/\(∃e,ms[j]? = some e/\Al w S k e.key)/\∀key,Al w S k key\/(∃e,ms[j]? = some e/\key=e.key)->ML w S es' (ms.modify j λe=>{ e with key:=key,val:=z })
 |[],es',[],i,_,h=>by cases h;exact .inl ⟨rfl,⟨hk,hx⟩,trivial⟩
 | (a,v)::es,es',m::ms,i,hm,h=>by
  simp only[qdx]at h;obtain⟨⟨h1,h2⟩,h3⟩:=hm;split at h
  ·rename_i he;cases h;have hs:=hc _ _ _ h1 he;have hka:=qIT he;subst hka;refine .inr ⟨0,m.val,by simp[Fnd,hs],⟨m,rfl,h1⟩,?_⟩;intro key hkey;simp only[List.modify_zero_cons];refine⟨⟨?_,hx⟩,h3⟩;rcases hkey with hkey|⟨e,he',rfl⟩
   ·exact hkey
   ·simp at he';subst he';exact h1
  ·rename_i he;have hs:=hc _ _ _ h1 he;split at h
   ·rename_i r' hr;cases h;rcases qBx hk hx hc clock (i+1) h3 hr with ⟨g1,g2⟩|⟨j,v',g1,⟨e,g2,g3⟩,g4⟩
    ·exact .inl ⟨by simpa[Fnd,hs]using g1,⟨h1,h2⟩,g2⟩
    ·refine .inr ⟨j+1,v',by simp[Fnd,hs,g1];omega,⟨e,by simpa using g2,g3⟩,?_⟩;intro key hkey;rw[List.modify_succ_cons];exact⟨⟨h1,h2⟩,g4 key (by simpa using hkey)⟩
   ·cases h
  ·cases h
 |[],_,_::_,_,h,_=>h.elim
 |_::_,_,[],_,h,_=>h.elim
def sc1:DV->CO
 |.i _ _|.s _|.b _=>true
 |_=>false
def qCc{x:DV}{u z:CP}(hs:sc1 x=true)(h:Al w S x u)(h':Al w S x z)(n:Nat):Instr.sameBits n u z=true:=by
 cases x<;>first|(cases hs;done)|skip
 ·cases h;cases h';cases n<;>simp[Instr.sameBits]
 ·cases h;cases h';cases n<;>simp[Instr.sameBits]
 ·cases h with
  |s _ a ha=>
  cases h' with
  |s _ b hb=>
  have:a=b:=by obtain⟨⟨a⟩⟩:=a;obtain⟨⟨b⟩⟩:=b;subst ha;simp at hb;rw[hb]
  subst this;cases n<;>(simp only[Instr.sameBits];exact (MapKept.bytes_beq _ _).2 rfl)
def qIV{k:Nat}{x:DV}(h:qkT k x=true):sc1 x=true:=by unfold qkT at h;split at h<;>first|rfl|(cases h;done)
def qzJ:∀{ks:CF} {xs:Cy},qh6 ks xs=true->xs.length=ks.length/\∀x∈xs,sc1 x=true
 |[],[],_=>⟨rfl,λx h=>by cases h⟩
 |[],_::_,h=>by cases h
 |_::_,[],h=>by cases h
 |k::ks,x::xs,h=>by
  simp only[qh6,zzf]at h;obtain⟨l,r⟩:=qzJ h.2;refine⟨by simp[l],λy hy=>?_⟩;rcases List.mem_cons.1 hy with rfl|hy
  ·exact qIV h.1
  ·exact r y hy
def qPM{xs:Cy}{u z:CP}(hs:∀x∈xs,sc1 x=true)(h:Al w S (.a xs) u)(h':Al w S (.a xs) z)(n:Nat):Instr.sameBits (n+1) u z=true:=by
 cases h with
 |a _ vs l1 f1 r1=>
 cases h' with
 |a _ us l2 f2 r2=>
 have hl:vs.length=us.length:=by omega
 simp only[Instr.sameBits,zzf,beq_iff_eq,List.size_toArray,hl,true_and];rw[List.all_eq_true];intro p hp;obtain⟨j,hj,rfl⟩:=zzO hp;simp only[List.length_zip,Nat.lt_min]at hj;simp only[List.getElem_zip];exact qCc (hs _ (zzs (by omega:j<xs.length))) (r1 j (by omega) hj.1) (r2 j (by omega) hj.2) n
def qBT{old new:CP}(h:Instr.sameBits 10000 old new=true):(Instr.keyThatStays old new).run P w=.ok new w:=by simp[Instr.keyThatStays,h]
def qhU{b:CO}{u:CP}(h:Ac C w S β (.d (.b b)) u):u=.bool b:=by
 cases h with
 |d _ _ h=>cases h;rfl
def qqm{f:FuncId}{fn:Func}(hfn:P.funcs[f]? = some fn)(hb:fn.body.isNone=false)(hn:fn.name ≠ "runtime.NumGoroutine") (args:Array CP):(callFunc f args).run P w=.ok (.enter f args) w:=by
 have:(fn.name == "runtime.NumGoroutine")=false:=by simpa using hn
 simp only[callFunc,Sem.run_bind,run_program,Result.andThen_ok,hfn,this,zzg,if_false,hb,Sem.run_pure]
def OpPost(C:Cx)(B:Nat)(w:CU)(S:qad)(β:Pl)(H:CW)(id:Nat)(v:PV)(H':CW)(K:CP->CU->Prop):Prop:=
 ∀u w' S' β',Ext B w S w' S'->Swf w' S'->HOK C B w' S' β' H'->Later β β'->Ac C w' S' β' v u->H.length<=H'.length->Kp H.length id β β'->K u w'
def OpPost.same{id:Nat}{v:PV}{K:CP->CU->Prop}(h:OpPost C B w S β H id v H K)(hH:HOK C B w S β H)(hS:Swf w S){u:CP}(hu:Ac C w S β v u):K u w:=
 h u w S β (Ext.refl _ _ _) hS hH (Later.refl _) hu (zzt _) (Kp.refl _ _ _)
def OpPost.of_leaves{id:Nat}{v:PV}{H':CW}{K:CP->CU->Prop}(h:OpPost C B w S β H id v H' K){u:CP}{w':CU}(hl:qeJ C B w S β H id v H' u w'):K u w':=by obtain⟨S',β',a1,a2,a3,a4,a5,a6,a7⟩:=hl;exact h u w' S' β' a1 a2 a3 a4 a5 (by omega) a7
end
section
variable {P:CV}{N:Names}{C:Cx}{w:CU}{S:qad}{β:Pl}{B:Nat}{H:CW}{a:Act}{ro:CK Nat}{nf:Nat}{id:Nat}{v:PV}{H':CW}{o:Oper}{next:Act->CU->Prop}{Q:Exit->Act->CU->Prop}
def qCb{l:CB}{u:CP}(h:Ac C w S β (.d (.s l)) u):∃z:ByteArray,u=.string z/\z.data.toList=l:=by
 cases h with
 |d _ _ h=>cases h with
  |s _ z hz=>exact⟨z,rfl,hz⟩
def qGU{t:Nat}{y:DV}{u:CP}(h:Ac C w S β (.d (.ifc t y)) u):∃z,u=.iface t z/\Al w S y z:=by
 cases h with
 |d _ _ h=>cases h with
  |ifc _ _ z hz=>exact⟨z,rfl,hz⟩
def qKG{u:CP}(h:Ac C w S β (.d .ni) u):u=.nilIface:=by
 cases h with
 |d _ _ h=>cases h;rfl
def qOg(hnd:∀c,o.op≠.defer c){t:CQ}{x:Operand}(hop:o.op=.makeInterface t x){d:TypeDesc}(ht:P.underlying t=some d)(hd:∀ms,d≠.interface ms){r:PV}(hx:Ac C w S β r (a.eval x))(hH:HOK C B w S β H)(hS:Swf w S)
  {y:DV} {os:CF} (hpu:pur H r=some (y,os)) (hp:OpPost C B w S β H id (.d (.ifc t y)) (frz H os) λu w'=>next (a.put o.dst u) w'):o.wpIn (FR ro) nf P a w next Q:=by
 have hrel:=qk7 hH hx hpu;refine qaV hnd (u:=.iface t (a.eval x)) ?_ (hp _ _ _ β (qey hH os) (qi7 hH hS os) (qkD hH os) (Later.refl _) (.d _ _ (.ifc t _ _ hrel)) (by rw[qdt];exact zzt _) (Kp.refl _ _ _));simp only[execOp,hop];refine qa8 ?_;simp only[Instr.makeInterface,Sem.run_bind,qaK ht,Result.andThen_ok];cases d<;>first|exact absurd rfl (hd _)|rfl
def qR7{u:Nat}{y:PV}{v:CP}(h:Ac C w S β (.w u y) v):∃z,v=.iface u z/\Ac C w S β y z:=by
 cases h with
 |w _ _ z h=>exact⟨z,rfl,h⟩
def qOh(hnd:∀c,o.op≠.defer c){t:CQ}{x:Operand}(hop:o.op=.makeInterface t x){d:TypeDesc}(ht:P.underlying t=some d)(hd:∀ms,d≠.interface ms){r:PV}(hx:Ac C w S β r (a.eval x))(hH:HOK C B w S β H)(hS:Swf w S)
  (hp:OpPost C B w S β H id (.w t r) H λu w'=>next (a.put o.dst u) w'):o.wpIn (FR ro) nf P a w next Q:=by
 refine qaV hnd (u:=.iface t (a.eval x)) ?_ (hp.same hH hS (.w t _ _ hx));simp only[execOp,hop];refine qa8 ?_;simp only[Instr.makeInterface,Sem.run_bind,qaK ht,Result.andThen_ok];cases d<;>first|exact absurd rfl (hd _)|rfl
def qOm(hnd:∀c,o.op≠.defer c){s t:CQ}{x:Operand}{ok:CO}(hop:o.op=.typeAssert x s t ok){d:TypeDesc}(ht:P.underlying t=some d)(hd:∀ms,d≠.interface ms){z:DV}(hz:zq P t=some z){r:PV}
  (h:(match r with
  |.d (.ifc u v)=>if u=t then some (if ok then PV.t [.d v,.d (.b true)]else .d v,H)else if ok then some (.t [.d z,.d (.b false)],H)else none
  |.w u v=>if u=t then some (if ok then PV.t [v,.d (.b true)]else v,H)else if ok then some (.t [.d z,.d (.b false)],H)else none
  |.d .ni=>if ok then some (.t [.d z,.d (.b false)],H)else none
  |_=>none)=some (v,H')) (hx:Ac C w S β r (a.eval x)) (hH:HOK C B w S β H) (hS:Swf w S) (hp:OpPost C B w S β H id v H' λu w'=>next (a.put o.dst u) w'):o.wpIn (FR ro) nf P a w next Q:=by
 obtain⟨k,zv,-,hzv,-,hzr⟩:=qhC hz;have pair:∀{x y:PV} {u z:CP},Ac C w S β x u->Ac C w S β y z->Ac C w S β (.t [x,y]) (.tuple #[u,z]):=by
  intro x y u z h1 h2;refine .t [x,y] [u,z] rfl λj hj hj'=>?_
  match j,hj with
  |0,_=>exact h1
  |1,_=>exact h2
 have fails:ok=true->v=.t [.d z,.d (.b false)]->H'=H->((execOp a.eval o).run P w=.ok (.value (.tuple #[zv,.bool false])) w)->o.wpIn (FR ro) nf P a w next Q:=by rintro-rfl rfl hr;exact qaV hnd hr (hp.same hH hS (pair (.d _ _ (hzr w S)) (.d _ _ (.b false))))
 split at h
 ·rename_i u1 y hx;obtain⟨yv,hax,hy⟩:=qGU hx;split at h
  ·rename_i hut;subst hut;simp only[zzb,zzc]at h;obtain⟨rfl,rfl⟩:=h;cases ok with
   |true=>refine qaV hnd (u:=.tuple #[yv,.bool true]) ?_ (hp.same hH hS (pair (.d _ _ hy) (.d _ _ (.b true))));simp only[execOp,hop,hax];refine qa8 ?_;simp only[Instr.typeAssert,Sem.run_bind,qaK ht,Result.andThen_ok];cases d<;>first|exact absurd rfl (hd _)|(simp)
   |false=>refine qaV hnd (u:=yv) ?_ (hp.same hH hS (.d _ _ hy));simp only[execOp,hop,hax];refine qa8 ?_;simp only[Instr.typeAssert,Sem.run_bind,qaK ht,Result.andThen_ok];cases d<;>first|exact absurd rfl (hd _)|(simp)
  ·rename_i hut;split at h
   ·rename_i hok;subst hok;simp only[zzb,zzc]at h;refine fails rfl h.1.symm h.2.symm ?_;simp only[execOp,hop,hax];refine qa8 ?_;simp only[Instr.typeAssert,Sem.run_bind,qaK ht,Result.andThen_ok];cases d<;>first|exact absurd rfl (hd _)|(simp[hut,qhq hzv])
   ·cases h
 ·rename_i u1 y hx;obtain⟨yv,hax,hy⟩:=qR7 hx;split at h
  ·rename_i hut;subst hut;simp only[zzb,zzc]at h;obtain⟨rfl,rfl⟩:=h;cases ok with
   |true=>refine qaV hnd (u:=.tuple #[yv,.bool true]) ?_ (hp.same hH hS (pair hy (.d _ _ (.b true))));simp only[execOp,hop,hax];refine qa8 ?_;simp only[Instr.typeAssert,Sem.run_bind,qaK ht,Result.andThen_ok];cases d<;>first|exact absurd rfl (hd _)|(simp)
   |false=>refine qaV hnd (u:=yv) ?_ (hp.same hH hS hy);simp only[execOp,hop,hax];refine qa8 ?_;simp only[Instr.typeAssert,Sem.run_bind,qaK ht,Result.andThen_ok];cases d<;>first|exact absurd rfl (hd _)|(simp)
  ·rename_i hut;split at h
   ·rename_i hok;subst hok;simp only[zzb,zzc]at h;refine fails rfl h.1.symm h.2.symm ?_;simp only[execOp,hop,hax];refine qa8 ?_;simp only[Instr.typeAssert,Sem.run_bind,qaK ht,Result.andThen_ok];cases d<;>first|exact absurd rfl (hd _)|(simp[hut,qhq hzv])
   ·cases h
 ·rename_i hx;have hax:=qKG hx;split at h
  ·rename_i hok;subst hok;simp only[zzb,zzc]at h;refine fails rfl h.1.symm h.2.symm ?_;simp only[execOp,hop,hax];refine qa8 ?_;simp only[Instr.typeAssert,Sem.run_bind,qaK ht,Result.andThen_ok];cases d<;>first|exact absurd rfl (hd _)|(simp[qhq hzv])
  ·cases h
 ·cases h
def qe3:Nat->CP
 |0=>.nilIface
 |1=>.pointer none
 |2=>.map none
 |3=>.nilFunc
 |_=>.slice none 0 0
def qKH{kd:Nat}{d:TypeDesc}(hkd:qm5 d=some kd){r:PV}{u:CP}(hx:Ac C w S β r u){b:CO}(h:qdK kd r=some b) :
  (∃ms,d=.interface ms/\qe3 kd=.nilIface/\((b=true/\u=.nilIface)\/(b=false/\∃t x,u=.iface t x)))\/(∃e,d=.pointer e/\qe3 kd=.pointer none/\((b=true/\u=.pointer none)\/(b=false/\∃p,u=.pointer (some p))))\/
  (∃k e,d=.map k e/\qe3 kd=.map none/\b=true/\u=.map none)\/(∃ps rs vr,d=.func ps rs vr/\qe3 kd=.nilFunc/\((b=true/\u=.nilFunc)\/(b=false/\∃f x y,u=.func f x y)))\/(∃e,d=.slice e/\qe3 kd=.slice none 0 0/\b=false/\∃ad l c,u=.slice (some ad) l c):=by
 unfold qm5 at hkd;split at hkd<;>first|(cases hkd;done)|skip
 all_goals cases hkd
 ·unfold qdK at h;split at h<;>first|(cases h;done)|skip
  all_goals first|(rename_i heq;cases heq;done)|skip
  ·cases h;cases hx with|d _ _ hx=>cases hx;exact .inl ⟨_,rfl,rfl,.inl ⟨rfl,rfl⟩⟩
  ·cases h;cases hx with|d _ _ hx=>cases hx;exact .inl ⟨_,rfl,rfl,.inr ⟨rfl,_,_,rfl⟩⟩
  ·cases h;cases hx with|d _ _ hx=>cases hx;exact .inl ⟨_,rfl,rfl,.inr ⟨rfl,_,_,rfl⟩⟩
  ·cases h;cases hx;exact .inl ⟨_,rfl,rfl,.inr ⟨rfl,_,_,rfl⟩⟩
 ·unfold qdK at h;split at h<;>first|(cases h;done)|skip
  all_goals first|(rename_i heq;cases heq;done)|skip
  ·cases h;cases hx with|d _ _ hx=>cases hx;exact .inr (.inl ⟨_,rfl,rfl,.inl ⟨rfl,rfl⟩⟩)
  ·cases h;cases hx with
   |p _ _ _ _ _ hp=>
    unfold RelPt at hp;split at hp
    ·exact hp.elim
    ·obtain⟨blk,off,rfl⟩:=hp;exact .inr (.inl ⟨_,rfl,rfl,.inr ⟨rfl,_,rfl⟩⟩)
    ·exact hp.elim
    ·subst hp;exact .inr (.inl ⟨_,rfl,rfl,.inr ⟨rfl,_,rfl⟩⟩)
    ·exact hp.elim
  ·cases h;cases hx;exact .inr (.inl ⟨_,rfl,rfl,.inr ⟨rfl,_,rfl⟩⟩)
 ·unfold qdK at h;split at h<;>first|(cases h;done)|skip
  all_goals first|(rename_i heq;cases heq;done)|skip
  ·cases h;cases hx with|d _ _ hx=>cases hx;exact .inr (.inr (.inl ⟨_,_,rfl,rfl,rfl,rfl⟩))
 ·unfold qdK at h;split at h<;>first|(cases h;done)|skip
  all_goals first|(rename_i heq;cases heq;done)|skip
  ·cases h;cases hx with|d _ _ hx=>cases hx;exact .inr (.inr (.inr (.inl ⟨_,_,_,rfl,rfl,.inl ⟨rfl,rfl⟩⟩)))
  ·cases h;cases hx;exact .inr (.inr (.inr (.inl ⟨_,_,_,rfl,rfl,.inr ⟨rfl,_,_,_,rfl⟩⟩)))
  ·cases h;cases hx;exact .inr (.inr (.inr (.inl ⟨_,_,_,rfl,rfl,.inr ⟨rfl,_,_,_,rfl⟩⟩)))
 ·unfold qdK at h;split at h<;>first|(cases h;done)|skip
  all_goals first|(rename_i heq;cases heq;done)|skip
  ·cases h;cases hx with
   |d _ _ hx=>
    cases hx with
    |l _ _ _ ad cap blk off c c1 c2 c3 c4 c5=>have:=c3 (by simp);subst this;exact .inr (.inr (.inr (.inr ⟨_,rfl,rfl,rfl,_,_,_,rfl⟩)))
def qAL{kd:Nat}{t:CK CQ}{y:Operand}{r:Ab}(hr:qbU P N t y=some r)(h:qe2 kd r=true):∃v,y=.const v/\v=qe3 kd:=by
 cases y with
 |tmp n=>cases hr;simp[qe2]at h
 |global g=>cases hr;simp[qe2]at h
 |func f=>simp only[qbU,Option.map_eq_some_iff]at hr;obtain⟨x,-,rfl⟩:=hr;simp[qe2]at h
 |const v=>
  refine⟨v,rfl,?_⟩;simp only[qbU,Option.map_eq_some_iff]at hr;obtain⟨z,hz,rfl⟩:=hr;unfold qkx at hz;split at hz
  ·split at hz
   ·simp only[Option.map_eq_some_iff]at hz;obtain⟨l,-,rfl⟩:=hz;simp[qe2]at h
   ·cases hz
  ·unfold qmL at hz;split at hz<;>first|(cases hz;done)|skip
   all_goals cases hz
   all_goals
    unfold qe2 at h;split at h<;>first|(cases h;done)|(rename_i heq;cases heq;done)|rfl
def qcY{op:BinOp}(hop:op=.eql\/op=.neq){t:CQ}{x y:Operand}{p q:CP}{b:CO}(hg:(eqGuard op t x y p q).run P w=.ok () w)(he:(Op.equal t p q).run P w=.ok b w)
  (h1:binOp .eql t p q=(do pure (.bool (<-Op.equal t p q)))) (h2:binOp .neq t p q=(do pure (.bool (!(<-Op.equal t p q))))) :
  (do eqGuard op t x y p q;binOp op t p q:Sem CP).run P w=.ok (.bool (if op==.neq then !b else b)) w:=by
 rw[Sem.run_bind,hg];simp only[Result.andThen_ok];rcases hop with rfl|rfl
 ·rw[h1,Sem.run_bind,he];rfl
 ·rw[h2,Sem.run_bind,he];rfl
def qBS{op:BinOp}(hop:op=.eql\/op=.neq){t:CQ}{x y:Operand}{r:PV}{u:CP}(hx:Ac C w S β r u){b:CO}{kd:Nat}{d:TypeDesc}(hkd:qm5 d=some kd)(h:qdK kd r=some b)(ht:P.underlying t=some d) :
  ((∃c,y=.const c)->(do eqGuard op t x y u (qe3 kd);binOp op t u (qe3 kd):Sem CP).run P w=.ok (.bool (if op==.neq then !b else b)) w)/\((∃c,x=.const c)->(do eqGuard op t x y (qe3 kd) u;binOp op t (qe3 kd) u:Sem CP).run P w=.ok (.bool (if op==.neq then !b else b)) w):=by
 have hb:=qKH hkd hx h;have G:∀p q:CP,(p≠.nilIface\/q≠.nilIface\/(∃c,y=.const c)\/∃c,x=.const c)->(∀c,p≠.agg c)->(eqGuard op t x y p q).run P w=.ok () w:=by
  intro p q hpq hag;rcases hop with rfl|rfl
  all_goals
   unfold eqGuard;simp only[Bool.not_true,zzg,if_false];split
   ·rcases hpq with h|h|⟨c,rfl⟩|⟨c,rfl⟩
    ·exact absurd rfl h
    ·exact absurd rfl h
    ·simp
    ·simp
   ·exact absurd rfl (hag _)
   ·rfl
 rcases hb with ⟨ms,rfl,hn,hu⟩|⟨e,rfl,hn,hu⟩|⟨k,e,rfl,hn,rfl,rfl⟩|⟨ps,rs,vr,rfl,hn,hu⟩|⟨e,rfl,hn,rfl,ad,l,c,rfl⟩
 all_goals rw[hn]
 ·rcases hu with ⟨rfl,rfl⟩|⟨rfl,tt,xx,rfl⟩
  ·have he:(Op.equal t .nilIface .nilIface).run P w=.ok true w:=by simp only[Op.equal,Op.maxDepth];unfold Op.equalIn;simp[qaK ht]
   exact⟨λhc=>qcY hop (G _ _ (.inr (.inr (.inl hc))) (λc h=>by cases h)) he rfl rfl,λhc=>qcY hop (G _ _ (.inr (.inr (.inr hc))) (λc h=>by cases h)) he rfl rfl⟩
  ·have he:(Op.equal t (.iface tt xx) .nilIface).run P w=.ok false w:=by simp only[Op.equal,Op.maxDepth];unfold Op.equalIn;simp[qaK ht]
   have he':(Op.equal t .nilIface (.iface tt xx)).run P w=.ok false w:=by simp only[Op.equal,Op.maxDepth];unfold Op.equalIn;simp[qaK ht]
   exact⟨λ_=>qcY hop (G _ _ (.inl (by simp)) (λc h=>by cases h)) he rfl rfl,λ_=>qcY hop (G _ _ (.inr (.inl (by simp))) (λc h=>by cases h)) he' rfl rfl⟩
 ·rcases hu with ⟨rfl,rfl⟩|⟨rfl,p,rfl⟩
  ·have he:(Op.equal t (.pointer none) (.pointer none)).run P w=.ok true w:=by simp only[Op.equal,Op.maxDepth];unfold Op.equalIn;simp[qaK ht]
   exact⟨λ_=>qcY hop (G _ _ (.inl (by simp)) (λc h=>by cases h)) he rfl rfl,λ_=>qcY hop (G _ _ (.inl (by simp)) (λc h=>by cases h)) he rfl rfl⟩
  ·have he:(Op.equal t (.pointer (some p)) (.pointer none)).run P w=.ok false w:=by simp only[Op.equal,Op.maxDepth];unfold Op.equalIn;simp[qaK ht]
   have he':(Op.equal t (.pointer none) (.pointer (some p))).run P w=.ok false w:=by simp only[Op.equal,Op.maxDepth];unfold Op.equalIn;simp[qaK ht]
   exact⟨λ_=>qcY hop (G _ _ (.inl (by simp)) (λc h=>by cases h)) he rfl rfl,λ_=>qcY hop (G _ _ (.inl (by simp)) (λc h=>by cases h)) he' rfl rfl⟩
 ·have he:(Op.equal t (.map none) (.map none)).run P w=.ok true w:=by simp only[Op.equal,Op.maxDepth];unfold Op.equalIn;simp[qaK ht]
  exact⟨λ_=>qcY hop (G _ _ (.inl (by simp)) (λc h=>by cases h)) he rfl rfl,λ_=>qcY hop (G _ _ (.inl (by simp)) (λc h=>by cases h)) he rfl rfl⟩
 ·rcases hu with ⟨rfl,rfl⟩|⟨rfl,ff,xx,yy,rfl⟩
  ·have he:(Op.equal t .nilFunc .nilFunc).run P w=.ok true w:=by simp only[Op.equal,Op.maxDepth];unfold Op.equalIn;simp[qaK ht]
   exact⟨λ_=>qcY hop (G _ _ (.inl (by simp)) (λc h=>by cases h)) he rfl rfl,λ_=>qcY hop (G _ _ (.inl (by simp)) (λc h=>by cases h)) he rfl rfl⟩
  ·have he:(Op.equal t (.func ff xx yy) .nilFunc).run P w=.ok false w:=by simp only[Op.equal,Op.maxDepth];unfold Op.equalIn;simp[qaK ht]
   have he':(Op.equal t .nilFunc (.func ff xx yy)).run P w=.ok false w:=by simp only[Op.equal,Op.maxDepth];unfold Op.equalIn;simp[qaK ht]
   exact⟨λ_=>qcY hop (G _ _ (.inl (by simp)) (λc h=>by cases h)) he rfl rfl,λ_=>qcY hop (G _ _ (.inl (by simp)) (λc h=>by cases h)) he' rfl rfl⟩
 ·have he:(Op.equal t (.slice (some ad) l c) (.slice none 0 0)).run P w=.ok false w:=by simp only[Op.equal,Op.maxDepth];unfold Op.equalIn;simp[qaK ht]
  have he':(Op.equal t (.slice none 0 0) (.slice (some ad) l c)).run P w=.ok false w:=by simp only[Op.equal,Op.maxDepth];unfold Op.equalIn;simp[qaK ht]
  exact⟨λ_=>qcY hop (G _ _ (.inl (by simp)) (λc h=>by cases h)) he rfl rfl,λ_=>qcY hop (G _ _ (.inl (by simp)) (λc h=>by cases h)) he' rfl rfl⟩
def qu7(hH:HOK C B w S β H){oo:Nat}{u:CP}(hx:Ac C w S β (.h oo) u){y:Obj}(ho:H.obj oo=some y):∃blk x,β oo=.sp blk x/\SpOK w S blk x y/\((x=.map/\u=.map (some blk))\/(x=.iter/\u=.pointer (some ⟨blk,0,none⟩))\/∃r,x=.loop r/\u=.func (.yield blk) #[] #[]):=by
 cases hx with
 |h _ _ _ hh=>
  unfold RelH at hh;split at hh
  ·rename_i hb;rw[hH.dead _ hb]at ho;cases ho
  ·rename_i blk hb;obtain⟨-,y',g1,g2⟩:=hH.sp _ _ _ hb;rw[ho]at g1;cases g1;exact⟨blk,_,hb,g2,.inl ⟨rfl,hh⟩⟩
  ·rename_i blk hb;obtain⟨-,y',g1,g2⟩:=hH.sp _ _ _ hb;rw[ho]at g1;cases g1;exact⟨blk,_,hb,g2,.inr (.inl ⟨rfl,hh⟩)⟩
  ·rename_i blk r hb;obtain⟨-,y',g1,g2⟩:=hH.sp _ _ _ hb;rw[ho]at g1;cases g1;exact⟨blk,_,hb,g2,.inr (.inr ⟨r,rfl,hh⟩)⟩
  ·exact hh.elim
def qAl(hH:HOK C B w S β H){oo:Nat}{u:CP}(hx:Ac C w S β (.h oo) u){es:CL (DV×DV)}(ho:H.obj oo=some (.mp es)):∃blk ms clock,∃es0:CL (DV×DV),β oo=.sp blk .map/\u=.map (some blk)/\w.heap[blk]? = some (.map ms clock)/\es0.Perm es/\NdK es0/\ML w S es0 ms.toList:=by
 obtain⟨blk,x,h1,h2,h3⟩:=qu7 hH hx ho;rcases h3 with ⟨rfl,rfl⟩|⟨rfl,-⟩|⟨r,rfl,-⟩
 ·obtain⟨ms,clock,q1,es0,q2,q3,q4⟩:=h2;exact⟨blk,ms,clock,es0,h1,rfl,q1,q2,q3,qpS.1 q4⟩
 ·exact h2.elim
 ·exact h2.elim
def qHd(hH:HOK C B w S β H){oo:Nat}{u:CP}(hx:Ac C w S β (.h oo) u){l:CB}{pos:Nat}(ho:H.obj oo=some (.si l pos)):∃blk,∃z:ByteArray,β oo=.sp blk .iter/\u=.pointer (some ⟨blk,0,none⟩)/\w.heap[blk]? = some (.stringIter z pos)/\z.data.toList=l:=by
 obtain⟨blk,x,h1,h2,h3⟩:=qu7 hH hx ho;rcases h3 with ⟨rfl,rfl⟩|⟨rfl,rfl⟩|⟨r,rfl,-⟩
 ·exact h2.elim
 ·obtain⟨z,q1,q2⟩:=h2;exact⟨blk,z,h1,rfl,q2,q1⟩
 ·exact h2.elim
def qqs:TypeDesc->DV->CO
 |.bool,.b _=>true
 |.string,.s _=>true
 |.int k,.i k' _=>k==k'
 |_,_=>false
def qI0{t:CQ}{d:TypeDesc}{ky:Ky}(h:qnd P t d=some ky){k:DV}(hk:qeW ky k=true):qqs d k=true\/∃fs ks xs,d=.struct fs/\ky=.st ks/\k=.a xs/\qo5 P t fs=true/\qcV P 8 t=some ks/\qh6 ks xs=true:=by
 cases d with
 |bool=>cases h;cases k<;>first|(cases hk;done)|exact .inl rfl
 |string=>cases h;cases k<;>first|(cases hk;done)|exact .inl rfl
 |int q=>cases h;cases k<;>first|(cases hk;done)|exact .inl hk
 |struct fs=>
  simp only[qnd]at h;split at h
  ·rename_i hf;obtain⟨ks,h1,h2⟩:=Option.map_eq_some_iff.1 h;subst h2;cases k<;>first|(cases hk;done)|skip
   rename_i xs;exact .inr ⟨fs,ks,xs,rfl,rfl,rfl,hf,h1,hk⟩
  ·cases h
 |_=>cases h
def qIU{d:TypeDesc}{k:DV}{u:CP}(h:qqs d k=true)(hk:Al w S k u):qv6 d/\MapKept.IsKey d u:=by
 unfold qqs at h;split at h
 ·cases hk;exact⟨.inl rfl,trivial⟩
 ·cases hk;exact⟨.inr (.inl rfl),trivial⟩
 ·simp only[beq_iff_eq]at h;subst h;cases hk;exact⟨.inr (.inr ⟨_,rfl⟩),rfl⟩
 ·cases h
structure KeyAt (P:Program) (w:World) (S:qad) (kt:TypeId) (k:DV) (u:Value) (cmp:Value->Option Bool):Prop where
 cm:∀y z e,Al w S y z->qbS k y=some e->cmp z=some e
 find:∀ms r,Fnd cmp ms 0=some r->(Instr.findKey kt u ms).run P w=.ok r w
 chk:∀e,(Instr.checkKey e 10000 kt u).run P w=.ok () w
 stay:∀z,Al w S k z->(Instr.keyThatStays z u).run P w=.ok u w
def qE1{t:CQ}(h:P.plainKey t=true)(em:CO)(n:Nat)(x:CP):(Instr.checkKey em (n+1) t x).run P w=.ok () w:=by
 unfold Program.plainKey at h;cases hu:P.underlying t with
 |none=>simp[hu]at h
 |some d=>rw[hu]at h;cases d<;>first|(cases h;done)|(simp[Instr.checkKey,run_underlying hu])
def qE2{t:CQ}{fs:Array Field}(hu:P.underlying t=some (.struct fs))(hf:qo5 P t fs=true){cs:Array CP}(hl:cs.size=P.cellsOf t)(em:CO):(Instr.checkKey em 10000 t (.agg cs)).run P w=.ok () w:=by
 rw[show 10000=9998+1+1 from rfl,Instr.checkKey];simp only[Sem.run_bind,run_underlying hu,Result.andThen_ok];rw[<-Array.forIn_toList];unfold qo5 at hf;generalize fs.toList=L at hf;induction L with
 |nil=>simp
 |cons f L ih=>simp only[List.all_cons,zzf,bne_iff_ne,ne_eq,zzq]at hf;obtain⟨⟨⟨h1,h2⟩,h3⟩,h4⟩:=hf;have hx:cs[f.offset]? = some (cs[f.offset]'(by omega)):=Array.getElem?_eq_getElem _;have p1:=run_part_plain w h2 hx;have p2:=qE1 (w:=w) h2 em 9998 (cs[f.offset]'(by omega));simp only[List.forIn_cons,Sem.run_bind,h1,ne_eq,not_false_eq_true,if_true,Result.andThen_ok,p1,p2,Sem.run_pure];exact ih h4
def qzz{kt:CQ}{d:TypeDesc}(hkt:P.underlying kt=some d){ky:Ky}(hky:qnd P kt d=some ky){k:DV}(hok:qeW ky k=true){u:CP}(hk:Al w S k u):∃cmp,KeyAt P w S kt k u cmp:=by
 rcases qI0 hky hok with hsc|⟨fs,ks,xs,rfl,rfl,rfl,hf,hks,hkn⟩
 ·obtain⟨hsk,hik⟩:=qIU hsc hk;have hs1:sc1 k=true:=by unfold qqs at hsc;split at hsc<;>first|rfl|(cases hsc;done)
  refine⟨Instr.sameNow d u,⟨λy z e hy he=>?_,λms r hr=>?_,λe=>MapKept.run_checkKey hkt hik e 9999,λz hz=>qBT (qCc hs1 hz hk _)⟩⟩
  ·refine qIS hk hy ?_ hsk hik;unfold qbS at he;split at he
   ·cases hs1
   ·exact he
  ·rw[<-qxZ]at hr;exact MapKept.run_findKey hkt hr
 ·obtain⟨hl,hsc⟩:=qzJ hkn;have hkl:=qkC hks;cases hk with
  |a _ vs l1 f1 r1=>
  have hkq:kq P kt=some (some (P.cellsOf kt)):=by simp[kq,hkt]
  have hmk:∀(vs:CL CP),vs.length=P.cellsOf kt->mkV (some (P.cellsOf kt)) (λj=>vs.getD j undef)=.agg vs.toArray:=by
   intro vs hv;simp only[mkV];congr 2;apply List.ext_getElem
   ·simp[hv]
   ·intro j h1 h2;simp[List.getD,zze h2]
  let cmp:CP->CK CO:=λz=>open Classical in if h:∃b,(Op.equal kt (.agg vs.toArray) z).run P w=.ok b w then some h.choose else none;have hcmp:∀z b,cmp z=some b->(Op.equal kt (.agg vs.toArray) z).run P w=.ok b w:=by
   intro z b h;simp only[cmp]at h;split at h
   ·rename_i hex;cases h;exact hex.choose_spec
   ·cases h
  have hcmp':∀z b,(Op.equal kt (.agg vs.toArray) z).run P w=.ok b w->cmp z=some b:=by intro z b h;have hex:∃b,(Op.equal kt (.agg vs.toArray) z).run P w=.ok b w:=⟨b,h⟩;simp only[cmp,dif_pos hex,zzb];have:=h.symm.trans hex.choose_spec;simp only[Result.ok.injEq,and_true]at this;exact this.symm
  refine⟨cmp,⟨λy z e hy he=>?_,λms r hr=>?_,λe=>qE2 hkt hf (by simp;omega) e,λz hz=>qBT (qPM hsc hz (.a _ _ l1 f1 r1) 9999)⟩⟩
  ·refine hcmp' _ _ ?_;unfold qbS at he;split at he
   ·rename_i xs' ys heq;cases heq;have he':=qzs hkn he;obtain⟨g1,g2⟩:=qmP he';cases hy with
    |a _ us l2 f2 r2=>
    have heq:=qsc (P:=P) (w:=w) (S:=S) 8 10000 (by omega) kt ks hks _ hkq (λj=>vs.getD j undef) (λj=>us.getD j undef) xs ys e he' (λj hj=>by
     simp only[List.getD,zze (show j<vs.length by omega),zzA];exact r1 j hj (by omega)) (λj hj=>by
     simp only[List.getD,zze (show j<us.length by omega),zzA];exact r2 j hj (by omega))
    rw[hmk vs (by omega),hmk us (by omega)]at heq;exact heq
   ·unfold qdb at he;cases he
  ·rw[run_findKey_eq w (by rw[hkt])];exact qxY hcmp ms 0 r hr
def qAI(hH:HOK C B w S β H)(hS:Swf w S)(hB:B<=w.heap.size)(hid:β id=.pend/\id<H.length){ob:Go.Obj}{x:Sp}{y:Obj}(hy:SpOK (w.alloc ob) S w.heap.size x y){u:CP}(hu:RelH (upd β id (.sp w.heap.size x)) id u)(hfl:flat u)
  (hp:OpPost C B w S β H id (.h id) (H.put id (some y)) λu w'=>next (a.put o.dst u) w'):next (a.put o.dst u) (w.alloc ob):=by
 obtain⟨h1,h2⟩:=qsG hH hS hB hid.1 hid.2 hy;exact hp u _ S _ (qhR hS hB ob) (hS.ext (qhR (B:=B) hS hB ob)) h1 h2 (.h _ _ hfl hu) (by rw[qa2];exact zzt _) (qeV _ _ _ _)
def qOi(hnd:∀c,o.op≠.defer c){t:CQ}(hop:o.op=.makeMap t none)(hH:HOK C B w S β H)(hS:Swf w S)(hB:B<=w.heap.size)(hid:β id=.pend/\id<H.length)
  (hp:OpPost C B w S β H id (.h id) (H.put id (some (.mp []))) λu w'=>next (a.put o.dst u) w'):o.wpIn (FR ro) nf P a w next Q:=by
 refine qaV hnd (u:=.map (some w.heap.size)) (w':=w.alloc (.map #[] 0)) ?_ (qAI hH hS hB hid (x:=.map) ?_ ?_ rfl hp)
 ·simp only[execOp,hop];exact qa8 (by simp[Instr.makeMap])
 ·exact⟨#[],0,by show (w.heap.push _)[w.heap.size]? = _;simp,[],.nil,.nil,rfl,λj h=>absurd h (zzm _)⟩
 ·unfold RelH;rw[qa5]
def qOl(hnd:∀c,o.op≠.defer c){t:CQ}{x:Operand}(hop:o.op=.range t x)(ht:P.underlying t=some .string){l:CB}(hx:Ac C w S β (.d (.s l)) (a.eval x))(hH:HOK C B w S β H)(hS:Swf w S)(hB:B<=w.heap.size)(hid:β id=.pend/\id<H.length)
  (hp:OpPost C B w S β H id (.h id) (H.put id (some (.si l 0))) λu w'=>next (a.put o.dst u) w'):o.wpIn (FR ro) nf P a w next Q:=by
 obtain⟨z,hax,hz⟩:=qCb hx;refine qaV hnd (u:=.pointer (some ⟨w.heap.size,0,none⟩)) (w':=w.alloc (.stringIter z 0)) ?_ (qAI hH hS hB hid (x:=.iter) ?_ ?_ rfl hp)
 ·simp only[execOp,hop,hax];exact qa8 (by simp[Instr.range,qaK ht])
 ·exact⟨z,hz,by show (w.heap.push _)[w.heap.size]? = _;simp⟩
 ·unfold RelH;rw[qa5]
def qOk(hnd:∀c,o.op≠.defer c){x:Operand}(hop:o.op=.next x true){oo:Nat}(hx:Ac C w S β (.h oo) (a.eval x)){l:CB}{pos:Nat}(ho:H.obj oo=some (.si l pos))(hH:HOK C B w S β H)(hS:Swf w S)
  (h:(if pos<l.length then some (PV.t [.d (.b true),.d (.i .i64 pos),.d (.i .i32 (Utf8.decode ⟨l.toArray⟩ pos).1)],H.put oo (some (.si l (pos+(Utf8.decode ⟨l.toArray⟩ pos).2))))else some (.t [.d (.b false)],H))=some (v,H'))
  (hp:OpPost C B w S β H id v H' λu w'=>next (a.put o.dst u) w'):o.wpIn (FR ro) nf P a w next Q:=by
 obtain⟨blk,z,h1,h2,h3,h4⟩:=qHd hH hx ho;have hzl:z.size=l.length:=by subst h4;simp
 have hze:(⟨l.toArray⟩:ByteArray)=z:=by subst h4;rfl
 have hg:(getObj blk).run P w=.ok (.stringIter z pos) w:=by simp[getObj,Sem.run,h3]
 split at h
 ·rename_i hlt;simp only[zzb,zzc]at h;obtain⟨rfl,rfl⟩:=h;have hlt':pos<z.size:=by omega
  have hsz:blk<w.heap.size:=(Array.getElem?_eq_some_iff.1 h3).1;obtain⟨e1,e2⟩:=qqu hH hS h1 (.stringIter z (pos+(Utf8.decode z pos).2)) (y':=.si l (pos+(Utf8.decode z pos).2)) ⟨z,h4,World.putObj_heap_same hsz⟩;rw[hze]at hp;have hs:(setObj blk (.stringIter z (pos+(Utf8.decode z pos).2))).run P w=.ok () (w.putObj blk (.stringIter z (pos+(Utf8.decode z pos).2))):=by simp[setObj,Sem.run,h3,World.putObj]
  refine qaV hnd (u:=.tuple #[.bool true,.int .i64 pos,.int .i32 (Utf8.decode z pos).1]) ?_ (hp _ _ S β e1 (hS.ext e1) e2 (Later.refl _) ?_ (by rw[qa2];exact zzt _) (Kp.refl _ _ _))
  ·simp only[execOp,hop,h2];refine qa8 ?_;simp only[Instr.next,Sem.run_bind,hg,Result.andThen_ok,hlt',if_true,hs,Sem.run_pure,goInt]
  ·refine .t _ [.bool true,.int .i64 pos,.int .i32 (Utf8.decode z pos).1] rfl λj hj hj'=>?_
   match j,hj with
   |0,_=>exact .d _ _ (.b true)
   |1,_=>exact .d _ _ (.i _ _)
   |2,_=>exact .d _ _ (.i _ _)
 ·rename_i hlt;simp only[zzb,zzc]at h;obtain⟨rfl,rfl⟩:=h;have hlt':¬pos<z.size:=by omega
  refine qaV hnd (u:=.tuple #[.bool false]) ?_ (hp.same hH hS (.t _ [.bool false] rfl λj hj hj'=>?_))
  ·simp only[execOp,hop,h2];refine qa8 ?_;simp only[Instr.next,Sem.run_bind,hg,Result.andThen_ok,hlt',if_false,Sem.run_pure]
  ·match j,hj with
   |0,_=>exact .d _ _ (.b false)
def qOf(hnd:∀c,o.op≠.defer c){t kt et:CQ}{x i:Operand}{ok:CO}(hop:o.op=.lookup t x i ok)(ht:P.underlying t=some (.map kt et)){z:DV}(hz:zq P et=some z){oo:Nat}{k:DV}(hsc:∀(S:qad) u,Al w S k u->∃cmp,KeyAt P w S kt k u cmp)
  (hx:Ac C w S β (.h oo) (a.eval x)) (hi:Ac C w S β (.d k) (a.eval i)) {es:CL (DV×DV)} (ho:H.obj oo=some (.mp es)) (hH:HOK C B w S β H) (hS:Swf w S) {r:CK DV} (hr:qcG k es=some r)
  (hp:OpPost C B w S β H id (if ok then .t [.d (r.getD z),.d (.b r.isSome)]else .d (r.getD z)) H λu w'=>next (a.put o.dst u) w'):o.wpIn (FR ro) nf P a w next Q:=by
 obtain⟨blk,ms,clock,es0,h1,h2,h3,hpm,hnd0,h4⟩:=qAl hH hx ho;obtain⟨-,zv,-,hzv,-,hzr⟩:=qhC hz;have hk:Al w S k (a.eval i):=by cases hi with|d _ _ hk=>exact hk
 obtain⟨cmp,hka⟩:=hsc S _ hk;have hget:=qyk hka.cm 0 h4 (qGo hnd0 hpm hr);have hg:=MapKept.run_getObj_map (P:=P) h3;have hck:=hka.chk;have fin:∀(q:CP) (b:CO) (y:DV),Al w S y q->Ac C w S β (if ok then .t [.d y,.d (.b b)]else .d y) (if ok then .tuple #[q,.bool b]else q):=by
  intro q b y hy;cases ok with
  |false=>exact .d _ _ hy
  |true=>
   refine .t [.d y,.d (.b b)] [q,.bool b] rfl λj hj hj'=>?_
   match j,hj with
   |0,_=>exact .d _ _ hy
   |1,_=>exact .d _ _ (.b b)
 cases r with
 |none=>have hf:=hka.find ms.toList none hget;refine qaV hnd (u:=if ok then .tuple #[zv,.bool false]else zv) ?_ (hp.same hH hS (fin zv false z (hzr w S)));simp only[execOp,hop,h2];refine qa8 ?_;simp only[Instr.lookup,Sem.run_bind,qaK ht,Result.andThen_ok,hg,Sem.run_pure,hck,hf,qhq hzv]
 |some y=>obtain⟨j,q,hfn,hq⟩:=hget;have hf:=hka.find ms.toList (some (j,q)) hfn;refine qaV hnd (u:=if ok then .tuple #[q,.bool true]else q) ?_ (hp.same hH hS (fin q true y hq));simp only[execOp,hop,h2];refine qa8 ?_;simp only[Instr.lookup,Sem.run_bind,qaK ht,Result.andThen_ok,hg,Sem.run_pure,hck,hf]
def qOj(hnd:∀c,o.op≠.defer c){t kt et:CQ}{x i y:Operand}(hop:o.op=.mapUpdate t x i y\/o.op=.insert t x i y)(ht:P.underlying t=some (.map kt et)){oo:Nat}{k:DV}(hsc:∀(S:qad) u,Al w S k u->∃cmp,KeyAt P w S kt k u cmp)
  (hx:Ac C w S β (.h oo) (a.eval x)) (hi:Ac C w S β (.d k) (a.eval i)) {yv:PV} (hy:Ac C w S β yv (a.eval y)) {xv:DV} {os:CF} (hpu:pur H yv=some (xv,os)) {es es':CL (DV×DV)} (ho:H.obj oo=some (.mp es)) (hH:HOK C B w S β H) (hS:Swf w S) (hr:qdx k xv es=some es')
  (hp:OpPost C B w S β H id .u ((frz H os).put oo (some (.mp es'))) λu w'=>next (a.put o.dst u) w'):o.wpIn (FR ro) nf P a w next Q:=by
 obtain⟨blk,ms,clock,es0,h1,h2,h3,hpm,hnd0,h4⟩:=qAl hH hx ho;obtain⟨es1,hr1,hpm1,hnd1⟩:=qOT hnd0 hpm hr;have hk:Al w S k (a.eval i):=by cases hi with|d _ _ hk=>exact hk
 have hext:=qey hH os;obtain⟨cmp,hka⟩:=hsc _ _ (hk.ext hext);have hyr:=qk7 hH hy hpu;have hH1:=qkD hH os;have hS1:=qi7 hH hS os;have ho1:(frz H os).obj oo=some (.mp es):=by rw[qea,ho];rfl
 have hm1:ML w (FSq β H os S) es0 ms.toList:=qpS.1 ((qpS.2 h4).ext hext);have hg:=MapKept.run_getObj_map (P:=P) h3;have hck:=hka.chk false;have hsz:blk<w.heap.size:=(Array.getElem?_eq_some_iff.1 h3).1;have setr:∀ob:Go.Obj,(setObj blk ob).run P w=.ok () (w.putObj blk ob):=λob=>by simp[setObj,Sem.run,h3,World.putObj]
 have fin:∀(ms':Array MapEntry) (clock':Nat),ML w (FSq β H os S) es1 ms'.toList->(Instr.mapUpdate t (.map (some blk)) (a.eval i) (a.eval y)).run P w=.ok () (w.putObj blk (.map ms' clock'))->o.wpIn (FR ro) nf P a w next Q:=by
  intro ms' clock' hm hrun;have hyo:SpOK (w.putObj blk (.map ms' clock')) (FSq β H os S) blk .map (.mp es'):=by refine⟨ms',clock',World.putObj_heap_same hsz,?_⟩;have hext0:=qt0 (B:=0) hS1 (zzK _) h3 (λ_ _ _ h=>by cases h) (.map ms' clock');exact⟨es1,hpm1,hnd1,(qpS.2 hm).ext hext0⟩
  obtain⟨e1,e2⟩:=qqu hH1 hS1 h1 (.map ms' clock') hyo;refine qDc hnd (w':=w.putObj blk (.map ms' clock')) ?_ (hp _ _ _ β (hext.trans e1) (hS1.ext e1) e2 (Later.refl _) (.u _) (by rw[qa2,qdt];exact zzt _) (Kp.refl _ _ _));rcases hop with hop|hop
  ·simp only[execOp,hop,h2];exact quq hrun
  ·simp only[execOp,hop,h2];exact quq hrun
 rcases qBx (hk.ext hext) hyr hka.cm clock 0 hm1 hr1 with ⟨g1,g2⟩|⟨j,v',g1,⟨e,g2,g3⟩,g4⟩
 ·have hf:=hka.find ms.toList none g1;refine fin (ms.push { key:=a.eval i,val:=a.eval y,born:=clock }) (clock+1) (by simpa using g2) ?_;simp only[Instr.mapUpdate,Sem.run_bind,qaK ht,Result.andThen_ok,hg,hck,hf,setr]
 ·have hf:=hka.find ms.toList (some (0+j,v')) g1;simp only[Nat.zero_add]at hf;have hks:(Instr.keyThatStays e.key (a.eval i)).run P w=.ok (a.eval i) w:=hka.stay _ g3;have hej:ms[j]? = some e:=by simpa using g2
  refine fin (ms.modify j λe=>{ e with key:=a.eval i,val:=a.eval y }) clock ?_ ?_
  ·have:=g4 (a.eval i) (.inl (hk.ext hext));simpa using this
  ·simp only[Instr.mapUpdate,Sem.run_bind,qaK ht,Result.andThen_ok,hg,hck,hf,hej,Option.map_some,zzA,hks,setr]
def qAv{mx:CO}:∀{ys:Cz} {zs:CL CP} {x r:PV} {u:CP},Ac C w S β x u->ys.length=zs.length->(∀j (h:j<ys.length) (h':j<zs.length),Ac C w S β ys[j] zs[j])->mmA mx x ys=some r->
  ∃q,(zs.foldlM (if mx then Builtin.max2 else Builtin.min2) u).run P w=.ok q w/\Ac C w S β r q
 |[],[],x,r,u,hx,_,_,h=>by simp only[mmA,zzb]at h;subst h;exact⟨u,rfl,hx⟩
 |y::ys,z::zs,x,r,u,hx,hl,hr,h=>by
  simp only[mmA]at h;split at h
  ·rename_i m hm;obtain⟨q,h1,h2⟩:=qKl (P:=P) hx (hr 0 (by simp) (by simp)) hm;obtain⟨q',h3,h4⟩:=qAv (zs:=zs) h2 (by simpa using hl) (λj hj hj'=>hr (j+1) (by simpa using hj) (by simpa using hj')) h;refine⟨q',?_,h4⟩;rw[List.foldlM_cons,Sem.run_bind];have:((if mx then Builtin.max2 else Builtin.min2) u z).run P w=.ok q w:=by cases mx<;>exact h1
   rw[this];exact h3
  ·cases h
 |[],_::_,_,_,_,_,hl,_,_=>by cases hl
 |_::_,[],_,_,_,_,hl,_,_=>by cases hl
def qAW(hnd:∀c,o.op≠.defer c){c:Call}(hop:o.op=.call c){mx:CO}{b:Builtin}(hcal:c.callee=.builtin b)(hb:(b=.min/\mx=false)\/(b=.max/\mx=true))(hargs:c.args.map a.eval=(c.args.toList.map a.eval).toArray){xs:Cz}(r1:xs.length=(c.args.toList.map a.eval).length)
  (r2:∀j (h:j<xs.length) (h':j<(c.args.toList.map a.eval).length),Ac C w S β xs[j] (c.args.toList.map a.eval)[j]) (hH:HOK C B w S β H) (hS:Swf w S)
  (h:(match xs with|v::r=>opt (mmA mx v r) H|[]=>none)=some (v,H')) (hp:OpPost C B w S β H id v H' λu w'=>next (a.put o.dst u) w'):o.wpIn (FR ro) nf P a w next Q:=by
 cases xs with
 |nil=>cases h
 |cons x r=>
  simp only[opt]at h;split at h
  ·rename_i m hm;simp only[zzb,zzc]at h;obtain⟨rfl,rfl⟩:=h;generalize c.args.toList.map a.eval=us at *
   cases us with
   |nil=>simp at r1
   |cons u zs=>
    obtain⟨q,h1,h2⟩:=qAv (P:=P) (zs:=zs) (r2 0 (by simp) (by simp)) (by simpa using r1) (λj hj hj'=>r2 (j+1) (by simpa using hj) (by simpa using hj')) hm;refine qaV hnd (u:=q) ?_ (hp.same hH hS h2);rcases hb with ⟨rfl,rfl⟩|⟨rfl,rfl⟩
    ·simp only[execOp,hop,resolve,hcal,Sem.run_bind,Sem.run_pure,Result.andThen_ok,invoke,builtin,hargs,Builtin.min_];have h1:(zs.foldlM Builtin.min2 u).run P w=.ok q w:=h1;simp only[h1,Result.andThen_ok]
    ·simp only[execOp,hop,resolve,hcal,Sem.run_bind,Sem.run_pure,Result.andThen_ok,invoke,builtin,hargs,Builtin.max_];have h1:(zs.foldlM Builtin.max2 u).run P w=.ok q w:=h1;simp only[h1,Result.andThen_ok]
  ·cases h
end
section
variable {P:CV}{N:Names}{C:Cx}{w:CU}{S:qad}{β:Pl}{B:Nat}{H:CW}{a:Act}{ro:CK Nat}{nf:Nat}
def qig{E:Env}(hN:NOK P N C E.G)(hG:GOK N E.G w S){fr:Fr}(hf:FOK C w S β fr a):∀{ts:CL (CK CQ)} {xs:CL Operand} {rs:CL Ab},A8 P N ts xs=some rs->
  rs.length=xs.length/\∀j (h:j<(rs.map (rd E fr)).length) (h':j<(xs.map a.eval).length),Ac C w S β (rs.map (rd E fr))[j] (xs.map a.eval)[j]
 |_,[],rs,h=>by cases h;exact⟨rfl,λj h=>absurd h (zzm _)⟩
 |ts,x::xs,rs,h=>by
  unfold A8 at h;obtain⟨r,hr,h⟩:=zza.1 h;obtain⟨rs',hrs,h⟩:=zza.1 h;cases h;obtain⟨h1,h2⟩:=qig hN hG hf hrs;refine⟨by simp[h1],?_⟩;intro j hj hj';cases j with
  |zero=>exact qjB hN hG hf hr
  |succ j=>exact h2 j (by simpa using hj) (by simpa using hj')
def qt8{E:Env}(hN:NOK P N C E.G)(hG:GOK N E.G w S){fr:Fr}(hf:FOK C w S β fr a){x:CK Operand}{r:CK Ab}(h:qk8 P N x=some r):qfi C w S β (r.map (rd E fr)) (x.map a.eval):=by
 cases x with
 |none=>cases h;trivial
 |some x=>simp only[qk8,Option.map_eq_some_iff]at h;obtain⟨y,hy,rfl⟩:=h;exact qjB hN hG hf hy
def qtM{E:Env}(hN:NOK P N C E.G)(hG:GOK N E.G w S){fr:Fr}(hf:FOK C w S β fr a){pl:Nat->CK (Nat×CQ)}:∀{parts:CL (Nat×Operand)} {ps:CL (Nat×K×Ab)},qnr P N pl parts=some ps->
  qiF C w S β (λi=>(pl i).map λp=>(p.1,P.cellsOf p.2)) (ps.map λx=>(x.1,x.2.1,rd E fr x.2.2)) (parts.map λx=>(x.1,a.eval x.2))
 |[],ps,h=>by cases h;trivial
 | (i,x)::r,ps,h=>by unfold qnr at h;obtain⟨p,hp,h⟩:=zza.1 h;obtain⟨k,hk,h⟩:=zza.1 h;obtain⟨y,hy,h⟩:=zza.1 h;obtain⟨ys,hys,h⟩:=zza.1 h;cases h;exact⟨by simp[hp,qjj hk],qjB hN hG hf hy,qtM hN hG hf hys⟩
def qA8{E:Env}(hN:NOK P N C E.G)(hG:GOK N E.G w S){fr:Fr}(hf:FOK C w S β fr a){t:CQ}:∀{parts:CL (Nat×Operand)} {ps:CL (Nat×Ab)},qp8 P N t parts=some ps->
  qos C w S β (ps.map λx=>(x.1,rd E fr x.2)) (parts.map λx=>(x.1,a.eval x.2))
 |[],ps,h=>by cases h;trivial
 | (i,x)::r,ps,h=>by unfold qp8 at h;obtain⟨y,hy,h⟩:=zza.1 h;obtain⟨ys,hys,h⟩:=zza.1 h;cases h;exact⟨rfl,qjB hN hG hf hy,qA8 hN hG hf hys⟩
def qr8{t:CQ}{ek:CQ×K}(h:qmN P t=some ek):P.underlying t=some (.slice ek.1)/\kq P ek.1=some ek.2:=by
 unfold qmN at h;split at h
 ·obtain⟨k,hk,h⟩:=zza.1 h;cases h;exact⟨‹_›,hk⟩
 ·cases h
def qsq{n:Nat}{cs:Cz}{u:CP}(h:Ac C w S β (.f n cs) u):∃us:CL CP,u=.func (.func (C.μ n)) #[] us.toArray/\cs.length=us.length/\∀j (h:j<cs.length) (h':j<us.length),Ac C w S β cs[j] us[j]:=by
 cases h with
 |f _ _ us h1 h2=>exact⟨us,rfl,h1,h2⟩
def qF2{off:Nat}{k:K}{x v:PV}{u:CP}(hx:Ac C w S β x u)(h:qew off k x=some v) :
  ∃vs:CL CP,u=.agg vs.toArray/\off+k.size<=vs.length/\Ac C w S β v (mkV k (λm=>vs.getD (off+m) undef)):=by
 unfold qew at h;split at h
 ·rename_i cs;split at h
  ·rename_i hle;split at h
   ·rename_i d hm;cases h;cases hx with
    |d _ _ hx=>
    cases hx with
    |a _ vs h1 h2 h3=>
    refine⟨vs,rfl,by omega,.d _ _ (qtt hm ?_ ?_)⟩
    ·intro m y hy hmk;obtain⟨e1,e2⟩:=getElem?_drop_take hy;obtain⟨e3,rfl⟩:=zzk.1 e1;have:=h3 (off+m) e3 (by omega);simpa[List.getD,zze (show off+m<vs.length by omega)]using this
    ·intro m hmk;simp only[List.getD,zze (show off+m<vs.length by omega),zzA];exact h2 _ (zzs _)
   ·cases h
  ·cases h
 ·rename_i cs;split at h
  ·rename_i hle;cases hx with
   |a _ vs h1 h2 h3=>
   refine⟨vs,rfl,by omega,qtx h ?_ ?_⟩
   ·intro m y hy hmk;obtain⟨e1,e2⟩:=getElem?_drop_take hy;obtain⟨e3,rfl⟩:=zzk.1 e1;have:=h3 (off+m) e3 (by omega);simpa[List.getD,zze (show off+m<vs.length by omega)]using this
   ·intro m hmk;simp only[List.getD,zze (show off+m<vs.length by omega),zzA];exact h2 _ (zzs _)
  ·cases h
 ·cases h
def qul{o:Oper}{c:Call}(hop:o.op=.call c){x:Operand}(hc:c.callee=.value x){f:FuncId}{caps:Array CP}(hx:a.eval x=.func (.func f) #[] caps){fn:Func}(hfn:P.funcs[f]? = some fn)(hb:fn.body.isNone=false)(hn:fn.name ≠ "runtime.NumGoroutine") :
  (execOp a.eval o).run P w=.ok (.enter f (c.args.map a.eval++caps)) w:=by
 simp only[execOp,hop,resolve,hc,hx,Deferred.ofValue,Sem.run_bind,Sem.run_pure,Result.andThen_ok,invoke,Array.empty_append];exact qqm hfn hb hn _
def qBP{o:Oper}{c:Call}(hop:o.op=.call c){x:Operand}(hc:c.callee=.value x){f:FuncId}{firsts:Array CP}(hx:a.eval x=.func (.func f) firsts #[]){fn:Func}(hfn:P.funcs[f]? = some fn)(hb:fn.body.isNone=false)(hn:fn.name ≠ "runtime.NumGoroutine") :
  (execOp a.eval o).run P w=.ok (.enter f (firsts++(c.args.map a.eval ++ #[]))) w:=by
 simp only[execOp,hop,resolve,hc,hx,Deferred.ofValue,Sem.run_bind,Sem.run_pure,Result.andThen_ok,invoke];exact qqm hfn hb hn _
def qKb{n:Nat}{cs:Cz}{u:CP}(h:Ac C w S β (.m n cs) u):∃us:CL CP,u=.func (.func (C.μ n)) us.toArray #[]/\cs.length=us.length/\∀j (h:j<cs.length) (h':j<us.length),Ac C w S β cs[j] us[j]:=by
 cases h with
 |m _ _ us h1 h2=>exact⟨us,rfl,h1,h2⟩
def qJd(hH:HOK C B w S β H){str:CO}{x:PV}{u:CP}{n:Nat}(hx:Ac C w S β x u)(h:qbZ H str x=some n){ts:Array CQ}{t:CQ}(ht:ts[0]? = some t)
  (hu:(str=true/\P.underlying t=some .string)\/(str=false/\∃e,P.underlying t=some (.slice e))) (ty:CQ):(Builtin.len_ ts ty #[u]).run P w=.ok (.int .i64 n) w:=by
 rcases qJc hH hx h with ⟨hs,a,cap,rfl⟩|⟨hs,s,rfl,hsz⟩
 ·rcases hu with ⟨h1,-⟩|⟨-,e,he⟩
  ·rw[hs]at h1;cases h1
  ·simp[Builtin.len_,ht,qaK he,goInt]
 ·rcases hu with ⟨-,he⟩|⟨h1,-⟩
  ·simp[Builtin.len_,ht,qaK he,goInt,hsz]
  ·rw[hs]at h1;cases h1
def qrF{E:Env}(hO:OrOK P C N E)(hG:GOK N E.G w S)(hS:Swf w S)(hB:B<=w.heap.size)(hH:HOK C B w S β H){o:Oper}(hnd:∀c,o.op≠.defer c){f:Nat}{ds:Cy}{us:CL CP}{os:CF}{r:PV}{own:CO}{H':CW}{id:Nat}{next:Act->CU->Prop}{Q:Exit->Act->CU->Prop}
  (hrun:(execOp a.eval o).run P w=.ok (.enter (C.μ f) us.toArray) w) (hval:E.val f ds=some (r,own)) (l1:ds.length=us.length) (l2:∀j (h:j<ds.length) (h':j<us.length),Al w (FSq β H os S) ds[j] us[j]) (hH':(if os.isEmpty||r.AY then H else frz H os)=H')
  (hp:OpPost C B w S β H id r H' λu w'=>next (a.put o.dst u) w'):o.wpIn (FR ro) nf P a w next Q:=by
 have hcall:=hO.val _ _ _ _ hval w (FSq β H os S) _ (qi7 hH hS os) (hG.ext (qey hH os)) l1 l2;refine qnW hnd hrun hcall ?_;rintro e w' ⟨u,S',rfl,e1,e2,e3,e4⟩;refine⟨u,rfl,?_⟩;have hres:∃S2,Ext w.heap.size w (FSq β H os S) w' S2/\Swf w' S2/\Ac C w' S2 (λ_=>.pend) r u:=by
  cases own with
  |false=>exact⟨S',e1,e2,e3 rfl⟩
  |true=>obtain⟨k,es,rfl,ho⟩:=e4 rfl;obtain⟨S2,q1,q2,q3,-⟩:=qOo e2 ho;exact⟨S2,e1.trans q1,q2,.d _ _ q3⟩
 obtain⟨S2,g1,g2,g3⟩:=hres;have froz:OpPost C B w S β H id r (frz H os) (λu w'=>next (a.put o.dst u) w')->next (a.put o.dst u) w':=by intro hp;obtain⟨b1,b2⟩:=qrC (qkD hH os) hB g1;exact hp u w' S2 β ((qey hH os).trans b1) g2 b2 (Later.refl _) g3.plain (by rw[qdt];exact zzt _) (Kp.refl _ _ _)
 split at hH'
 ·rename_i hc;subst hH';rcases Bool.or_eq_true _ _▸hc with hc|hc
  ·have:os=[]:=by simpa using hc
   subst this;exact froz hp
  ·have e5:Ext w.heap.size w S w' (λb j=>S b j\/(w.heap.size<=b/\S2 b j)):=
    ⟨g1.below,λ_ _ h=>.inl h,λb j h=>g1.cell b j (.inl h),λb j h=>h.imp (λh=>h) And.left,g1.shape⟩
   obtain⟨b1,b2⟩:=qrC hH hB e5;refine hp u w' _ β b1 ?_ b2 (Later.refl _) (qPP hc g3) (zzt _) (Kp.refl _ _ _);rintro b j (h|⟨-,h⟩)
   ·obtain⟨z,hz⟩:=hS b j h;exact⟨z,(g1.cell b j (.inl h)).trans hz⟩
   ·exact g2 b j h
 ·subst hH';exact froz hp
def qAk{t:CQ}{m:CQ×CQ×Ky}(h:qkX P t=some m):∃d,P.underlying t=some (.map m.1 m.2.1)/\P.underlying m.1=some d/\qnd P m.1 d=some m.2.2:=by
 unfold qkX at h;split at h
 ·rename_i k e hu;obtain⟨d,hd,h⟩:=zza.1 h;obtain⟨ky,hky,h⟩:=zza.1 h;cases h;exact⟨d,hu,hd,hky⟩
 ·cases h
def qtJ{E:Env}(hO:OrOK P C N E)(hN:NOK P N C E.G)(hG:GOK N E.G w S)(hS:Swf w S)(hB:B<=w.heap.size)(hH:HOK C B w S β H){fr:Fr}(hf:FOK C w S β fr a){id:Nat}{o:Oper}{io:IOp}
  (hnd:∀c,o.op≠.defer c) {yb:Nat} (hY:YOK P C N E.G E.yld B w S β yb) (hyb:yb<=H.length) (hd:qaS P N o=some io) (hid:io.adds=true->β id=.pend/\id<H.length) {v:PV} {H':CW} (h:qaa E (rd E fr) H id io=some (v,H')) {next:Act->CU->Prop} {Q:Exit->Act->CU->Prop}
  (hp:OpPost C B w S β H id v H' λu w'=>next (a.put o.dst u) w'):o.wpIn (FR ro) nf P a w next Q:=by
 have R:∀{t:CK CQ} {x:Operand} {r:Ab},qbU P N t x=some r->Ac C w S β (rd E fr r) (a.eval x):=λh=>qjB hN hG hf h;have mset:∀{t:CQ} {x i y:Operand},(o.op=.mapUpdate t x i y\/o.op=.insert t x i y)->((qkX P t).bind λm=>(qbU P N none x).bind λx=>(qbU P N (some m.1) i).bind λi=>(kq P m.2.1).bind λ_=>(qbU P N (some m.2.1) y).bind λv=>some (IOp.mset m.2.2 x i v))=some io->o.wpIn (FR ro) nf P a w next Q:=by
  intro t x i y hop hd;obtain⟨m,hm,hd⟩:=zza.1 hd;obtain⟨rx,hrx,hd⟩:=zza.1 hd;obtain⟨ri,hri,hd⟩:=zza.1 hd;obtain⟨k,hk,hd⟩:=zza.1 hd;obtain⟨rv,hrv,hd⟩:=zza.1 hd;cases hd;obtain⟨d,hu,hkt,hky⟩:=qAk hm;have h1:=R hrx;have h2:=R hri;simp only[qaa]at h;split at h
  ·rename_i k oo xv os hk ho hpu;rw[ho]at h1;rw[hk]at h2;split at h
   ·rename_i hok;split at h
    ·rename_i es hes;split at h
     ·rename_i es' hr;simp only[zzb,zzc]at h;obtain⟨rfl,rfl⟩:=h;exact qOj hnd hop hu (λ_ _=>qzz hkt hky hok) h1 h2 (R hrv) hpu hes hH hS hr hp
     ·cases h
    ·cases h
   ·cases h
  ·cases h
 cases hop:o.op with
 |move x=>simp only[qaS,hop]at hd;obtain⟨r,hr,hd⟩:=zza.1 hd;cases hd;simp only[qaa,zzb,zzc]at h;obtain⟨rfl,rfl⟩:=h;exact qaV hnd (by simp[execOp,hop]) (hp.same hH hS (R hr))
 |assign x=>simp only[qaS,hop]at hd;obtain⟨r,hr,hd⟩:=zza.1 hd;cases hd;simp only[qaa,zzb,zzc]at h;obtain⟨rfl,rfl⟩:=h;exact qaV hnd (by simp[execOp,hop]) (hp.same hH hS (R hr))
 |pick c x y=>
  simp only[qaS,hop]at hd;obtain⟨rc,hrc,hd⟩:=zza.1 hd;obtain⟨rx,hrx,hd⟩:=zza.1 hd;obtain⟨ry,hry,hd⟩:=zza.1 hd;cases hd;have hc:=R hrc;simp only[qaa]at h;split at h
  ·rename_i hcv;rw[hcv]at hc;cases h;cases hev:a.eval c with
   |bool b=>
    rw[hev]at hc;cases hc with
    |d _ _ hc=>
    cases hc;exact qaV hnd (by simp[execOp,hop,hev,asBool]) (hp.same hH hS (R hrx))
   |_=>rw[hev]at hc;cases hc with|d _ _ hc=>cases hc
  ·rename_i hcv;rw[hcv]at hc;cases h;cases hev:a.eval c with
   |bool b=>
    rw[hev]at hc;cases hc with
    |d _ _ hc=>
    cases hc;exact qaV hnd (by simp[execOp,hop,hev,asBool]) (hp.same hH hS (R hry))
   |_=>rw[hev]at hc;cases hc with|d _ _ hc=>cases hc
  ·cases h
 |alloc e=>simp only[qaS,hop]at hd;obtain⟨k,hk,hd⟩:=zza.1 hd;obtain⟨z,hz,hd⟩:=zza.1 hd;cases hd;simp only[qaa,zzb,zzc]at h;obtain⟨rfl,rfl⟩:=h;obtain⟨h1,h2⟩:=hid rfl;obtain⟨k',zv,hk',hzv,hfz,hrz⟩:=qhC hz;rw[hk]at hk';cases hk';obtain⟨w',β',b1,b2,b3,b4,b5,b6⟩:=qAJ (P:=P) hH hS hB h1 h2 hfz (.d _ _ (hrz w S)) e;refine qaV hnd (u:=.pointer (some ⟨w.heap.size,0,none⟩)) (w':=w') ?_ (hp _ _ S β' b2 (hS.ext b2) b3 b4 b5 (by rw[qa2];exact zzt _) b6);simp only[execOp,hop];refine qa8 ?_;simp[Instr.alloc,qhq hzv,b1]
 |box e x=>
  simp only[qaS,hop]at hd;obtain⟨k,hk,hd⟩:=zza.1 hd;obtain⟨r,hr,hd⟩:=zza.1 hd;cases hd;simp only[qaa]at h;split at h
  ·rename_i hfit;simp only[zzb,zzc]at h;obtain⟨rfl,rfl⟩:=h;obtain⟨h1,h2⟩:=hid rfl;obtain⟨w',β',b1,b2,b3,b4,b5,b6⟩:=qAJ (P:=P) hH hS hB h1 h2 hfit (R hr) e;refine qaV hnd (u:=.pointer (some ⟨w.heap.size,0,none⟩)) (w':=w') ?_ (hp _ _ S β' b2 (hS.ext b2) b3 b4 b5 (by rw[qa2];exact zzt _) b6);simp only[execOp,hop];refine qa8 ?_;simp[Instr.box,b1]
  ·cases h
 |load t x=>
  simp only[qaS,hop]at hd;obtain⟨k,hk,hd⟩:=zza.1 hd;obtain⟨r,hr,hd⟩:=zza.1 hd;cases hd;simp only[qaa,opt]at h;split at h
  ·rename_i v' hv';simp only[zzb,zzc]at h;obtain⟨rfl,rfl⟩:=h;obtain⟨u,h1,h2⟩:=qz5 hH hk (R hr) hv';exact qaV hnd (by simp only[execOp,hop];exact qa8 h1) (hp.same hH hS h2)
  ·cases h
 |store t x y=>
  simp only[qaS,hop]at hd;obtain⟨k,hk,hd⟩:=zza.1 hd;obtain⟨rx,hrx,hd⟩:=zza.1 hd;obtain⟨ry,hry,hd⟩:=zza.1 hd;cases hd;simp only[qaa]at h;split at h
  ·rename_i H1 hH1;simp only[zzb,zzc]at h;obtain⟨rfl,rfl⟩:=h;obtain⟨w',S',b1,b2,b3,b4,b5⟩:=qP6 hH hS hk (R hrx) (R hry) hH1;exact qDc hnd (by simp only[execOp,hop];exact quq b1) (hp _ _ S' β b2 b3 b4 (Later.refl _) (.u _) (by omega) (Kp.refl _ _ _))
  ·cases h
 |extract x i=>
  simp only[qaS,hop]at hd;obtain⟨r,hr,hd⟩:=zza.1 hd;cases hd;have hx:=R hr;simp only[qaa]at h;split at h
  ·rename_i vs hvs;rw[hvs]at hx;cases hev:a.eval x with
   |tuple us=>
    rw[hev]at hx;generalize hus:us=us' at hx;cases hx with
    |t _ vs' h1 h2=>
    simp only[opt]at h;split at h
    ·rename_i v' hv';simp only[zzb,zzc]at h;obtain⟨rfl,rfl⟩:=h;obtain⟨hi,rfl⟩:=zzk.1 hv';have hi':i<vs'.length:=by omega
     refine qaV hnd (u:=vs'[i]) ?_ (hp.same hH hS (h2 i hi hi'));simp only[execOp,hop];refine qa8 ?_;simp[Instr.extract,hev,hus,zze hi']
    ·cases h
   |_=>rw[hev]at hx;cases hx
  ·cases h
 |unOp op t x=>
  simp only[qaS,hop]at hd;obtain⟨r,hr,hd⟩:=zza.1 hd;cases hd;simp only[qaa,qeC]at h;split at h
  ·rename_i d hdv;simp only[zzb,zzc]at h;obtain⟨rfl,rfl⟩:=h;obtain⟨u,h1,h2⟩:=qQw (P:=P) (R hr) hdv;exact qaV hnd (by simp only[execOp,hop];exact qa8 h1) (hp.same hH hS (.d _ _ h2))
  ·cases h
 |convert s t x=>
  simp only[qaS,hop]at hd;obtain⟨r,hr,hd⟩:=zza.1 hd;split at hd
  ·rename_i k1 k hs ht;cases hd;have hx:=R hr;simp only[qaa]at h;split at h
   ·rename_i k2 n hn;rw[hn]at hx;simp only[zzb,zzc]at h;obtain⟨rfl,rfl⟩:=h;obtain⟨k3,hk3⟩:=qhT hx rfl;refine qaV hnd (u:=.int k (k.wrap n)) ?_ (hp.same hH hS (.d _ _ (.i _ _)));simp only[execOp,hop];refine qa8 ?_;simp[convert,qaK hs,qaK ht,hk3,Conv.intToInt]
   ·cases h
  ·rename_i hs ht;cases hd;have hx:=R hr;simp only[qaa]at h;split at h
   ·rename_i l hl;rw[hl]at hx;obtain⟨z,hax,hz⟩:=qCb hx;have hv:v=.d (.s l)/\H'=H:=by simp[bnd]at h;exact⟨h.1.symm,h.2.symm⟩
    obtain⟨rfl,rfl⟩:=hv;refine qaV hnd (u:=a.eval x) ?_ (hp.same hH hS hx);simp only[execOp,hop];refine qa8 ?_;simp[convert,qaK hs,qaK ht,hax]
   ·cases h
  ·cases hd
 |fieldAddr s x f=>
  simp only[qaS,hop]at hd;obtain⟨fd,hfd,hd⟩:=zza.1 hd;obtain⟨k,hk,hd⟩:=zza.1 hd;obtain⟨r,hr,hd⟩:=zza.1 hd;split at hd
  ·cases hd
  ·rename_i hz;cases hd;simp only[qaa,opt]at h;split at h
   ·rename_i v' hv';simp only[zzb,zzc]at h;obtain⟨rfl,rfl⟩:=h;obtain⟨blk,o',h1,h2⟩:=qAw (R hr) hv';refine qaV hnd ?_ (hp.same hH hS h2);simp only[execOp,hop,h1];exact qa8 (qPD hfd hk hz blk o' w)
   ·cases h
 |nilCheck x=>
  simp only[qaS,hop]at hd;obtain⟨r,hr,hd⟩:=zza.1 hd;cases hd;have hx:=R hr;simp only[qaa]at h;have fin:∀v':PV,(∀u,Ac C w S β v' u->(∃p,u=.pointer (some p))\/∃f cs,u=.func (.func f) #[] cs)->Ac C w S β v' (a.eval x)->v'=v->H'=H->o.wpIn (FR ro) nf P a w next Q:=by intro v' hc hrel hv hH';subst hv hH';refine qaV hnd (u:=a.eval x) ?_ (hp.same hH hS hrel);rcases hc _ hrel with ⟨p,hu⟩|⟨f,cs,hu⟩<;>simp[execOp,hop,hu]
  split at h
  ·rename_i o' i c hv;simp only[zzb,zzc]at h;rw[hv]at hx;refine fin _ ?_ hx h.1 h.2.symm;intro u hu;cases hu with
   |p _ _ _ _ h0 hp=>
   unfold RelPt at hp;split at hp
   ·exact hp.elim
   ·obtain⟨_,_,rfl⟩:=hp;exact .inl ⟨_,rfl⟩
   ·exact hp.elim
   ·subst hp;exact .inl ⟨_,rfl⟩
   ·exact hp.elim
  ·rename_i hv;simp only[zzb,zzc]at h;rw[hv]at hx;refine fin _ ?_ hx h.1 h.2.symm;intro u hu;cases hu;exact .inl ⟨_,rfl⟩
  ·rename_i hv;simp only[zzb,zzc]at h;rw[hv]at hx;refine fin _ ?_ hx h.1 h.2.symm;intro u hu;cases hu;exact .inr ⟨_,_,rfl⟩
  ·cases h
 |build t parts=>
  simp only[qaS,hop]at hd;obtain⟨z,hz,hd⟩:=zza.1 hd;split at hd
  ·rename_i fs hu;split at hd
   ·rename_i hall;obtain⟨ps,hps,hd⟩:=zza.1 hd;cases hd;have hpr:=qtM hN hG hf hps;simp only[qaa]at h;split at h
    ·rename_i cs hcs;simp only[zzb,zzc]at h;obtain⟨rfl,rfl⟩:=h;have hpr':qiF C w S β (λi=>(fs[i]?).map λf=>(f.offset,P.cellsOf f.type)) (ps.map λx=>(x.1,x.2.1,rd E fr x.2.2)) (parts.toList.map λx=>(x.1,a.eval x.2)):=by
      have e:(λ(i:Nat)=>((fs[i]?).map λ(f:Field)=>(f.offset,f.type)).map λp=>(p.1,P.cellsOf p.2))=(λ(i:Nat)=>(fs[i]?).map λ(f:Field)=>(f.offset,P.cellsOf f.type)):=by funext i;cases fs[i]? <;> rfl
      rw[<-e];exact hpr
     obtain⟨u,h1,h2⟩:=qEH hz hu hall hpr' hcs;refine qaV hnd (u:=u) ?_ (hp.same hH hS h2);simp only[execOp,hop];refine qa8 ?_;have:parts.map (λx=>(x.1,a.eval x.2))=(parts.toList.map λx=>(x.1,a.eval x.2)).toArray:=by apply Array.ext';simp
     rw[<-h1,<-this]
    ·cases h
   ·cases hd
  ·rename_i n e hu;obtain⟨k,hk,hd⟩:=zza.1 hd;obtain⟨ps,hps,hd⟩:=zza.1 hd;cases hd;have hpr:=qtM hN hG hf hps;simp only[qaa]at h;split at h
   ·rename_i cs hcs;simp only[zzb,zzc]at h;obtain⟨rfl,rfl⟩:=h;obtain⟨u,h1,h2⟩:=qEG hz hu hk hpr hcs;refine qaV hnd (u:=u) ?_ (hp.same hH hS h2);simp only[execOp,hop];refine qa8 ?_;have:parts.map (λx=>(x.1,a.eval x.2))=(parts.toList.map λx=>(x.1,a.eval x.2)).toArray:=by apply Array.ext';simp
    rw[<-h1,<-this]
   ·cases h
  ·cases hd
 |buildSlice t n parts=>
  simp only[qaS,hop]at hd;obtain⟨ek,hek,hd⟩:=zza.1 hd;obtain⟨z,hz,hd⟩:=zza.1 hd;obtain⟨ps,hps,hd⟩:=zza.1 hd;split at hd
  ·rename_i hn;cases hd;obtain⟨hu,hk⟩:=qr8 hek;have hpr:=qA8 hN hG hf hps;obtain⟨h1,h2⟩:=hid rfl;simp only[qaa]at h;split at h
   ·rename_i es os hes;simp only[zzb,zzc]at h;obtain⟨rfl,rfl⟩:=h;obtain⟨kz,zv,hkz,hzv,hfz,hrz⟩:=qhC hz;rw[hk]at hkz;cases hkz;have hH1:=qkD hH os;have hext1:=qey hH os;have hS1:=qi7 hH hS os;have hrow:=qvG (w:=w) (S:=FSq β H os S) (n:=n) hfz hrz (if n*ek.2.size=0 then #[]else zv.cells) (λh=>by rw[if_neg h]);obtain⟨A',c1,c2,c3,c4⟩:=qwS hH (FSq β H os S) (λ_ _ h=>.inl h) (λ_ _ h=>h) hrow hpr hes;have hlen:es.length=n:=by rw[c3,List.length_replicate]
    have hAlen:A'.length=n*ek.2.size:=by rw[c4];simp
    obtain⟨a1,a2,a3,a4⟩:=qpW hH1 hS1 hB h1 (by rw[qdt];exact h2) c2 ek.1 0 (len:=n) (cap:=n) (tt:=true) (by rw[hAlen];exact zzt _) (zzt _) (λ_=>rfl);refine qaV hnd ?_ (hp _ _ _ _ (hext1.trans a1) (hS1.ext a1) a2 a3 a4 (by rw[qa2,qdt];exact zzt _) (qeV _ _ _ _));simp only[execOp,hop];refine qa8 ?_;have hparts:parts.map (λx=>(x.1,a.eval x.2))=(parts.toList.map λx=>(x.1,a.eval x.2)).toArray:=by apply Array.ext';simp
    have hbig:¬(n*ek.2.size>2^24):=by omega
    have hz0:(if n*ek.2.size=0 then pure #[]else do pure (<-zeroValue ek.1).cells:Sem (Array CP)).run P w=.ok (if n*ek.2.size=0 then #[]else zv.cells) w:=by
     split
     ·rfl
     ·simp[qhq hzv]
    have hfill:Instr.fill (λi=>some (i*ek.2.size,ek.2.size)) ((Array.range (n*ek.2.size)).map ((if n*ek.2.size=0 then #[]else zv.cells)[· % (if n*ek.2.size=0 then #[]else zv.cells).size]!)) (parts.map (λx=>(x.1,a.eval x.2))).toList=some A'.toArray:=by rw[hparts];rw[Array.toArray_toList]at c1;exact c1
    have hrun:(Instr.buildSlice t n (parts.map (λx=>(x.1,a.eval x.2)))).run P w=.ok (.slice (some ⟨w.heap.size,0,none⟩) n n) (w.alloc (.cells A'.toArray ek.1)):=by
     by_cases h0:n*ek.2.size=0
     ·rw[if_pos h0]at hfill;simp only[Instr.buildSlice,Sem.run_bind,qaK hu,Result.andThen_ok,qdQ hk,Sem.run_ite,hbig,if_false];rw[if_pos h0];simp only[Sem.run_pure,Result.andThen_ok,hfill];simp[newRow]
     ·rw[if_neg h0]at hfill;simp only[Instr.buildSlice,Sem.run_bind,qaK hu,Result.andThen_ok,qdQ hk,Sem.run_ite,hbig,if_false,h0,qhq hzv,Sem.run_pure,hfill];simp[newRow]
    exact hrun
   ·cases h
  ·cases hd
 |binOp op t x y ty=>
  simp only[qaS,hop]at hd;obtain⟨rx,hrx,hd⟩:=zza.1 hd;obtain⟨ry,hry,hd⟩:=zza.1 hd;have bin:qaa E (rd E fr) H id (.bin op rx ry)=some (v,H')->o.wpIn (FR ro) nf P a w next Q:=by
   intro h;simp only[qaa,qeC]at h;split at h
   ·rename_i d hdv;simp only[zzb,zzc]at h;obtain⟨rfl,rfl⟩:=h;obtain⟨u,h1,h2,h3⟩:=qEB (P:=P) (t:=t) (R hrx) (R hry) hdv x y;refine qaV hnd (u:=u) ?_ (hp.same hH hS (.d _ _ h3));simp only[execOp,hop];refine qa8 ?_;simp[h1,h2]
   ·cases h
  have eqb:∀neg,(op=.eql/\neg=false\/op=.neq/\neg=true)->P.underlying t=some .bool->qaa E (rd E fr) H id (.eqb neg rx ry)=some (v,H')->o.wpIn (FR ro) nf P a w next Q:=by
   intro neg hneg hu h;have hx:=R hrx;have hy:=R hry;simp only[qaa]at h;split at h
   ·rename_i b1 b2 h1 h2;simp only[zzb,zzc]at h;obtain⟨rfl,rfl⟩:=h;rw[h1]at hx;rw[h2]at hy;have e1:=qhU hx;have e2:=qhU hy;have heq:=run_equalIn_bool' (P:=P) w 9999 t b1 b2 hu;rcases hneg with ⟨rfl,rfl⟩|⟨rfl,rfl⟩
    ·refine qaV hnd (u:=.bool (b1==b2)) ?_ (hp.same hH hS (.d _ _ (.b _)));simp only[execOp,hop,e1,e2];refine qa8 ?_;simp[eqGuard,binOp,Op.equal,Op.maxDepth,heq]
    ·refine qaV hnd (u:=.bool (!(b1==b2))) ?_ (hp.same hH hS (.d _ _ (.b _)));simp only[execOp,hop,e1,e2];refine qa8 ?_;simp[eqGuard,binOp,Op.equal,Op.maxDepth,heq]
   ·cases h
  have eqv:∀fs,P.underlying t=some (.struct fs)->(op=.eql\/op=.neq)->(if P.eqGuardType P.depth t then none else (qcV P 8 t).bind λks=>some (.eqv (op==.neq) ks rx ry))=some io->o.wpIn (FR ro) nf P a w next Q:=by
   intro fs hu hop' hd;split at hd
   ·cases hd
   ·rename_i hm;obtain⟨ks,hks,hd⟩:=zza.1 hd;cases hd;simp only[qaa]at h;split at h
    ·rename_i e he;simp only[zzb,zzc]at h;obtain⟨rfl,rfl⟩:=h;obtain⟨h1,h2⟩:=qFR hu hks (by simpa using hm) (R hrx) (R hry) he x y op hop';refine qaV hnd (u:=.bool (if op==.neq then !e else e)) ?_ (hp.same hH hS (.d _ _ (.b _)));simp only[execOp,hop];refine qa8 ?_;simp[h1,h2]
    ·cases h
  have nilc:(op=.eql\/op=.neq)->∀d,P.underlying t=some d->((qm5 d).bind λkd=>if qe2 kd ry then some (.BJ (op==.neq) kd rx)else if qe2 kd rx then some (.BJ (op==.neq) kd ry)else none)=some io->o.wpIn (FR ro) nf P a w next Q:=by
   intro hop' d hu hd;obtain⟨kd,hkd,hd⟩:=zza.1 hd;split at hd
   ·rename_i hn;cases hd;obtain⟨c,rfl,hc⟩:=qAL hry hn;simp only[qaa]at h;split at h
    ·rename_i b hb;simp only[zzb,zzc]at h;obtain⟨rfl,rfl⟩:=h;refine qaV hnd (u:=.bool (if op==.neq then !b else b)) ?_ (hp.same hH hS (.d _ _ (.b _)));simp only[execOp,hop];refine qa8 ?_;have:=(qBS (P:=P) (w:=w) (x:=x) (y:=.const c) hop' (R hrx) hkd hb hu).1 ⟨c,rfl⟩;simpa only[Act.eval,hc]using this
    ·cases h
   ·split at hd
    ·rename_i hn;cases hd;obtain⟨c,rfl,hc⟩:=qAL hrx hn;simp only[qaa]at h;split at h
     ·rename_i b hb;simp only[zzb,zzc]at h;obtain⟨rfl,rfl⟩:=h;refine qaV hnd (u:=.bool (if op==.neq then !b else b)) ?_ (hp.same hH hS (.d _ _ (.b _)));simp only[execOp,hop];refine qa8 ?_;have:=(qBS (P:=P) (w:=w) (x:=.const c) (y:=y) hop' (R hry) hkd hb hu).2 ⟨c,rfl⟩;simpa only[Act.eval,hc]using this
     ·cases h
    ·cases hd
  unfold qr2 at hd;split at hd
  ·split at hd
   ·cases hd;exact bin h
   ·cases hd;exact bin h
   ·rename_i hu;cases hd;exact eqb _ (.inl ⟨rfl,rfl⟩) hu h
   ·rename_i fs hu;exact eqv fs hu (.inl rfl) hd
   ·rename_i d _ _ _ _ hu;exact nilc (.inl rfl) d hu hd
   ·cases hd
  ·split at hd
   ·cases hd;exact bin h
   ·cases hd;exact bin h
   ·rename_i hu;cases hd;exact eqb _ (.inr ⟨rfl,rfl⟩) hu h
   ·rename_i fs hu;exact eqv fs hu (.inr rfl) hd
   ·rename_i d _ _ _ _ hu;exact nilc (.inr rfl) d hu hd
   ·cases hd
  ·cases hd;exact bin h
 |makeFunc fn first caps=>
  simp only[qaS,hop]at hd;cases fn with
  |func f=>
   simp only at hd;split at hd
   ·rename_i hfs;obtain⟨x,hx,hd⟩:=zza.1 hd;obtain⟨cs,hcs,hd⟩:=zza.1 hd;cases hd;simp only[qaa,zzb,zzc]at h;obtain⟨rfl,rfl⟩:=h;obtain⟨h1,h2⟩:=qig hN hG hf hcs;have hrel:=Ac.f (C:=C) (w:=w) (S:=S) (β:=β) x.1 (cs.map (rd E fr)) (caps.toList.map a.eval) (by simp[h1]) h2;refine qaV hnd (u:=.func (.func (C.μ x.1)) #[] (caps.toList.map a.eval).toArray) ?_ (hp.same hH hS hrel);simp only[execOp,hop];refine qa8 ?_;have hf0:first = #[]:=by simpa using hfs
    subst hf0;have:caps.map a.eval=(caps.toList.map a.eval).toArray:=by apply Array.ext';simp
    simp only[Instr.makeFunc,hN.f f x hx,this,Array.map_empty,Sem.run_pure]
   ·split at hd
    ·rename_i hcs0;obtain⟨x,hx,hd⟩:=zza.1 hd;obtain⟨cs,hcs,hd⟩:=zza.1 hd;cases hd;simp only[qaa,zzb,zzc]at h;obtain⟨rfl,rfl⟩:=h;obtain⟨h1,h2⟩:=qig hN hG hf hcs;have hrel:=Ac.m (C:=C) (w:=w) (S:=S) (β:=β) x.1 (cs.map (rd E fr)) (first.toList.map a.eval) (by simp[h1]) h2;refine qaV hnd (u:=.func (.func (C.μ x.1)) (first.toList.map a.eval).toArray #[]) ?_ (hp.same hH hS hrel);simp only[execOp,hop];refine qa8 ?_;have hc0:caps = #[]:=by simpa using hcs0
     subst hc0;have:first.map a.eval=(first.toList.map a.eval).toArray:=by apply Array.ext';simp
     simp only[Instr.makeFunc,hN.f f x hx,this,Array.map_empty,Sem.run_pure]
    ·cases hd
  |_=>cases hd
 |makeSlice t l c=>
  simp only[qaS,hop]at hd;obtain⟨ek,hek,hd⟩:=zza.1 hd;obtain⟨z,hz,hd⟩:=zza.1 hd;obtain⟨rl,hrl,hd⟩:=zza.1 hd;obtain⟨rc,hrc,hd⟩:=zza.1 hd;split at hd
  ·cases hd
  ·rename_i hb0;cases hd;obtain⟨hu,hk⟩:=qr8 hek;obtain⟨h1,h2⟩:=hid rfl;simp only[qaa]at h;split at h
   ·rename_i n c' hn hc;split at h
    ·rename_i hcnd;simp only[zzb,zzc]at h;obtain⟨rfl,rfl⟩:=h;obtain⟨ur,w',e1,e2⟩:=qKk hH hS hB h1 h2 hu hk hz hb0 (R hrl) (R hrc) hn hc hcnd;exact qaV hnd (by simp only[execOp,hop];exact qa8 e1) (hp.of_leaves e2)
    ·cases h
   ·cases h
 |slice t x lo hi mx=>
  simp only[qaS,hop]at hd;obtain⟨rx,hrx,hd⟩:=zza.1 hd;obtain⟨rlo,hrlo,hd⟩:=zza.1 hd;obtain⟨rhi,hrhi,hd⟩:=zza.1 hd;obtain⟨rmx,hrmx,hd⟩:=zza.1 hd;have h1:=qt8 hN hG hf hrlo;have h2:=qt8 hN hG hf hrhi;have h3:=qt8 hN hG hf hrmx;split at hd
  ·rename_i hu;split at hd
   ·rename_i hmx;cases hd;have hmx0:mx=none:=by
     cases mx with
     |none=>rfl
     |some m=>simp only[qk8,Option.map_eq_some_iff]at hrmx;obtain⟨_,_,rfl⟩:=hrmx;simp at hmx
    subst hmx0;have hx:=R hrx;simp only[qaa]at h;split at h
    ·rename_i s hs;rw[hs]at hx;split at h
     ·rename_i hh hhh;split at h
      ·rename_i l hl;simp only[zzb,zzc]at h;obtain⟨rfl,rfl⟩:=h;obtain⟨u,e1,e2⟩:=qPY (P:=P) hu hx h1 h2 hhh hl;exact qaV hnd (by simp only[execOp,hop];exact qa8 e1) (hp.same hH hS (.d _ _ e2))
      ·cases h
     ·cases h
    ·cases h
   ·cases hd
  ·rename_i e hu;obtain⟨k,hk,hd⟩:=zza.1 hd;split at hd
   ·cases hd
   ·rename_i hmh;cases hd;simp only[qaa,opt]at h;split at h
    ·rename_i v' hv';simp only[zzb,zzc]at h;obtain⟨rfl,rfl⟩:=h;obtain⟨u,e1,e2⟩:=qPZ hH hu hk (R hrx) h1 h2 h3 (by cases rmx<;>cases rhi<;>simp_all) hv';exact qaV hnd (by simp only[execOp,hop];exact qa8 e1) (hp.same hH hS e2)
    ·cases h
  ·cases hd
 |field s x f=>simp[qaS,hop]at hd
 |indexAddr t x i=>
  simp only[qaS,hop]at hd;obtain⟨rx,hrx,hd⟩:=zza.1 hd;obtain⟨ri,hri,hd⟩:=zza.1 hd;split at hd
  ·rename_i n e hu;obtain⟨k,hk,hd⟩:=zza.1 hd;cases hd;simp only[qaa]at h;split at h
   ·rename_i m hm;obtain⟨ki,hki⟩:=qhT (R hri) hm;split at h
    ·rename_i j hj;simp only[opt]at h;split at h
     ·rename_i v' hv';simp only[zzb,zzc]at h;obtain⟨rfl,rfl⟩:=h;obtain⟨blk,o',e1,e2⟩:=qAw (R hrx) hv';refine qaV hnd ?_ (hp.same hH hS e2);simp only[execOp,hop,e1,hki];exact qa8 (qPE hu hk hj ki blk o' w)
     ·cases h
    ·cases h
   ·cases h
  ·rename_i e hu;obtain⟨k,hk,hd⟩:=zza.1 hd;cases hd;simp only[qaa,opt]at h;split at h
   ·rename_i v' hv';simp only[zzb,zzc]at h;obtain⟨rfl,rfl⟩:=h;obtain⟨u,e1,e2⟩:=qGS hH hu hk (R hrx) (R hri) hv';exact qaV hnd (by simp only[execOp,hop];exact qa8 e1) (hp.same hH hS e2)
   ·cases h
  ·cases hd
 |index t x i=>
  simp only[qaS,hop]at hd;obtain⟨rx,hrx,hd⟩:=zza.1 hd;obtain⟨ri,hri,hd⟩:=zza.1 hd;split at hd
  ·rename_i n e hu;obtain⟨k,hk,hd⟩:=zza.1 hd;cases hd;simp only[qaa]at h;split at h
   ·rename_i m hm;obtain⟨ki,hki⟩:=qhT (R hri) hm;split at h
    ·rename_i j hj;simp only[opt]at h;split at h;case h_2=>cases h
     rename_i v' hv';simp only[zzb,zzc]at h;obtain⟨rfl,rfl⟩:=h;have h:=hv';obtain⟨vs,e1,e2,e3⟩:=qF2 (R hrx) h;refine qaV hnd ?_ (hp.same hH hS e3);simp only[execOp,hop];refine qa8 ?_;obtain⟨q1,q2,q3,q4⟩:=qpn hj;subst q3;simp[Instr.index,qaK hu,e1,hki,asIntOf,q1,q2,qdQ hk,qup hk e2]
    ·cases h
   ·cases h
  ·rename_i hu;cases hd;simp only[qaa]at h;split at h
   ·rename_i s n hs hn;split at h
    ·rename_i h0;split at h
     ·rename_i b hb;simp only[zzb,zzc]at h;obtain⟨rfl,rfl⟩:=h;have:=qGT (P:=P) hu (R hrx) (R hri) hs hn h0 hb;exact qaV hnd (by simp only[execOp,hop];exact qa8 this) (hp.same hH hS (.d _ _ (.i _ _)))
     ·cases h
    ·cases h
   ·cases h
  ·cases hd
 |call c=>
  simp only[qaS,hop]at hd;unfold qr3 at hd;have len1:∀{ts:CL (CK CQ)} {rs:CL Ab},A8 P N ts c.args.toList=some rs->rs.length=c.args.size:=λh=>by have:=(qig hN hG hf h).1;simpa using this
  split at hd
  ·
   rename_i f hcal;obtain⟨fn,hfn,hd⟩:=zza.1 hd;obtain⟨as0,has,hd⟩:=zza.1 hd;split at hd
   ·rename_i hbody;obtain⟨p,hp2,hd⟩:=zza.1 hd;cases hd;obtain⟨r1,r2⟩:=qig hN hG hf has;simp only[qaa,opt]at h;split at h
    ·rename_i v' hv';simp only[zzb,zzc]at h;obtain⟨rfl,rfl⟩:=h;obtain⟨u,e1,e2⟩:=qOy (P:=P) (w:=w) hp2 hfn hbody (by simp[r1]) r2 hv';refine qaV hnd ?_ (hp.same hH hS e2);have hev:a.eval (.func f)=.func (.func f) #[] #[]:=rfl;have hargs2:c.args.map a.eval ++ #[]=(c.args.toList.map a.eval).toArray:=by apply Array.ext';simp
     simp only[execOp,hop,resolve,hcal,hev,Deferred.ofValue,Sem.run_bind,Sem.run_pure,Result.andThen_ok,invoke,Array.empty_append,hargs2,e1]
    ·cases h
   ·rename_i hbody;split at hd
    ·cases hd
    ·rename_i hname;obtain⟨x,hx,hd⟩:=zza.1 hd;cases hd;obtain⟨r1,r2⟩:=qig hN hG hf has;have hrun:=qul (P:=P) (w:=w) (a:=a) hop hcal (caps := #[]) (f:=f) rfl hfn (by cases hq:fn.body<;>simp_all) hname;have hargs:c.args.map a.eval ++ #[]=(c.args.toList.map a.eval).toArray:=by apply Array.ext';simp
     rw[hargs]at hrun;have hμ:=hN.f f x hx;have hlen:(as0.map (rd E fr)).length=(c.args.toList.map a.eval).length:=by simp[r1]
     rcases hm:x.2 with _|_|m
     ·
      rw[hm]at h hid;simp only[qaa]at h;split at h
      ·rename_i ds os hpur;split at h
       ·rename_i r own hval;simp only[zzb,zzc]at h;obtain⟨rfl,hH'⟩:=h;obtain⟨l1,l2⟩:=qwT hH hpur hlen r2;rw[<-hμ]at hrun;exact qrF hO hG hS hB hH hnd hrun hval l1 l2 hH' hp
       ·cases h
      ·cases h
     ·
      rw[hm]at h hid;obtain⟨i1,i2⟩:=hid rfl;simp only[qaa]at h;split at h
      ·rename_i ds os hpur;split at h
       ·rename_i k es tt hval;simp only[zzb,zzc]at h;obtain⟨rfl,hH'⟩:=h;have hH'':(frz H os).put id (some (.sl k 0 es))=H':=by
         rw[<-hH'];split
         ·rename_i hc;have:os=[]:=by simpa using hc
          subst this;rfl
         ·rfl
        subst hH'';obtain⟨l1,l2⟩:=qwT hH hpur hlen r2;have hcall:=hO.val _ _ _ _ hval w (FSq β H os S) _ (qi7 hH hS os) (hG.ext (qey hH os)) l1 l2;rw[hμ]at hcall;refine qnW hnd hrun hcall ?_;rintro e w' ⟨u,S',rfl,e1,e2,-,e4⟩;refine⟨u,rfl,?_⟩;obtain⟨k',es',hke,ho⟩:=e4 rfl;cases hke;obtain⟨b1,b2⟩:=qrC (qkD hH os) hB e1;have i2':id<(frz H os).length:=by rw[qdt];exact i2
        rcases ho with ⟨rfl,ad,rfl⟩|⟨blk,off,cap,cells,et,rfl,q1,q2,q3,q4,q5,q6⟩
        ·obtain⟨v1,v2⟩:=qsH b2 i1 i2' k 0;refine hp _ w' S' _ ((qey hH os).trans b1) e2 v1 v2 (.r _ _ _ _ _ _ rfl ?_) (by rw[qa2,qdt];exact zzt _) (qeV _ _ _ _);unfold RelRf;rw[qa5];exact⟨rfl,rfl,ad,rfl⟩
        ·have hoc:OCells C w' S' β cells blk off (.sl k 0 es):=by
          obtain⟨p0,cf,p1,p2⟩:=q6;refine⟨?_,cf,?_,p2,?_⟩
          ·have:es.length*k.size<=cap*k.size:=zzh _ q1;omega
          ·intro j hj m hm;have:=p1 j hj m hm;rw[List.getElem?_drop]at this;rw[Nat.add_assoc];simpa using this
          ·intro j hj;exact q5 j (by omega)
         obtain⟨v1,v2⟩:=qGO b2 hB i1 i2' q2 (λo blk base k h=>hH.lt h) q3 hoc;refine hp _ w' S' _ ((qey hH os).trans b1) e2 v1 v2 (.r _ _ _ _ _ _ rfl ?_) (by rw[qa2,qdt];exact zzt _) (qeV _ _ _ _);unfold RelRf;rw[qa5];refine⟨rfl,cap,_,rfl,λ_=>by simp,q1,(λh=>by cases h),et,cells.size,?_,by simpa using q4⟩;unfold World.shape?;rw[q3]
       ·cases h
      ·cases h
     ·
      rw[hm]at h;simp only[qaa]at h;have hcall:=hO.ref _ _ _ _ _ h B w S β _ hB hS hG hH hlen r2;rw[hμ]at hcall;refine qnW hnd hrun hcall ?_;rintro e w' ⟨u,S',β',rfl,e1,e2,e3,e4,e5,e6,e7⟩;exact⟨u,rfl,hp u w' S' β' e1 e2 e3 e4 e5 e6 (λo ho _=>e7 o ho (by omega))⟩
  ·
   rename_i t hcal;obtain⟨as0,has,hd⟩:=zza.1 hd;cases hd;obtain⟨r1,r2⟩:=qig hN hG hf has;simp only[qaa]at h;split at h
   ·rename_i n caps hx;have hfx:=hf t;have hx':fr.get t=.f n caps:=hx;rw[hx']at hfx;obtain⟨us,h1,h2,h3⟩:=qsq hfx;split at h
    ·
     rename_i ds hpl;split at hpl
     ·rename_i hce;have hc0:caps=[]:=by simpa using hce
      subst hc0;have hu0:us=[]:=by cases us with|nil=>rfl|cons _ _=>simp at h2
      subst hu0;have hmap:=qk6 hpl;split at h
      ·rename_i r own hval;simp only[zzb,zzc]at h;obtain⟨rfl,hH'⟩:=h;obtain⟨fn,q1,q2,q3⟩:=hO.fnv _ _ _ hval;have hrun:=qul (P:=P) (w:=w) (a:=a) hop hcal (caps := #[]) (f:=C.μ n) h1 q1 q2 q3;have hargs:c.args.map a.eval ++ #[]=(c.args.toList.map a.eval).toArray:=by apply Array.ext';simp
       rw[hargs]at hrun;have l1:ds.length=(c.args.toList.map a.eval).length:=by have:=congrArg List.length hmap;simp only[zzo]at this⊢;simp only[r1]at this;simpa using this.symm
       refine qrF (os:=[]) hO hG hS hB hH hnd hrun hval l1 ?_ (by simpa using hH') hp;intro j hj hj';have h5:Ac C w S β (.d ds[j]) (c.args.toList.map a.eval)[j]:=by have:=r2 j (by rw[hmap];simpa using hj) hj';simpa only[hmap,List.getElem_map]using this
       have h6:Al w S ds[j] (c.args.toList.map a.eval)[j]:=by
        generalize (c.args.toList.map a.eval)[j]=z at h5;cases h5 with
        |d _ _ h5=>exact h5
       exact h6.more (λ_ _ h=>Or.inl h)
      ·cases h
     ·cases hpl
    obtain⟨fn,q1,q2,q3⟩:=hO.fn _ _ _ _ h;have hrun:=qul (P:=P) (w:=w) (a:=a) hop hcal (caps:=us.toArray) (f:=C.μ n) h1 q1 q2 q3;have hargs:c.args.map a.eval++us.toArray=(c.args.toList.map a.eval++us).toArray:=by apply Array.ext';simp
    rw[hargs]at hrun;have hlen:(as0.map (rd E fr)++caps).length=(c.args.toList.map a.eval++us).length:=by simp[r1,h2]
    have hrel:∀j (h:j<(as0.map (rd E fr)++caps).length) (h':j<(c.args.toList.map a.eval++us).length),Ac C w S β (as0.map (rd E fr)++caps)[j] (c.args.toList.map a.eval++us)[j]:=by
     intro j hj hj';by_cases hja:j<(as0.map (rd E fr)).length
     ·rw[List.getElem_append_left hja,List.getElem_append_left (by simpa[r1]using hja)];exact r2 j _ _
     ·rw[List.getElem_append_right (by omega),List.getElem_append_right (by simp only[zzo]at hja⊢;omega)];have e1:(as0.map (rd E fr)).length=(c.args.toList.map a.eval).length:=by simp[r1]
      simp only[e1];exact h3 _ _ _
    have hcall:=hO.ref _ _ _ _ _ h B w S β _ hB hS hG hH hlen hrel;refine qnW hnd hrun hcall ?_;rintro e w' ⟨u,S',β',rfl,e1,e2,e3,e4,e5,e6,e7⟩;exact⟨u,rfl,hp u w' S' β' e1 e2 e3 e4 e5 e6 (λo ho _=>e7 o ho (by omega))⟩
   ·rename_i n firsts hx;have hfx:=hf t;have hx':fr.get t=.m n firsts:=hx;rw[hx']at hfx;obtain⟨us,h1,h2,h3⟩:=qKb hfx;have hall:∀j (h:j<(firsts++as0.map (rd E fr)).length) (h':j<(us++c.args.toList.map a.eval).length),Ac C w S β (firsts++as0.map (rd E fr))[j] (us++c.args.toList.map a.eval)[j]:=by
     intro j hj hj';by_cases hja:j<firsts.length
     ·rw[List.getElem_append_left hja,List.getElem_append_left (by omega)];exact h3 j _ _
     ·rw[List.getElem_append_right (by omega),List.getElem_append_right (by omega)];simp only[h2];exact r2 _ _ _
    have hlen:(firsts++as0.map (rd E fr)).length=(us++c.args.toList.map a.eval).length:=by simp[r1,h2]
    have hargs:us.toArray++(c.args.map a.eval ++ #[])=(us++c.args.toList.map a.eval).toArray:=by apply Array.ext';simp
    split at h
    ·rename_i ds hpl;have hmap:=qk6 hpl;split at h
     ·rename_i r own hval;simp only[zzb,zzc]at h;obtain⟨rfl,hH'⟩:=h;obtain⟨fn,q1,q2,q3⟩:=hO.fnv _ _ _ hval;have hrun:=qBP (P:=P) (w:=w) (a:=a) hop hcal (firsts:=us.toArray) (f:=C.μ n) h1 q1 q2 q3;rw[hargs]at hrun;refine qrF (os:=[]) hO hG hS hB hH hnd hrun hval ?_ ?_ (by simpa using hH') hp
      ·have:=congrArg List.length hmap;rw[zzo]at this;rw[<-this,hlen]
      ·intro j hj hj';have h5:Ac C w S β (.d ds[j]) (us++c.args.toList.map a.eval)[j]:=by have:=hall j (by rw[hmap];simpa using hj) hj';simpa only[hmap,List.getElem_map]using this
       have h6:Al w S ds[j] (us++c.args.toList.map a.eval)[j]:=by
        generalize (us++c.args.toList.map a.eval)[j]=z at h5;cases h5 with
        |d _ _ h5=>exact h5
       exact h6.more (λ_ _ h=>Or.inl h)
     ·cases h
    ·obtain⟨fn,q1,q2,q3⟩:=hO.fn _ _ _ _ h;have hrun:=qBP (P:=P) (w:=w) (a:=a) hop hcal (firsts:=us.toArray) (f:=C.μ n) h1 q1 q2 q3;rw[hargs]at hrun;have hcall:=hO.ref _ _ _ _ _ h B w S β _ hB hS hG hH hlen hall;refine qnW hnd hrun hcall ?_;rintro e w' ⟨u,S',β',rfl,e1,e2,e3,e4,e5,e6,e7⟩;exact⟨u,rfl,hp u w' S' β' e1 e2 e3 e4 e5 e6 (λo ho _=>e7 o ho (by omega))⟩
   ·rename_i o' hx;have hfx:=hf t;have hx':fr.get t=.h o':=hx;rw[hx']at hfx;obtain⟨y1,y2⟩:=hY _ _ _ _ _ h;obtain⟨blk,x,q1,q2,q3⟩:=qu7 hH hfx y1;have q4:∃r,x=.loop r/\a.tmps.getD t undef=.func (.yield blk) #[] #[]:=by
     rcases q3 with ⟨rfl,-⟩|⟨rfl,-⟩|h
     ·exact q2.elim
     ·exact q2.elim
     ·exact h
    obtain⟨r0,rfl,hu⟩:=q4;have hlen:(as0.map (rd E fr)).length=(c.args.toList.map a.eval).length:=by simp[r1]
    obtain⟨rr,z1,z2,z3⟩:=y2 w S β (c.args.toList.map a.eval) blk r0 (Ext.refl _ _ _) (Lb.refl _ _) hyb hB hS hG hH q1 hlen r2 (FR ro) (nf-1) (λ_=>trivial) rfl rfl;have hargs:c.args.map a.eval=(c.args.toList.map a.eval).toArray:=by apply Array.ext';simp
    have hrun:(execOp a.eval o).run P w=.ok (.round blk rr.fn ((rr.params.zip (c.args.toList.map a.eval).toArray).foldl (λtmps (t,a)=>tmps.setIfInBounds t a) rr.tmps) rr.assign rr.body) w:=by
     have hgl:(Instr.getLoop blk).run P w=.ok rr w:=by simp[Instr.getLoop,run_getObj_loop z1]
     have hev:a.eval (.tmp t)=.func (.yield blk) #[] #[]:=hu;have hsz:(c.args.toList.map a.eval).toArray.size=rr.params.size:=by simpa using z2
     simp only[execOp,hop,resolve,hcal,hev,Deferred.ofValue,Sem.run_bind,Sem.run_pure,Result.andThen_ok,invoke,Array.empty_append,Instr.yield,hgl,hargs,hsz,ne_eq,not_true_eq_false,if_false]
    refine⟨λ_ _=>trivial,?_⟩;rw[Oper.semAt_eq _ _ _ hnd,hrun];refine⟨(λh=>by simp[FR,Fence.wide]at h),z3.mono ?_⟩;rintro e w' ⟨u,S',β',rfl,e1,e2,e3,e4,e5,e6,e7⟩;exact hp u w' S' β' e1 e2 e3 e4 e5 e6 (λo ho _=>e7 o ho (by omega))
   ·cases h
  ·cases hd
  ·
   rename_i b hcal;obtain⟨as0,has,hd⟩:=zza.1 hd;obtain⟨r1,r2⟩:=qig hN hG hf has;have hargs:c.args.map a.eval=(c.args.toList.map a.eval).toArray:=by apply Array.ext';simp
   split at hd
   ·
    split at hd
    ·rename_i x;obtain⟨t,ht,hd⟩:=zza.1 hd;have h1:∃y,c.args.toList=[y]:=by
      cases hc:c.args.toList with
      |nil=>rw[hc]at r1;simp at r1
      |cons y l=>cases l with
       |nil=>exact⟨y,rfl⟩
       |cons z l=>rw[hc]at r1;simp at r1
     obtain⟨y,hy⟩:=h1;have hxy:Ac C w S β (rd E fr x) (a.eval y):=by have:=r2 0 (by simp) (by simp[hy]);simpa[hy]using this
     have len:∀str,(str=true/\P.underlying t=some .string)\/(str=false/\∃e,P.underlying t=some (.slice e))->qaa E (rd E fr) H id (.len str x)=some (v,H')->o.wpIn (FR ro) nf P a w next Q:=by
      intro str hst h;simp only[qaa]at h;split at h
      ·rename_i n hn;simp only[zzb,zzc]at h;obtain⟨rfl,rfl⟩:=h;refine qaV hnd ?_ (hp.same hH hS (.d _ _ (.i _ _)));simp only[execOp,hop,resolve,hcal,Sem.run_bind,Sem.run_pure,Result.andThen_ok,invoke,builtin,hargs,hy];have:=qJd (P:=P) hH hxy hn ht hst o.type;simp only[zzu,List.map_nil,this,Result.andThen_ok]
      ·cases h
     split at hd
     ·cases hd;exact len _ (.inl ⟨rfl,by assumption⟩) h
     ·cases hd;exact len _ (.inr ⟨rfl,_,by assumption⟩) h
     ·cases hd
    ·cases hd
   ·
    split at hd
    ·rename_i x y;obtain⟨t,ht,hd⟩:=zza.1 hd;obtain⟨t2,ht2,hd⟩:=zza.1 hd;obtain⟨ek,hek,hd⟩:=zza.1 hd;obtain⟨z,hz,hd⟩:=zza.1 hd;obtain⟨hu,hk⟩:=qr8 hek;have h1:∃p q,c.args.toList=[p,q]:=by
      cases hc:c.args.toList with
      |nil=>rw[hc]at r1;simp at r1
      |cons p l=>cases l with
       |nil=>rw[hc]at r1;simp at r1
       |cons q l=>cases l with
        |nil=>exact⟨p,q,rfl⟩
        |cons _ _=>rw[hc]at r1;simp at r1
     obtain⟨p,q,hpq⟩:=h1;have hxp:Ac C w S β (rd E fr x) (a.eval p):=by have:=r2 0 (by simp) (by simp[hpq]);simpa[hpq]using this
     have hyq:Ac C w S β (rd E fr y) (a.eval q):=by have:=r2 1 (by simp) (by simp[hpq]);simpa[hpq]using this
     have app:((∃e',P.underlying t2=some (.slice e'))\/P.underlying t2=some .string)->(if P.bytesOf ek.1=0 then none else some (.app ek.2 (P.bytesOf ek.1) x y))=some io->o.wpIn (FR ro) nf P a w next Q:=by
      intro hu2 hd;split at hd
      ·cases hd
      ·rename_i hb0;cases hd;obtain⟨i1,i2⟩:=hid rfl;simp only[qaa]at h;obtain⟨ur,w',e1,e2⟩:=qrv (P:=P) hH hS hB i1 i2 ht ht2 hu hk hu2 hz hb0 o.type hxp hyq h;refine qaV hnd ?_ (hp.of_leaves e2);simp only[execOp,hop,resolve,hcal,Sem.run_bind,Sem.run_pure,Result.andThen_ok,invoke,builtin,hargs,hpq,zzu,List.map_nil,e1]
     split at hd
     ·exact app (.inl ⟨_,by assumption⟩) hd
     ·exact app (.inr (by assumption)) hd
     ·cases hd
    ·cases hd
   ·
    split at hd
    ·cases hd
    ·cases hd;simp only[qaa]at h;exact qAW hnd hop hcal (.inl ⟨rfl,rfl⟩) hargs (by simp[r1]) r2 hH hS h hp
   ·
    split at hd
    ·cases hd
    ·cases hd;simp only[qaa]at h;exact qAW hnd hop hcal (.inr ⟨rfl,rfl⟩) hargs (by simp[r1]) r2 hH hS h hp
   ·cases hd
  ·cases hd
 |ready g=>simp[qaS,hop]at hd
 |waits g=>simp[qaS,hop]at hd
 |sliceToArrayPointer d x=>simp[qaS,hop]at hd
 |makeInterface t x=>
  simp only[qaS,hop]at hd;split at hd
  ·cases hd
  ·rename_i hni;obtain⟨k,hk,hd⟩:=zza.1 hd;obtain⟨r,hr,hd⟩:=zza.1 hd;cases hd;simp only[qaa]at h;split at h
   ·rename_i y os hpu;simp only[zzb,zzc]at h;obtain⟨rfl,rfl⟩:=h;have hu:∃d,P.underlying t=some d:=by
     cases hq:P.underlying t with
     |none=>simp[kq,hq]at hk
     |some d=>exact⟨d,rfl⟩
    obtain⟨d,hu⟩:=hu;exact qOg hnd hop hu (λms hd=>hni ms (by rw[hu,hd])) (R hr) hH hS hpu hp
   ·simp only[zzb,zzc]at h;obtain⟨rfl,rfl⟩:=h;have hu:∃d,P.underlying t=some d:=by
     cases hq:P.underlying t with
     |none=>simp[kq,hq]at hk
     |some d=>exact⟨d,rfl⟩
    obtain⟨d,hu⟩:=hu;exact qOh hnd hop hu (λms hd=>hni ms (by rw[hu,hd])) (R hr) hH hS hp
 |makeMap t r=>
  cases r with
  |some r=>simp[qaS,hop]at hd
  |none=>simp only[qaS,hop]at hd;obtain⟨m,hm,hd⟩:=zza.1 hd;cases hd;simp only[qaa,zzb,zzc]at h;obtain⟨rfl,rfl⟩:=h;exact qOi hnd hop hH hS hB (hid rfl) hp
 |makeChan t s=>simp[qaS,hop]at hd
 |lookup t x i b=>
  simp only[qaS,hop]at hd;obtain⟨m,hm,hd⟩:=zza.1 hd;obtain⟨rx,hrx,hd⟩:=zza.1 hd;obtain⟨ri,hri,hd⟩:=zza.1 hd;obtain⟨z,hz,hd⟩:=zza.1 hd;cases hd;obtain⟨d,hu,hkt,hky⟩:=qAk hm;have h1:=R hrx;have h2:=R hri;simp only[qaa]at h;split at h
  ·rename_i k oo hk ho;rw[ho]at h1;rw[hk]at h2;split at h
   ·rename_i hok;split at h
    ·rename_i es hes;split at h
     ·rename_i r hr;simp only[zzb,zzc]at h;obtain⟨rfl,rfl⟩:=h;exact qOf hnd hop hu hz (λ_ _=>qzz hkt hky hok) h1 h2 hes hH hS hr hp
     ·cases h
    ·cases h
   ·cases h
  ·cases h
 |insert t x i y=>simp only[qaS,hop]at hd;exact mset (.inr hop) hd
 |mapUpdate t x i y=>simp only[qaS,hop]at hd;exact mset (.inl hop) hd
 |mapEntry t m k=>simp[qaS,hop]at hd
 |entryStore t m s x=>simp[qaS,hop]at hd
 |range t x=>
  simp only[qaS,hop]at hd;split at hd
  ·rename_i hu;obtain⟨r,hr,hd⟩:=zza.1 hd;cases hd;have h1:=R hr;simp only[qaa]at h;split at h
   ·rename_i l hl;rw[hl]at h1;simp only[zzb,zzc]at h;obtain⟨rfl,rfl⟩:=h;exact qOl hnd hop hu h1 hH hS hB (hid rfl) hp
   ·cases h
  ·cases hd
 |next it b=>
  cases b with
  |false=>simp[qaS,hop]at hd
  |true=>
   simp only[qaS,hop]at hd;obtain⟨r,hr,hd⟩:=zza.1 hd;cases hd;have h1:=R hr;simp only[qaa]at h;split at h
   ·rename_i oo ho;rw[ho]at h1;split at h
    ·rename_i l pos hes;exact qOk hnd hop h1 hes hH hS h hp
    ·cases h
   ·cases h
 |entry it=>simp[qaS,hop]at hd
 |typeAssert x s t ok=>
  simp only[qaS,hop]at hd;split at hd
  ·cases hd
  ·rename_i d hni hu;obtain⟨r,hr,hd⟩:=zza.1 hd;obtain⟨z,hz,hd⟩:=zza.1 hd;cases hd;simp only[qaa]at h;exact qOm hnd hop hu (λms hd=>hni ms hd) hz h (R hr) hH hS hp
  ·cases hd
 |go c=>simp[qaS,hop]at hd
 |defer c=>exact absurd hop (hnd c)
 |panic x=>simp[qaS,hop]at hd
 |send c x=>simp[qaS,hop]at hd
 |recv t c b=>simp[qaS,hop]at hd
 |select cs b=>simp[qaS,hop]at hd
end
def qdu(t:Nat)(v:PV)(t':Nat):∀fr:Fr,(fr.set t v).get t'=if t'=t then v else fr.get t'
 |[]=>by simp only[Fr.set,Fr.get];split<;>split<;>simp_all
 | (j,x)::r=>by
  simp only[Fr.set];split
  ·rename_i h;subst h;simp only[Fr.get];split
   ·rename_i h;subst h;simp
   ·rename_i h;rw[if_neg (λe=>h e.symm)]
  ·split
   ·by_cases h:t=t'
    ·subst h;simp[Fr.get]
    ·rw[if_neg (λe=>h e.symm)];simp only[Fr.get,h,if_false]
   ·rename_i h1 h2;simp only[Fr.get];split
    ·rename_i h;subst h;rw[if_neg h1]
    ·exact qdu t v t' r
def qpe(l:CF)(t:Nat):∀fr:Fr,(fr.drop l).get t=if l.contains t&&Nat.blt t gh then .u else fr.get t
 |[]=>by simp[Fr.drop,Fr.get]
 | (j,x)::r=>by
  simp only[Fr.drop];split
  ·rename_i hc;rw[qpe l t r];by_cases hj:j=t
   ·subst hj;rw[if_pos hc,if_pos hc]
   ·simp[Fr.get,hj]
  ·rename_i hc;simp only[Fr.get];split
   ·rename_i hj;subst hj;rw[if_neg hc]
   ·exact qpe l t r
def qsv(l:CF)(t:Nat)(fr:Fr):(fr.drop l).get t=fr.get t\/(fr.drop l).get t=.u:=by
 rw[qpe];split
 ·exact .inr rfl
 ·exact .inl rfl
def qsw(l:CF){t:Nat}(h:gh<=t)(fr:Fr):(fr.drop l).get t=fr.get t:=by
 rw[qpe];have:Nat.blt t gh=false:=by
  cases hb:Nat.blt t gh with
  |false=>rfl
  |true=>rw[Nat.blt_eq]at hb;omega
 simp[this]
def qpf(l:CF)(t:Nat):∀fr:Fr,(fr.keep l).get t=if l.contains t||Nat.ble gh t then fr.get t else .u
 |[]=>by simp[Fr.keep,Fr.get]
 | (j,x)::r=>by
  simp only[Fr.keep];split
  ·rename_i hc;simp only[Fr.get];split
   ·rename_i hj;subst hj;rw[if_pos hc]
   ·exact qpf l t r
  ·rename_i hc;rw[qpf l t r];by_cases hj:j=t
   ·subst hj;rw[if_neg hc,if_neg hc]
   ·simp[Fr.get,hj]
def qGp(l:CF)(t:Nat)(fr:Fr):(fr.keep l).get t=fr.get t\/(fr.keep l).get t=.u:=by
 rw[qpf];split
 ·exact .inl rfl
 ·exact .inr rfl
def qGq(l:CF){t:Nat}(h:gh<=t)(fr:Fr):(fr.keep l).get t=fr.get t:=by
 rw[qpf];have:Nat.ble gh t=true:=by rw[Nat.ble_eq];exact h
 simp[this]
def qpg(ρ:Nat->CK Nat)(t:Nat):∀fr:Fr,(fr.ren ρ).get t=(fr.get t).ren ρ
 |[]=>rfl
 | (j,x)::r=>by
  simp only[Fr.ren,Fr.get];split
  ·rfl
  ·exact qpg ρ t r
def qAS:∀(args:Cz) (j:Nat),∀p∈Fr.Aa j args,j<=p.1
 |[],j,p,h=>by cases h
 |v::r,j,p,h=>by
  simp only[Fr.Aa]at h;rcases zzB.1 h with h|h
  ·have:=qAS r (j+1) p h;omega
  ·rw[zzH.1 h];exact zzt _
def qym{t:Nat}{b:Fr}:∀{a:Fr},(∀p∈a,p.1≠t)->Fr.get (a++b) t=Fr.get b t
 |[],_=>rfl
 | (j,x)::r,h=>by simp only[List.cons_append,Fr.get];rw[if_neg (h (j,x) (zzr ..))];exact qym λp hp=>h p (zzi _ hp)
def qyn{t j:Nat}{v:PV}(h:¬j=t):∀{a:Fr},Fr.get (a++[(j,v)]) t=Fr.get a t
 |[]=>by simp[Fr.get,h]
 | (i,x)::r=>by simp only[List.cons_append,Fr.get];rw[qyn h]
def qsx(t:Nat):∀(args:Cz) (j:Nat),(Fr.Aa j args).get t=if j<=t then args.getD (t-j) .u else .u
 |[],j=>by simp[Fr.Aa,Fr.get]
 |v::r,j=>by
  simp only[Fr.Aa];by_cases h:j=t
  ·subst h;rw[qym (λp hp e=>by have:=qAS r (j+1) p hp;omega)];simp[Fr.get]
  ·rw[qyn h,qsx t r (j+1)];by_cases hj:j<=t
   ·rw[if_pos hj,if_pos (by omega)];have:t-j=(t-(j+1))+1:=by omega
    rw[this];rfl
   ·rw[if_neg hj,if_neg (by omega)]
def qoU{E:Env}{ρ:Ab->PV}{H:CW}{x:IOp}(h:x.adds=false)(i j:Nat):qaa E ρ H i x=qaa E ρ H j x:=by
 cases x with
 |call m f args=>
  match m with
  |0=>rfl
  |1=>simp[IOp.adds]at h
  |m+2=>rfl
 |alloc=>simp[IOp.adds]at h
 |box=>simp[IOp.adds]at h
 |bsl=>simp[IOp.adds]at h
 |app=>simp[IOp.adds]at h
 |mksl=>simp[IOp.adds]at h
 |Bz=>simp[IOp.adds]at h
 |rngS=>simp[IOp.adds]at h
 |_=>rfl
section
variable {P:CV}{N:Names}{C:Cx}{w:CU}{S:qad}{β:Pl}{B:Nat}{H:CW}{a:Act}{E:Env}{ro:CK Nat}{nf:Nat}
def DRel(C:Cx)(w:CU)(S:qad)(β:Pl)(x:PV)(d:Deferred):Prop:=match x with
 |.g (.h o)=>∃r,d={ target:=.collected r,args := #[] }/\(β o=.sp r .defer\/β o=.dead)
 |.g (.f n caps)=>∃us:CL CP,d={ target:=.fn (.func (C.μ n)) us.toArray,args := #[] }/\caps.length=us.length/\∀j (h:j<caps.length) (h':j<us.length),Ac C w S β caps[j] us[j]
 |.g .u=>True
 |_=>False
def DfRel(C:Cx)(w:CU)(S:qad)(β:Pl)(fr:Fr)(ds:CL Deferred):Prop:=
 ∃sl:CF,sl.Nodup/\(∀t,t∈sl->gh<=t)/\(∀t,gh<=t->fr.get t≠.u->t∈sl)/\sl.length=ds.length/\∀j (h:j<sl.length) (h':j<ds.length),DRel C w S β (fr.get sl[j]) ds[j]
def DRel.ext{w':CU}{S':qad}{β':Pl}{x:PV}{d:Deferred}(h:DRel C w S β x d)(e:Ext B w S w' S')(hb:Later β β'):DRel C w' S' β' x d:=by
 unfold DRel at *
 split at h
 ·obtain⟨r,h1,h2⟩:=h;refine⟨r,h1,?_⟩;rename_i o;rcases hb o with h3|h3|h3
  ·rw[h3];exact h2
  ·exact .inr h3
  ·rcases h2 with h2|h2<;>rw[h3]at h2<;>cases h2
 ·obtain⟨us,h1,h2,h3⟩:=h;exact⟨us,h1,h2,λj hj hj'=>(h3 j hj hj').ext e hb⟩
 ·trivial
 ·exact h.elim
def DfRel.ext{w':CU}{S':qad}{β':Pl}{fr:Fr}{ds:CL Deferred}(h:DfRel C w S β fr ds)(e:Ext B w S w' S')(hb:Later β β'):DfRel C w' S' β' fr ds:=by obtain⟨sl,h1,h2,h3,h4,h5⟩:=h;exact⟨sl,h1,h2,h3,h4,λj hj hj'=>(h5 j hj hj').ext e hb⟩
def DfRel.frame{fr fr':Fr}{ds:CL Deferred}(h:DfRel C w S β fr ds)(he:∀t,gh<=t->fr'.get t=fr.get t):DfRel C w S β fr' ds:=by obtain⟨sl,h1,h2,h3,h4,h5⟩:=h;refine⟨sl,h1,h2,λt ht hn=>h3 t ht (by rw[<-he t ht];exact hn),h4,λj hj hj'=>?_⟩;rw[he _ (h2 _ (zzs hj))];exact h5 j hj hj'
def DfRel.push{fr:Fr}{ds:CL Deferred}(h:DfRel C w S β fr ds){t:Nat}(ht:gh<=t)(hu:fr.get t=.u){x:PV}{d:Deferred}(hx:DRel C w S β x d):DfRel C w S β (fr.set t x) (d::ds):=by
 obtain⟨sl,h1,h2,h3,h4,h5⟩:=h;have hnt:∀j (hj:j<sl.length),sl[j]≠t:=λj hj hq=>by have:=h5 j hj (by omega);rw[hq,hu]at this;exact this
 have hn:t∉sl:=λhm=>by obtain⟨j,hj,hq⟩:=zzO hm;exact hnt j hj hq
 refine⟨t::sl,List.nodup_cons.2 ⟨hn,h1⟩,?_,?_,by simp[h4],?_⟩
 ·intro t' hm;rcases List.mem_cons.1 hm with rfl|hm
  ·exact ht
  ·exact h2 t' hm
 ·intro t' h6 h7;rw[qdu]at h7;split at h7
  ·rename_i hq;subst hq;exact zzr ..
  ·exact zzi _ (h3 t' h6 h7)
 ·intro j hj hj';cases j with
  |zero=>rw[qdu];simpa using hx
  |succ j=>simp only[zzG];rw[qdu,if_neg (hnt j (by simpa using hj))];exact h5 j _ _
structure Inv (P:Program) (N:Names) (C:Cx) (E:Env) (B base nt:Nat) (s:St) (a:Act) (w:World) (S:qad) (β:Pl):Prop where
 swf:Swf w S
 gok:GOK N E.G w S
 hB:B<=w.heap.size
 hok:HOK C B w S β s.H
 fok:FOK C w S β s.fr a
 size:a.tmps.size=nt
 defers:DfRel C w S β s.fr a.defers
 yok:∃yb,yb<=base/\YOK P C N E.G E.yld B w S β yb
 base:base<=s.H.length
def FOK.ext{w':CU}{S':qad}{β':Pl}{fr:Fr}(h:FOK C w S β fr a)(e:Ext B w S w' S')(hb:Later β β'):FOK C w' S' β' fr a:=λt=>(h t).ext e hb
def FOK.put{fr:Fr}(h:FOK C w S β fr a){d:Nat}(hd:d<a.tmps.size){v:PV}{u:CP}(hv:Ac C w S β v u):FOK C w S β (fr.set d v) (a.put (some d) u):=by
 intro t;rw[qdu];simp only[Act.put,zzx];split
 ·rename_i ht;subst ht;simpa[hd]using hv
 ·rename_i ht;rw[Array.getElem?_setIfInBounds_ne (λe=>ht e.symm)];have:=h t;simpa[zzx]using this
def qmZ(hH:HOK C B w S β H)(n:Nat):HOK C B w S β (H++List.replicate n none):=by
 have hobj:∀o,o<H.length->Heap.obj (H++List.replicate n none) o=H.obj o:=by intro o ho;simp[Heap.obj,List.getElem?_append_left ho]
 have hlt:∀o,β o≠.pend->o<H.length:=λo h=>by
  rcases Nat.lt_or_ge o H.length with h1|h1
  ·exact h1
  ·exact absurd (hH.out o h1) h
 refine⟨?_,?_,?_,hH.inj,?_,λo blk x h=>?_,hH.spi⟩
 rotate_left 4
 ·rw[hobj o (hlt o (by rw[h];simp))];exact hH.sp o blk x h
 ·intro o blk base k h;rw[hobj o (hlt o (by rw[h];simp))];exact hH.live o blk base k h
 ·intro o h;rw[hobj o (hlt o (by rw[h];simp))];exact hH.dead o h
 ·intro o h;rw[hobj o (hlt o (by rw[h];simp))];exact hH.Bq o h
 ·intro o h;rw[zzp]at h;exact hH.out o (by omega)
def qr4(o:Oper)(all:Array Oper)(h:qb7 o.op=false):(qau P N all o).dst=o.dst:=by
 unfold qau;split
 ·simp[h]
 ·rfl
def qOn(hO:OrOK P C N E)(hN:NOK P N C E.G){ops:Array Oper}{Q:Exit->Act->CU->Prop}{base nt:Nat}(hng:nt<=gh)(hro:ro=none\/∀o∈ops.toList,qb7 o.op=false)(hdst:∀o∈ops.toList,∀d,o.dst=some d->d<nt):∀(m k id R:Nat) (s s':St) (a:Act) (w:CU) (S:qad) (β:Pl),k+m=ops.size->
  qaF E ((ops.toList.drop k).map (qau P N ops)) id s=some s'->Inv P N C E B base nt s a w S β->(∀j,id<=j->j<R->β j=.pend)->id+qar ((ops.toList.drop k).map (qau P N ops))<=R->R<=s.H.length->base<=id->
  (∀a' w' S' β',Inv P N C E B base nt s' a' w' S' β'->Ext B w S w' S'->Lb base β β'->Q .normal a' w')->wpOpsIn (FR ro) nf P ops Q (List.range' k m) a w:=by
 intro m;induction m with
 |zero=>
  intro k id R s s' a w S β hk he hI _ _ _ _ hQ;have:ops.toList.drop k=[]:=by rw[List.drop_eq_nil_iff];simp;omega
  rw[this]at he;simp only[List.map_nil,qaF,zzb]at he;subst he;exact hQ a w S β hI (Ext.refl _ _ _) (Lb.refl _ _)
 |succ m ih=>
  intro k id R s s' a w S β hk he hI hpend hroom hR hbase hQ;have hks:k<ops.size:=by omega
  have hdrop:ops.toList.drop k=ops[k]::ops.toList.drop (k+1):=by rw[zzz (by simpa using hks)];simp
  rw[hdrop]at he hroom;simp only[zzu]at he hroom;have hget:ops[k]? = some ops[k]:=by simp[hks]
  rw[List.range'_succ];simp only[wpOpsIn,hget];have hmem:ops[k]∈ops.toList:=by simp
  generalize hok:ops[k]=o at *
  have hdo:=hdst o hmem;obtain⟨yb,hyb,hyok⟩:=hI.yok;cases hdf:qb7 o.op with
  |true=>
   have hro':ro=none:=by
    rcases hro with h|h
    ·exact h
    ·have:=h o hmem;rw[hdf]at this;cases this
   subst hro';cases hop:o.op<;>(rw[hop]at hdf;try (cases hdf;done))
   rename_i c;cases hx:qaS P N o with
   |none=>
    have:qau P N ops o=⟨o.dst,.bad,none⟩:=by unfold qau;rw[hx]
    rw[this]at he;simp[qaF,qaa]at he
   |some x=>
    cases hg:qeq ops o.guard with
    |none=>
     have:qau P N ops o=⟨o.dst,.bad,none⟩:=by unfold qau;rw[hx,hg]
     rw[this]at he;simp[qaF,qaa]at he
    |some g=>
     cases hgn:g with
     |some gg=>
      have:qau P N ops o=⟨o.dst,.bad,none⟩:=by unfold qau;rw[hx,hg];simp[hop,qb7,hgn]
      rw[this]at he;simp[qaF,qaa]at he
     |none=>
      cases hod:o.dst with
      |some d=>
       have:qau P N ops o=⟨o.dst,.bad,none⟩:=by unfold qau;rw[hx,hg];simp[hop,qb7,hgn,hod]
       rw[this]at he;simp[qaF,qaa]at he
      |none=>
      have hdg:qau P N ops o=⟨some gh,x,none⟩:=by unfold qau;rw[hx,hg];simp[hop,qb7,hgn,hod]
      rw[hdg]at he hroom;have hguard:o.guard=none:=by
       subst hgn;cases hq:o.guard with
       |none=>rfl
       |some gw=>obtain⟨j,want⟩:=gw;rw[hq]at hg;simp only[qeq]at hg;obtain⟨t,-,hg⟩:=zza.1 hg;cases hg
      have hw:Region.wanted o (yielded ops a.tmps)=true:=by simp[Region.wanted,hguard]
      rw[if_pos hw];simp only[qaS,hop]at hx;split at hx
      ·rename_i t hcal;split at hx
       ·rename_i hargs;cases hx;simp only[qaF,qaa]at he;split at he
        ·rename_i v H' hev;split at hev
         ·rename_i n caps h1 h2;simp only[zzb,zzc]at hev;obtain⟨rfl,rfl⟩:=hev;have h1':s.fr.get t=.f n caps:=h1;have h2':s.fr.get gh=.u:=h2;have hfx:=hI.fok t;rw[h1']at hfx;obtain⟨us,q1,q2,q3⟩:=qsq hfx;have ha0:c.args = #[]:=by simpa using hargs
          refine⟨λ_ _=>trivial,?_⟩;have hrun:(o.semAt (FR none).round a.eval).run P w=.ok (.defer { target:=.fn (.func (C.μ n)) us.toArray,args := #[] }) w:=by have hev:a.eval (.tmp t)=.func (.func (C.μ n)) #[] us.toArray:=q1;unfold Oper.semAt;rw[hop];simp[FR,Fence.wide,execOp,hop,resolve,hcal,hev,Deferred.ofValue,ha0]
          rw[hrun];show wpOpsIn _ _ _ _ _ _ ({ a with defers:=_::a.defers }.put o.dst undef) w;have hnd:qar (⟨some gh,.dfr (.t t) (.t gh),none⟩::(ops.toList.drop (k+1)).map (qau P N ops))=qar ((ops.toList.drop (k+1)).map (qau P N ops)):=by simp[qar,IOp.adds]
          rw[hnd]at hroom;refine ih (k+1) id R _ s' _ w S β (by omega) (by simpa[IOp.adds]using he) ?_ hpend hroom (by simpa using hR) hbase hQ;refine⟨hI.swf,hI.gok,hI.hB,hI.hok,?_,?_,?_,hI.yok,hI.base⟩
          ·rw[hod];intro t';show Ac C w S β ((s.fr.set gh (.g (.f n caps))).get t') _;rw[qdu];split
           ·exact .g _ _
           ·exact hI.fok t'
          ·rw[hod];exact hI.size
          ·rw[hod];exact hI.defers.push (zzt gh) h2' (x:=.g (.f n caps)) (d:={ target:=.fn (.func (C.μ n)) us.toArray,args := #[] }) ⟨us,rfl,q2,q3⟩
         ·cases hev
        ·cases he
       ·cases hx
      ·cases hx
  |false=>
  have hnd:∀c,o.op≠.defer c:=λc h=>by rw[h]at hdf;cases hdf
  have hdig:(∃x g,qaS P N o=some x/\qeq ops o.guard=some g/\qau P N ops o=⟨o.dst,x,g⟩)\/qau P N ops o=⟨o.dst,.bad,none⟩:=by
   unfold qau;split
   ·exact .inl ⟨_,_,by assumption,by assumption,by simp[hdf]⟩
   ·exact .inr rfl
  rcases hdig with ⟨x,g,hx,hg,hdo'⟩|hbad
  ·rw[hdo']at he hroom;have hput:∀(v:PV) (H':CW) (u:CP) (w':CU) (S':qad) (β':Pl),Ext B w S w' S'->Swf w' S'->HOK C B w' S' β' H'->Later β β'->Ac C w' S' β' v u->s.H.length<=H'.length->
     Lb base β β'->Inv P N C E B base nt ⟨match o.dst with|some t=>s.fr.set t v|none=>s.fr,H'⟩ (a.put o.dst u) w' S' β':=by
    intro v H' u w' S' β' e1 e2 e3 e4 e5 e6 e7;refine⟨e2,hI.gok.ext e1,zzL hI.hB e1.below.size,e3,?_,?_,?_,⟨yb,hyb,hyok.later e1 (e7.mono hyb)⟩,zzL hI.base e6⟩
    ·cases hd:o.dst with
     |none=>exact hI.fok.ext e1 e4
     |some d=>exact (hI.fok.ext e1 e4).put (by rw[hI.size];exact hdo d hd) e5
    ·cases hd:o.dst with
     |none=>exact hI.size
     |some d=>simp[Act.put,hI.size]
    ·cases hd:o.dst with
     |none=>exact hI.defers.ext e1 e4
     |some d=>refine (hI.defers.ext e1 e4).frame λt ht=>?_;have hlt:=Nat.lt_of_lt_of_le (hdo d hd) (zzL hng ht);show (s.fr.set d v).get t=_;rw[qdu,if_neg (λh=>Nat.lt_irrefl _ (h▸hlt))]
   have hadds:qar (⟨o.dst,x,g⟩::(ops.toList.drop (k+1)).map (qau P N ops))=(if x.adds then 1 else 0)+qar ((ops.toList.drop (k+1)).map (qau P N ops)):=rfl;rw[hadds]at hroom;have go:(match qaa E (rd E s.fr) s.H id x with
     |some (v,H)=>qaF E ((ops.toList.drop (k+1)).map (qau P N ops)) (if x.adds then id+1 else id) ⟨match o.dst with|some t=>s.fr.set t v|none=>s.fr,H⟩
     |none=>none)=some s'->o.wpIn (FR ro) nf P a w (wpOpsIn (FR ro) nf P ops Q (List.range' (k+1) m)) Q:=by
    intro he;split at he
    ·rename_i v H' hev;have hev':qaa E (rd E s.fr) s.H (if x.adds then id else s.H.length) x=some (v,H'):=by
      cases ha:x.adds with
      |true=>exact hev
      |false=>rw[<-hev];exact qoU ha _ _
     refine qtJ hO hN hI.gok hI.swf hI.hB hI.hok hI.fok hnd hyok (zzL hyb hI.base) hx ?_ hev' ?_
     ·intro hadd;rw[if_pos hadd]at hroom⊢;exact⟨hpend id (zzt _) (by omega),by omega⟩
     ·intro u w' S' β' e1 e2 e3 e4 e5 e6 e7;have hlb:Lb base β β':=by intro o' ho';have:=hI.base;exact⟨e4 o',λhp=>e7 o' (by omega) (by split<;>omega) hp⟩
      refine ih (k+1) _ R _ s' _ w' S' β' (by omega) he (hput v H' u w' S' β' e1 e2 e3 e4 e5 e6 hlb) ?_ ?_ (by simp only;omega) ?_ ?_
      ·intro j hj hj';split at hj
       ·rename_i ha;rw[if_pos ha]at e7;exact e7 j (by omega) (by omega) (hpend j (by omega) hj')
       ·rename_i ha;rw[if_neg ha]at e7;exact e7 j (by omega) (by omega) (hpend j (by omega) hj')
      ·split at hroom
       ·rename_i ha;rw[if_pos ha];omega
       ·rename_i ha;rw[if_neg ha];omega
      ·split<;>omega
      ·intro a' w'' S'' β'' hI' e8 e9;exact hQ a' w'' S'' β'' hI' (e1.trans e8) (hlb.trans e9)
    ·cases he
   have no:qaF E ((ops.toList.drop (k+1)).map (qau P N ops)) (if x.adds then id+1 else id) ⟨match o.dst with|some t=>s.fr.set t (.t [])|none=>s.fr,s.H⟩=some s'->wpOpsIn (FR ro) nf P ops Q (List.range' (k+1) m) (a.put o.dst undef) w:=by
    intro he;refine ih (k+1) _ R _ s' _ w S β (by omega) he (hput (.t []) s.H undef w S β (Ext.refl _ _ _) hI.swf hI.hok (Later.refl _) (.t [] [] rfl (λj h=>absurd h (zzm _))) (zzt _) (Lb.refl _ _)) ?_ ?_ hR ?_ hQ
    ·intro j hj hj';exact hpend j (by split at hj<;>omega) hj'
    ·split at hroom
     ·rename_i ha;rw[if_pos ha];omega
     ·rename_i ha;rw[if_neg ha];omega
    ·split<;>omega
   simp only[qaF]at he;cases hgo:o.guard with
   |none=>
    rw[hgo]at hg;simp only[qeq,zzb]at hg;subst hg;have hw:Region.wanted o (yielded ops a.tmps)=true:=by simp[Region.wanted,hgo]
    rw[if_pos hw];exact go he
   |some gw=>
    obtain⟨j,want⟩:=gw;rw[hgo]at hg;simp only[qeq]at hg;obtain⟨t,ht,hg⟩:=zza.1 hg;cases hg;simp only at he;have hyt:=hI.fok t;have hy:yielded ops a.tmps j=match a.tmps[t]? with|some (.bool b)=>some b|_=>none:=by unfold yielded;rw[ht];rfl
    split at he
    ·rename_i b hb;rw[hb]at hyt;have:=qhU hyt;have hyb:yielded ops a.tmps j=some b:=by
      rw[hy];rw[zzx]at this;cases hq:a.tmps[t]? with
      |none=>rw[hq]at this;cases this
      |some z=>rw[hq]at this;simp at this;subst this;rfl
     have hwd:Region.wanted o (yielded ops a.tmps)=(b==want):=by simp only[Region.wanted,hgo,hyb];cases b<;>cases want<;>rfl
     rw[hwd];split at he
     ·rename_i hbw;rw[if_pos hbw];exact go he
     ·rename_i hbw;rw[if_neg hbw];exact⟨λ_ _=>trivial,no he⟩
    ·rename_i hb;rw[hb]at hyt;have hyb:yielded ops a.tmps j=none:=by
      rw[hy];rw[zzx]at hyt;cases hq:a.tmps[t]? with
      |none=>rfl
      |some z=>rw[hq]at hyt;simp only[zzA]at hyt;cases hyt;rfl
     have hwd:Region.wanted o (yielded ops a.tmps)=false:=by simp only[Region.wanted,hgo,hyb];rfl
     rw[hwd];simp only[zzg,if_false];exact⟨λ_ _=>trivial,no he⟩
    ·cases he
  ·rw[hbad]at he;simp[qaF,qaa]at he
end
def qrz(acc:CF):∀(es:CL Edge) (i:Nat),(qfG acc es).testBit i=true->∃e∈es,Region.binds .any e=true/\(i=e.on\/(acc.getD e.on 0).testBit i=true)
 |[],i,h=>by simp[qfG]at h
 |e::es,i,h=>by
  unfold qfG at h;split at h
  ·rename_i hb;rw[Nat.testBit_or,Nat.testBit_or,Bool.or_eq_true,Bool.or_eq_true]at h;rcases h with h|h|h
   ·refine⟨e,zzr ..,hb,.inl ?_⟩;rw[Nat.testBit_two_pow]at h;have:e.on=i:=by simpa using h
    exact this.symm
   ·exact⟨e,zzr ..,hb,.inr h⟩
   ·obtain⟨e',h1,h2⟩:=qrz acc es i h;exact⟨e',zzi _ h1,h2⟩
  ·obtain⟨e',h1,h2⟩:=qrz acc es i h;exact⟨e',zzi _ h1,h2⟩
def qwE:∀(ops:CL Oper) (acc:CF),(bef ops acc).length=acc.length+ops.length/\(∀j,j<acc.length->(bef ops acc)[j]? = acc[j]?)/\
  ∀j (h:j<ops.length),∃acc':CF,acc'.length=acc.length+j/\(∀i,i<acc'.length->acc'[i]? = (bef ops acc)[i]?)/\(bef ops acc)[acc.length+j]? = some (qfG acc' (ops[j].after.toList))
 |[],acc=>⟨by simp[bef],λ_ _=>rfl,λj h=>absurd h (zzm _)⟩
 |o::r,acc=>by
  obtain⟨h1,h2,h3⟩:=qwE r (acc++[qfG acc o.after.toList]);have hl:(acc++[qfG acc o.after.toList]).length=acc.length+1:=by simp
  refine⟨by simp only[bef,h1,hl,zzn];omega,?_,?_⟩
  ·intro j hj;simp only[bef];rw[h2 j (by rw[hl];omega),List.getElem?_append_left hj]
  ·intro j hj;cases j with
   |zero=>
    refine⟨acc,by simp,?_,?_⟩
    ·intro i hi;simp only[bef];rw[h2 i (by rw[hl];omega),List.getElem?_append_left hi]
    ·simp only[bef,Nat.add_zero,List.getElem_cons_zero];rw[h2 acc.length (by rw[hl];omega),List.getElem?_append_right (zzt _)];simp
   |succ j=>
    obtain⟨acc',a1,a2,a3⟩:=h3 j (by simpa using hj);refine⟨acc',by rw[a1,hl];omega,a2,?_⟩;rw[hl]at a3;simp only[bef,zzG];have e:acc.length+(j+1)=acc.length+1+j:=by omega
    rw[e];exact a3
def qrA{ops:CL Oper}{S:Nat->Prop}(hS:∀j (h:j<ops.length),S j->∀e∈ops[j].after.toList,Region.binds .any e=true->S e.on) :
  ∀(j:Nat) (h:j<ops.length),(∀e∈ops[j].after.toList,Region.binds .any e=true->S e.on)->∀i,((bef ops []).getD j 0).testBit i=true->S i:=by
 intro j;induction j using Nat.strongRecOn with
 |ind j ih=>
  intro hj hpre i hi;obtain⟨acc',a1,a2,a3⟩:=(qwE ops []).2.2 j hj;simp only[List.length_nil,Nat.zero_add]at a1 a3;rw[List.getD,a3,zzA]at hi;obtain⟨e,e1,e2,e3⟩:=qrz _ _ _ hi;rcases e3 with rfl|e3
  ·exact hpre e e1 e2
  ·have hlt:e.on<acc'.length:=by
    rcases Nat.lt_or_ge e.on acc'.length with h|h
    ·exact h
    ·rw[List.getD,List.getElem?_eq_none h]at e3;simp at e3
   have e4:(bef ops []).getD e.on 0=acc'.getD e.on 0:=by rw[List.getD,List.getD,a2 _ hlt]
   rw[<-e4]at e3;have hjl:e.on<j:=by omega
   exact ih e.on hjl (by omega) (hS e.on (by omega) (hpre e e1 e2)) i e3
section
variable {E:Env}{H H2:CW}
def qt9{fr fr':Fr}{r:Ab}(h:∀t∈r.uses,fr.get t=fr'.get t):rd E fr r=rd E fr' r:=by
 cases r with
 |t n=>exact h n (by simp[Ab.uses])
 |_=>rfl
def qBE{fr fr':Fr}:∀{rs:CL Ab},(∀t∈qbk rs,fr.get t=fr'.get t)->rs.map (rd E fr)=rs.map (rd E fr')
 |[],_=>rfl
 |r::rs,h=>by simp only[qbk,List.flatMap_cons,zzB]at h;rw[zzu,zzu,qt9 (λt ht=>h t (.inl ht)),qBE (rs:=rs) (λt ht=>h t (.inr ht))]
def qOZ{fr fr':Fr}{r:CK Ab}(h:∀t∈qjK r,fr.get t=fr'.get t):r.map (rd E fr)=r.map (rd E fr'):=by
 cases r with
 |none=>rfl
 |some r=>simp only[Option.map_some];rw[qt9 h]
def qtH{fr fr':Fr}{id:Nat}{x:IOp}(h:∀t∈x.uses,fr.get t=fr'.get t):qaa E (rd E fr) H id x=qaa E (rd E fr') H id x/\x.okD (rd E fr)=x.okD (rd E fr')/\qas (rd E fr) x=qas (rd E fr') x/\qaP (rd E fr) x=qaP (rd E fr') x:=by
 have h1:∀r:Ab,(∀t∈r.uses,t∈x.uses)->rd E fr r=rd E fr' r:=λr hr=>qt9 λt ht=>h t (hr t ht);have hL:∀rs:CL Ab,(∀t∈qbk rs,t∈x.uses)->rs.map (rd E fr)=rs.map (rd E fr'):=λrs hr=>qBE λt ht=>h t (hr t ht);have hF:∀rs:CL Ab,(∀t∈qbk rs,t∈x.uses)->(rs.flatMap λx=>(rd E fr x).refs)=rs.flatMap λx=>(rd E fr' x).refs:=λrs hr=>by
  have e1:∀(ρ:Ab->PV),(rs.flatMap λx=>(ρ x).refs)=(rs.map ρ).flatMap PV.refs:=λρ=>by rw[List.flatMap_map]
  rw[e1,e1,hL rs hr]
 have hO:∀r:CK Ab,(∀t∈qjK r,t∈x.uses)->r.map (rd E fr)=r.map (rd E fr'):=λr hr=>qOZ λt ht=>h t (hr t ht);cases x with
 |call m f args=>
  have e1:=hL args (λt ht=>ht);have e2:=hF args (λt ht=>ht);refine⟨?_,rfl,e2,rfl⟩;match m with
  |0=>simp only[qaa,e1]
  |1=>simp only[qaa,e1]
  |m+2=>simp only[qaa,e1]
 |BI x args=>have e1:=hL args (λt ht=>by simp[IOp.uses,ht]);have e2:=h1 x (λt ht=>by simp[IOp.uses,ht]);exact⟨by simp only[qaa,e1,e2],by simp only[IOp.okD,e1,e2],rfl,rfl⟩
 |invk tab x args=>have e1:=hL args (λt ht=>by simp[IOp.uses,ht]);have e2:=h1 x (λt ht=>by simp[IOp.uses,ht]);exact⟨by simp only[qaa,e1,e2],rfl,rfl,rfl⟩
 |bsl k z len parts=>
  have e1:parts.map (λx=>(x.1,rd E fr x.2))=parts.map (λx=>(x.1,rd E fr' x.2)):=by apply List.map_congr_left;intro p hp;rw[h1 p.2 (λt ht=>by simp only[IOp.uses,List.mem_flatMap];exact⟨p,hp,ht⟩)]
  have e2:(parts.flatMap λx=>(rd E fr x.2).refs)=parts.flatMap λx=>(rd E fr' x.2).refs:=by
   have e3:∀(ρ:Ab->PV),(parts.flatMap λx=>(ρ x.2).refs)=(parts.map λx=>(x.1,ρ x.2)).flatMap λy=>y.2.refs:=λρ=>by rw[List.flatMap_map]
   rw[e3,e3,e1]
  refine⟨?_,rfl,e2,rfl⟩;simp only[qaa,e1]
 |agg z parts=>
  have:parts.map (λx=>(x.1,x.2.1,rd E fr x.2.2))=parts.map (λx=>(x.1,x.2.1,rd E fr' x.2.2)):=by apply List.map_congr_left;intro p hp;rw[h1 p.2.2 (λt ht=>by simp only[IOp.uses,List.mem_flatMap];exact⟨p,hp,ht⟩)]
  refine⟨?_,rfl,rfl,rfl⟩;simp only[qaa,this]
 |pick c a b=>refine⟨?_,rfl,rfl,rfl⟩;simp only[qaa];rw[h1 c (λt ht=>by simp[IOp.uses,ht]),h1 a (λt ht=>by simp[IOp.uses,ht]),h1 b (λt ht=>by simp[IOp.uses,ht])]
 |mset _ c a b=>refine⟨?_,rfl,rfl,rfl⟩;simp only[qaa];rw[h1 c (λt ht=>by simp[IOp.uses,ht]),h1 a (λt ht=>by simp[IOp.uses,ht]),h1 b (λt ht=>by simp[IOp.uses,ht])]
 |mov x|box _ x|load _ x|un _ x|conv _ x|Bo _ x|field _ _ x|len _ x|ext x _|BR x|BJ _ _ x|mkif _ x|tas _ _ _ x|clr _ _ x|mlen x|rngS x|nxt x|sb x|bs x=>have e:=h1 x (λt ht=>ht);exact⟨by simp only[qaa,e],rfl,by simp only[qas,e],rfl⟩
 |store _ x y|bin _ x y|eqv _ _ x y|eqb _ x y|AJ _ x y|BM _ _ x y|idxS x y|idxA _ _ x y|mksl _ _ _ x y|app _ _ x y|copy _ x y|mget _ _ _ x y|mdel _ x y|dfr x y=>have e:=h1 x (λt ht=>by simp[IOp.uses,ht]);have e':=h1 y (λt ht=>by simp[IOp.uses,ht]);exact⟨by simp only[qaa,e,e'],rfl,by simp only[qas,e,e'],by simp only[qaP,e]⟩
 |slS x a b=>exact⟨by simp only[qaa];rw[h1 x (λt ht=>by simp[IOp.uses,ht]),hO a (λt ht=>by simp[IOp.uses,ht]),hO b (λt ht=>by simp[IOp.uses,ht])],rfl,rfl,rfl⟩
 |sl k x a b c=>have e:=h1 x (λt ht=>by simp[IOp.uses,ht]);exact⟨by simp only[qaa];rw[e,hO a (λt ht=>by simp[IOp.uses,ht]),hO b (λt ht=>by simp[IOp.uses,ht]),hO c (λt ht=>by simp[IOp.uses,ht])],rfl,by simp only[qas,e],rfl⟩
 |mkf _ cs|mkm _ cs|prim _ cs|minmax _ cs=>have e:=hL cs (λt ht=>ht);exact⟨by simp only[qaa,e],rfl,rfl,rfl⟩
 |alloc _ _=>exact⟨rfl,rfl,rfl,rfl⟩
 |Bz=>exact⟨rfl,rfl,rfl,rfl⟩
 |bad=>exact⟨rfl,rfl,rfl,rfl⟩
def qOc{fr fr':Fr}{id:Nat}{x:IOp}(h:∀t∈x.uses,fr.get t=fr'.get t):qaq E (rd E fr) H id x=qaq E (rd E fr') H id x/\qas (rd E fr) x=qas (rd E fr') x/\qaP (rd E fr) x=qaP (rd E fr') x:=by obtain⟨e1,e2,e3,e4⟩:=qtH (E:=E) (H:=H) (id:=id) h;exact⟨by unfold qaq;rw[e1,e2],e3,e4⟩
def qBl{v:PV}(h:∀o∈v.refs,H2.obj o=H.obj o):qaW H2 v=qaW H v:=by
 cases v with
 |r o k off len t=>simp only[qaW];rw[h o (by simp[PV.refs])]
 |_=>rfl
def qBm{v:PV}{x:DV}{os:CF}(h:qaW H v=some (x,os)):∀o∈os,o∈v.refs:=by
 unfold qaW at h;split at h
 ·cases h;exact λo ho=>absurd ho (zzC)
 ·split at h
  ·split at h
   ·cases h;exact λo ho=>by simpa[PV.refs]using ho
   ·cases h
  ·cases h
 ·cases h
def qBo:∀{vs:Cz},(∀o∈PV.Av vs,H2.obj o=H.obj o)->qcd H2 vs=qcd H vs
 |[],_=>rfl
 |v::vs,h=>by simp only[PV.Av,zzB]at h;simp only[qcd,qBl (λo ho=>h o (.inl ho)),qBo (λo ho=>h o (.inr ho))]
def qBp:∀{vs:Cz} {xs:Cy} {os:CF},qcd H vs=some (xs,os)->∀o∈os,o∈PV.Av vs
 |[],_,_,h=>by cases h;exact λo ho=>absurd ho (zzC)
 |v::vs,xs,os,h=>by
  simp only[qcd]at h;split at h
  ·rename_i h1 h2;cases h;intro o ho;simp only[PV.Av,zzB]at ho⊢;rcases ho with ho|ho
   ·exact .inl (qBm h1 o ho)
   ·exact .inr (qBp h2 o ho)
  ·cases h
def qny{v:PV}(h:∀o∈v.refs,H2.obj o=H.obj o):pur H2 v=pur H v:=by
 cases v with
 |a cs=>simp only[pur];rw[qBo (λo ho=>h o (by simpa[PV.refs]using ho))]
 |_=>exact qBl h
def qqe{v:PV}{x:DV}{os:CF}(h:pur H v=some (x,os)):∀o∈os,o∈v.refs:=by
 unfold pur at h;split at h
 ·split at h
  ·rename_i h1;cases h;intro o ho;simp only[PV.refs];exact qBp h1 o ho
  ·cases h
 ·exact qBm h
def qtV:∀{vs:Cz},(∀o∈vs.flatMap PV.refs,H2.obj o=H.obj o)->qaN H2 vs=qaN H vs
 |[],_=>rfl
 |v::vs,h=>by simp only[List.flatMap_cons,zzB]at h;simp only[qaN,qny (λo ho=>h o (.inl ho)),qtV (λo ho=>h o (.inr ho))]
def qtW:∀{vs:Cz} {xs:Cy} {os:CF},qaN H vs=some (xs,os)->∀o∈os,o∈vs.flatMap PV.refs
 |[],_,_,h=>by cases h;exact λo ho=>absurd ho (zzC)
 |v::vs,xs,os,h=>by
  simp only[qaN]at h;split at h
  ·rename_i h1 h2;cases h;intro o ho;simp only[List.flatMap_cons,zzB]at ho⊢;rcases ho with ho|ho
   ·exact .inl (qqe h1 o ho)
   ·exact .inr (qtW h2 o ho)
  ·cases h
def qwQ{k:K}:∀{ps:CL (Nat×PV)} {es:Cy},(∀o∈ps.flatMap (λy=>y.2.refs),H2.obj o=H.obj o)->qbN H2 k es ps=qbN H k es ps
 |[],_,_=>rfl
 | (j,v)::ps,es,h=>by simp only[List.flatMap_cons,zzB]at h;have e1:=qny (H:=H) (H2:=H2) (v:=v) (λo ho=>h o (.inl ho));unfold qbN;rw[e1];have e2:∀es',qbN H2 k es' ps=qbN H k es' ps:=λes'=>qwQ (λo ho=>h o (.inr ho));simp only[e2]
def qwR{k:K}:∀{ps:CL (Nat×PV)} {es xs:Cy} {os:CF},qbN H k es ps=some (xs,os)->∀o∈os,o∈ps.flatMap (λy=>y.2.refs)
 |[],_,_,_,h=>by simp only[qbN,zzb,zzc]at h;obtain⟨-,rfl⟩:=h;exact λo ho=>absurd ho (zzC)
 | (j,v)::ps,es,xs,os,h=>by
  unfold qbN at h;split at h
  ·split at h
   ·rename_i h1;split at h
    ·rename_i h2;cases h;intro o ho;simp only[List.flatMap_cons,zzB]at ho⊢;rcases ho with ho|ho
     ·exact .inl (qqe h1 o ho)
     ·exact .inr (qwR h2 o ho)
    ·cases h
   ·cases h
  ·cases h
def qJj{k:K}{p:PV}(h:∀o∈p.refs,H2.obj o=H.obj o):qbT H2 k p=qbT H k p:=by
 cases p with
 |p o i c=>simp only[qbT];rw[h o (by simp[PV.refs])]
 |_=>rfl
def qPU{k:K}{p:PV}{a b c:CK PV}(h:∀o∈p.refs,H2.obj o=H.obj o):slA H2 k p a b c=slA H k p a b c:=by
 cases p with
 |r o k off len t=>simp only[slA];rw[h o (by simp[PV.refs])]
 |d v=>cases v<;>rfl
 |_=>rfl
def qGR{k:K}{p i:PV}(h:∀o∈p.refs,H2.obj o=H.obj o):AJ H2 k p i=AJ H k p i:=by
 cases p with
 |r o k off len t=>simp only[AJ];rw[h o (by simp[PV.refs])]
 |d v=>cases v<;>rfl
 |_=>rfl
def qJb{s:CO}{p:PV}(h:∀o∈p.refs,H2.obj o=H.obj o):qbZ H2 s p=qbZ H s p:=by
 cases p with
 |r o k off len t=>simp only[qbZ];rw[h o (by simp[PV.refs])]
 |d v=>cases v<;>rfl
 |_=>rfl
def qiA(ρ:Ab->PV)(x:IOp)(id:Nat)(F:CW->CW):Prop:=∃os:CF,(∀o∈os,o∈qas ρ x)/\((F=λH=>frz H os)\/(∃y,x.adds=true/\F=λH=>(frz H os).put id (some y))\/(∃p y,x.adds=false/\p∈qaP ρ x/\F=λH=>(frz H os).put p (some y))\/∃p y,p∈qaP ρ x/\x.adds=true/\F=λH=>(H.put p none).put id (some y))
def qP4{k:K}{p v:PV}{H':CW}(h:qbY H k p v=some H'):∃o y os,o∈p.refs/\(∀o'∈os,o'∈v.refs)/\H'=(frz H os).put o (some y)/\∀H2,(∀o'∈p.refs++v.refs,H2.obj o'=H.obj o')->qbY H2 k p v=some ((frz H2 os).put o (some y)):=by
 cases p with
 |p o i c=>
  have hm:o∈(PV.p o i c).refs:=by simp[PV.refs]
  unfold qbY at h;simp only at h;split at h
  ·rename_i hfit;split at h
   ·rename_i kb w ho;split at h
    ·rename_i hi;split at h
     ·rename_i hck;cases h;exact⟨o,_,[],hm,λ_ h=>absurd h (zzC),rfl,λH2 hT=>by simp only[qbY,hfit,if_true,hT o (by simp[PV.refs]),ho,hi,hck];rfl⟩
     ·rename_i hck;split at h
      ·rename_i hle;split at h
       ·rename_i w' hw';cases h;exact⟨o,_,[],hm,λ_ h=>absurd h (zzC),rfl,λH2 hT=>by simp only[qbY,hfit,if_true,hT o (by simp[PV.refs]),ho,hi,hck,hle,hw'];rfl⟩
       ·cases h
      ·cases h
    ·cases h
   ·rename_i kb ro es ho;split at h
    ·rename_i e he;split at h
     ·rename_i hro;split at h
      ·rename_i x os hpur;have hos:=qqe hpur;have hp2:∀H2:CW,(∀o'∈(PV.p o i c).refs++v.refs,H2.obj o'=H.obj o')->pur H2 v=some (x,os):=λH2 hT=>by rw[qny (H:=H) (λo' ho'=>hT o' (zzB.2 (.inr ho')))];exact hpur
       split at h
       ·cases h
       ·rename_i hno;split at h
        ·rename_i hck;cases h;exact⟨o,_,os,hm,hos,rfl,λH2 hT=>by simp only[qbY,hfit,if_true,hT o (by simp[PV.refs]),ho,he,hro,hp2 H2 hT,hno,hck];rfl⟩
        ·rename_i hck;split at h
         ·rename_i hle;split at h
          ·rename_i e' he';cases h;exact⟨o,_,os,hm,hos,rfl,λH2 hT=>by simp only[qbY,hfit,if_true,hT o (by simp[PV.refs]),ho,he,hro,hp2 H2 hT,hno,hck,hle,he'];rfl⟩
          ·cases h
         ·cases h
      ·cases h
     ·cases h
    ·cases h
   ·cases h
  ·cases h
 |_=>simp[qbY]at h
def qFE{k:K}{v:PV}(h:∀o∈v.refs,H2.obj o=H.obj o):qbb H2 k v=qbb H k v:=by
 cases v with
 |r o k' off len t=>have e:=h o (by simp[PV.refs]);simp only[qbb,e]
 |d v=>cases v<;>rfl
 |_=>rfl
def qEm{ρ:Ab->PV}{id:Nat}{k:K}{b:Nat}{x y:Ab}{v:PV}{H':CW}(h:qcb H id k b (ρ x) (ρ y)=some (v,H')):∃F,qiA ρ (.app k b x y) id F/\H'=F H/\∀H2,(∀o∈qas ρ (.app k b x y),H2.obj o=H.obj o)->qcb H2 id k b (ρ x) (ρ y)=some (v,F H2):=by
 have hy:∀H2:CW,(∀o∈qas ρ (.app k b x y),H2.obj o=H.obj o)->qbb H2 k (ρ y)=qbb H k (ρ y):=λH2 hT=>qFE λo ho=>hT o (zzB.2 (.inr ho));have hxo:∀H2:CW,(∀o∈qas ρ (.app k b x y),H2.obj o=H.obj o)->∀o∈(ρ x).refs,H2.obj o=H.obj o:=λH2 hT o ho=>hT o (zzB.2 (.inl ho));have nof:∀o∈([]:CF),o∈qas ρ (.app k b x y):=λ_ h=>absurd h (zzC);have hst:qaP ρ (.app k b x y)=(ρ x).refs:=rfl;revert h;generalize hX:ρ x=X at hxo hst;generalize hY:ρ y=Y at hy;unfold qcb;intro h;cases he:qbb H k Y with
 |none=>rw[he]at h;cases h
 |some ys=>
  rw[he]at h;simp only at h;have hy':=λH2 hT=>(hy H2 hT).trans he;cases X with
  |d w=>
   cases w with
   |l k' es t=>
    cases t with
    |false=>simp at h
    |true=>
     simp only[if_true]at h;split at h
     ·rename_i hb;cases es with
      |nil=>simp only[zzb,zzc]at h;obtain⟨rfl,rfl⟩:=h;exact⟨λH=>(frz H []).put id (some (.sl k 0 ys)),⟨[],nof,.inr (.inl ⟨_,rfl,rfl⟩)⟩,rfl,λH2 hT=>by rw[hy' H2 hT];simp only[if_true,if_pos hb];rfl⟩
      |cons e r=>
       simp only at h;split at h
       ·rename_i hk;cases ys with
        |nil=>simp only[zzb,zzc]at h;obtain⟨rfl,rfl⟩:=h;exact⟨λH=>frz H [],⟨[],nof,.inl rfl⟩,rfl,λH2 hT=>by rw[hy' H2 hT];simp only[if_true,if_pos hb,if_pos hk];rfl⟩
        |cons z zs=>simp only[zzb,zzc]at h;obtain⟨rfl,rfl⟩:=h;exact⟨λH=>(frz H []).put id (some (.sl k 0 ((e::r)++z::zs))),⟨[],nof,.inr (.inl ⟨_,rfl,rfl⟩)⟩,rfl,λH2 hT=>by rw[hy' H2 hT];simp only[if_true,if_pos hb,if_pos hk];rfl⟩
       ·cases h
     ·cases h
   |_=>simp at h
  |r o k' off len t=>
   have hox:=λH2 hT=>hxo H2 hT o (by simp[PV.refs]);simp only at h;cases ho:H.obj o with
   |none=>rw[ho]at h;cases h
   |some ob=>
    rw[ho]at h;cases ob with
    |sl k'' ro es=>
     simp only at h;split at h
     ·rename_i hc;cases t with
      |true=>
       simp only[if_true]at h;cases ys with
       |nil=>simp only[zzb,zzc]at h;obtain⟨rfl,rfl⟩:=h;exact⟨λH=>frz H [],⟨[],nof,.inl rfl⟩,rfl,λH2 hT=>by rw[hy' H2 hT];simp only[hox H2 hT,ho,if_pos hc,if_true];rfl⟩
       |cons z zs=>simp only[zzb,zzc]at h;obtain⟨rfl,rfl⟩:=h;exact⟨λH=>(frz H []).put id (some (.sl k 0 ((es.drop off).take len++z::zs))),⟨[],nof,.inr (.inl ⟨_,rfl,rfl⟩)⟩,rfl,λH2 hT=>by rw[hy' H2 hT];simp only[hox H2 hT,ho,if_pos hc,if_true];rfl⟩
      |false=>
       simp only[zzg,if_false]at h;split at h
       ·rename_i hr;simp only[zzb,zzc]at h;obtain⟨rfl,rfl⟩:=h;exact⟨λH=>(H.put o none).put id (some (.sl k (ro-off) ((es.drop off).take len++ys))),⟨[],nof,.inr (.inr (.inr ⟨o,_,by rw[hst];simp[PV.refs],rfl,rfl⟩))⟩,rfl,λH2 hT=>by rw[hy' H2 hT];simp only[hox H2 hT,ho,if_pos hc,zzg,if_false,if_pos hr]⟩
       ·cases h
     ·cases h
    |_=>simp at h
  |_=>simp at h
def qAV{ρ:Ab->PV}{id:Nat}{x:IOp}{v:PV}{H':CW}(hk:x.okD ρ=true)(h:qaq E ρ H id x=some (v,H')):∃F,qiA ρ x id F/\H'=F H/\∀H2,(∀o∈qas ρ x,H2.obj o=H.obj o)->qaq E ρ H2 id x=some (v,F H2):=by
 unfold qaq at h⊢;simp only[hk,if_true]at h⊢;have same:x.adds=false->(H'=H/\∀H2,(∀o∈qas ρ x,H2.obj o=H.obj o)->qaa E ρ H2 id x=some (v,H2))->∃F,qiA ρ x id F/\H'=F H/\∀H2,(∀o∈qas ρ x,H2.obj o=H.obj o)->qaa E ρ H2 id x=some (v,F H2):=by rintro ha ⟨rfl,h2⟩;exact⟨λH=>frz H [],⟨[],λ_ h=>absurd h (zzC),.inl rfl⟩,rfl,h2⟩
 have key:∀(z:CW->CK PV),(∀H2,(∀o∈qas ρ x,H2.obj o=H.obj o)->z H2=z H)->opt (z H) H=some (v,H')->H'=H/\∀H2,(∀o∈qas ρ x,H2.obj o=H.obj o)->opt (z H2) H2=some (v,H2):=by
  intro z hz hq;unfold opt at hq;split at hq
  ·rename_i he;cases hq;exact⟨rfl,λH2 hT=>by rw[hz H2 hT,he];rfl⟩
  ·cases hq
 have keyD:∀(z:CK DV),qeC z H=some (v,H')->H'=H/\∀H2:CW,(∀o∈qas ρ x,H2.obj o=H.obj o)->qeC z H2=some (v,H2):=by
  intro z hz;unfold qeC at hz⊢;split at hz
  ·cases hz;exact⟨rfl,λ_ _=>rfl⟩
  ·cases hz
 cases x with
 |mov x=>simp only[qaa]at h;cases h;exact same rfl ⟨rfl,λ_ _=>rfl⟩
 |mkf f cs=>simp only[qaa]at h;cases h;exact same rfl ⟨rfl,λ_ _=>rfl⟩
 |mkm f cs=>simp only[qaa]at h;cases h;exact same rfl ⟨rfl,λ_ _=>rfl⟩
 |bin op x y=>exact same rfl (keyD _ h)
 |un op x=>exact same rfl (keyD _ h)
 |Bo o x=>exact same rfl (key (λ_=>_) (λ_ _=>rfl) h)
 |field o k x=>exact same rfl (key (λ_=>_) (λ_ _=>rfl) h)
 |prim p as0=>exact same rfl (key (λ_=>_) (λ_ _=>rfl) h)
 |load k x=>exact same rfl (key (λH=>qbT H k (ρ x)) (λH2 hT=>qJj hT) h)
 |sl k x a b c=>exact same rfl (key (λH=>slA H k (ρ x) (a.map ρ) (b.map ρ) (c.map ρ)) (λH2 hT=>qPU hT) h)
 |AJ k x i=>exact same rfl (key (λH=>AJ H k (ρ x) (ρ i)) (λH2 hT=>qGR hT) h)
 |len s x=>
  simp only[qaa]at h⊢;split at h
  ·rename_i hq;cases h;exact same rfl ⟨rfl,λH2 hT=>by simp only[qaa];rw[qJb hT,hq]⟩
  ·cases h
 |pick c a b=>
  simp only[qaa]at h;split at h
  ·rename_i hq;cases h;exact same rfl ⟨rfl,λH2 _=>by simp only[qaa,hq]⟩
  ·rename_i hq;cases h;exact same rfl ⟨rfl,λH2 _=>by simp only[qaa,hq]⟩
  ·cases h
 |agg z ps=>
  simp only[qaa]at h;split at h
  ·rename_i hq;cases h;exact same rfl ⟨rfl,λH2 _=>by simp only[qaa,hq]⟩
  ·cases h
 |eqv n m x y=>
  simp only[qaa]at h;split at h
  ·rename_i hq;cases h;exact same rfl ⟨rfl,λH2 _=>by simp only[qaa,hq]⟩
  ·cases h
 |eqb n x y=>
  simp only[qaa]at h;split at h
  ·rename_i hq1 hq2;cases h;exact same rfl ⟨rfl,λH2 _=>by simp only[qaa,hq1,hq2]⟩
  ·cases h
 |BJ n kd x=>
  simp only[qaa]at h;split at h
  ·rename_i hq;cases h;exact same rfl ⟨rfl,λH2 _=>by simp only[qaa,hq]⟩
  ·cases h
 |tas t z ok x=>
  simp only[qaa]at h;split at h
  ·rename_i hq;split at h
   ·rename_i ht;cases h;exact same rfl ⟨rfl,λH2 _=>by simp only[qaa,hq,ht,if_true]⟩
   ·rename_i ht;split at h
    ·rename_i hok;cases h;exact same rfl ⟨rfl,λH2 _=>by simp only[qaa,hq,ht,hok,if_true,if_false]⟩
    ·cases h
  ·rename_i hq;split at h
   ·rename_i ht;cases h;exact same rfl ⟨rfl,λH2 _=>by simp only[qaa,hq,ht,if_true]⟩
   ·rename_i ht;split at h
    ·rename_i hok;cases h;exact same rfl ⟨rfl,λH2 _=>by simp only[qaa,hq,ht,hok,if_true,if_false]⟩
    ·cases h
  ·rename_i hq;split at h
   ·rename_i hok;cases h;exact same rfl ⟨rfl,λH2 _=>by simp only[qaa,hq,hok,if_true]⟩
   ·cases h
  ·cases h
 |conv k x=>
  simp only[qaa]at h;split at h
  ·rename_i hq;cases h;exact same rfl ⟨rfl,λH2 _=>by simp only[qaa,hq]⟩
  ·cases h
 |BR x=>
  simp only[qaa]at h;split at h
  ·rename_i hq;cases h;exact same rfl ⟨rfl,λH2 _=>by simp only[qaa,hq]⟩
  ·rename_i hq;cases h;exact same rfl ⟨rfl,λH2 _=>by simp only[qaa,hq]⟩
  ·rename_i hq;cases h;exact same rfl ⟨rfl,λH2 _=>by simp only[qaa,hq]⟩
  ·cases h
 |ext x i=>
  simp only[qaa]at h;split at h
  ·rename_i hq;obtain⟨g1,g2⟩:=key (λ_=>_) (λ_ _=>rfl) h;exact same rfl ⟨g1,λH2 hT=>by simp only[qaa,hq];exact g2 H2 hT⟩
  ·cases h
 |slS x a b=>
  simp only[qaa]at h;split at h
  ·rename_i hq;split at h
   ·rename_i hq1;split at h
    ·rename_i hq2;cases h;exact same rfl ⟨rfl,λH2 _=>by simp only[qaa,hq,hq1,hq2]⟩
    ·cases h
   ·cases h
  ·cases h
 |BM n k x y=>
  simp only[qaa]at h;split at h
  ·rename_i hq;split at h
   ·rename_i hq1;obtain⟨g1,g2⟩:=key (λ_=>_) (λ_ _=>rfl) h;exact same rfl ⟨g1,λH2 hT=>by simp only[qaa,hq,hq1];exact g2 H2 hT⟩
   ·cases h
  ·cases h
 |idxA n k x y=>
  simp only[qaa]at h;split at h
  ·rename_i hq;split at h
   ·rename_i hq1;obtain⟨g1,g2⟩:=key (λ_=>_) (λ_ _=>rfl) h;exact same rfl ⟨g1,λH2 hT=>by simp only[qaa,hq,hq1];exact g2 H2 hT⟩
   ·cases h
  ·cases h
 |idxS x y=>
  simp only[qaa]at h;split at h
  ·rename_i hq1 hq2;split at h
   ·rename_i hq3;split at h
    ·rename_i hq4;cases h;exact same rfl ⟨rfl,λH2 _=>by simp only[qaa,hq1,hq2,hq3,if_true,hq4]⟩
    ·cases h
   ·cases h
  ·cases h
 |minmax b as0=>
  simp only[qaa]at h;split at h
  ·rename_i hq;obtain⟨g1,g2⟩:=key (λ_=>_) (λ_ _=>rfl) h;exact same rfl ⟨g1,λH2 hT=>by simp only[qaa,hq];exact g2 H2 hT⟩
  ·cases h
 |alloc k z=>simp only[qaa]at h;cases h;exact⟨λH=>(frz H []).put id _,⟨[],λ_ h=>absurd h (zzC),.inr (.inl ⟨_,rfl,rfl⟩)⟩,rfl,λ_ _=>rfl⟩
 |box k x=>
  simp only[qaa]at h;split at h
  ·rename_i hc;cases h;exact⟨λH=>(frz H []).put id _,⟨[],λ_ h=>absurd h (zzC),.inr (.inl ⟨_,rfl,rfl⟩)⟩,rfl,λ_ _=>by simp only[qaa,hc,if_true];rfl⟩
  ·cases h
 |mksl k b z x y=>
  simp only[qaa]at h;split at h
  ·rename_i hq1 hq2;split at h
   ·rename_i hc;cases h;exact⟨λH=>(frz H []).put id _,⟨[],λ_ h=>absurd h (zzC),.inr (.inl ⟨_,rfl,rfl⟩)⟩,rfl,λ_ _=>by simp only[qaa,hq1,hq2,hc,and_self,if_true];rfl⟩
   ·cases h
  ·cases h
 |bsl k z n ps=>
  simp only[qaa]at h;split at h
  ·rename_i es os hq;cases h;have hfm:((ps.map λx=>(x.1,ρ x.2)).flatMap λy=>y.2.refs)=qas ρ (.bsl k z n ps):=by simp only[qas,List.flatMap_map]
   refine⟨λH=>(frz H os).put id _,⟨os,λo ho=>by rw[<-hfm];exact qwR hq o ho,.inr (.inl ⟨_,rfl,rfl⟩)⟩,rfl,λH2 hT=>?_⟩;simp only[qaa];rw[qwQ (H:=H) (λo ho=>hT o (by rw[<-hfm];exact ho)),hq]
  ·cases h
 |mkif t x=>
  simp only[qaa]at h;split at h
  ·rename_i y os hq;cases h;refine⟨λH=>frz H os,⟨os,λo ho=>qqe hq o ho,.inl rfl⟩,rfl,λH2 hT=>?_⟩;simp only[qaa];rw[qny (H:=H) hT,hq]
  ·rename_i hq;cases h;refine same rfl ⟨rfl,λH2 hT=>?_⟩;simp only[qaa];rw[qny (H:=H) hT,hq]
 |store k x y=>
  simp only[qaa]at h;split at h
  ·rename_i H1 hst;simp only[zzb,zzc]at h;obtain⟨rfl,rfl⟩:=h;obtain⟨o,y',os,g1,g2,g3,g4⟩:=qP4 hst;refine⟨λH=>(frz H os).put o (some y'),⟨os,λo' ho'=>zzB.2 (.inr (g2 o' ho')),.inr (.inr (.inl ⟨o,y',rfl,g1,rfl⟩))⟩,g3,λH2 hT=>?_⟩;simp only[qaa];rw[g4 H2 hT]
  ·cases h
 |BI x as0=>
  simp only[qaa]at h;split at h
  ·rename_i n caps hq;split at h
   ·rename_i ds hp;split at h
    ·rename_i hv;cases h;exact same rfl ⟨rfl,λH2 _=>by simp only[qaa,hq,hp,hv]⟩
    ·cases h
   ·rename_i hp;exfalso;simp only[IOp.okD,hq,zzf]at hk;rw[if_pos hk.1]at hp;rw[hp]at hk;simp at hk
  ·rename_i hq;simp[IOp.okD,hq]at hk
  ·rename_i hq;simp[IOp.okD,hq]at hk
  ·cases h
 |call m f args=>
  have hfm:(args.map ρ).flatMap PV.refs=qas ρ (.call m f args):=by simp only[qas,List.flatMap_map]
  match m with
  |0=>
   simp only[qaa]at h;split at h
   ·rename_i ds os hq;have hos:∀o∈os,o∈qas ρ (.call 0 f args):=λo ho=>by rw[<-hfm];exact qtW hq o ho
    have hq2:∀H2:CW,(∀o∈qas ρ (.call 0 f args),H2.obj o=H.obj o)->qaN H2 (args.map ρ)=some (ds,os):=λH2 hT=>by rw[qtV (H:=H) (λo ho=>hT o (by rw[<-hfm];exact ho))];exact hq
    split at h
    ·rename_i r own hv;simp only[zzb,zzc]at h;obtain⟨rfl,rfl⟩:=h;cases hc:(os.isEmpty||r.AY)with
     |true=>exact⟨λH=>frz H [],⟨[],λ_ h=>absurd h (zzC),.inl rfl⟩,by simp[frz],λH2 hT=>by simp only[qaa,hq2 H2 hT,hv,hc,if_true];rfl⟩
     |false=>exact⟨λH=>frz H os,⟨os,hos,.inl rfl⟩,by simp,λH2 hT=>by simp only[qaa,hq2 H2 hT,hv,hc];simp⟩
    ·cases h
   ·cases h
  |1=>
   simp only[qaa]at h;split at h
   ·rename_i ds os hq;have hos:∀o∈os,o∈qas ρ (.call 1 f args):=λo ho=>by rw[<-hfm];exact qtW hq o ho
    have hq2:∀H2:CW,(∀o∈qas ρ (.call 1 f args),H2.obj o=H.obj o)->qaN H2 (args.map ρ)=some (ds,os):=λH2 hT=>by rw[qtV (H:=H) (λo ho=>hT o (by rw[<-hfm];exact ho))];exact hq
    split at h
    ·rename_i k es t hv;simp only[zzb,zzc]at h;obtain⟨rfl,rfl⟩:=h;cases hc:os.isEmpty with
     |true=>exact⟨λH=>(frz H []).put id (some (.sl k 0 es)),⟨[],λ_ h=>absurd h (zzC),.inr (.inl ⟨_,rfl,rfl⟩)⟩,by simp[frz],λH2 hT=>by simp only[qaa,hq2 H2 hT,hv,hc,if_true];rfl⟩
     |false=>exact⟨λH=>(frz H os).put id (some (.sl k 0 es)),⟨os,hos,.inr (.inl ⟨_,rfl,rfl⟩)⟩,by simp,λH2 hT=>by simp only[qaa,hq2 H2 hT,hv,hc];simp⟩
    ·cases h
   ·cases h
  |m+2=>simp[IOp.okD]at hk
 |app k b x y=>simp only[qaa]at h⊢;exact qEm h
 |_=>simp[IOp.okD]at hk
def K.eq_of{k k':K}(h:K.eq k k'=true):k=k':=by cases k<;>cases k'<;>simp_all[K.eq]
mutual
def qoT:∀(x y:DV),DV.same x y=true->x=y
 |.b x,y,h=>by cases y<;>simp_all[DV.same]
 |.i k n,y,h=>by cases y<;>simp_all[DV.same]
 |.s x,y,h=>by cases y<;>simp_all[DV.same]
 |.a cs,y,h=>by
  cases y with
  |a ds=>simp only[DV.same]at h;rw[qi4 cs ds h]
  |_=>simp[DV.same]at h
 |.l k es t,y,h=>by
  cases y with
  |l k' fs t'=>simp only[DV.same,zzf]at h;rw[K.eq_of h.1.1,qi4 es fs h.2,eq_of_beq h.1.2]
  |_=>simp[DV.same]at h
 |.np,y,h=>by cases y<;>simp_all[DV.same]
 |.nf,y,h=>by cases y<;>simp_all[DV.same]
 |.ni,y,h=>by cases y<;>simp_all[DV.same]
 |.nm,y,h=>by cases y<;>simp_all[DV.same]
 |.ifc t v,y,h=>by
  cases y with
  |ifc t' w=>simp only[DV.same,zzf]at h;rw[zzy h.1,qoT v w h.2]
  |_=>simp[DV.same]at h
 |.tok n,y,h=>by
  cases y with
  |tok m=>simp only[DV.same]at h;rw[zzy h]
  |_=>simp[DV.same]at h
def qi4:∀(xs ys:Cy),DV.Bw xs ys=true->xs=ys
 |[],ys,h=>by cases ys<;>simp_all[DV.Bw]
 |x::xs,ys,h=>by
  cases ys with
  |nil=>simp[DV.Bw]at h
  |cons y ys=>simp only[DV.Bw,zzf]at h;rw[qoT x y h.1,qi4 xs ys h.2]
end
mutual
def qnB:∀(x y:PV),PV.same x y=true->x=y
 |.u,y,h=>by cases y<;>simp_all[PV.same]
 |.d v,y,h=>by
  cases y with
  |d v'=>simp only[PV.same]at h;rw[qoT v v' h]
  |_=>simp[PV.same]at h
 |.a cs,y,h=>by
  cases y with
  |a ds=>simp only[PV.same]at h;rw[qnA cs ds h]
  |_=>simp[PV.same]at h
 |.t cs,y,h=>by
  cases y with
  |t ds=>simp only[PV.same]at h;rw[qnA cs ds h]
  |_=>simp[PV.same]at h
 |.r o k off len tt,y,h=>by
  cases y with
  |r o' k' off' len' tt'=>simp only[PV.same,zzf]at h;rw[zzy h.1.1.1.1,K.eq_of h.1.1.1.2,zzy h.1.1.2,zzy h.1.2,eq_of_beq h.2]
  |_=>simp[PV.same]at h
 |.p o i c,y,h=>by
  cases y with
  |p o' i' c'=>simp only[PV.same,zzf]at h;rw[zzy h.1.1,zzy h.1.2,zzy h.2]
  |_=>simp[PV.same]at h
 |.q v k c,y,h=>by
  cases y with
  |q v' k' c'=>simp only[PV.same,zzf]at h;rw[qoT v v' h.1.1,K.eq_of h.1.2,zzy h.2]
  |_=>simp[PV.same]at h
 |.f n cs,y,h=>by
  cases y with
  |f n' ds=>simp only[PV.same,zzf]at h;rw[zzy h.1,qnA cs ds h.2]
  |_=>simp[PV.same]at h
 |.h o,y,h=>by
  cases y with
  |h o'=>simp only[PV.same]at h;rw[zzy h]
  |_=>simp[PV.same]at h
 |.g v,y,h=>by cases y<;>simp[PV.same]at h
 |.m n cs,y,h=>by
  cases y with
  |m n' ds=>simp only[PV.same,zzf]at h;rw[zzy h.1,qnA cs ds h.2]
  |_=>simp[PV.same]at h
 |.w n v,y,h=>by
  cases y with
  |w n' v'=>simp only[PV.same,zzf]at h;rw[zzy h.1,qnB v v' h.2]
  |_=>simp[PV.same]at h
def qnA:∀(xs ys:Cz),PV.Bw xs ys=true->xs=ys
 |[],ys,h=>by cases ys<;>simp_all[PV.Bw]
 |x::xs,ys,h=>by
  cases ys with
  |nil=>simp[PV.Bw]at h
  |cons y ys=>simp only[PV.Bw,zzf]at h;rw[qnB x y h.1,qnA xs ys h.2]
end
def qAQ{x y:CK Obj}(h:qk2 x y=true):x=y:=by
 unfold qk2 at h;split at h
 ·rfl
 ·simp only[zzf]at h;rw[K.eq_of h.1,qnB _ _ h.2]
 ·simp only[zzf]at h;rw[K.eq_of h.1.1,zzy h.1.2,qi4 _ _ h.2]
 ·simp only[zzf]at h;rw[zzy h.1,eq_of_beq h.2]
 ·rfl
 ·cases h
def qrM{H H':CW}{o:Nat}:∀{l:CF},o∈l->o∉qmI H H' l->H.obj o=H'.obj o
 |[],h,_=>absurd h (zzC)
 |p::r,h,hn=>by
  simp only[qmI]at hn;split at hn
  ·rename_i hb;rcases List.mem_cons.1 h with rfl|h
   ·exact qAQ hb
   ·exact qrM h hn
  ·rcases List.mem_cons.1 h with rfl|h
   ·exact absurd (zzr ..) hn
   ·exact qrM h (λhm=>hn (zzi _ hm))
def qwD{ρ:Ab->PV}{id:Nat}{x:IOp}{v:PV}{H':CW}(hk:x.okD ρ=false)(h:qaq E ρ H id x=some (v,H')):qaa E ρ H id x=some (v,H')/\H'.length=H.length:=by
 unfold qaq at h;rw[hk]at h;simp only[zzg,if_false]at h;split at h
 ·split at h
  ·rename_i he;split at h
   ·rename_i hl;cases h;exact⟨he,zzy hl⟩
   ·cases h
  ·cases h
 ·cases h
def qAR{H:CW}{o:Nat}(h:H.length<=o):H.obj o=none:=by unfold Heap.obj;rw[List.getElem?_eq_none h]
def qGM{H H2:CW}(hl:H2.length=H.length)(h:∀o,o<H.length->H2.obj o=H.obj o):H2=H:=by apply List.ext_getElem hl;intro o h1 h2;have:=h o h2;unfold Heap.obj at this;rw[zze h1,zze h2]at this;exact this
