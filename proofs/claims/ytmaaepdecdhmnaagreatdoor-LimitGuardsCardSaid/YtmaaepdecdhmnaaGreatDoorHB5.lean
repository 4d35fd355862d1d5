/- Part 5 of the proof. -/
import Derived.Test.YtmaaepdecdhmnaaGreatDoorHB4
import Derived.RangeFuncCalls
set_option linter.all false
namespace Go.Sim
set_option maxRecDepth 100000
set_option maxHeartbeats 8000000
section
open Go.RowKit
section
variable {P:CO}{N:Names}{C:Cx}{w:CL}{S:qac}{β:Pl}{B:Nat}{H:CP}
def qCE:Array CJ->Sem CJ:=λargs=>do
 let (x,y,b) <-Extern.MathBitsCarry.three "Sub64" args
 pure (Extern.MathBitsCarry.pair ((x+Extern.MathBitsCarry.m64-y-b)%Extern.MathBitsCarry.m64) (if x<y+b then 1 else 0))
def qQl(x y b:Nat)(hb:b<=1)(w:CL):(qCE #[.int .u64 x,.int .u64 y,.int .u64 b]).run P w =
   .ok (.tuple #[.int .u64 (((x+18446744073709551616-y-b)%18446744073709551616:Nat):Int),.int .u64 ((if x<y+b then 1 else 0:Nat):Int)]) w:=by
 have:b=0\/b=1:=by omega
 rcases this with rfl|rfl<;>rfl
def qGx{fn:Func}(h:fn.name = "math/bits.Add64") (h0:fn.origin = ""):Extern.findNext fn=none/\Extern.find fn=some add64Entry:=by
 cases fn;dsimp only at h h0;subst h h0
 exact⟨by kernel_rfl,by kernel_rfl⟩
def qGz{fn:Func}(h:fn.name = "math/bits.Sub64") (h0:fn.origin = ""):Extern.findNext fn=none/\Extern.find fn=some qCE:=by
 cases fn;dsimp only at h h0;subst h h0
 exact⟨by kernel_rfl,by kernel_rfl⟩
def qx4{α:Type}{p q:α->CG}:∀{l:CF α},(∀x∈l,p x=q x)->l.find? p=l.find? q
 |[],_=>rfl
 |x::r,h=>by
  rw[List.find?_cons,List.find?_cons,h x (zzr ..),qx4 λy hy=>h y (zzi _ hy)]
def qGy{fn:Func}(h:fn.name = "internal/bytealg.IndexByteString") (h0:fn.origin = ""):Extern.findNext fn=none/\Extern.find fn=some Extern.BytealgIndexByte.indexByte:=by
 cases fn;dsimp only at h h0;subst h h0
 exact⟨by kernel_rfl,by kernel_rfl⟩
def qzc(c:Nat):∀(l:Cv) (k:Nat),ixB c l k=((List.range l.length).find? λi=>decide ((l.getD i 0).toNat=c)).map (· + k)
 |[],k=>rfl
 |x::r,k=>by
  rw[ixB,zzn,List.range_succ_eq_map,List.find?_cons];by_cases h:x.toNat=c
  ·have:Nat.beq x.toNat c=true:=by rw[h];exact Nat.beq_refl c
   simp[this,h]
  ·have h1:Nat.beq x.toNat c=false:=by
    cases hb:Nat.beq x.toNat c with
    |false=>rfl
    |true=>exact absurd (zzy hb) h
   simp only[h1,List.getD_cons_zero,h,decide_false,zzg,if_false];rw[qzc c r (k+1),List.find?_map];simp only[Option.map_map];have e:((λi=>decide (((x::r).getD i 0).toNat=c))∘Nat.succ)=λi=>decide ((r.getD i 0).toNat=c):=by funext i;simp
   rw[e];congr 1
   funext i
   simp only[Function.comp];omega
def qQh(s:ByteArray)(c:Int)(h0:0<=c)(h1:c<256)(w:CL):(Extern.BytealgIndexByte.indexByte #[.string s,.int .u8 c]).run P w=.ok (.int .i64 (match ixB c.toNat s.data.toList 0 with|some i=>(i:Int)|none=>-1)) w:=by
 have hp:(List.range s.size).find? (λi=>s[i]! == c.toNat.toUInt8)=(List.range s.data.toList.length).find? λi=>decide ((s.data.toList.getD i 0).toNat=c.toNat):=by
  have hl:s.data.toList.length=s.size:=by simp
  rw[hl];refine qx4 λi hi=>?_
  have hi':i<s.size:=List.mem_range.1 hi
  have e1:s[i]! = s.data.toList.getD i 0:=by
   rw[getElem!_pos s i hi'];simp[List.getD,hi',ByteArray.getElem_eq_getElem_data]
  rw[e1];generalize s.data.toList.getD i 0=x;have hc:(c.toNat.toUInt8).toNat=c.toNat:=by simp[Nat.toUInt8];omega
  by_cases hx:x=c.toNat.toUInt8
  ·subst hx;simp[hc]
  ·have:x.toNat≠c.toNat:=λh=>hx (UInt8.toNat_inj.1 (h.trans hc.symm))
   simp[hx,this]
 have hb:=qzc c.toNat s.data.toList 0
 have e:Extern.BytealgIndexByte.indexByte #[.string s,.int .u8 c]=(match (List.range s.size).find? λi=>s[i]! == c.toNat.toUInt8 with
  |some i=>pure (goInt i)
  |none=>pure (goInt (-1)):Sem CJ):=rfl
 rw[e,hp];cases hf:(List.range s.data.toList.length).find? λi=>decide ((s.data.toList.getD i 0).toNat=c.toNat)with
 |none=>rw[hf]at hb;simp only[Option.map_none]at hb;rw[hb];rfl
 |some i=>rw[hf]at hb;simp only[Option.map_some,Nat.add_zero]at hb;rw[hb];rfl
def qnu{k:IntKind}{n:Int}{u:CJ}(h:Ae C w S β (.d (.i k n)) u):u=.int k n:=by
 cases h with
 |d _ _ h=>cases h;rfl
def qCS{x y c:Int}{vs:Cu}{us:CF CJ}(hv:vs=[.d (.i .u64 x),.d (.i .u64 y),.d (.i .u64 c)])(hl:vs.length=us.length)(hr:∀j (h:j<vs.length) (h':j<us.length),Ae C w S β vs[j] us[j]):us=[.int .u64 x,.int .u64 y,.int .u64 c]:=by
 subst hv;match us,hl with
 |[a,b,d],_=>
  have h0:=hr 0 (by simp) (by simp)
  have h1:=hr 1 (by simp) (by simp)
  have h2:=hr 2 (by simp) (by simp)
  simp only[List.getElem_cons_zero,zzG]at h0 h1 h2;rw[qnu h0,qnu h1,qnu h2]
def qC0(a b:Int):Ae C w S β (.t [.d (.i .u64 a),.d (.i .u64 b)]) (.tuple #[.int .u64 a,.int .u64 b]):=by
 refine .t _ [.int .u64 a,.int .u64 b] rfl λj hj hj'=>?_
 match j,hj with
 |0,_=>exact .d _ _ (.i _ _)
 |1,_=>exact .d _ _ (.i _ _)
def qPa{p:Nat}{fn:Func}(hp:qt6 fn.name fn.origin=some p){f:FuncId}(hfn:P.funcs[f]? = some fn)(hb:fn.body.isNone=true){vs:Cu}{us:CF CJ}(hl:vs.length=us.length)(hr:∀j (h:j<vs.length) (h':j<us.length),Ae C w S β vs[j] us[j]){v:PV}(h:qeA p vs=some v) :
  ∃u,(callFunc f us.toArray).run P w=.ok (.value u) w/\Ae C w S β v u:=by
 unfold qt6 at hp;split at hp;case isFalse=>cases hp
 rename_i h0;split at hp
 ·rename_i hn;cases hp;obtain⟨e1,e2⟩:=qGx hn h0;unfold qeA at h;split at h
  ·split at h
   ·rename_i x y c _ hc;cases h;obtain⟨c1,c2,c3,c4⟩:=hc;rw[qCS rfl hl hr];refine⟨_,?_,qC0 _ _⟩
    have:=run_callFunc_extern (P:=P) hfn (by rw[hn];decide) hb e1 e2 #[.int .u64 x,.int .u64 y,.int .u64 c] w
    rw[this,run_add64 x y c c1 c2 c3 c4];rfl
   ·cases h
  ·rename_i heq;cases heq
  ·rename_i heq;cases heq
  ·cases h
 ·split at hp;case isFalse=>
   split at hp;case isFalse=>cases hp
   rename_i hn;cases hp;obtain⟨e1,e2⟩:=qGy hn h0;unfold qeA at h;split at h
   ·rename_i heq;cases heq
   ·rename_i heq;cases heq
   ·rename_i l c _hq;by_cases hc:0<=c/\c<256
    ·rw[if_pos hc]at h;simp only[zzb]at h;subst h;match us,hl with
     |[a,b],_=>
     have k0:=hr 0 (by simp) (by simp)
     have k1:=hr 1 (by simp) (by simp)
     simp only[List.getElem_cons_zero,zzG]at k0 k1;rw[qnu k1];obtain⟨z,rfl,hz⟩:∃z:ByteArray,a=.string z/\z.data.toList=l:=by
      cases k0 with
      |d _ _ k0=>cases k0 with
       |s _ z hz=>exact⟨z,rfl,hz⟩
     refine⟨_,?_,.d _ _ (.i _ _)⟩
     have:=run_callFunc_extern (P:=P) hfn (by rw[hn];decide) hb e1 e2 #[.string z,.int .u8 c] w
     rw[this,qQh z c hc.1 hc.2,hz];rfl
    ·rw[if_neg hc]at h;cases h
   ·cases h
  rename_i hn;cases hp;obtain⟨e1,e2⟩:=qGz hn h0;unfold qeA at h;split at h
  ·rename_i heq;cases heq
  ·split at h
   ·rename_i x y c _ hc;cases h;obtain⟨c1,c2,c3,c4,c5⟩:=hc;rw[qCS rfl hl hr];refine⟨_,?_,qC0 _ _⟩;obtain⟨x,rfl⟩:=Int.eq_ofNat_of_zero_le c1;obtain⟨y,rfl⟩:=Int.eq_ofNat_of_zero_le c2;obtain⟨c,rfl⟩:=Int.eq_ofNat_of_zero_le c4
    have:=run_callFunc_extern (P:=P) hfn (by rw[hn];decide) hb e1 e2 #[.int .u64 x,.int .u64 y,.int .u64 c] w
    rw[this,qQl x y c (by omega)]
    simp only[Result.andThen];congr 6
    ·omega
    ·by_cases hlt:x<y+c
     ·rw[if_pos hlt,if_pos (by omega)];rfl
     ·rw[if_neg hlt,if_neg (by omega)];rfl
   ·cases h
  ·rename_i heq;cases heq
  ·cases h
end
def qrB(w:CL)(S:qac)(k:K)(es:Ct)(v:CJ)(B:Nat):Prop:=
 (es=[]/\∃a,v=.slice a 0 0)\/∃blk off cap cells e,v=.slice (some ⟨blk,off,none⟩) es.length cap/\es.length<=cap/\B<=blk/\w.heap[blk]? = some (.cells cells e (0,0))/\
  off+cap*k.size<=cells.size/\(∀j,off<=j->¬S blk j)/\ERel w S k es (cells.toList.drop off)
def qiE(P:CO)(C:Cx)(N:Names)(G:Nat->CE (DV×K))(f:Nat)(ds:Ct)(r:PV)(own:CG):Prop:=
 ∀(w:CL) (S:qac) (us:CF CJ),Swf w S->GOK N G w S->ds.length=us.length->(∀j (h:j<ds.length) (h':j<us.length),Al w S ds[j] us[j])->
  Calls P (C.μ f) us.toArray w λe w'=>∃v S',e=.returned v/\Ext w.heap.size w S w' S'/\Swf w' S'/\(own=false->Ae C w' S' (λ_=>.pend) r v)/\
   (own=true->∃k es,r=.d (.l k es false)/\qrB w' S' k es v w.heap.size)
def qoi(P:CO)(C:Cx)(N:Names)(G:Nat->CE (DV×K))(f:Nat)(args:Cu)(H:CP)(r:PV)(H':CP):Prop:=
 ∀(B:Nat) (w:CL) (S:qac) (β:Pl) (us:CF CJ),B<=w.heap.size->Swf w S->GOK N G w S->HOK C B w S β H->args.length=us.length->(∀j (h:j<args.length) (h':j<us.length),Ae C w S β args[j] us[j])->
  Calls P (C.μ f) us.toArray w λe w'=>∃v S' β',e=.returned v/\Ext B w S w' S'/\Swf w' S'/\HOK C B w' S' β' H'/\Later β β'/\Ae C w' S' β' r v/\H.length<=H'.length/\Kp H.length H.length β β'
def Lb(base:Nat)(β β':Pl):Prop:=∀o,o<base->(β' o=β o\/β' o=.dead\/β o=.pend)/\(β o=.pend->β' o=.pend)
def Lb.refl(base:Nat)(β:Pl):Lb base β β:=λ_ _=>⟨.inl rfl,λh=>h⟩
def Lb.trans{base:Nat}{β β' β'':Pl}(h:Lb base β β')(k:Lb base β' β''):Lb base β β'':=λo ho=>by
 refine⟨?_,λhp=>(k o ho).2 ((h o ho).2 hp)⟩
 rcases (h o ho).1 with h1|h1|h1
 ·rcases (k o ho).1 with k1|k1|k1
  ·exact .inl (k1.trans h1)
  ·exact .inr (.inl k1)
  ·exact .inr (.inr (h1.symm.trans k1))
 ·rcases (k o ho).1 with k1|k1|k1
  ·exact .inr (.inl (k1.trans h1))
  ·exact .inr (.inl k1)
  ·rw[h1]at k1;cases k1
 ·exact .inr (.inr h1)
def Lb.mono{b b':Nat}{β β':Pl}(h:Lb b β β')(hb:b'<=b):Lb b' β β':=λo ho=>h o (Nat.lt_of_lt_of_le ho hb)
def YOK(P:CO)(C:Cx)(N:Names)(G:Nat->CE (DV×K))(Y:Nat->Cu->CP->CB)(B:Nat)(w0:CL)(S0:qac)(β0:Pl)(base:Nat):Prop:=
 ∀o args H r H',Y o args H=some (r,H')->H.obj o=some (.lp 0 none)/\∀(w:CL) (S:qac) (β:Pl) (us:CF CJ) (blk:Nat) (r0:Loop),Ext B w0 S0 w S->Lb base β0 β->base<=H.length->B<=w.heap.size->Swf w S->GOK N G w S->HOK C B w S β H->β o=.sp blk (.loop r0)->
  args.length=us.length->(∀j (h:j<args.length) (h':j<us.length),Ae C w S β args[j] us[j])->∀(F:Fence) (nf:Nat),(∀f,F.fn f)->F.depth=none->F.alive=false->∃rr:Loop,w.heap[blk]? = some (.loop rr)/\us.length=rr.params.size/\
   RoundIn F nf P blk rr.fn ((rr.params.zip us.toArray).foldl (λtmps (t,a)=>tmps.setIfInBounds t a) rr.tmps) rr.assign rr.body w λe w'=>
    ∃v S' β',e=.returned v/\Ext B w S w' S'/\Swf w' S'/\HOK C B w' S' β' H'/\Later β β'/\Ae C w' S' β' r v/\H.length<=H'.length/\Kp H.length H.length β β'
def YOK.later{P:CO}{C:Cx}{N:Names}{G:Nat->CE (DV×K)}{Y:Nat->Cu->CP->CB}{B:Nat}{w0 w1:CL}{S0 S1:qac}{β0 β1:Pl}{base:Nat}(h:YOK P C N G Y B w0 S0 β0 base)
  (e:Ext B w0 S0 w1 S1) (l:Lb base β0 β1):YOK P C N G Y B w1 S1 β1 base:=λo args H r H' hy=>by
 obtain⟨h1,h2⟩:=h o args H r H' hy;exact⟨h1,λw S β us blk r0 e1 l1=>h2 w S β us blk r0 (e.trans e1) (l.trans l1)⟩
def qv1{P:CO}{C:Cx}{N:Names}{G:Nat->CE (DV×K)}{B:Nat}{w:CL}{S:qac}{β:Pl}{base:Nat}:YOK P C N G noY B w S β base:=λ_ _ _ _ _ h=>by cases h
def qv2(P:CO)(C:Cx)(N:Names)(G:Nat->CE (DV×K))(Y:Nat->Cu->CP->CB)(f:Nat)(args:Cu)(H:CP)(r:PV)(H':CP):Prop:=
 ∀(B:Nat) (w:CL) (S:qac) (β:Pl) (us:CF CJ),B<=w.heap.size->Swf w S->GOK N G w S->HOK C B w S β H->args.length=us.length->(∀j (h:j<args.length) (h':j<us.length),Ae C w S β args[j] us[j])->YOK P C N G Y B w S β H.length->
  Calls P (C.μ f) us.toArray w λe w'=>∃v S' β',e=.returned v/\Ext B w S w' S'/\Swf w' S'/\HOK C B w' S' β' H'/\Later β β'/\Ae C w' S' β' r v/\H.length<=H'.length/\Kp H.length H.length β β'
def qDI(P:CO)(C:Cx)(N:Names)(G:Nat->CE (DV×K))(f:Nat)(args:Cu)(H:CP)(r:PV)(H':CP):Prop:=
 ∀(B:Nat) (w:CL) (S:qac) (β:Pl) (us:CF CJ) (u:FrameMode) (nf:Nat),B<=w.heap.size->Swf w S->GOK N G w S->HOK C B w S β H->args.length=us.length->(∀j (h:j<args.length) (h':j<us.length),Ae C w S β args[j] us[j])->
  CallsDIn Fence.wide nf P (C.μ f) us.toArray u w λe u' w'=>u'=u/\∃v S' β',e=.returned v/\Ext B w S w' S'/\Swf w' S'/\HOK C B w' S' β' H'/\Later β β'/\Ae C w' S' β' r v/\H.length<=H'.length/\Kp H.length H.length β β'
structure OrOK (P:Program) (C:Cx) (N:Names) (E:Env):Prop where
 val:∀f ds r own,E.val f ds=some (r,own)->qiE P C N E.G f ds r own
 ref:∀f args H r H',E.ref f args H=some (r,H')->qoi P C N E.G f args H r H'
 dfr:∀f args H r H',E.dok f=true->E.ref f args H=some (r,H')->qDI P C N E.G f args H r H'
 it:∀Y f args H r H',E.it Y f args H=some (r,H')->qv2 P C N E.G Y f args H r H'
 fni:∀Y f args H r,E.it Y f args H=some r->∃fn,P.funcs[C.μ f]? = some fn/\fn.body.isNone=false/\fn.name ≠ "runtime.NumGoroutine"
 fnv:∀f ds r,E.val f ds=some r->∃fn,P.funcs[C.μ f]? = some fn/\fn.body.isNone=false/\fn.name ≠ "runtime.NumGoroutine"
 fn:∀f args H r,E.ref f args H=some r->∃fn,P.funcs[C.μ f]? = some fn/\fn.body.isNone=false/\fn.name ≠ "runtime.NumGoroutine"
section
variable {P:CO}{N:Names}{C:Cx}{w:CL}{S:qac}{β:Pl}{B:Nat}{H:CP}
def qO3{k:K}{es:Ct}{v:CJ}(hS:Swf w S)(h:qrB w S k es v B):∃S',Ext B w S w S'/\Swf w S'/\Al w S' (.l k es false) v/\(∀b j,b<B->S' b j->S b j):=by
 rcases h with ⟨rfl,a,rfl⟩|⟨blk,off,cap,cells,e,rfl,h1,h2,h3,h4,h5,h6⟩
 ·exact⟨S,Ext.refl _ _ _,hS,.l _ [] false a 0 0 0 (λ_ _=>undef) (zzt _) (λ_=>rfl) (λh=>absurd h (Nat.lt_irrefl _)) (λ_ hj=>absurd hj (zzm _)) (λ_ hj=>absurd hj (zzm _)),λ_ _ _ h=>h⟩
 ·obtain⟨g0,c,g1,g2⟩:=h6;have hdrop:∀x y,(cells.toList.drop off)[x]? = some y->cells[off+x]? = some y:=λx y h=>by
   rw[List.getElem?_drop]at h;simpa using h
  refine⟨λb j=>S b j\/(b=blk/\off<=j/\j<off+es.length*k.size),⟨Below.refl _ _,λ_ _ h=>.inl h,λ_ _ _=>rfl,?_,λ_ _ _ h=>h⟩,?_,?_,?_⟩
  ·rintro b j (h|⟨rfl,-,-⟩)
   ·exact .inl h
   ·exact .inr h2
  ·rintro b j (h|⟨rfl,q1,q2⟩)
   ·exact hS b j h
   ·have hlt:j<cells.size:=by
     have:es.length*k.size<=cap*k.size:=zzh _ h1
     omega
    exact⟨cells[j],qi7 h3 (by simp[hlt])⟩
  ·refine .l _ es false _ cap blk off c h1 (λh=>by cases h) (λ_=>rfl) ?_ ?_
   ·intro j hj m hm;have h7:(j+1)*k.size<=es.length*k.size:=zzh _ hj
    rw[zzl,Nat.one_mul]at h7;have h8:=hdrop _ _ (g1 j hj m hm).1
    rw[<-Nat.add_assoc]at h8;exact⟨qi7 h3 h8,.inr ⟨rfl,by omega,by omega⟩,(g1 j hj m hm).2⟩
   ·intro j hj;exact (g2 j hj).more (λ_ _ h=>.inl h)
  ·rintro b j hb (h|⟨rfl,-,-⟩)
   ·exact h
   ·omega
def qrR{w':CL}{S':qac}(hH:HOK C B w S β H)(hB:B<=w.heap.size)(e:Ext w.heap.size w S w' S') :
  Ext B w S w' S'/\HOK C B w' S' β H:=by
 have e':Ext B w S w' S':=⟨e.below.mono hB,e.stab,e.cell,λb j h=>(e.new b j h).imp id (λh=>zzL hB h),e.shape⟩
 refine⟨e',hH.ext e' (λo blk base k h=>e.below.block blk (hH.lt h)) ?_ (λo blk x h=>e.below.block blk (hH.splt h))⟩
 intro o blk base k h j hj;rcases e.new blk j hj with h1|h1
 ·exact h1
 ·have:=hH.lt h;omega
def qQp{w':CL}{S':qac}{x:DV}{v:CJ}(hs:x.AV=true)(h:Al w S x v):Al w' S' x v:=by
 cases h with
 |b x=>exact .b x
 |i k n=>exact .i k n
 |s l x h=>exact .s l x h
 |np=>exact .np
 |nf=>exact .nf
 |ni=>exact .ni
 |nm=>exact .nm
 |a cs vs h1 h2 h3=>simp[DV.AV]at hs
 |l=>simp[DV.AV]at hs
 |ifc=>simp[DV.AV]at hs
 |tok=>simp[DV.AV]at hs
def qCt{w':CL}{S':qac}{x:DV}{v:CJ}(hs:x.AX=true)(h:Al w S x v):Al w' S' x v:=by
 cases h with
 |a cs vs h1 h2 h3=>
  refine .a cs vs h1 h2 ?_;intro j hj hj';have hsc:∀c∈cs,DV.AV c=true:=by simpa[DV.AX]using hs
  exact qQp (hsc _ (zzs hj)) (h3 j hj hj')
 |l=>simp[DV.AX,DV.AV]at hs
 |ifc=>simp[DV.AX,DV.AV]at hs
 |tok=>simp[DV.AX,DV.AV]at hs
 |b x=>exact .b x
 |i k n=>exact .i k n
 |s l x h=>exact .s l x h
 |np=>exact .np
 |nf=>exact .nf
 |ni=>exact .ni
 |nm=>exact .nm
def qQq{w':CL}{S':qac}{β':Pl}{x:PV}{v:CJ}(hs:x.AV=true)(h:Ae C w S β x v):Ae C w' S' β' x v:=by
 cases h with
 |d x v h=>exact .d x v (qCt (by simpa[PV.AV]using hs) h)
 |_=>simp[PV.AV]at hs
def qQr{w':CL}{S':qac}{β':Pl}{x:PV}{v:CJ}(hs:x.AX=true)(h:Ae C w S β x v):Ae C w' S' β' x v:=by
 cases h with
 |t cs vs h1 h2=>
  refine .t cs vs h1 ?_;intro j hj hj';have hsc:∀c∈cs,PV.AV c=true:=by simpa[PV.AX]using hs
  exact qQq (hsc _ (zzs hj)) (h2 j hj hj')
 |d x v h=>exact .d x v (qCt (by simpa[PV.AX,PV.AV]using hs) h)
 |_=>simp[PV.AX,PV.AV]at hs
def qHc(hH:HOK C B w S β H){B':Nat}(hBB:B<=B'){id blk off:Nat}(hp:β id=.pend)(hlt:id<H.length)(hblk:B'<=blk)(hlow:∀o blk base k,β o=.at blk base k->blk<B'){cells:Array CJ}{e:CK}(hw:w.heap[blk]? = some (.cells cells e (0,0))){x:Obj}
  (hc:OCells C w S β cells blk off x):HOK C B w S (upd β id (.at blk off x.shape)) (H.put id (some x))/\Later β (upd β id (.at blk off x.shape)):=by
 have hlat:=qnE (x:=BO.at blk off x.shape) hp
 have hat:∀p blk1 base1 k1,upd β id (.at blk off x.shape) p=.at blk1 base1 k1->(p=id/\blk1=blk/\base1=off/\k1=x.shape)\/(p≠id/\β p=.at blk1 base1 k1):=by
  intro p blk1 base1 k1 h;by_cases h1:p=id
  ·subst h1;rw[qaZ]at h;cases h;exact .inl ⟨rfl,rfl,rfl,rfl⟩
  ·rw[qaD h1]at h;exact .inr ⟨h1,h⟩
 have hsp:=spf hH (β':=upd β id (.at blk off x.shape)) (H':=H.put id (some x)) (Ext.refl B w S) (λ_ _ _ h=>(qeC (by simp) h).2) (λ_ _ _ h=>qa0 (λh'=>(qeC (by simp) h).1 h'.symm)) (λ_ _ _ _=>rfl)
 refine⟨⟨?_,?_,?_,?_,?_,hsp.1,hsp.2⟩,hlat⟩
 ·intro p blk1 base1 k1 h;rcases hat p blk1 base1 k1 h with ⟨rfl,rfl,rfl,rfl⟩|⟨h1,h2⟩
  ·exact⟨zzL hBB hblk,x,cells,e,qc8 hlt,rfl,hw,hc.ext (Ext.refl B w S) hlat (λ_ h=>h)⟩
  ·obtain⟨a1,x0,c0,e0,a2,a3,a4,a5⟩:=hH.live p blk1 base1 k1 h2;exact⟨a1,x0,c0,e0,by rw[qa0 (λh=>h1 h.symm)];exact a2,a3,a4,a5.ext (Ext.refl B w S) hlat (λ_ h=>h)⟩
 ·intro p h;have h1:p≠id:=λh1=>by subst h1;rw[qaZ]at h;cases h
  rw[qaD h1]at h;rw[qa0 (λh=>h1 h.symm)];exact hH.dead p h
 ·intro p h;have h1:p≠id:=λh1=>by subst h1;rw[qaZ]at h;cases h
  rw[qaD h1]at h;rw[qa0 (λh=>h1 h.symm)];exact hH.Bq p h
 ·intro p p' blk1 base1 k1 base2 k2 h1 h2;rcases hat _ _ _ _ h1 with ⟨rfl,rfl,rfl,rfl⟩|⟨a1,a3⟩
  ·rcases hat _ _ _ _ h2 with ⟨rfl,-,-,-⟩|⟨b1,b3⟩
   ·rfl
   ·have:=hlow _ _ _ _ b3;omega
  ·rcases hat _ _ _ _ h2 with ⟨rfl,rfl,rfl,rfl⟩|⟨b1,b3⟩
   ·have:=hlow _ _ _ _ a3;omega
   ·exact hH.inj p p' blk1 base1 k1 base2 k2 a3 b3
 ·intro p h;rw[qaT]at h;rw[qaD (by omega)];exact hH.out p h
def qw5{us:CF CJ}{vs:Cu}{ds:Ct}{os:Cy}(hH:HOK C B w S β H)(hp:qaK H vs=some (ds,os))(hl:vs.length=us.length)(hr:∀j (h:j<vs.length) (h':j<us.length),Ae C w S β vs[j] us[j]) :
  ds.length=us.length/\∀j (h:j<ds.length) (h':j<us.length),Al w (FSq β H os S) ds[j] us[j]:=by
 obtain⟨h1,h2⟩:=qud hH hp;exact⟨by omega,h2 us hr⟩
def Ae.plain{β':Pl}{x:PV}{v:CJ}(h:Ae C w S (λ_=>.pend) x v):Ae C w S β' x v:=
 h.ext (Ext.refl 0 w S) (λ_=>.inr (.inr rfl))
end
def FR(r:CE Nat):Fence:={ Fence.wide with round:=r }
section
variable {P:CO}{N:Names}{C:Cx}{w:CL}{S:qac}{β:Pl}{B:Nat}{H:CP}{a:Act}{ro:CE Nat}{nf:Nat}
def qw6{f:FuncId}{args:Array CJ}{R:Ending->CL->Prop}:CallsIn (FR ro) nf P f args w R↔Calls P f args w R:=by
 cases ro with
 |none=>exact callsIn_wide
 |some l=>exact⟨λh=>callsIn_wide.1 (CallsIn.outOfRound (F:=Fence.wide) (l:=l) h),λh=>CallsIn.inRound (F:=Fence.wide) l (callsIn_wide.2 h)⟩
def qaR{o:Oper}(hnd:∀c,o.op≠.defer c){next:Act->CL->Prop}{Q:Exit->Act->CL->Prop}{u:CJ}{w':CL}(h:(execOp a.eval o).run P w=.ok (.value u) w')(hn:next (a.put o.dst u) w'):o.wpIn (FR ro) nf P a w next Q:=by
 refine⟨λ_ _=>trivial,?_⟩
 rw[Oper.semAt_eq _ _ _ hnd,h];exact hn
def qDC{o:Oper}(hnd:∀c,o.op≠.defer c){next:Act->CL->Prop}{Q:Exit->Act->CL->Prop}{w':CL}(h:(execOp a.eval o).run P w=.ok .skip w')(hn:next (a.put o.dst undef) w'):o.wpIn (FR ro) nf P a w next Q:=by
 refine⟨λ_ _=>trivial,?_⟩
 rw[Oper.semAt_eq _ _ _ hnd,h];exact hn
def qog{o:Oper}(hnd:∀c,o.op≠.defer c){next:Act->CL->Prop}{Q:Exit->Act->CL->Prop}{f:FuncId}{args:Array CJ}{R:Ending->CL->Prop}(h:(execOp a.eval o).run P w=.ok (.enter f args) w)(hc:Calls P f args w R)
  (hn:∀e w',R e w'->∃v,e=.returned v/\next (a.put o.dst v) w'):o.wpIn (FR ro) nf P a w next Q:=by
 refine⟨λ_ _=>trivial,?_⟩
 rw[Oper.semAt_eq _ _ _ hnd,h];refine⟨(λh=>by simp[FR,Fence.wide]at h),(qw6.2 hc).mono ?_⟩
 intro e w' hr;obtain⟨v,rfl,hv⟩:=hn e w' hr;exact hv
def qa2{s:Sem CJ}{u:CJ}{w w':CL}(h:s.run P w=.ok u w'):(do pure (Next.value (<-s)):Sem Next).run P w=.ok (.value u) w':=by
 simp[h]
def quH{s:Sem Unit}{w w':CL}(h:s.run P w=.ok () w'):(do s;pure Next.skip:Sem Next).run P w=.ok .skip w':=by
 simp[h]
def qwj(o:Go.Obj):Prop:=∀c t f,o≠.cells c t f
def qQP(hS:Swf w S){b j:Nat}(h:S b j):∃c t f,w.heap[b]? = some (.cells c t f):=by
 obtain⟨v,hv⟩:=hS b j h;unfold World.cell? at hv;split at hv
 ·exact⟨_,_,_,by assumption⟩
 ·cases hv
def qAZ(hS:Swf w S)(hB:B<=w.heap.size)(ob:Go.Obj):Ext B w S (w.alloc ob) S:=qhW hS hB ob
def qsU(hH:HOK C B w S β H)(hS:Swf w S)(hB:B<=w.heap.size){id:Nat}(hp:β id=.pend)(hlt:id<H.length){ob:Go.Obj}{x:Sp}{y:Obj}(hy:SpOK (w.alloc ob) S w.heap.size x y) :
  HOK C B (w.alloc ob) S (upd β id (.sp w.heap.size x)) (H.put id (some y))/\Later β (upd β id (.sp w.heap.size x)):=by
 have hl:=qnE (x:=.sp w.heap.size x) hp
 have hext:=qhW hS hB ob
 have hat:∀o blk base k,upd β id (.sp w.heap.size x) o=.at blk base k->o≠id/\β o=.at blk base k:=λo blk base k h=>by
  by_cases ho:o=id
  ·subst ho;rw[qaZ]at h;cases h
  ·rw[qaD ho]at h;exact⟨ho,h⟩
 refine⟨⟨?_,?_,?_,?_,?_,?_,?_⟩,hl⟩
 ·intro o blk base k ho;obtain⟨h0,ho⟩:=hat _ _ _ _ ho;obtain⟨h1,x0,c0,e0,h2,h3,h4,h5⟩:=hH.live o blk base k ho;refine⟨h1,x0,c0,e0,by rw[qa0 (λh'=>h0 h'.symm)];exact h2,h3,?_,h5.ext hext hl (λ_ h=>h)⟩
  rw[Below.heap_alloc w _ blk (hH.lt ho)];exact h4
 ·intro o ho;have h:o≠id:=λh=>by subst h;rw[qaZ]at ho;cases ho
  rw[qaD h]at ho;rw[qa0 (λh'=>h h'.symm)];exact hH.dead o ho
 ·intro o ho;have h:o≠id:=λh=>by subst h;rw[qaZ]at ho;cases ho
  rw[qaD h]at ho;rw[qa0 (λh'=>h h'.symm)];exact hH.Bq o ho
 ·intro o o' blk base k base' k' h1 h2;exact hH.inj o o' blk base k base' k' (hat _ _ _ _ h1).2 (hat _ _ _ _ h2).2
 ·intro o ho;rw[qaT]at ho;have h:o≠id:=by omega
  rw[qaD h];exact hH.out o ho
 ·intro o blk x' ho;by_cases h:o=id
  ·subst h;rw[qaZ]at ho;cases ho;exact⟨hB,y,qc8 hlt,hy⟩
  ·rw[qaD h]at ho;obtain⟨h1,y0,h2,h3⟩:=hH.sp o blk x' ho;exact⟨h1,y0,by rw[qa0 (λh'=>h h'.symm)];exact h2,h3.ext hext (Below.heap_alloc w _ blk (hH.splt ho))⟩
 ·intro o o' blk x1 x2 h1 h2;by_cases ha:o=id
  ·by_cases hb:o'=id
   ·rw[ha,hb]
   ·subst ha;rw[qaZ]at h1;cases h1
    rw[qaD hb]at h2;exact absurd (hH.splt h2) (Nat.lt_irrefl _)
  ·by_cases hb:o'=id
   ·subst hb;rw[qaZ]at h2;cases h2
    rw[qaD ha]at h1;exact absurd (hH.splt h1) (Nat.lt_irrefl _)
   ·rw[qaD ha]at h1;rw[qaD hb]at h2;exact hH.spi o o' blk x1 x2 h1 h2
def SpOK.obj{blk:Nat}{x:Sp}{y:Obj}(h:SpOK w S blk x y):∃ob,w.heap[blk]? = some ob/\qwj ob:=by
 unfold SpOK at h;split at h
 ·obtain⟨ms,clock,h1,-⟩:=h;exact⟨_,h1,λ_ _ _ h=>by cases h⟩
 ·obtain⟨s,-,h1⟩:=h;exact⟨_,h1,λ_ _ _ h=>by cases h⟩
 ·exact⟨_,h,λ_ _ _ h=>by cases h⟩
 ·exact⟨_,h,λ_ _ _ h=>by cases h⟩
 ·exact h.elim
def qug(hS:Swf w S){blk:Nat}(hB:B<=blk){o0:Go.Obj}(h0:w.heap[blk]? = some o0)(hn:qwj o0)(ob:Go.Obj):Ext B w S (w.putObj blk ob) S:=by
 have hne:∀b j,S b j->b≠blk:=λb j hs hb=>by
  subst hb;obtain⟨c,t,f,h⟩:=qQP hS hs;rw[h0]at h;cases h
  exact hn _ _ _ rfl
 refine⟨⟨rfl,rfl,rfl,by simp,λk hk=>World.putObj_heap_other (by omega)⟩,λ_ _ h=>h,?_,λ_ _ h=>.inl h,?_⟩
 ·intro b j hs;simp only[World.cell?,World.putObj_heap_other (hne b j hs)]
 ·intro b e n h;by_cases hb:b=blk
  ·subst hb;unfold World.shape? at h;rw[h0]at h;cases o0<;>first|(cases h;done)|exact absurd rfl (hn _ _ _)
  ·unfold World.shape? at h⊢;rw[World.putObj_heap_other hb];exact h
def qqK(hH:HOK C B w S β H)(hS:Swf w S){o blk:Nat}{x:Sp}(hb:β o=.sp blk x)(ob:Go.Obj){y':Obj}(hy:SpOK (w.putObj blk ob) S blk x y') :
  Ext B w S (w.putObj blk ob) S/\HOK C B (w.putObj blk ob) S β (H.put o (some y')):=by
 obtain⟨g1,y,g2,g3⟩:=hH.sp o blk x hb;obtain⟨o0,g4,g5⟩:=g3.obj;have hext:=qug hS g1 g4 g5 ob
 have hlt:o<H.length:=qio g2
 refine⟨hext,⟨?_,?_,?_,hH.inj,?_,?_,hH.spi⟩⟩
 ·intro o' blk' base k h;obtain⟨h1,x0,c0,e0,h2,h3,h4,h5⟩:=hH.live o' blk' base k h;have hne:o≠o':=λhq=>by subst hq;rw[hb]at h;cases h
  have hbn:=hH.spne hb h4
  exact⟨h1,x0,c0,e0,by rw[qa0 hne];exact h2,h3,by rw[World.putObj_heap_other (λh=>hbn h.symm)];exact h4,h5.ext hext (Later.refl _) (λ_ h=>h)⟩
 ·intro o' h;have hne:o≠o':=λhq=>by subst hq;rw[hb]at h;cases h
  rw[qa0 hne];exact hH.dead o' h
 ·intro o' h;have hne:o≠o':=λhq=>by subst hq;rw[hb]at h;cases h
  rw[qa0 hne];exact hH.Bq o' h
 ·intro o' h;rw[qaT]at h;exact hH.out o' h
 ·intro o' blk' x' h;by_cases ho:o=o'
  ·subst ho;rw[hb]at h;cases h
   exact⟨g1,y',qc8 hlt,hy⟩
  ·obtain⟨h1,y0,h2,h3⟩:=hH.sp o' blk' x' h;have hbn:blk'≠blk:=λhq=>ho (hH.spi o o' blk x x' hb (hq▸h))
   exact⟨h1,y0,by rw[qa0 ho];exact h2,h3.ext hext (World.putObj_heap_other hbn)⟩
def qwk(d:TypeDesc):Prop:=d=.bool\/d=.string\/∃k,d=.int k
def qJg{x y:DV}{u z:CJ}(hx:Al w S x u)(hy:Al w S y z){e:CG}(h:qcO x y=some e){d:TypeDesc}(hd:qwk d)(hk:MapKept.IsKey d u):Instr.sameNow d u z=some e:=by
 unfold qcO at h;split at h
 ·split at h
  ·rename_i hkk;subst hkk;cases h;cases hx;cases hy
   rcases hd with rfl|rfl|⟨k,rfl⟩<;>simp_all[MapKept.IsKey,Instr.sameNow]
  ·cases h
 ·cases h;cases hx with
  |s _ x hx=>
  cases hy with
  |s _ y hy=>
  subst hx hy;rcases hd with rfl|rfl|⟨k,rfl⟩
  ·simp[MapKept.IsKey]at hk
  ·simp only[Instr.sameNow];congr 1
   rw[Bool.eq_iff_iff,MapKept.bytes_beq];simp only[beq_iff_eq];constructor
   ·rintro rfl;rfl
   ·intro h;obtain⟨⟨x⟩⟩:=x;obtain⟨⟨y⟩⟩:=y;simpa using h
  ·simp[MapKept.IsKey]at hk
 ·cases h;cases hx;cases hy
  rcases hd with rfl|rfl|⟨k,rfl⟩<;>simp_all[MapKept.IsKey,Instr.sameNow]
 ·cases h
def qzJ{x y:DV}(h:qcO x y=some true):x=y:=by
 unfold qcO at h;split at h
 ·split at h
  ·rename_i hq;subst hq;simp at h;subst h;rfl
  ·cases h
 ·simp at h;subst h;rfl
 ·simp at h;subst h;rfl
 ·cases h
def qzF:∀{xs ys:Ct},qdp xs ys=some true->xs=ys
 |[],[],_=>rfl
 |x::xs,y::ys,h=>by
  simp only[qdp]at h;split at h
  ·rename_i e r h1 h2;simp only[zzb,zzf]at h;rw[h.1]at h1;rw[h.2]at h2
   rw[qzJ h1,qzF h2]
  ·cases h
 |[],_::_,h=>by cases h
 |_::_,[],h=>by cases h
def qJh{x y:DV}(h:qbo x y=some true):x=y:=by
 unfold qbo at h;split at h
 ·rw[qzF h]
 ·exact qzJ h
def qJf{k:Nat}{x y:DV}{e:CG}(hk:qk0 k x=true)(h:qcO x y=some e):eqK k x y=some e:=by
 unfold qk0 at hk;split at hk
 ·cases y<;>first|(cases h;done)|exact h
 ·cases y<;>first|(cases h;done)|exact h
 ·cases y<;>first|(cases h;done)|exact h
 ·cases hk
def qzG:∀{ks:Cy} {xs ys:Ct} {e:CG},qii ks xs=true->qdp xs ys=some e->eqL ks xs ys=some e
 |[],[],[],_,_,h=>h
 |[],[],_::_,_,_,h=>by cases h
 |[],_::_,_,_,hk,_=>by cases hk
 |_::_,[],_,_,hk,_=>by cases hk
 |_::_,_::_,[],_,_,h=>by cases h
 |k::ks,x::xs,y::ys,e,hk,h=>by
  simp only[qii,zzf]at hk;simp only[qdp]at h;cases h1:qcO x y with
  |none=>rw[h1]at h;cases h
  |some e1=>
   cases h2:qdp xs ys with
   |none=>rw[h1,h2]at h;cases h
   |some r=>
    rw[h1,h2]at h;simp only[zzb]at h;subst h;simp only[eqL,qJf hk.1 h1,qzG hk.2 h2]
def ML(w:CL)(S:qac):CF (DV×DV)->CF MapEntry->Prop
 |[],[]=>True
 |e::es,m::ms=>(Al w S e.1 m.key/\Al w S e.2 m.val)/\ML w S es ms
 |_,_=>False
def qAH:∀{es:CF (DV×DV)} {ms:CF MapEntry},es.length=ms.length->(∀j (h:j<es.length) (h':j<ms.length),Al w S es[j].1 ms[j].key/\Al w S es[j].2 ms[j].val)->ML w S es ms
 |[],[],_,_=>trivial
 |e::es,m::ms,hl,h=>⟨h 0 (by simp) (by simp),qAH (by simpa using hl) λj hj hj'=>h (j+1) (by simpa using hj) (by simpa using hj')⟩
 |[],_::_,hl,_=>by cases hl
 |_::_,[],hl,_=>by cases hl
def qtP:∀{es:CF (DV×DV)} {ms:CF MapEntry},ML w S es ms->es.length=ms.length/\∀j (h:j<es.length) (h':j<ms.length),Al w S es[j].1 ms[j].key/\Al w S es[j].2 ms[j].val
 |[],[],_=>⟨rfl,λj h=>absurd h (zzm _)⟩
 |e::es,m::ms,h=>by
  obtain⟨h1,h2⟩:=qtP h.2;refine⟨by simp[h1],λj hj hj'=>?_⟩
  cases j with
  |zero=>exact h.1
  |succ j=>exact h2 j (by simpa using hj) (by simpa using hj')
 |[],_::_,h=>h.elim
 |_::_,[],h=>h.elim
def qp8{es:CF (DV×DV)}{ms:Array MapEntry}:MR0 w S es ms↔ML w S es ms.toList:=
 ⟨λh=>qAH (by simpa using h.1) λj hj hj'=>by simpa using h.2 j hj (by simpa using hj'),λh=>⟨by simpa using (qtP h).1,λj hj hj'=>by have:=(qtP h).2 j hj (by simpa using hj');simp only[Array.getElem_toList]at this;exact this⟩⟩
def Fnd(cmp:CJ->CE CG):CF MapEntry->Nat->CE (CE (Nat×CJ))
 |[],_=>some none
 |e::es,i=>match cmp e.key with
  |some true=>some (some (i,e.val))
  |some false=>Fnd cmp es (i+1)
  |none=>none
def qyc(d:TypeDesc)(u:CJ):∀(ms:CF MapEntry) (i:Nat),Instr.findNow d u ms i=Fnd (Instr.sameNow d u) ms i
 |[],_=>rfl
 |e::es,i=>by
  simp only[Instr.findNow,Fnd,qyc d u es (i+1)];cases Instr.sameNow d u e.key with
  |none=>rfl
  |some b=>cases b<;>rfl
def qyb{P:CO}{kt:CK}{u:CJ}{cmp:CJ->CE CG}(h:∀z b,cmp z=some b->(Op.equal kt u z).run P w=.ok b w):∀(ms:CF MapEntry) (i:Nat) (r:CE (Nat×CJ)),Fnd cmp ms i=some r->(Instr.findAsking kt u ms i).run P w=.ok r w
 |[],_,r,hf=>by
  simp only[Fnd,zzb]at hf;subst hf;simp[Instr.findAsking]
 |e::es,i,r,hf=>by
  simp only[Fnd]at hf;cases hc:cmp e.key with
  |none=>rw[hc]at hf;cases hf
  |some b=>
   rw[hc]at hf;have hr:=h _ _ hc
   cases b with
   |true=>
    simp only[zzb]at hf;subst hf;simp[Instr.findAsking,hr]
   |false=>
    have ih:=qyb h es (i+1) r hf
    simp[Instr.findAsking,hr,ih]
def qyy{k:DV}{cmp:CJ->CE CG}(hc:∀y z e,Al w S y z->qbo k y=some e->cmp z=some e):∀{es:CF (DV×DV)} {ms:CF MapEntry} {r:CE DV} (i:Nat),ML w S es ms->qce k es=some r->
  match r with
  |none=>Fnd cmp ms i=some none
  |some v=>∃j z,Fnd cmp ms i=some (some (j,z))/\Al w S v z
 |[],[],r,i,_,h=>by cases h;rfl
 | (a,v)::es,m::ms,r,i,hm,h=>by
  simp only[qce]at h;obtain⟨⟨h1,h2⟩,h3⟩:=hm;split at h
  ·rename_i he;cases h
   have:=hc _ _ _ h1 he
   exact⟨i,m.val,by simp[Fnd,this],h2⟩
  ·rename_i he;have hs:=hc _ _ _ h1 he
   have ih:=qyy hc (i+1) h3 h
   cases r with
   |none=>simpa[Fnd,hs]using ih
   |some v=>simpa[Fnd,hs]using ih
  ·cases h
 |[],_::_,_,_,h,_=>h.elim
 |_::_,[],_,_,h,_=>h.elim
def qBL{k x:DV}{u z:CJ}(hk:Al w S k u)(hx:Al w S x z){cmp:CJ->CE CG}(hc:∀y z e,Al w S y z->qbo k y=some e->cmp z=some e)(clock:Nat):∀{es es':CF (DV×DV)} {ms:CF MapEntry} (i:Nat),ML w S es ms->qc9 k x es=some es'->
  (Fnd cmp ms i=some none/\ML w S es' (ms++[{ key:=u,val:=z,born:=clock }]))\/
  ∃j v,Fnd cmp ms i=some (some (i+j,v))/\(∃e,ms[j]? = some e/\Al w S k e.key)/\∀key,Al w S k key\/(∃e,ms[j]? = some e/\key=e.key)->ML w S es' (ms.modify j λe=>{ e with key:=key,val:=z })
 |[],es',[],i,_,h=>by
  cases h;exact .inl ⟨rfl,⟨hk,hx⟩,trivial⟩
 | (a,v)::es,es',m::ms,i,hm,h=>by
  simp only[qc9]at h;obtain⟨⟨h1,h2⟩,h3⟩:=hm;split at h
  ·rename_i he;cases h;have hs:=hc _ _ _ h1 he
   have hka:=qJh he
   subst hka;refine .inr ⟨0,m.val,by simp[Fnd,hs],⟨m,rfl,h1⟩,?_⟩
   intro key hkey;simp only[List.modify_zero_cons];refine⟨⟨?_,hx⟩,h3⟩;rcases hkey with hkey|⟨e,he',rfl⟩
   ·exact hkey
   ·simp at he';subst he';exact h1
  ·rename_i he;have hs:=hc _ _ _ h1 he
   split at h
   ·rename_i r' hr;cases h;rcases qBL hk hx hc clock (i+1) h3 hr with ⟨g1,g2⟩|⟨j,v',g1,⟨e,g2,g3⟩,g4⟩
    ·exact .inl ⟨by simpa[Fnd,hs]using g1,⟨h1,h2⟩,g2⟩
    ·refine .inr ⟨j+1,v',by simp[Fnd,hs,g1];omega,⟨e,by simpa using g2,g3⟩,?_⟩
     intro key hkey;rw[List.modify_succ_cons];exact⟨⟨h1,h2⟩,g4 key (by simpa using hkey)⟩
   ·cases h
  ·cases h
 |[],_,_::_,_,h,_=>h.elim
 |_::_,_,[],_,h,_=>h.elim
def sc1:DV->CG
 |.i _ _|.s _|.b _=>true
 |_=>false
def qCq{x:DV}{u z:CJ}(hs:sc1 x=true)(h:Al w S x u)(h':Al w S x z)(n:Nat):Instr.sameBits n u z=true:=by
 cases x<;>first|(cases hs;done)|skip
 ·cases h;cases h';cases n<;>simp[Instr.sameBits]
 ·cases h;cases h';cases n<;>simp[Instr.sameBits]
 ·cases h with
  |s _ a ha=>
  cases h' with
  |s _ b hb=>
  have:a=b:=by
   obtain⟨⟨a⟩⟩:=a;obtain⟨⟨b⟩⟩:=b;subst ha;simp at hb;rw[hb]
  subst this;cases n<;>(simp only[Instr.sameBits];exact (MapKept.bytes_beq _ _).2 rfl)
def qJj{k:Nat}{x:DV}(h:qk0 k x=true):sc1 x=true:=by
 unfold qk0 at h;split at h<;>first|rfl|(cases h;done)
def qzX:∀{ks:Cy} {xs:Ct},qii ks xs=true->xs.length=ks.length/\∀x∈xs,sc1 x=true
 |[],[],_=>⟨rfl,λx h=>by cases h⟩
 |[],_::_,h=>by cases h
 |_::_,[],h=>by cases h
 |k::ks,x::xs,h=>by
  simp only[qii,zzf]at h;obtain⟨l,r⟩:=qzX h.2;refine⟨by simp[l],λy hy=>?_⟩
  rcases List.mem_cons.1 hy with rfl|hy
  ·exact qJj h.1
  ·exact r y hy
def qQo{xs:Ct}{u z:CJ}(hs:∀x∈xs,sc1 x=true)(h:Al w S (.a xs) u)(h':Al w S (.a xs) z)(n:Nat):Instr.sameBits (n+1) u z=true:=by
 cases h with
 |a _ vs l1 f1 r1=>
 cases h' with
 |a _ us l2 f2 r2=>
 have hl:vs.length=us.length:=by omega
 simp only[Instr.sameBits,zzf,beq_iff_eq,List.size_toArray,hl,true_and];rw[List.all_eq_true];intro p hp;obtain⟨j,hj,rfl⟩:=zzO hp;simp only[List.length_zip,Nat.lt_min]at hj;simp only[List.getElem_zip];exact qCq (hs _ (zzs (by omega:j<xs.length))) (r1 j (by omega) hj.1) (r2 j (by omega) hj.2) n
def qB7{old new:CJ}(h:Instr.sameBits 10000 old new=true):(Instr.keyThatStays old new).run P w=.ok new w:=by
 simp[Instr.keyThatStays,h]
def qi5{b:CG}{u:CJ}(h:Ae C w S β (.d (.b b)) u):u=.bool b:=by
 cases h with
 |d _ _ h=>cases h;rfl
def qqC{f:FuncId}{fn:Func}(hfn:P.funcs[f]? = some fn)(hb:fn.body.isNone=false)(hn:fn.name ≠ "runtime.NumGoroutine") (args:Array CJ):(callFunc f args).run P w=.ok (.enter f args) w:=by
 have:(fn.name == "runtime.NumGoroutine")=false:=by simpa using hn
 simp only[callFunc,Sem.run_bind,run_program,Result.andThen_ok,hfn,this,zzg,if_false,hb,Sem.run_pure]
def OpPost(C:Cx)(B:Nat)(w:CL)(S:qac)(β:Pl)(H:CP)(id:Nat)(v:PV)(H':CP)(K:CJ->CL->Prop):Prop:=
 ∀u w' S' β',Ext B w S w' S'->Swf w' S'->HOK C B w' S' β' H'->Later β β'->Ae C w' S' β' v u->H.length<=H'.length->Kp H.length id β β'->K u w'
def OpPost.same{id:Nat}{v:PV}{K:CJ->CL->Prop}(h:OpPost C B w S β H id v H K)(hH:HOK C B w S β H)(hS:Swf w S){u:CJ}(hu:Ae C w S β v u):K u w:=
 h u w S β (Ext.refl _ _ _) hS hH (Later.refl _) hu (zzt _) (Kp.refl _ _ _)
def OpPost.of_leaves{id:Nat}{v:PV}{H':CP}{K:CJ->CL->Prop}(h:OpPost C B w S β H id v H' K){u:CJ}{w':CL}(hl:qeI C B w S β H id v H' u w'):K u w':=by
 obtain⟨S',β',a1,a2,a3,a4,a5,a6,a7⟩:=hl;exact h u w' S' β' a1 a2 a3 a4 a5 (by omega) a7
end
section
variable {P:CO}{N:Names}{C:Cx}{w:CL}{S:qac}{β:Pl}{B:Nat}{H:CP}{a:Act}{ro:CE Nat}{nf:Nat}{id:Nat}{v:PV}{H':CP}{o:Oper}{next:Act->CL->Prop}{Q:Exit->Act->CL->Prop}
def qCp{l:Cv}{u:CJ}(h:Ae C w S β (.d (.s l)) u):∃z:ByteArray,u=.string z/\z.data.toList=l:=by
 cases h with
 |d _ _ h=>cases h with
  |s _ z hz=>exact⟨z,rfl,hz⟩
def qHj{t:Nat}{y:DV}{u:CJ}(h:Ae C w S β (.d (.ifc t y)) u):∃z,u=.iface t z/\Al w S y z:=by
 cases h with
 |d _ _ h=>cases h with
  |ifc _ _ z hz=>exact⟨z,rfl,hz⟩
def qK8{u:CJ}(h:Ae C w S β (.d .ni) u):u=.nilIface:=by
 cases h with
 |d _ _ h=>cases h;rfl
def qOV(hnd:∀c,o.op≠.defer c){t:CK}{x:Operand}(hop:o.op=.makeInterface t x){d:TypeDesc}(ht:P.underlying t=some d)(hd:∀ms,d≠.interface ms){r:PV}(hx:Ae C w S β r (a.eval x))(hH:HOK C B w S β H)(hS:Swf w S)
  {y:DV} {os:Cy} (hpu:pur H r=some (y,os)) (hp:OpPost C B w S β H id (.d (.ifc t y)) (frz H os) λu w'=>next (a.put o.dst u) w'):o.wpIn (FR ro) nf P a w next Q:=by
 have hrel:=qlf hH hx hpu
 refine qaR hnd (u:=.iface t (a.eval x)) ?_ (hp _ _ _ β (qeu hH os) (qjj hH hS os) (qkO hH os) (Later.refl _) (.d _ _ (.ifc t _ _ hrel)) (by rw[qc5];exact zzt _) (Kp.refl _ _ _))
 simp only[execOp,hop];refine qa2 ?_;simp only[Instr.makeInterface,Sem.run_bind,qax ht,Result.andThen_ok];cases d<;>first|exact absurd rfl (hd _)|rfl
def qSO{u:Nat}{y:PV}{v:CJ}(h:Ae C w S β (.w u y) v):∃z,v=.iface u z/\Ae C w S β y z:=by
 cases h with
 |w _ _ z h=>exact⟨z,rfl,h⟩
def qOW(hnd:∀c,o.op≠.defer c){t:CK}{x:Operand}(hop:o.op=.makeInterface t x){d:TypeDesc}(ht:P.underlying t=some d)(hd:∀ms,d≠.interface ms){r:PV}(hx:Ae C w S β r (a.eval x))(hH:HOK C B w S β H)(hS:Swf w S)
  (hp:OpPost C B w S β H id (.w t r) H λu w'=>next (a.put o.dst u) w'):o.wpIn (FR ro) nf P a w next Q:=by
 refine qaR hnd (u:=.iface t (a.eval x)) ?_ (hp.same hH hS (.w t _ _ hx));simp only[execOp,hop];refine qa2 ?_;simp only[Instr.makeInterface,Sem.run_bind,qax ht,Result.andThen_ok];cases d<;>first|exact absurd rfl (hd _)|rfl
def qO1(hnd:∀c,o.op≠.defer c){s t:CK}{x:Operand}{ok:CG}(hop:o.op=.typeAssert x s t ok){d:TypeDesc}(ht:P.underlying t=some d)(hd:∀ms,d≠.interface ms){z:DV}(hz:zq P t=some z){r:PV}
  (h:(match r with
  |.d (.ifc u v)=>if u=t then some (if ok then PV.t [.d v,.d (.b true)]else .d v,H)else if ok then some (.t [.d z,.d (.b false)],H)else none
  |.w u v=>if u=t then some (if ok then PV.t [v,.d (.b true)]else v,H)else if ok then some (.t [.d z,.d (.b false)],H)else none
  |.d .ni=>if ok then some (.t [.d z,.d (.b false)],H)else none
  |_=>none)=some (v,H')) (hx:Ae C w S β r (a.eval x)) (hH:HOK C B w S β H) (hS:Swf w S) (hp:OpPost C B w S β H id v H' λu w'=>next (a.put o.dst u) w'):o.wpIn (FR ro) nf P a w next Q:=by
 obtain⟨k,zv,-,hzv,-,hzr⟩:=qfa hz;have pair:∀{x y:PV} {u z:CJ},Ae C w S β x u->Ae C w S β y z->Ae C w S β (.t [x,y]) (.tuple #[u,z]):=by
  intro x y u z h1 h2;refine .t [x,y] [u,z] rfl λj hj hj'=>?_
  match j,hj with
  |0,_=>exact h1
  |1,_=>exact h2
 have fails:ok=true->v=.t [.d z,.d (.b false)]->H'=H->((execOp a.eval o).run P w=.ok (.value (.tuple #[zv,.bool false])) w)->o.wpIn (FR ro) nf P a w next Q:=by
  rintro-rfl rfl hr;exact qaR hnd hr (hp.same hH hS (pair (.d _ _ (hzr w S)) (.d _ _ (.b false))))
 split at h
 ·rename_i u1 y hx;obtain⟨yv,hax,hy⟩:=qHj hx;split at h
  ·rename_i hut;subst hut;simp only[zzb,zzc]at h;obtain⟨rfl,rfl⟩:=h;cases ok with
   |true=>
    refine qaR hnd (u:=.tuple #[yv,.bool true]) ?_ (hp.same hH hS (pair (.d _ _ hy) (.d _ _ (.b true))));simp only[execOp,hop,hax];refine qa2 ?_;simp only[Instr.typeAssert,Sem.run_bind,qax ht,Result.andThen_ok];cases d<;>first|exact absurd rfl (hd _)|(simp)
   |false=>
    refine qaR hnd (u:=yv) ?_ (hp.same hH hS (.d _ _ hy));simp only[execOp,hop,hax];refine qa2 ?_;simp only[Instr.typeAssert,Sem.run_bind,qax ht,Result.andThen_ok];cases d<;>first|exact absurd rfl (hd _)|(simp)
  ·rename_i hut;split at h
   ·rename_i hok;subst hok;simp only[zzb,zzc]at h;refine fails rfl h.1.symm h.2.symm ?_;simp only[execOp,hop,hax];refine qa2 ?_;simp only[Instr.typeAssert,Sem.run_bind,qax ht,Result.andThen_ok];cases d<;>first|exact absurd rfl (hd _)|(simp[hut,qe5 hzv])
   ·cases h
 ·rename_i u1 y hx;obtain⟨yv,hax,hy⟩:=qSO hx;split at h
  ·rename_i hut;subst hut;simp only[zzb,zzc]at h;obtain⟨rfl,rfl⟩:=h;cases ok with
   |true=>
    refine qaR hnd (u:=.tuple #[yv,.bool true]) ?_ (hp.same hH hS (pair hy (.d _ _ (.b true))));simp only[execOp,hop,hax];refine qa2 ?_;simp only[Instr.typeAssert,Sem.run_bind,qax ht,Result.andThen_ok];cases d<;>first|exact absurd rfl (hd _)|(simp)
   |false=>
    refine qaR hnd (u:=yv) ?_ (hp.same hH hS hy);simp only[execOp,hop,hax];refine qa2 ?_;simp only[Instr.typeAssert,Sem.run_bind,qax ht,Result.andThen_ok];cases d<;>first|exact absurd rfl (hd _)|(simp)
  ·rename_i hut;split at h
   ·rename_i hok;subst hok;simp only[zzb,zzc]at h;refine fails rfl h.1.symm h.2.symm ?_;simp only[execOp,hop,hax];refine qa2 ?_;simp only[Instr.typeAssert,Sem.run_bind,qax ht,Result.andThen_ok];cases d<;>first|exact absurd rfl (hd _)|(simp[hut,qe5 hzv])
   ·cases h
 ·rename_i hx;have hax:=qK8 hx
  split at h
  ·rename_i hok;subst hok;simp only[zzb,zzc]at h;refine fails rfl h.1.symm h.2.symm ?_;simp only[execOp,hop,hax];refine qa2 ?_;simp only[Instr.typeAssert,Sem.run_bind,qax ht,Result.andThen_ok];cases d<;>first|exact absurd rfl (hd _)|(simp[qe5 hzv])
  ·cases h
 ·cases h
def qe3:Nat->CJ
 |0=>.nilIface
 |1=>.pointer none
 |2=>.map none
 |3=>.nilFunc
 |_=>.slice none 0 0
def qK9{kd:Nat}{d:TypeDesc}(hkd:qnv d=some kd){r:PV}{u:CJ}(hx:Ae C w S β r u){b:CG}(h:qdr kd r=some b) :
  (∃ms,d=.interface ms/\qe3 kd=.nilIface/\((b=true/\u=.nilIface)\/(b=false/\∃t x,u=.iface t x)))\/(∃e,d=.pointer e/\qe3 kd=.pointer none/\((b=true/\u=.pointer none)\/(b=false/\∃p,u=.pointer (some p))))\/
  (∃k e,d=.map k e/\qe3 kd=.map none/\b=true/\u=.map none)\/(∃ps rs vr,d=.func ps rs vr/\qe3 kd=.nilFunc/\((b=true/\u=.nilFunc)\/(b=false/\∃f x y,u=.func f x y)))\/(∃e,d=.slice e/\qe3 kd=.slice none 0 0/\b=false/\∃ad l c,u=.slice (some ad) l c):=by
 unfold qnv at hkd;split at hkd<;>first|(cases hkd;done)|skip
 all_goals cases hkd
 ·unfold qdr at h;split at h<;>first|(cases h;done)|skip
  all_goals first|(rename_i heq;cases heq;done)|skip
  ·cases h;cases hx with|d _ _ hx=>cases hx;exact .inl ⟨_,rfl,rfl,.inl ⟨rfl,rfl⟩⟩
  ·cases h;cases hx with|d _ _ hx=>cases hx;exact .inl ⟨_,rfl,rfl,.inr ⟨rfl,_,_,rfl⟩⟩
  ·cases h;cases hx with|d _ _ hx=>cases hx;exact .inl ⟨_,rfl,rfl,.inr ⟨rfl,_,_,rfl⟩⟩
  ·cases h;cases hx;exact .inl ⟨_,rfl,rfl,.inr ⟨rfl,_,_,rfl⟩⟩
 ·unfold qdr at h;split at h<;>first|(cases h;done)|skip
  all_goals first|(rename_i heq;cases heq;done)|skip
  ·cases h;cases hx with|d _ _ hx=>cases hx;exact .inr (.inl ⟨_,rfl,rfl,.inl ⟨rfl,rfl⟩⟩)
  ·cases h;cases hx with
   |p _ _ _ _ _ hp=>
    unfold RelPt at hp;split at hp
    ·exact hp.elim
    ·obtain⟨blk,off,rfl⟩:=hp;exact .inr (.inl ⟨_,rfl,rfl,.inr ⟨rfl,_,rfl⟩⟩)
    ·exact hp.elim
    ·subst hp;exact .inr (.inl ⟨_,rfl,rfl,.inr ⟨rfl,_,rfl⟩⟩)
    ·exact hp.elim
  ·cases h;cases hx;exact .inr (.inl ⟨_,rfl,rfl,.inr ⟨rfl,_,rfl⟩⟩)
 ·unfold qdr at h;split at h<;>first|(cases h;done)|skip
  all_goals first|(rename_i heq;cases heq;done)|skip
  ·cases h;cases hx with|d _ _ hx=>cases hx;exact .inr (.inr (.inl ⟨_,_,rfl,rfl,rfl,rfl⟩))
 ·unfold qdr at h;split at h<;>first|(cases h;done)|skip
  all_goals first|(rename_i heq;cases heq;done)|skip
  ·cases h;cases hx with|d _ _ hx=>cases hx;exact .inr (.inr (.inr (.inl ⟨_,_,_,rfl,rfl,.inl ⟨rfl,rfl⟩⟩)))
  ·cases h;cases hx;exact .inr (.inr (.inr (.inl ⟨_,_,_,rfl,rfl,.inr ⟨rfl,_,_,_,rfl⟩⟩)))
  ·cases h;cases hx;exact .inr (.inr (.inr (.inl ⟨_,_,_,rfl,rfl,.inr ⟨rfl,_,_,_,rfl⟩⟩)))
 ·unfold qdr at h;split at h<;>first|(cases h;done)|skip
  all_goals first|(rename_i heq;cases heq;done)|skip
  ·cases h;cases hx with
   |d _ _ hx=>
    cases hx with
    |l _ _ _ ad cap blk off c c1 c2 c3 c4 c5=>
     have:=c3 (by simp)
     subst this;exact .inr (.inr (.inr (.inr ⟨_,rfl,rfl,rfl,_,_,_,rfl⟩)))
def qA0{kd:Nat}{t:CE CK}{y:Operand}{r:Ab}(hr:qbq P N t y=some r)(h:qe2 kd r=true):∃v,y=.const v/\v=qe3 kd:=by
 cases y with
 |tmp n=>cases hr;simp[qe2]at h
 |global g=>cases hr;simp[qe2]at h
 |func f=>
  simp only[qbq,Option.map_eq_some_iff]at hr;obtain⟨x,-,rfl⟩:=hr;simp[qe2]at h
 |const v=>
  refine⟨v,rfl,?_⟩;simp only[qbq,Option.map_eq_some_iff]at hr;obtain⟨z,hz,rfl⟩:=hr;unfold qkG at hz;split at hz
  ·split at hz
   ·simp only[Option.map_eq_some_iff]at hz;obtain⟨l,-,rfl⟩:=hz;simp[qe2]at h
   ·cases hz
  ·unfold qm8 at hz;split at hz<;>first|(cases hz;done)|skip
   all_goals cases hz
   all_goals
    unfold qe2 at h;split at h<;>first|(cases h;done)|(rename_i heq;cases heq;done)|rfl
def qcx{op:BinOp}(hop:op=.eql\/op=.neq){t:CK}{x y:Operand}{p q:CJ}{b:CG}(hg:(eqGuard op t x y p q).run P w=.ok () w)(he:(Op.equal t p q).run P w=.ok b w)
  (h1:binOp .eql t p q=(do pure (.bool (<-Op.equal t p q)))) (h2:binOp .neq t p q=(do pure (.bool (!(<-Op.equal t p q))))) :
  (do eqGuard op t x y p q;binOp op t p q:Sem CJ).run P w=.ok (.bool (if op==.neq then !b else b)) w:=by
 rw[Sem.run_bind,hg];simp only[Result.andThen_ok];rcases hop with rfl|rfl
 ·rw[h1,Sem.run_bind,he];rfl
 ·rw[h2,Sem.run_bind,he];rfl
def qB6{op:BinOp}(hop:op=.eql\/op=.neq){t:CK}{x y:Operand}{r:PV}{u:CJ}(hx:Ae C w S β r u){b:CG}{kd:Nat}{d:TypeDesc}(hkd:qnv d=some kd)(h:qdr kd r=some b)(ht:P.underlying t=some d) :
  ((∃c,y=.const c)->(do eqGuard op t x y u (qe3 kd);binOp op t u (qe3 kd):Sem CJ).run P w=.ok (.bool (if op==.neq then !b else b)) w)/\((∃c,x=.const c)->(do eqGuard op t x y (qe3 kd) u;binOp op t (qe3 kd) u:Sem CJ).run P w=.ok (.bool (if op==.neq then !b else b)) w):=by
 have hb:=qK9 hkd hx h
 have G:∀p q:CJ,(p≠.nilIface\/q≠.nilIface\/(∃c,y=.const c)\/∃c,x=.const c)->(∀c,p≠.agg c)->(eqGuard op t x y p q).run P w=.ok () w:=by
  intro p q hpq hag;rcases hop with rfl|rfl
  all_goals
   unfold eqGuard;simp only[Bool.not_true,zzg,if_false];split
   ·rcases hpq with h|h|⟨c,rfl⟩|⟨c,rfl⟩
    ·exact absurd rfl h
    ·exact absurd rfl h
    ·simp
    ·simp
   ·exact absurd rfl (hag _)
   ·rfl
 rcases hb with ⟨ms,rfl,hn,hu⟩|⟨e,rfl,hn,hu⟩|⟨k,e,rfl,hn,rfl,rfl⟩|⟨ps,rs,vr,rfl,hn,hu⟩|⟨e,rfl,hn,rfl,ad,l,c,rfl⟩
 all_goals rw[hn]
 ·rcases hu with ⟨rfl,rfl⟩|⟨rfl,tt,xx,rfl⟩
  ·have he:(Op.equal t .nilIface .nilIface).run P w=.ok true w:=by simp only[Op.equal,Op.maxDepth];unfold Op.equalIn;simp[qax ht]
   exact⟨λhc=>qcx hop (G _ _ (.inr (.inr (.inl hc))) (λc h=>by cases h)) he rfl rfl,λhc=>qcx hop (G _ _ (.inr (.inr (.inr hc))) (λc h=>by cases h)) he rfl rfl⟩
  ·have he:(Op.equal t (.iface tt xx) .nilIface).run P w=.ok false w:=by simp only[Op.equal,Op.maxDepth];unfold Op.equalIn;simp[qax ht]
   have he':(Op.equal t .nilIface (.iface tt xx)).run P w=.ok false w:=by simp only[Op.equal,Op.maxDepth];unfold Op.equalIn;simp[qax ht]
   exact⟨λ_=>qcx hop (G _ _ (.inl (by simp)) (λc h=>by cases h)) he rfl rfl,λ_=>qcx hop (G _ _ (.inr (.inl (by simp))) (λc h=>by cases h)) he' rfl rfl⟩
 ·rcases hu with ⟨rfl,rfl⟩|⟨rfl,p,rfl⟩
  ·have he:(Op.equal t (.pointer none) (.pointer none)).run P w=.ok true w:=by simp only[Op.equal,Op.maxDepth];unfold Op.equalIn;simp[qax ht]
   exact⟨λ_=>qcx hop (G _ _ (.inl (by simp)) (λc h=>by cases h)) he rfl rfl,λ_=>qcx hop (G _ _ (.inl (by simp)) (λc h=>by cases h)) he rfl rfl⟩
  ·have he:(Op.equal t (.pointer (some p)) (.pointer none)).run P w=.ok false w:=by simp only[Op.equal,Op.maxDepth];unfold Op.equalIn;simp[qax ht]
   have he':(Op.equal t (.pointer none) (.pointer (some p))).run P w=.ok false w:=by simp only[Op.equal,Op.maxDepth];unfold Op.equalIn;simp[qax ht]
   exact⟨λ_=>qcx hop (G _ _ (.inl (by simp)) (λc h=>by cases h)) he rfl rfl,λ_=>qcx hop (G _ _ (.inl (by simp)) (λc h=>by cases h)) he' rfl rfl⟩
 ·have he:(Op.equal t (.map none) (.map none)).run P w=.ok true w:=by simp only[Op.equal,Op.maxDepth];unfold Op.equalIn;simp[qax ht]
  exact⟨λ_=>qcx hop (G _ _ (.inl (by simp)) (λc h=>by cases h)) he rfl rfl,λ_=>qcx hop (G _ _ (.inl (by simp)) (λc h=>by cases h)) he rfl rfl⟩
 ·rcases hu with ⟨rfl,rfl⟩|⟨rfl,ff,xx,yy,rfl⟩
  ·have he:(Op.equal t .nilFunc .nilFunc).run P w=.ok true w:=by simp only[Op.equal,Op.maxDepth];unfold Op.equalIn;simp[qax ht]
   exact⟨λ_=>qcx hop (G _ _ (.inl (by simp)) (λc h=>by cases h)) he rfl rfl,λ_=>qcx hop (G _ _ (.inl (by simp)) (λc h=>by cases h)) he rfl rfl⟩
  ·have he:(Op.equal t (.func ff xx yy) .nilFunc).run P w=.ok false w:=by simp only[Op.equal,Op.maxDepth];unfold Op.equalIn;simp[qax ht]
   have he':(Op.equal t .nilFunc (.func ff xx yy)).run P w=.ok false w:=by simp only[Op.equal,Op.maxDepth];unfold Op.equalIn;simp[qax ht]
   exact⟨λ_=>qcx hop (G _ _ (.inl (by simp)) (λc h=>by cases h)) he rfl rfl,λ_=>qcx hop (G _ _ (.inl (by simp)) (λc h=>by cases h)) he' rfl rfl⟩
 ·have he:(Op.equal t (.slice (some ad) l c) (.slice none 0 0)).run P w=.ok false w:=by simp only[Op.equal,Op.maxDepth];unfold Op.equalIn;simp[qax ht]
  have he':(Op.equal t (.slice none 0 0) (.slice (some ad) l c)).run P w=.ok false w:=by simp only[Op.equal,Op.maxDepth];unfold Op.equalIn;simp[qax ht]
  exact⟨λ_=>qcx hop (G _ _ (.inl (by simp)) (λc h=>by cases h)) he rfl rfl,λ_=>qcx hop (G _ _ (.inl (by simp)) (λc h=>by cases h)) he' rfl rfl⟩
def qvr(hH:HOK C B w S β H){oo:Nat}{u:CJ}(hx:Ae C w S β (.h oo) u){y:Obj}(ho:H.obj oo=some y):∃blk x,β oo=.sp blk x/\SpOK w S blk x y/\((x=.map/\u=.map (some blk))\/(x=.iter/\u=.pointer (some ⟨blk,0,none⟩))\/∃r,x=.loop r/\u=.func (.yield blk) #[] #[]):=by
 cases hx with
 |h _ _ _ hh=>
  unfold RelH at hh;split at hh
  ·rename_i hb;rw[hH.dead _ hb]at ho;cases ho
  ·rename_i blk hb;obtain⟨-,y',g1,g2⟩:=hH.sp _ _ _ hb;rw[ho]at g1;cases g1
   exact⟨blk,_,hb,g2,.inl ⟨rfl,hh⟩⟩
  ·rename_i blk hb;obtain⟨-,y',g1,g2⟩:=hH.sp _ _ _ hb;rw[ho]at g1;cases g1
   exact⟨blk,_,hb,g2,.inr (.inl ⟨rfl,hh⟩)⟩
  ·rename_i blk r hb;obtain⟨-,y',g1,g2⟩:=hH.sp _ _ _ hb;rw[ho]at g1;cases g1
   exact⟨blk,_,hb,g2,.inr (.inr ⟨r,rfl,hh⟩)⟩
  ·exact hh.elim
def qAy(hH:HOK C B w S β H){oo:Nat}{u:CJ}(hx:Ae C w S β (.h oo) u){es:CF (DV×DV)}(ho:H.obj oo=some (.mp es)):∃blk ms clock,∃es0:CF (DV×DV),β oo=.sp blk .map/\u=.map (some blk)/\w.heap[blk]? = some (.map ms clock)/\es0.Perm es/\NdK es0/\ML w S es0 ms.toList:=by
 obtain⟨blk,x,h1,h2,h3⟩:=qvr hH hx ho;rcases h3 with ⟨rfl,rfl⟩|⟨rfl,-⟩|⟨r,rfl,-⟩
 ·obtain⟨ms,clock,q1,es0,q2,q3,q4⟩:=h2;exact⟨blk,ms,clock,es0,h1,rfl,q1,q2,q3,qp8.1 q4⟩
 ·exact h2.elim
 ·exact h2.elim
def qHD(hH:HOK C B w S β H){oo:Nat}{u:CJ}(hx:Ae C w S β (.h oo) u){l:Cv}{pos:Nat}(ho:H.obj oo=some (.si l pos)):∃blk,∃z:ByteArray,β oo=.sp blk .iter/\u=.pointer (some ⟨blk,0,none⟩)/\w.heap[blk]? = some (.stringIter z pos)/\z.data.toList=l:=by
 obtain⟨blk,x,h1,h2,h3⟩:=qvr hH hx ho;rcases h3 with ⟨rfl,rfl⟩|⟨rfl,rfl⟩|⟨r,rfl,-⟩
 ·exact h2.elim
 ·obtain⟨z,q1,q2⟩:=h2;exact⟨blk,z,h1,rfl,q2,q1⟩
 ·exact h2.elim
def qqI:TypeDesc->DV->CG
 |.bool,.b _=>true
 |.string,.s _=>true
 |.int k,.i k' _=>k==k'
 |_,_=>false
def qJo{t:CK}{d:TypeDesc}{ky:Ky}(h:qnD P t d=some ky){k:DV}(hk:qeW ky k=true):qqI d k=true\/∃fs ks xs,d=.struct fs/\ky=.st ks/\k=.a xs/\qpq P t fs=true/\qct P 8 t=some ks/\qii ks xs=true:=by
 cases d with
 |bool=>cases h;cases k<;>first|(cases hk;done)|exact .inl rfl
 |string=>cases h;cases k<;>first|(cases hk;done)|exact .inl rfl
 |int q=>cases h;cases k<;>first|(cases hk;done)|exact .inl hk
 |struct fs=>
  simp only[qnD]at h;split at h
  ·rename_i hf;obtain⟨ks,h1,h2⟩:=Option.map_eq_some_iff.1 h;subst h2;cases k<;>first|(cases hk;done)|skip
   rename_i xs;exact .inr ⟨fs,ks,xs,rfl,rfl,rfl,hf,h1,hk⟩
  ·cases h
 |_=>cases h
def qJi{d:TypeDesc}{k:DV}{u:CJ}(h:qqI d k=true)(hk:Al w S k u):qwk d/\MapKept.IsKey d u:=by
 unfold qqI at h;split at h
 ·cases hk;exact⟨.inl rfl,trivial⟩
 ·cases hk;exact⟨.inr (.inl rfl),trivial⟩
 ·simp only[beq_iff_eq]at h;subst h;cases hk;exact⟨.inr (.inr ⟨_,rfl⟩),rfl⟩
 ·cases h
structure KeyAt (P:Program) (w:World) (S:qac) (kt:TypeId) (k:DV) (u:Value) (cmp:Value->Option Bool):Prop where
 cm:∀y z e,Al w S y z->qbo k y=some e->cmp z=some e
 find:∀ms r,Fnd cmp ms 0=some r->(Instr.findKey kt u ms).run P w=.ok r w
 chk:∀e,(Instr.checkKey e 10000 kt u).run P w=.ok () w
 stay:∀z,Al w S k z->(Instr.keyThatStays z u).run P w=.ok u w
def qFy{t:CK}(h:P.plainKey t=true)(em:CG)(n:Nat)(x:CJ):(Instr.checkKey em (n+1) t x).run P w=.ok () w:=by
 unfold Program.plainKey at h;cases hu:P.underlying t with
 |none=>simp[hu]at h
 |some d=>
  rw[hu]at h;cases d<;>first|(cases h;done)|(simp[Instr.checkKey,run_underlying hu])
def qFz{t:CK}{fs:Array Field}(hu:P.underlying t=some (.struct fs))(hf:qpq P t fs=true){cs:Array CJ}(hl:cs.size=P.cellsOf t)(em:CG):(Instr.checkKey em 10000 t (.agg cs)).run P w=.ok () w:=by
 rw[show 10000=9998+1+1 from rfl,Instr.checkKey]
 simp only[Sem.run_bind,run_underlying hu,Result.andThen_ok];rw[<-Array.forIn_toList];unfold qpq at hf;generalize fs.toList=L at hf;induction L with
 |nil=>simp
 |cons f L ih=>
  simp only[List.all_cons,zzf,bne_iff_ne,ne_eq,zzq]at hf;obtain⟨⟨⟨h1,h2⟩,h3⟩,h4⟩:=hf;have hx:cs[f.offset]? = some (cs[f.offset]'(by omega)):=Array.getElem?_eq_getElem _
  have p1:=run_part_plain w h2 hx
  have p2:=qFy (w:=w) h2 em 9998 (cs[f.offset]'(by omega))
  simp only[List.forIn_cons,Sem.run_bind,h1,ne_eq,not_false_eq_true,if_true,Result.andThen_ok,p1,p2,Sem.run_pure];exact ih h4
def qzN{kt:CK}{d:TypeDesc}(hkt:P.underlying kt=some d){ky:Ky}(hky:qnD P kt d=some ky){k:DV}(hok:qeW ky k=true){u:CJ}(hk:Al w S k u):∃cmp,KeyAt P w S kt k u cmp:=by
 rcases qJo hky hok with hsc|⟨fs,ks,xs,rfl,rfl,rfl,hf,hks,hkn⟩
 ·obtain⟨hsk,hik⟩:=qJi hsc hk;have hs1:sc1 k=true:=by
   unfold qqI at hsc;split at hsc<;>first|rfl|(cases hsc;done)
  refine⟨Instr.sameNow d u,⟨λy z e hy he=>?_,λms r hr=>?_,λe=>MapKept.run_checkKey hkt hik e 9999,λz hz=>qB7 (qCq hs1 hz hk _)⟩⟩
  ·refine qJg hk hy ?_ hsk hik;unfold qbo at he;split at he
   ·cases hs1
   ·exact he
  ·rw[<-qyc]at hr;exact MapKept.run_findKey hkt hr
 ·obtain⟨hl,hsc⟩:=qzX hkn;have hkl:=qkM hks
  cases hk with
  |a _ vs l1 f1 r1=>
  have hkq:kq P kt=some (some (P.cellsOf kt)):=by simp[kq,hkt]
  have hmk:∀(vs:CF CJ),vs.length=P.cellsOf kt->mkV (some (P.cellsOf kt)) (λj=>vs.getD j undef)=.agg vs.toArray:=by
   intro vs hv;simp only[mkV];congr 2
   apply List.ext_getElem
   ·simp[hv]
   ·intro j h1 h2;simp[List.getD,zze h2]
  let cmp:CJ->CE CG:=λz=>open Classical in if h:∃b,(Op.equal kt (.agg vs.toArray) z).run P w=.ok b w then some h.choose else none
  have hcmp:∀z b,cmp z=some b->(Op.equal kt (.agg vs.toArray) z).run P w=.ok b w:=by
   intro z b h;simp only[cmp]at h;split at h
   ·rename_i hex;cases h;exact hex.choose_spec
   ·cases h
  have hcmp':∀z b,(Op.equal kt (.agg vs.toArray) z).run P w=.ok b w->cmp z=some b:=by
   intro z b h;have hex:∃b,(Op.equal kt (.agg vs.toArray) z).run P w=.ok b w:=⟨b,h⟩
   simp only[cmp,dif_pos hex,zzb]
   have:=h.symm.trans hex.choose_spec
   simp only[Result.ok.injEq,and_true]at this;exact this.symm
  refine⟨cmp,⟨λy z e hy he=>?_,λms r hr=>?_,λe=>qFz hkt hf (by simp;omega) e,λz hz=>qB7 (qQo hsc hz (.a _ _ l1 f1 r1) 9999)⟩⟩
  ·refine hcmp' _ _ ?_;unfold qbo at he;split at he
   ·rename_i xs' ys heq;cases heq;have he':=qzG hkn he
    obtain⟨g1,g2⟩:=qne he';cases hy with
    |a _ us l2 f2 r2=>
    have heq:=qsp (P:=P) (w:=w) (S:=S) 8 10000 (by omega) kt ks hks _ hkq (λj=>vs.getD j undef) (λj=>us.getD j undef) xs ys e he' (λj hj=>by
     simp only[List.getD,zze (show j<vs.length by omega),zzA];exact r1 j hj (by omega)) (λj hj=>by
     simp only[List.getD,zze (show j<us.length by omega),zzA];exact r2 j hj (by omega))
    rw[hmk vs (by omega),hmk us (by omega)]at heq
    exact heq
   ·unfold qcO at he;cases he
  ·rw[run_findKey_eq w (by rw[hkt])]
   exact qyb hcmp ms 0 r hr
def qAX(hH:HOK C B w S β H)(hS:Swf w S)(hB:B<=w.heap.size)(hid:β id=.pend/\id<H.length){ob:Go.Obj}{x:Sp}{y:Obj}(hy:SpOK (w.alloc ob) S w.heap.size x y){u:CJ}(hu:RelH (upd β id (.sp w.heap.size x)) id u)(hfl:flat u)
  (hp:OpPost C B w S β H id (.h id) (H.put id (some y)) λu w'=>next (a.put o.dst u) w'):next (a.put o.dst u) (w.alloc ob):=by
 obtain⟨h1,h2⟩:=qsU hH hS hB hid.1 hid.2 hy;exact hp u _ S _ (qhW hS hB ob) (hS.ext (qhW (B:=B) hS hB ob)) h1 h2 (.h _ _ hfl hu) (by rw[qaT];exact zzt _) (qeV _ _ _ _)
def qOX(hnd:∀c,o.op≠.defer c){t:CK}(hop:o.op=.makeMap t none)(hH:HOK C B w S β H)(hS:Swf w S)(hB:B<=w.heap.size)(hid:β id=.pend/\id<H.length)
  (hp:OpPost C B w S β H id (.h id) (H.put id (some (.mp []))) λu w'=>next (a.put o.dst u) w'):o.wpIn (FR ro) nf P a w next Q:=by
 refine qaR hnd (u:=.map (some w.heap.size)) (w':=w.alloc (.map #[] 0)) ?_ (qAX hH hS hB hid (x:=.map) ?_ ?_ rfl hp)
 ·simp only[execOp,hop];exact qa2 (by simp[Instr.makeMap])
 ·exact⟨#[],0,by show (w.heap.push _)[w.heap.size]? = _;simp,[],.nil,.nil,rfl,λj h=>absurd h (zzm _)⟩
 ·unfold RelH;rw[qaZ]
def qO0(hnd:∀c,o.op≠.defer c){t:CK}{x:Operand}(hop:o.op=.range t x)(ht:P.underlying t=some .string){l:Cv}(hx:Ae C w S β (.d (.s l)) (a.eval x))(hH:HOK C B w S β H)(hS:Swf w S)(hB:B<=w.heap.size)(hid:β id=.pend/\id<H.length)
  (hp:OpPost C B w S β H id (.h id) (H.put id (some (.si l 0))) λu w'=>next (a.put o.dst u) w'):o.wpIn (FR ro) nf P a w next Q:=by
 obtain⟨z,hax,hz⟩:=qCp hx;refine qaR hnd (u:=.pointer (some ⟨w.heap.size,0,none⟩)) (w':=w.alloc (.stringIter z 0)) ?_ (qAX hH hS hB hid (x:=.iter) ?_ ?_ rfl hp)
 ·simp only[execOp,hop,hax];exact qa2 (by simp[Instr.range,qax ht])
 ·exact⟨z,hz,by show (w.heap.push _)[w.heap.size]? = _;simp⟩
 ·unfold RelH;rw[qaZ]
def qOZ(hnd:∀c,o.op≠.defer c){x:Operand}(hop:o.op=.next x true){oo:Nat}(hx:Ae C w S β (.h oo) (a.eval x)){l:Cv}{pos:Nat}(ho:H.obj oo=some (.si l pos))(hH:HOK C B w S β H)(hS:Swf w S)
  (h:(if pos<l.length then some (PV.t [.d (.b true),.d (.i .i64 pos),.d (.i .i32 (Utf8.decode ⟨l.toArray⟩ pos).1)],H.put oo (some (.si l (pos+(Utf8.decode ⟨l.toArray⟩ pos).2))))else some (.t [.d (.b false)],H))=some (v,H'))
  (hp:OpPost C B w S β H id v H' λu w'=>next (a.put o.dst u) w'):o.wpIn (FR ro) nf P a w next Q:=by
 obtain⟨blk,z,h1,h2,h3,h4⟩:=qHD hH hx ho;have hzl:z.size=l.length:=by subst h4;simp
 have hze:(⟨l.toArray⟩:ByteArray)=z:=by subst h4;rfl
 have hg:(getObj blk).run P w=.ok (.stringIter z pos) w:=by simp[getObj,Sem.run,h3]
 split at h
 ·rename_i hlt;simp only[zzb,zzc]at h;obtain⟨rfl,rfl⟩:=h;have hlt':pos<z.size:=by omega
  have hsz:blk<w.heap.size:=(Array.getElem?_eq_some_iff.1 h3).1
  obtain⟨e1,e2⟩:=qqK hH hS h1 (.stringIter z (pos+(Utf8.decode z pos).2)) (y':=.si l (pos+(Utf8.decode z pos).2)) ⟨z,h4,World.putObj_heap_same hsz⟩;rw[hze]at hp;have hs:(setObj blk (.stringIter z (pos+(Utf8.decode z pos).2))).run P w=.ok () (w.putObj blk (.stringIter z (pos+(Utf8.decode z pos).2))):=by simp[setObj,Sem.run,h3,World.putObj]
  refine qaR hnd (u:=.tuple #[.bool true,.int .i64 pos,.int .i32 (Utf8.decode z pos).1]) ?_ (hp _ _ S β e1 (hS.ext e1) e2 (Later.refl _) ?_ (by rw[qaT];exact zzt _) (Kp.refl _ _ _))
  ·simp only[execOp,hop,h2];refine qa2 ?_;simp only[Instr.next,Sem.run_bind,hg,Result.andThen_ok,hlt',if_true,hs,Sem.run_pure,goInt]
  ·refine .t _ [.bool true,.int .i64 pos,.int .i32 (Utf8.decode z pos).1] rfl λj hj hj'=>?_
   match j,hj with
   |0,_=>exact .d _ _ (.b true)
   |1,_=>exact .d _ _ (.i _ _)
   |2,_=>exact .d _ _ (.i _ _)
 ·rename_i hlt;simp only[zzb,zzc]at h;obtain⟨rfl,rfl⟩:=h;have hlt':¬pos<z.size:=by omega
  refine qaR hnd (u:=.tuple #[.bool false]) ?_ (hp.same hH hS (.t _ [.bool false] rfl λj hj hj'=>?_))
  ·simp only[execOp,hop,h2];refine qa2 ?_;simp only[Instr.next,Sem.run_bind,hg,Result.andThen_ok,hlt',if_false,Sem.run_pure]
  ·match j,hj with
   |0,_=>exact .d _ _ (.b false)
def qOU(hnd:∀c,o.op≠.defer c){t kt et:CK}{x i:Operand}{ok:CG}(hop:o.op=.lookup t x i ok)(ht:P.underlying t=some (.map kt et)){z:DV}(hz:zq P et=some z){oo:Nat}{k:DV}(hsc:∀(S:qac) u,Al w S k u->∃cmp,KeyAt P w S kt k u cmp)
  (hx:Ae C w S β (.h oo) (a.eval x)) (hi:Ae C w S β (.d k) (a.eval i)) {es:CF (DV×DV)} (ho:H.obj oo=some (.mp es)) (hH:HOK C B w S β H) (hS:Swf w S) {r:CE DV} (hr:qce k es=some r)
  (hp:OpPost C B w S β H id (if ok then .t [.d (r.getD z),.d (.b r.isSome)]else .d (r.getD z)) H λu w'=>next (a.put o.dst u) w'):o.wpIn (FR ro) nf P a w next Q:=by
 obtain⟨blk,ms,clock,es0,h1,h2,h3,hpm,hnd0,h4⟩:=qAy hH hx ho;obtain⟨-,zv,-,hzv,-,hzr⟩:=qfa hz;have hk:Al w S k (a.eval i):=by cases hi with|d _ _ hk=>exact hk
 obtain⟨cmp,hka⟩:=hsc S _ hk;have hget:=qyy hka.cm 0 h4 (qGP hnd0 hpm hr)
 have hg:=MapKept.run_getObj_map (P:=P) h3
 have hck:=hka.chk
 have fin:∀(q:CJ) (b:CG) (y:DV),Al w S y q->Ae C w S β (if ok then .t [.d y,.d (.b b)]else .d y) (if ok then .tuple #[q,.bool b]else q):=by
  intro q b y hy;cases ok with
  |false=>exact .d _ _ hy
  |true=>
   refine .t [.d y,.d (.b b)] [q,.bool b] rfl λj hj hj'=>?_
   match j,hj with
   |0,_=>exact .d _ _ hy
   |1,_=>exact .d _ _ (.b b)
 cases r with
 |none=>
  have hf:=hka.find ms.toList none hget
  refine qaR hnd (u:=if ok then .tuple #[zv,.bool false]else zv) ?_ (hp.same hH hS (fin zv false z (hzr w S)))
  simp only[execOp,hop,h2];refine qa2 ?_;simp only[Instr.lookup,Sem.run_bind,qax ht,Result.andThen_ok,hg,Sem.run_pure,hck,hf,qe5 hzv]
 |some y=>
  obtain⟨j,q,hfn,hq⟩:=hget;have hf:=hka.find ms.toList (some (j,q)) hfn
  refine qaR hnd (u:=if ok then .tuple #[q,.bool true]else q) ?_ (hp.same hH hS (fin q true y hq))
  simp only[execOp,hop,h2];refine qa2 ?_;simp only[Instr.lookup,Sem.run_bind,qax ht,Result.andThen_ok,hg,Sem.run_pure,hck,hf]
def qOY(hnd:∀c,o.op≠.defer c){t kt et:CK}{x i y:Operand}(hop:o.op=.mapUpdate t x i y\/o.op=.insert t x i y)(ht:P.underlying t=some (.map kt et)){oo:Nat}{k:DV}(hsc:∀(S:qac) u,Al w S k u->∃cmp,KeyAt P w S kt k u cmp)
  (hx:Ae C w S β (.h oo) (a.eval x)) (hi:Ae C w S β (.d k) (a.eval i)) {yv:PV} (hy:Ae C w S β yv (a.eval y)) {xv:DV} {os:Cy} (hpu:pur H yv=some (xv,os)) {es es':CF (DV×DV)} (ho:H.obj oo=some (.mp es)) (hH:HOK C B w S β H) (hS:Swf w S) (hr:qc9 k xv es=some es')
  (hp:OpPost C B w S β H id .u ((frz H os).put oo (some (.mp es'))) λu w'=>next (a.put o.dst u) w'):o.wpIn (FR ro) nf P a w next Q:=by
 obtain⟨blk,ms,clock,es0,h1,h2,h3,hpm,hnd0,h4⟩:=qAy hH hx ho;obtain⟨es1,hr1,hpm1,hnd1⟩:=qPq hnd0 hpm hr;have hk:Al w S k (a.eval i):=by cases hi with|d _ _ hk=>exact hk
 have hext:=qeu hH os
 obtain⟨cmp,hka⟩:=hsc _ _ (hk.ext hext);have hyr:=qlf hH hy hpu
 have hH1:=qkO hH os
 have hS1:=qjj hH hS os
 have ho1:(frz H os).obj oo=some (.mp es):=by rw[qdC,ho];rfl
 have hm1:ML w (FSq β H os S) es0 ms.toList:=qp8.1 ((qp8.2 h4).ext hext)
 have hg:=MapKept.run_getObj_map (P:=P) h3
 have hck:=hka.chk false
 have hsz:blk<w.heap.size:=(Array.getElem?_eq_some_iff.1 h3).1
 have setr:∀ob:Go.Obj,(setObj blk ob).run P w=.ok () (w.putObj blk ob):=λob=>by simp[setObj,Sem.run,h3,World.putObj]
 have fin:∀(ms':Array MapEntry) (clock':Nat),ML w (FSq β H os S) es1 ms'.toList->(Instr.mapUpdate t (.map (some blk)) (a.eval i) (a.eval y)).run P w=.ok () (w.putObj blk (.map ms' clock'))->o.wpIn (FR ro) nf P a w next Q:=by
  intro ms' clock' hm hrun;have hyo:SpOK (w.putObj blk (.map ms' clock')) (FSq β H os S) blk .map (.mp es'):=by
   refine⟨ms',clock',World.putObj_heap_same hsz,?_⟩;have hext0:=qug (B:=0) hS1 (zzK _) h3 (λ_ _ _ h=>by cases h) (.map ms' clock')
   exact⟨es1,hpm1,hnd1,(qp8.2 hm).ext hext0⟩
  obtain⟨e1,e2⟩:=qqK hH1 hS1 h1 (.map ms' clock') hyo;refine qDC hnd (w':=w.putObj blk (.map ms' clock')) ?_ (hp _ _ _ β (hext.trans e1) (hS1.ext e1) e2 (Later.refl _) (.u _) (by rw[qaT,qc5];exact zzt _) (Kp.refl _ _ _))
  rcases hop with hop|hop
  ·simp only[execOp,hop,h2];exact quH hrun
  ·simp only[execOp,hop,h2];exact quH hrun
 rcases qBL (hk.ext hext) hyr hka.cm clock 0 hm1 hr1 with ⟨g1,g2⟩|⟨j,v',g1,⟨e,g2,g3⟩,g4⟩
 ·have hf:=hka.find ms.toList none g1
  refine fin (ms.push { key:=a.eval i,val:=a.eval y,born:=clock }) (clock+1) (by simpa using g2) ?_
  simp only[Instr.mapUpdate,Sem.run_bind,qax ht,Result.andThen_ok,hg,hck,hf,setr]
 ·have hf:=hka.find ms.toList (some (0+j,v')) g1
  simp only[Nat.zero_add]at hf;have hks:(Instr.keyThatStays e.key (a.eval i)).run P w=.ok (a.eval i) w:=hka.stay _ g3
  have hej:ms[j]? = some e:=by simpa using g2
  refine fin (ms.modify j λe=>{ e with key:=a.eval i,val:=a.eval y }) clock ?_ ?_
  ·have:=g4 (a.eval i) (.inl (hk.ext hext))
   simpa using this
  ·simp only[Instr.mapUpdate,Sem.run_bind,qax ht,Result.andThen_ok,hg,hck,hf,hej,Option.map_some,zzA,hks,setr]
def qAI{mx:CG}:∀{ys:Cu} {zs:CF CJ} {x r:PV} {u:CJ},Ae C w S β x u->ys.length=zs.length->(∀j (h:j<ys.length) (h':j<zs.length),Ae C w S β ys[j] zs[j])->mmA mx x ys=some r->
  ∃q,(zs.foldlM (if mx then Builtin.max2 else Builtin.min2) u).run P w=.ok q w/\Ae C w S β r q
 |[],[],x,r,u,hx,_,_,h=>by
  simp only[mmA,zzb]at h;subst h;exact⟨u,rfl,hx⟩
 |y::ys,z::zs,x,r,u,hx,hl,hr,h=>by
  simp only[mmA]at h;split at h
  ·rename_i m hm;obtain⟨q,h1,h2⟩:=qKM (P:=P) hx (hr 0 (by simp) (by simp)) hm
   obtain⟨q',h3,h4⟩:=qAI (zs:=zs) h2 (by simpa using hl) (λj hj hj'=>hr (j+1) (by simpa using hj) (by simpa using hj')) h
   refine⟨q',?_,h4⟩;rw[List.foldlM_cons,Sem.run_bind];have:((if mx then Builtin.max2 else Builtin.min2) u z).run P w=.ok q w:=by cases mx<;>exact h1
   rw[this];exact h3
  ·cases h
 |[],_::_,_,_,_,_,hl,_,_=>by cases hl
 |_::_,[],_,_,_,_,hl,_,_=>by cases hl
def qBc(hnd:∀c,o.op≠.defer c){c:Call}(hop:o.op=.call c){mx:CG}{b:Builtin}(hcal:c.callee=.builtin b)(hb:(b=.min/\mx=false)\/(b=.max/\mx=true))(hargs:c.args.map a.eval=(c.args.toList.map a.eval).toArray){xs:Cu}(r1:xs.length=(c.args.toList.map a.eval).length)
  (r2:∀j (h:j<xs.length) (h':j<(c.args.toList.map a.eval).length),Ae C w S β xs[j] (c.args.toList.map a.eval)[j]) (hH:HOK C B w S β H) (hS:Swf w S)
  (h:(match xs with|v::r=>opt (mmA mx v r) H|[]=>none)=some (v,H')) (hp:OpPost C B w S β H id v H' λu w'=>next (a.put o.dst u) w'):o.wpIn (FR ro) nf P a w next Q:=by
 cases xs with
 |nil=>cases h
 |cons x r=>
  simp only[opt]at h;split at h
  ·rename_i m hm;simp only[zzb,zzc]at h;obtain⟨rfl,rfl⟩:=h;generalize c.args.toList.map a.eval=us at *
   cases us with
   |nil=>simp at r1
   |cons u zs=>
    obtain⟨q,h1,h2⟩:=qAI (P:=P) (zs:=zs) (r2 0 (by simp) (by simp)) (by simpa using r1) (λj hj hj'=>r2 (j+1) (by simpa using hj) (by simpa using hj')) hm
    refine qaR hnd (u:=q) ?_ (hp.same hH hS h2);rcases hb with ⟨rfl,rfl⟩|⟨rfl,rfl⟩
    ·simp only[execOp,hop,resolve,hcal,Sem.run_bind,Sem.run_pure,Result.andThen_ok,invoke,builtin,hargs,Builtin.min_];have h1:(zs.foldlM Builtin.min2 u).run P w=.ok q w:=h1
     simp only[h1,Result.andThen_ok]
    ·simp only[execOp,hop,resolve,hcal,Sem.run_bind,Sem.run_pure,Result.andThen_ok,invoke,builtin,hargs,Builtin.max_];have h1:(zs.foldlM Builtin.max2 u).run P w=.ok q w:=h1
     simp only[h1,Result.andThen_ok]
  ·cases h
end
section
variable {P:CO}{N:Names}{C:Cx}{w:CL}{S:qac}{β:Pl}{B:Nat}{H:CP}{a:Act}{ro:CE Nat}{nf:Nat}
def qis{E:Env}(hN:NOK P N C E.G)(hG:GOK N E.G w S){fr:Fr}(hf:FOK C w S β fr a):∀{ts:CF (CE CK)} {xs:CF Operand} {rs:CF Ab},A9 P N ts xs=some rs->
  rs.length=xs.length/\∀j (h:j<(rs.map (rd E fr)).length) (h':j<(xs.map a.eval).length),Ae C w S β (rs.map (rd E fr))[j] (xs.map a.eval)[j]
 |_,[],rs,h=>by cases h;exact⟨rfl,λj h=>absurd h (zzm _)⟩
 |ts,x::xs,rs,h=>by
  unfold A9 at h;obtain⟨r,hr,h⟩:=zza.1 h;obtain⟨rs',hrs,h⟩:=zza.1 h;cases h;obtain⟨h1,h2⟩:=qis hN hG hf hrs;refine⟨by simp[h1],?_⟩
  intro j hj hj';cases j with
  |zero=>exact qjO hN hG hf hr
  |succ j=>exact h2 j (by simpa using hj) (by simpa using hj')
def qup{E:Env}(hN:NOK P N C E.G)(hG:GOK N E.G w S){fr:Fr}(hf:FOK C w S β fr a){x:CE Operand}{r:CE Ab}(h:qlg P N x=some r):qfj C w S β (r.map (rd E fr)) (x.map a.eval):=by
 cases x with
 |none=>cases h;trivial
 |some x=>
  simp only[qlg,Option.map_eq_some_iff]at h;obtain⟨y,hy,rfl⟩:=h;exact qjO hN hG hf hy
def qt3{E:Env}(hN:NOK P N C E.G)(hG:GOK N E.G w S){fr:Fr}(hf:FOK C w S β fr a){pl:Nat->CE (Nat×CK)}:∀{parts:CF (Nat×Operand)} {ps:CF (Nat×K×Ab)},qnR P N pl parts=some ps->
  qiS C w S β (λi=>(pl i).map λp=>(p.1,P.cellsOf p.2)) (ps.map λx=>(x.1,x.2.1,rd E fr x.2.2)) (parts.map λx=>(x.1,a.eval x.2))
 |[],ps,h=>by cases h;trivial
 | (i,x)::r,ps,h=>by
  unfold qnR at h;obtain⟨p,hp,h⟩:=zza.1 h;obtain⟨k,hk,h⟩:=zza.1 h;obtain⟨y,hy,h⟩:=zza.1 h;obtain⟨ys,hys,h⟩:=zza.1 h;cases h;exact⟨by simp[hp,qjt hk],qjO hN hG hf hy,qt3 hN hG hf hys⟩
def qBp{E:Env}(hN:NOK P N C E.G)(hG:GOK N E.G w S){fr:Fr}(hf:FOK C w S β fr a){t:CK}:∀{parts:CF (Nat×Operand)} {ps:CF (Nat×Ab)},qqo P N t parts=some ps->
  qoL C w S β (ps.map λx=>(x.1,rd E fr x.2)) (parts.map λx=>(x.1,a.eval x.2))
 |[],ps,h=>by cases h;trivial
 | (i,x)::r,ps,h=>by
  unfold qqo at h;obtain⟨y,hy,h⟩:=zza.1 h;obtain⟨ys,hys,h⟩:=zza.1 h;cases h;exact⟨rfl,qjO hN hG hf hy,qBp hN hG hf hys⟩
def qpe{t:CK}{ek:CK×K}(h:qkK P t=some ek):P.underlying t=some (.slice ek.1)/\kq P ek.1=some ek.2:=by
 unfold qkK at h;split at h
 ·obtain⟨k,hk,h⟩:=zza.1 h;cases h;exact⟨‹_›,hk⟩
 ·cases h
def qsE{n:Nat}{cs:Cu}{u:CJ}(h:Ae C w S β (.f n cs) u):∃us:CF CJ,u=.func (.func (C.μ n)) #[] us.toArray/\cs.length=us.length/\∀j (h:j<cs.length) (h':j<us.length),Ae C w S β cs[j] us[j]:=by
 cases h with
 |f _ _ us h1 h2=>exact⟨us,rfl,h1,h2⟩
def qGv{off:Nat}{k:K}{x v:PV}{u:CJ}(hx:Ae C w S β x u)(h:qes off k x=some v) :
  ∃vs:CF CJ,u=.agg vs.toArray/\off+k.size<=vs.length/\Ae C w S β v (mkV k (λm=>vs.getD (off+m) undef)):=by
 unfold qes at h;split at h
 ·rename_i cs;split at h
  ·rename_i hle;split at h
   ·rename_i d hm;cases h;cases hx with
    |d _ _ hx=>
    cases hx with
    |a _ vs h1 h2 h3=>
    refine⟨vs,rfl,by omega,.d _ _ (qtK hm ?_ ?_)⟩
    ·intro m y hy hmk;obtain⟨e1,e2⟩:=getElem?_drop_take hy;obtain⟨e3,rfl⟩:=zzk.1 e1
     have:=h3 (off+m) e3 (by omega)
     simpa[List.getD,zze (show off+m<vs.length by omega)]using this
    ·intro m hmk;simp only[List.getD,zze (show off+m<vs.length by omega),zzA]
     exact h2 _ (zzs _)
   ·cases h
  ·cases h
 ·rename_i cs;split at h
  ·rename_i hle;cases hx with
   |a _ vs h1 h2 h3=>
   refine⟨vs,rfl,by omega,qtN h ?_ ?_⟩
   ·intro m y hy hmk;obtain⟨e1,e2⟩:=getElem?_drop_take hy;obtain⟨e3,rfl⟩:=zzk.1 e1
    have:=h3 (off+m) e3 (by omega)
    simpa[List.getD,zze (show off+m<vs.length by omega)]using this
   ·intro m hmk;simp only[List.getD,zze (show off+m<vs.length by omega),zzA]
    exact h2 _ (zzs _)
  ·cases h
 ·cases h
def quD{o:Oper}{c:Call}(hop:o.op=.call c){x:Operand}(hc:c.callee=.value x){f:FuncId}{caps:Array CJ}(hx:a.eval x=.func (.func f) #[] caps){fn:Func}(hfn:P.funcs[f]? = some fn)(hb:fn.body.isNone=false)(hn:fn.name ≠ "runtime.NumGoroutine") :
  (execOp a.eval o).run P w=.ok (.enter f (c.args.map a.eval++caps)) w:=by
 simp only[execOp,hop,resolve,hc,hx,Deferred.ofValue,Sem.run_bind,Sem.run_pure,Result.andThen_ok,invoke,Array.empty_append];exact qqC hfn hb hn _
def qB3{o:Oper}{c:Call}(hop:o.op=.call c){x:Operand}(hc:c.callee=.value x){f:FuncId}{firsts:Array CJ}(hx:a.eval x=.func (.func f) firsts #[]){fn:Func}(hfn:P.funcs[f]? = some fn)(hb:fn.body.isNone=false)(hn:fn.name ≠ "runtime.NumGoroutine") :
  (execOp a.eval o).run P w=.ok (.enter f (firsts++(c.args.map a.eval ++ #[]))) w:=by
 simp only[execOp,hop,resolve,hc,hx,Deferred.ofValue,Sem.run_bind,Sem.run_pure,Result.andThen_ok,invoke];exact qqC hfn hb hn _
def qKG{n:Nat}{cs:Cu}{u:CJ}(h:Ae C w S β (.m n cs) u):∃us:CF CJ,u=.func (.func (C.μ n)) us.toArray #[]/\cs.length=us.length/\∀j (h:j<cs.length) (h':j<us.length),Ae C w S β cs[j] us[j]:=by
 cases h with
 |m _ _ us h1 h2=>exact⟨us,rfl,h1,h2⟩
def qJB(hH:HOK C B w S β H){str:CG}{x:PV}{u:CJ}{n:Nat}(hx:Ae C w S β x u)(h:qbB H str x=some n){ts:Array CK}{t:CK}(ht:ts[0]? = some t)
  (hu:(str=true/\P.underlying t=some .string)\/(str=false/\∃e,P.underlying t=some (.slice e))) (ty:CK):(Builtin.len_ ts ty #[u]).run P w=.ok (.int .i64 n) w:=by
 rcases qJA hH hx h with ⟨hs,a,cap,rfl⟩|⟨hs,s,rfl,hsz⟩
 ·rcases hu with ⟨h1,-⟩|⟨-,e,he⟩
  ·rw[hs]at h1;cases h1
  ·simp[Builtin.len_,ht,qax he,goInt]
 ·rcases hu with ⟨-,he⟩|⟨h1,-⟩
  ·simp[Builtin.len_,ht,qax he,goInt,hsz]
  ·rw[hs]at h1;cases h1
def qrU{E:Env}(hO:OrOK P C N E)(hG:GOK N E.G w S)(hS:Swf w S)(hB:B<=w.heap.size)(hH:HOK C B w S β H){o:Oper}(hnd:∀c,o.op≠.defer c){f:Nat}{ds:Ct}{us:CF CJ}{os:Cy}{r:PV}{own:CG}{H':CP}{id:Nat}{next:Act->CL->Prop}{Q:Exit->Act->CL->Prop}
  (hrun:(execOp a.eval o).run P w=.ok (.enter (C.μ f) us.toArray) w) (hval:E.val f ds=some (r,own)) (l1:ds.length=us.length) (l2:∀j (h:j<ds.length) (h':j<us.length),Al w (FSq β H os S) ds[j] us[j]) (hH':(if os.isEmpty||r.AX then H else frz H os)=H')
  (hp:OpPost C B w S β H id r H' λu w'=>next (a.put o.dst u) w'):o.wpIn (FR ro) nf P a w next Q:=by
 have hcall:=hO.val _ _ _ _ hval w (FSq β H os S) _ (qjj hH hS os) (hG.ext (qeu hH os)) l1 l2
 refine qog hnd hrun hcall ?_;rintro e w' ⟨u,S',rfl,e1,e2,e3,e4⟩;refine⟨u,rfl,?_⟩;have hres:∃S2,Ext w.heap.size w (FSq β H os S) w' S2/\Swf w' S2/\Ae C w' S2 (λ_=>.pend) r u:=by
  cases own with
  |false=>exact⟨S',e1,e2,e3 rfl⟩
  |true=>
   obtain⟨k,es,rfl,ho⟩:=e4 rfl;obtain⟨S2,q1,q2,q3,-⟩:=qO3 e2 ho;exact⟨S2,e1.trans q1,q2,.d _ _ q3⟩
 obtain⟨S2,g1,g2,g3⟩:=hres;have froz:OpPost C B w S β H id r (frz H os) (λu w'=>next (a.put o.dst u) w')->next (a.put o.dst u) w':=by
  intro hp;obtain⟨b1,b2⟩:=qrR (qkO hH os) hB g1;exact hp u w' S2 β ((qeu hH os).trans b1) g2 b2 (Later.refl _) g3.plain (by rw[qc5];exact zzt _) (Kp.refl _ _ _)
 split at hH'
 ·rename_i hc;subst hH';rcases Bool.or_eq_true _ _▸hc with hc|hc
  ·have:os=[]:=by simpa using hc
   subst this;exact froz hp
  ·have e5:Ext w.heap.size w S w' (λb j=>S b j\/(w.heap.size<=b/\S2 b j)):=
    ⟨g1.below,λ_ _ h=>.inl h,λb j h=>g1.cell b j (.inl h),λb j h=>h.imp (λh=>h) And.left,g1.shape⟩
   obtain⟨b1,b2⟩:=qrR hH hB e5;refine hp u w' _ β b1 ?_ b2 (Later.refl _) (qQr hc g3) (zzt _) (Kp.refl _ _ _);rintro b j (h|⟨-,h⟩)
   ·obtain⟨z,hz⟩:=hS b j h;exact⟨z,(g1.cell b j (.inl h)).trans hz⟩
   ·exact g2 b j h
 ·subst hH';exact froz hp
def qAx{t:CK}{m:CK×CK×Ky}(h:qk4 P t=some m):∃d,P.underlying t=some (.map m.1 m.2.1)/\P.underlying m.1=some d/\qnD P m.1 d=some m.2.2:=by
 unfold qk4 at h;split at h
 ·rename_i k e hu;obtain⟨d,hd,h⟩:=zza.1 h;obtain⟨ky,hky,h⟩:=zza.1 h;cases h;exact⟨d,hu,hd,hky⟩
 ·cases h
def qt0{E:Env}(hO:OrOK P C N E)(hN:NOK P N C E.G)(hG:GOK N E.G w S)(hS:Swf w S)(hB:B<=w.heap.size)(hH:HOK C B w S β H){fr:Fr}(hf:FOK C w S β fr a){id:Nat}{o:Oper}{io:IOp}
  (hnd:∀c,o.op≠.defer c) {yb:Nat} (hY:YOK P C N E.G E.yld B w S β yb) (hyb:yb<=H.length) (hd:qaO P N o=some io) (hid:io.adds=true->β id=.pend/\id<H.length) {v:PV} {H':CP} (h:qaa E (rd E fr) H id io=some (v,H')) {next:Act->CL->Prop} {Q:Exit->Act->CL->Prop}
  (hp:OpPost C B w S β H id v H' λu w'=>next (a.put o.dst u) w'):o.wpIn (FR ro) nf P a w next Q:=by
 have R:∀{t:CE CK} {x:Operand} {r:Ab},qbq P N t x=some r->Ae C w S β (rd E fr r) (a.eval x):=λh=>qjO hN hG hf h
 have mset:∀{t:CK} {x i y:Operand},(o.op=.mapUpdate t x i y\/o.op=.insert t x i y)->((qk4 P t).bind λm=>(qbq P N none x).bind λx=>(qbq P N (some m.1) i).bind λi=>(kq P m.2.1).bind λ_=>(qbq P N (some m.2.1) y).bind λv=>some (IOp.mset m.2.2 x i v))=some io->o.wpIn (FR ro) nf P a w next Q:=by
  intro t x i y hop hd;obtain⟨m,hm,hd⟩:=zza.1 hd;obtain⟨rx,hrx,hd⟩:=zza.1 hd;obtain⟨ri,hri,hd⟩:=zza.1 hd;obtain⟨k,hk,hd⟩:=zza.1 hd;obtain⟨rv,hrv,hd⟩:=zza.1 hd;cases hd;obtain⟨d,hu,hkt,hky⟩:=qAx hm;have h1:=R hrx
  have h2:=R hri
  simp only[qaa]at h;split at h
  ·rename_i k oo xv os hk ho hpu;rw[ho]at h1;rw[hk]at h2;split at h
   ·rename_i hok;split at h
    ·rename_i es hes;split at h
     ·rename_i es' hr;simp only[zzb,zzc]at h;obtain⟨rfl,rfl⟩:=h;exact qOY hnd hop hu (λ_ _=>qzN hkt hky hok) h1 h2 (R hrv) hpu hes hH hS hr hp
     ·cases h
    ·cases h
   ·cases h
  ·cases h
 cases hop:o.op with
 |move x=>
  simp only[qaO,hop]at hd;obtain⟨r,hr,hd⟩:=zza.1 hd;cases hd;simp only[qaa,zzb,zzc]at h;obtain⟨rfl,rfl⟩:=h;exact qaR hnd (by simp[execOp,hop]) (hp.same hH hS (R hr))
 |assign x=>
  simp only[qaO,hop]at hd;obtain⟨r,hr,hd⟩:=zza.1 hd;cases hd;simp only[qaa,zzb,zzc]at h;obtain⟨rfl,rfl⟩:=h;exact qaR hnd (by simp[execOp,hop]) (hp.same hH hS (R hr))
 |pick c x y=>
  simp only[qaO,hop]at hd;obtain⟨rc,hrc,hd⟩:=zza.1 hd;obtain⟨rx,hrx,hd⟩:=zza.1 hd;obtain⟨ry,hry,hd⟩:=zza.1 hd;cases hd;have hc:=R hrc
  simp only[qaa]at h;split at h
  ·rename_i hcv;rw[hcv]at hc;cases h;cases hev:a.eval c with
   |bool b=>
    rw[hev]at hc;cases hc with
    |d _ _ hc=>
    cases hc;exact qaR hnd (by simp[execOp,hop,hev,asBool]) (hp.same hH hS (R hrx))
   |_=>rw[hev]at hc;cases hc with|d _ _ hc=>cases hc
  ·rename_i hcv;rw[hcv]at hc;cases h;cases hev:a.eval c with
   |bool b=>
    rw[hev]at hc;cases hc with
    |d _ _ hc=>
    cases hc;exact qaR hnd (by simp[execOp,hop,hev,asBool]) (hp.same hH hS (R hry))
   |_=>rw[hev]at hc;cases hc with|d _ _ hc=>cases hc
  ·cases h
 |alloc e=>
  simp only[qaO,hop]at hd;obtain⟨k,hk,hd⟩:=zza.1 hd;obtain⟨z,hz,hd⟩:=zza.1 hd;cases hd;simp only[qaa,zzb,zzc]at h;obtain⟨rfl,rfl⟩:=h;obtain⟨h1,h2⟩:=hid rfl;obtain⟨k',zv,hk',hzv,hfz,hrz⟩:=qfa hz;rw[hk]at hk';cases hk'
  obtain⟨w',β',b1,b2,b3,b4,b5,b6⟩:=qAY (P:=P) hH hS hB h1 h2 hfz (.d _ _ (hrz w S)) e;refine qaR hnd (u:=.pointer (some ⟨w.heap.size,0,none⟩)) (w':=w') ?_ (hp _ _ S β' b2 (hS.ext b2) b3 b4 b5 (by rw[qaT];exact zzt _) b6)
  simp only[execOp,hop];refine qa2 ?_;simp[Instr.alloc,qe5 hzv,b1]
 |box e x=>
  simp only[qaO,hop]at hd;obtain⟨k,hk,hd⟩:=zza.1 hd;obtain⟨r,hr,hd⟩:=zza.1 hd;cases hd;simp only[qaa]at h;split at h
  ·rename_i hfit;simp only[zzb,zzc]at h;obtain⟨rfl,rfl⟩:=h;obtain⟨h1,h2⟩:=hid rfl;obtain⟨w',β',b1,b2,b3,b4,b5,b6⟩:=qAY (P:=P) hH hS hB h1 h2 hfit (R hr) e;refine qaR hnd (u:=.pointer (some ⟨w.heap.size,0,none⟩)) (w':=w') ?_ (hp _ _ S β' b2 (hS.ext b2) b3 b4 b5 (by rw[qaT];exact zzt _) b6)
   simp only[execOp,hop];refine qa2 ?_;simp[Instr.box,b1]
  ·cases h
 |load t x=>
  simp only[qaO,hop]at hd;obtain⟨k,hk,hd⟩:=zza.1 hd;obtain⟨r,hr,hd⟩:=zza.1 hd;cases hd;simp only[qaa,opt]at h;split at h
  ·rename_i v' hv';simp only[zzb,zzc]at h;obtain⟨rfl,rfl⟩:=h;obtain⟨u,h1,h2⟩:=qAk hH hk (R hr) hv';exact qaR hnd (by simp only[execOp,hop];exact qa2 h1) (hp.same hH hS h2)
  ·cases h
 |store t x y=>
  simp only[qaO,hop]at hd;obtain⟨k,hk,hd⟩:=zza.1 hd;obtain⟨rx,hrx,hd⟩:=zza.1 hd;obtain⟨ry,hry,hd⟩:=zza.1 hd;cases hd;simp only[qaa]at h;split at h
  ·rename_i H1 hH1;simp only[zzb,zzc]at h;obtain⟨rfl,rfl⟩:=h;obtain⟨w',S',b1,b2,b3,b4,b5⟩:=qQK hH hS hk (R hrx) (R hry) hH1;exact qDC hnd (by simp only[execOp,hop];exact quH b1) (hp _ _ S' β b2 b3 b4 (Later.refl _) (.u _) (by omega) (Kp.refl _ _ _))
  ·cases h
 |extract x i=>
  simp only[qaO,hop]at hd;obtain⟨r,hr,hd⟩:=zza.1 hd;cases hd;have hx:=R hr
  simp only[qaa]at h;split at h
  ·rename_i vs hvs;rw[hvs]at hx;cases hev:a.eval x with
   |tuple us=>
    rw[hev]at hx;generalize hus:us=us' at hx;cases hx with
    |t _ vs' h1 h2=>
    simp only[opt]at h;split at h
    ·rename_i v' hv';simp only[zzb,zzc]at h;obtain⟨rfl,rfl⟩:=h;obtain⟨hi,rfl⟩:=zzk.1 hv';have hi':i<vs'.length:=by omega
     refine qaR hnd (u:=vs'[i]) ?_ (hp.same hH hS (h2 i hi hi'));simp only[execOp,hop];refine qa2 ?_;simp[Instr.extract,hev,hus,zze hi']
    ·cases h
   |_=>rw[hev]at hx;cases hx
  ·cases h
 |unOp op t x=>
  simp only[qaO,hop]at hd;obtain⟨r,hr,hd⟩:=zza.1 hd;cases hd;simp only[qaa,qez]at h;split at h
  ·rename_i d hdv;simp only[zzb,zzc]at h;obtain⟨rfl,rfl⟩:=h;obtain⟨u,h1,h2⟩:=qRa (P:=P) (R hr) hdv;exact qaR hnd (by simp only[execOp,hop];exact qa2 h1) (hp.same hH hS (.d _ _ h2))
  ·cases h
 |convert s t x=>
  simp only[qaO,hop]at hd;obtain⟨r,hr,hd⟩:=zza.1 hd;split at hd
  ·rename_i k1 k hs ht;cases hd;have hx:=R hr
   simp only[qaa]at h;split at h
   ·rename_i k2 n hn;rw[hn]at hx;simp only[zzb,zzc]at h;obtain⟨rfl,rfl⟩:=h;obtain⟨k3,hk3⟩:=qhZ hx rfl;refine qaR hnd (u:=.int k (k.wrap n)) ?_ (hp.same hH hS (.d _ _ (.i _ _)));simp only[execOp,hop];refine qa2 ?_;simp[convert,qax hs,qax ht,hk3,Conv.intToInt]
   ·cases h
  ·rename_i hs ht;cases hd;have hx:=R hr
   simp only[qaa]at h;split at h
   ·rename_i l hl;rw[hl]at hx;obtain⟨z,hax,hz⟩:=qCp hx;have hv:v=.d (.s l)/\H'=H:=by
     simp[bnd]at h;exact⟨h.1.symm,h.2.symm⟩
    obtain⟨rfl,rfl⟩:=hv;refine qaR hnd (u:=a.eval x) ?_ (hp.same hH hS hx);simp only[execOp,hop];refine qa2 ?_;simp[convert,qax hs,qax ht,hax]
   ·cases h
  ·cases hd
 |fieldAddr s x f=>
  simp only[qaO,hop]at hd;obtain⟨fd,hfd,hd⟩:=zza.1 hd;obtain⟨k,hk,hd⟩:=zza.1 hd;obtain⟨r,hr,hd⟩:=zza.1 hd;split at hd
  ·cases hd
  ·rename_i hz;cases hd;simp only[qaa,opt]at h;split at h
   ·rename_i v' hv';simp only[zzb,zzc]at h;obtain⟨rfl,rfl⟩:=h;obtain⟨blk,o',h1,h2⟩:=qAK (R hr) hv';refine qaR hnd ?_ (hp.same hH hS h2);simp only[execOp,hop,h1];exact qa2 (qQf hfd hk hz blk o' w)
   ·cases h
 |nilCheck x=>
  simp only[qaO,hop]at hd;obtain⟨r,hr,hd⟩:=zza.1 hd;cases hd;have hx:=R hr
  simp only[qaa]at h;have fin:∀v':PV,(∀u,Ae C w S β v' u->(∃p,u=.pointer (some p))\/∃f cs,u=.func (.func f) #[] cs)->Ae C w S β v' (a.eval x)->v'=v->H'=H->o.wpIn (FR ro) nf P a w next Q:=by
   intro v' hc hrel hv hH';subst hv hH';refine qaR hnd (u:=a.eval x) ?_ (hp.same hH hS hrel);rcases hc _ hrel with ⟨p,hu⟩|⟨f,cs,hu⟩<;>simp[execOp,hop,hu]
  split at h
  ·rename_i o' i c hv;simp only[zzb,zzc]at h;rw[hv]at hx;refine fin _ ?_ hx h.1 h.2.symm;intro u hu;cases hu with
   |p _ _ _ _ h0 hp=>
   unfold RelPt at hp;split at hp
   ·exact hp.elim
   ·obtain⟨_,_,rfl⟩:=hp;exact .inl ⟨_,rfl⟩
   ·exact hp.elim
   ·subst hp;exact .inl ⟨_,rfl⟩
   ·exact hp.elim
  ·rename_i hv;simp only[zzb,zzc]at h;rw[hv]at hx;refine fin _ ?_ hx h.1 h.2.symm;intro u hu;cases hu;exact .inl ⟨_,rfl⟩
  ·rename_i hv;simp only[zzb,zzc]at h;rw[hv]at hx;refine fin _ ?_ hx h.1 h.2.symm;intro u hu;cases hu;exact .inr ⟨_,_,rfl⟩
  ·cases h
 |build t parts=>
  simp only[qaO,hop]at hd;obtain⟨z,hz,hd⟩:=zza.1 hd;split at hd
  ·rename_i fs hu;split at hd
   ·rename_i hall;obtain⟨ps,hps,hd⟩:=zza.1 hd;cases hd;have hpr:=qt3 hN hG hf hps
    simp only[qaa]at h;split at h
    ·rename_i cs hcs;simp only[zzb,zzc]at h;obtain⟨rfl,rfl⟩:=h;have hpr':qiS C w S β (λi=>(fs[i]?).map λf=>(f.offset,P.cellsOf f.type)) (ps.map λx=>(x.1,x.2.1,rd E fr x.2.2)) (parts.toList.map λx=>(x.1,a.eval x.2)):=by
      have e:(λ(i:Nat)=>((fs[i]?).map λ(f:Field)=>(f.offset,f.type)).map λp=>(p.1,P.cellsOf p.2))=(λ(i:Nat)=>(fs[i]?).map λ(f:Field)=>(f.offset,P.cellsOf f.type)):=by
       funext i;cases fs[i]? <;> rfl
      rw[<-e];exact hpr
     obtain⟨u,h1,h2⟩:=qFg hz hu hall hpr' hcs;refine qaR hnd (u:=u) ?_ (hp.same hH hS h2);simp only[execOp,hop];refine qa2 ?_;have:parts.map (λx=>(x.1,a.eval x.2))=(parts.toList.map λx=>(x.1,a.eval x.2)).toArray:=by
      apply Array.ext';simp
     rw[<-h1,<-this]
    ·cases h
   ·cases hd
  ·rename_i n e hu;obtain⟨k,hk,hd⟩:=zza.1 hd;obtain⟨ps,hps,hd⟩:=zza.1 hd;cases hd;have hpr:=qt3 hN hG hf hps
   simp only[qaa]at h;split at h
   ·rename_i cs hcs;simp only[zzb,zzc]at h;obtain⟨rfl,rfl⟩:=h;obtain⟨u,h1,h2⟩:=qFf hz hu hk hpr hcs;refine qaR hnd (u:=u) ?_ (hp.same hH hS h2);simp only[execOp,hop];refine qa2 ?_;have:parts.map (λx=>(x.1,a.eval x.2))=(parts.toList.map λx=>(x.1,a.eval x.2)).toArray:=by
     apply Array.ext';simp
    rw[<-h1,<-this]
   ·cases h
  ·cases hd
 |buildSlice t n parts=>
  simp only[qaO,hop]at hd;obtain⟨ek,hek,hd⟩:=zza.1 hd;obtain⟨z,hz,hd⟩:=zza.1 hd;obtain⟨ps,hps,hd⟩:=zza.1 hd;split at hd
  ·rename_i hn;cases hd;obtain⟨hu,hk⟩:=qpe hek;have hpr:=qBp hN hG hf hps
   obtain⟨h1,h2⟩:=hid rfl;simp only[qaa]at h;split at h
   ·rename_i es os hes;simp only[zzb,zzc]at h;obtain⟨rfl,rfl⟩:=h;obtain⟨kz,zv,hkz,hzv,hfz,hrz⟩:=qfa hz;rw[hk]at hkz;cases hkz
    have hH1:=qkO hH os
    have hext1:=qeu hH os
    have hS1:=qjj hH hS os
    have hrow:=qq1 (w:=w) (S:=FSq β H os S) (n:=n) hfz hrz (if n*ek.2.size=0 then #[]else zv.cells) (λh=>by rw[if_neg h])
    obtain⟨A',c1,c2,c3,c4⟩:=qw4 hH (FSq β H os S) (λ_ _ h=>.inl h) (λ_ _ h=>h) hrow hpr hes
    have hlen:es.length=n:=by rw[c3,List.length_replicate]
    have hAlen:A'.length=n*ek.2.size:=by rw[c4];simp
    obtain⟨a1,a2,a3,a4⟩:=qqc hH1 hS1 hB h1 (by rw[qc5];exact h2) c2 ek.1 0 (len:=n) (cap:=n) (tt:=true) (by rw[hAlen];exact zzt _) (zzt _) (λ_=>rfl)
    refine qaR hnd ?_ (hp _ _ _ _ (hext1.trans a1) (hS1.ext a1) a2 a3 a4 (by rw[qaT,qc5];exact zzt _) (qeV _ _ _ _))
    simp only[execOp,hop];refine qa2 ?_;have hparts:parts.map (λx=>(x.1,a.eval x.2))=(parts.toList.map λx=>(x.1,a.eval x.2)).toArray:=by
     apply Array.ext';simp
    have hbig:¬(n*ek.2.size>2^24):=by omega
    have hz0:(if n*ek.2.size=0 then pure #[]else do pure (<-zeroValue ek.1).cells:Sem (Array CJ)).run P w=.ok (if n*ek.2.size=0 then #[]else zv.cells) w:=by
     split
     ·rfl
     ·simp[qe5 hzv]
    have hfill:Instr.fill (λi=>some (i*ek.2.size,ek.2.size)) ((Array.range (n*ek.2.size)).map ((if n*ek.2.size=0 then #[]else zv.cells)[· % (if n*ek.2.size=0 then #[]else zv.cells).size]!)) (parts.map (λx=>(x.1,a.eval x.2))).toList=some A'.toArray:=by
     rw[hparts];rw[Array.toArray_toList]at c1;exact c1
    have hrun:(Instr.buildSlice t n (parts.map (λx=>(x.1,a.eval x.2)))).run P w=.ok (.slice (some ⟨w.heap.size,0,none⟩) n n) (w.alloc (.cells A'.toArray ek.1)):=by
     by_cases h0:n*ek.2.size=0
     ·rw[if_pos h0]at hfill;simp only[Instr.buildSlice,Sem.run_bind,qax hu,Result.andThen_ok,qdw hk,Sem.run_ite,hbig,if_false];rw[if_pos h0];simp only[Sem.run_pure,Result.andThen_ok,hfill];simp[newRow]
     ·rw[if_neg h0]at hfill;simp only[Instr.buildSlice,Sem.run_bind,qax hu,Result.andThen_ok,qdw hk,Sem.run_ite,hbig,if_false,h0,qe5 hzv,Sem.run_pure,hfill];simp[newRow]
    exact hrun
   ·cases h
  ·cases hd
 |binOp op t x y ty=>
  simp only[qaO,hop]at hd;obtain⟨rx,hrx,hd⟩:=zza.1 hd;obtain⟨ry,hry,hd⟩:=zza.1 hd;have bin:qaa E (rd E fr) H id (.bin op rx ry)=some (v,H')->o.wpIn (FR ro) nf P a w next Q:=by
   intro h;simp only[qaa,qez]at h;split at h
   ·rename_i d hdv;simp only[zzb,zzc]at h;obtain⟨rfl,rfl⟩:=h;obtain⟨u,h1,h2,h3⟩:=qE8 (P:=P) (t:=t) (R hrx) (R hry) hdv x y;refine qaR hnd (u:=u) ?_ (hp.same hH hS (.d _ _ h3));simp only[execOp,hop];refine qa2 ?_;simp[h1,h2]
   ·cases h
  have eqb:∀neg,(op=.eql/\neg=false\/op=.neq/\neg=true)->P.underlying t=some .bool->qaa E (rd E fr) H id (.eqb neg rx ry)=some (v,H')->o.wpIn (FR ro) nf P a w next Q:=by
   intro neg hneg hu h;have hx:=R hrx
   have hy:=R hry
   simp only[qaa]at h;split at h
   ·rename_i b1 b2 h1 h2;simp only[zzb,zzc]at h;obtain⟨rfl,rfl⟩:=h;rw[h1]at hx;rw[h2]at hy;have e1:=qi5 hx
    have e2:=qi5 hy
    have heq:=run_equalIn_bool' (P:=P) w 9999 t b1 b2 hu
    rcases hneg with ⟨rfl,rfl⟩|⟨rfl,rfl⟩
    ·refine qaR hnd (u:=.bool (b1==b2)) ?_ (hp.same hH hS (.d _ _ (.b _)));simp only[execOp,hop,e1,e2];refine qa2 ?_;simp[eqGuard,binOp,Op.equal,Op.maxDepth,heq]
    ·refine qaR hnd (u:=.bool (!(b1==b2))) ?_ (hp.same hH hS (.d _ _ (.b _)));simp only[execOp,hop,e1,e2];refine qa2 ?_;simp[eqGuard,binOp,Op.equal,Op.maxDepth,heq]
   ·cases h
  have eqv:∀fs,P.underlying t=some (.struct fs)->(op=.eql\/op=.neq)->(if P.eqGuardType P.depth t then none else (qct P 8 t).bind λks=>some (.eqv (op==.neq) ks rx ry))=some io->o.wpIn (FR ro) nf P a w next Q:=by
   intro fs hu hop' hd;split at hd
   ·cases hd
   ·rename_i hm;obtain⟨ks,hks,hd⟩:=zza.1 hd;cases hd;simp only[qaa]at h;split at h
    ·rename_i e he;simp only[zzb,zzc]at h;obtain⟨rfl,rfl⟩:=h;obtain⟨h1,h2⟩:=qGm hu hks (by simpa using hm) (R hrx) (R hry) he x y op hop'
     refine qaR hnd (u:=.bool (if op==.neq then !e else e)) ?_ (hp.same hH hS (.d _ _ (.b _)))
     simp only[execOp,hop];refine qa2 ?_;simp[h1,h2]
    ·cases h
  have nilc:(op=.eql\/op=.neq)->∀d,P.underlying t=some d->((qnv d).bind λkd=>if qe2 kd ry then some (.BI (op==.neq) kd rx)else if qe2 kd rx then some (.BI (op==.neq) kd ry)else none)=some io->o.wpIn (FR ro) nf P a w next Q:=by
   intro hop' d hu hd;obtain⟨kd,hkd,hd⟩:=zza.1 hd;split at hd
   ·rename_i hn;cases hd;obtain⟨c,rfl,hc⟩:=qA0 hry hn;simp only[qaa]at h;split at h
    ·rename_i b hb;simp only[zzb,zzc]at h;obtain⟨rfl,rfl⟩:=h;refine qaR hnd (u:=.bool (if op==.neq then !b else b)) ?_ (hp.same hH hS (.d _ _ (.b _)))
     simp only[execOp,hop];refine qa2 ?_;have:=(qB6 (P:=P) (w:=w) (x:=x) (y:=.const c) hop' (R hrx) hkd hb hu).1 ⟨c,rfl⟩
     simpa only[Act.eval,hc]using this
    ·cases h
   ·split at hd
    ·rename_i hn;cases hd;obtain⟨c,rfl,hc⟩:=qA0 hrx hn;simp only[qaa]at h;split at h
     ·rename_i b hb;simp only[zzb,zzc]at h;obtain⟨rfl,rfl⟩:=h;refine qaR hnd (u:=.bool (if op==.neq then !b else b)) ?_ (hp.same hH hS (.d _ _ (.b _)))
      simp only[execOp,hop];refine qa2 ?_;have:=(qB6 (P:=P) (w:=w) (x:=.const c) (y:=y) hop' (R hry) hkd hb hu).2 ⟨c,rfl⟩
      simpa only[Act.eval,hc]using this
     ·cases h
    ·cases hd
  unfold qsg at hd;split at hd
  ·split at hd
   ·cases hd;exact bin h
   ·cases hd;exact bin h
   ·rename_i hu;cases hd;exact eqb _ (.inl ⟨rfl,rfl⟩) hu h
   ·rename_i fs hu;exact eqv fs hu (.inl rfl) hd
   ·rename_i d _ _ _ _ hu;exact nilc (.inl rfl) d hu hd
   ·cases hd
  ·split at hd
   ·cases hd;exact bin h
   ·cases hd;exact bin h
   ·rename_i hu;cases hd;exact eqb _ (.inr ⟨rfl,rfl⟩) hu h
   ·rename_i fs hu;exact eqv fs hu (.inr rfl) hd
   ·rename_i d _ _ _ _ hu;exact nilc (.inr rfl) d hu hd
   ·cases hd
  ·cases hd;exact bin h
 |makeFunc fn first caps=>
  simp only[qaO,hop]at hd;cases fn with
  |func f=>
   simp only at hd;split at hd
   ·rename_i hfs;obtain⟨x,hx,hd⟩:=zza.1 hd;obtain⟨cs,hcs,hd⟩:=zza.1 hd;cases hd;simp only[qaa,zzb,zzc]at h;obtain⟨rfl,rfl⟩:=h;obtain⟨h1,h2⟩:=qis hN hG hf hcs;have hrel:=Ae.f (C:=C) (w:=w) (S:=S) (β:=β) x.1 (cs.map (rd E fr)) (caps.toList.map a.eval) (by simp[h1]) h2
    refine qaR hnd (u:=.func (.func (C.μ x.1)) #[] (caps.toList.map a.eval).toArray) ?_ (hp.same hH hS hrel);simp only[execOp,hop];refine qa2 ?_;have hf0:first = #[]:=by simpa using hfs
    subst hf0;have:caps.map a.eval=(caps.toList.map a.eval).toArray:=by apply Array.ext';simp
    simp only[Instr.makeFunc,hN.f f x hx,this,Array.map_empty,Sem.run_pure]
   ·split at hd
    ·rename_i hcs0;obtain⟨x,hx,hd⟩:=zza.1 hd;obtain⟨cs,hcs,hd⟩:=zza.1 hd;cases hd;simp only[qaa,zzb,zzc]at h;obtain⟨rfl,rfl⟩:=h;obtain⟨h1,h2⟩:=qis hN hG hf hcs;have hrel:=Ae.m (C:=C) (w:=w) (S:=S) (β:=β) x.1 (cs.map (rd E fr)) (first.toList.map a.eval) (by simp[h1]) h2
     refine qaR hnd (u:=.func (.func (C.μ x.1)) (first.toList.map a.eval).toArray #[]) ?_ (hp.same hH hS hrel);simp only[execOp,hop];refine qa2 ?_;have hc0:caps = #[]:=by simpa using hcs0
     subst hc0;have:first.map a.eval=(first.toList.map a.eval).toArray:=by apply Array.ext';simp
     simp only[Instr.makeFunc,hN.f f x hx,this,Array.map_empty,Sem.run_pure]
    ·cases hd
  |_=>cases hd
 |makeSlice t l c=>
  simp only[qaO,hop]at hd;obtain⟨ek,hek,hd⟩:=zza.1 hd;obtain⟨z,hz,hd⟩:=zza.1 hd;obtain⟨rl,hrl,hd⟩:=zza.1 hd;obtain⟨rc,hrc,hd⟩:=zza.1 hd;split at hd
  ·cases hd
  ·rename_i hb0;cases hd;obtain⟨hu,hk⟩:=qpe hek;obtain⟨h1,h2⟩:=hid rfl;simp only[qaa]at h;split at h
   ·rename_i n c' hn hc;split at h
    ·rename_i hcnd;simp only[zzb,zzc]at h;obtain⟨rfl,rfl⟩:=h;obtain⟨ur,w',e1,e2⟩:=qKL hH hS hB h1 h2 hu hk hz hb0 (R hrl) (R hrc) hn hc hcnd;exact qaR hnd (by simp only[execOp,hop];exact qa2 e1) (hp.of_leaves e2)
    ·cases h
   ·cases h
 |slice t x lo hi mx=>
  simp only[qaO,hop]at hd;obtain⟨rx,hrx,hd⟩:=zza.1 hd;obtain⟨rlo,hrlo,hd⟩:=zza.1 hd;obtain⟨rhi,hrhi,hd⟩:=zza.1 hd;obtain⟨rmx,hrmx,hd⟩:=zza.1 hd;have h1:=qup hN hG hf hrlo
  have h2:=qup hN hG hf hrhi
  have h3:=qup hN hG hf hrmx
  split at hd
  ·rename_i hu;split at hd
   ·rename_i hmx;cases hd;have hmx0:mx=none:=by
     cases mx with
     |none=>rfl
     |some m=>
      simp only[qlg,Option.map_eq_some_iff]at hrmx;obtain⟨_,_,rfl⟩:=hrmx;simp at hmx
    subst hmx0;have hx:=R hrx
    simp only[qaa]at h;split at h
    ·rename_i s hs;rw[hs]at hx;split at h
     ·rename_i hh hhh;split at h
      ·rename_i l hl;simp only[zzb,zzc]at h;obtain⟨rfl,rfl⟩:=h;obtain⟨u,e1,e2⟩:=qQA (P:=P) hu hx h1 h2 hhh hl;exact qaR hnd (by simp only[execOp,hop];exact qa2 e1) (hp.same hH hS (.d _ _ e2))
      ·cases h
     ·cases h
    ·cases h
   ·cases hd
  ·rename_i e hu;obtain⟨k,hk,hd⟩:=zza.1 hd;split at hd
   ·cases hd
   ·rename_i hmh;cases hd;simp only[qaa,opt]at h;split at h
    ·rename_i v' hv';simp only[zzb,zzc]at h;obtain⟨rfl,rfl⟩:=h;obtain⟨u,e1,e2⟩:=qQB hH hu hk (R hrx) h1 h2 h3 (by cases rmx<;>cases rhi<;>simp_all) hv'
     exact qaR hnd (by simp only[execOp,hop];exact qa2 e1) (hp.same hH hS e2)
    ·cases h
  ·cases hd
 |field s x f=>simp[qaO,hop]at hd
 |indexAddr t x i=>
  simp only[qaO,hop]at hd;obtain⟨rx,hrx,hd⟩:=zza.1 hd;obtain⟨ri,hri,hd⟩:=zza.1 hd;split at hd
  ·rename_i n e hu;obtain⟨k,hk,hd⟩:=zza.1 hd;cases hd;simp only[qaa]at h;split at h
   ·rename_i m hm;obtain⟨ki,hki⟩:=qhZ (R hri) hm;split at h
    ·rename_i j hj;simp only[opt]at h;split at h
     ·rename_i v' hv';simp only[zzb,zzc]at h;obtain⟨rfl,rfl⟩:=h;obtain⟨blk,o',e1,e2⟩:=qAK (R hrx) hv';refine qaR hnd ?_ (hp.same hH hS e2);simp only[execOp,hop,e1,hki];exact qa2 (qQg hu hk hj ki blk o' w)
     ·cases h
    ·cases h
   ·cases h
  ·rename_i e hu;obtain⟨k,hk,hd⟩:=zza.1 hd;cases hd;simp only[qaa,opt]at h;split at h
   ·rename_i v' hv';simp only[zzb,zzc]at h;obtain⟨rfl,rfl⟩:=h;obtain⟨u,e1,e2⟩:=qHh hH hu hk (R hrx) (R hri) hv';exact qaR hnd (by simp only[execOp,hop];exact qa2 e1) (hp.same hH hS e2)
   ·cases h
  ·cases hd
 |index t x i=>
  simp only[qaO,hop]at hd;obtain⟨rx,hrx,hd⟩:=zza.1 hd;obtain⟨ri,hri,hd⟩:=zza.1 hd;split at hd
  ·rename_i n e hu;obtain⟨k,hk,hd⟩:=zza.1 hd;cases hd;simp only[qaa]at h;split at h
   ·rename_i m hm;obtain⟨ki,hki⟩:=qhZ (R hri) hm;split at h
    ·rename_i j hj;simp only[opt]at h;split at h;case h_2=>cases h
     rename_i v' hv';simp only[zzb,zzc]at h;obtain⟨rfl,rfl⟩:=h;have h:=hv'
     obtain⟨vs,e1,e2,e3⟩:=qGv (R hrx) h;refine qaR hnd ?_ (hp.same hH hS e3);simp only[execOp,hop];refine qa2 ?_;obtain⟨q1,q2,q3,q4⟩:=qpF hj;subst q3;simp[Instr.index,qax hu,e1,hki,asIntOf,q1,q2,qdw hk,quG hk e2]
    ·cases h
   ·cases h
  ·rename_i hu;cases hd;simp only[qaa]at h;split at h
   ·rename_i s n hs hn;split at h
    ·rename_i h0;split at h
     ·rename_i b hb;simp only[zzb,zzc]at h;obtain⟨rfl,rfl⟩:=h
      have:=qHi (P:=P) hu (R hrx) (R hri) hs hn h0 hb
      exact qaR hnd (by simp only[execOp,hop];exact qa2 this) (hp.same hH hS (.d _ _ (.i _ _)))
     ·cases h
    ·cases h
   ·cases h
  ·cases hd
 |call c=>
  simp only[qaO,hop]at hd;unfold qsh at hd;have len1:∀{ts:CF (CE CK)} {rs:CF Ab},A9 P N ts c.args.toList=some rs->rs.length=c.args.size:=λh=>by
   have:=(qis hN hG hf h).1
   simpa using this
  split at hd
  ·
   rename_i f hcal;obtain⟨fn,hfn,hd⟩:=zza.1 hd;obtain⟨as0,has,hd⟩:=zza.1 hd;split at hd
   ·rename_i hbody;obtain⟨p,hp2,hd⟩:=zza.1 hd;cases hd;obtain⟨r1,r2⟩:=qis hN hG hf has;simp only[qaa,opt]at h;split at h
    ·rename_i v' hv';simp only[zzb,zzc]at h;obtain⟨rfl,rfl⟩:=h;obtain⟨u,e1,e2⟩:=qPa (P:=P) (w:=w) hp2 hfn hbody (by simp[r1]) r2 hv'
     refine qaR hnd ?_ (hp.same hH hS e2);have hev:a.eval (.func f)=.func (.func f) #[] #[]:=rfl
     have hargs2:c.args.map a.eval ++ #[]=(c.args.toList.map a.eval).toArray:=by apply Array.ext';simp
     simp only[execOp,hop,resolve,hcal,hev,Deferred.ofValue,Sem.run_bind,Sem.run_pure,Result.andThen_ok,invoke,Array.empty_append,hargs2,e1]
    ·cases h
   ·rename_i hbody;split at hd
    ·cases hd
    ·rename_i hname;obtain⟨x,hx,hd⟩:=zza.1 hd;cases hd;obtain⟨r1,r2⟩:=qis hN hG hf has;have hrun:=quD (P:=P) (w:=w) (a:=a) hop hcal (caps := #[]) (f:=f) rfl hfn (by cases hq:fn.body<;>simp_all) hname
     have hargs:c.args.map a.eval ++ #[]=(c.args.toList.map a.eval).toArray:=by apply Array.ext';simp
     rw[hargs]at hrun;have hμ:=hN.f f x hx
     have hlen:(as0.map (rd E fr)).length=(c.args.toList.map a.eval).length:=by simp[r1]
     rcases hm:x.2 with _|_|m
     ·
      rw[hm]at h hid;simp only[qaa]at h;split at h
      ·rename_i ds os hpur;split at h
       ·rename_i r own hval;simp only[zzb,zzc]at h;obtain⟨rfl,hH'⟩:=h;obtain⟨l1,l2⟩:=qw5 hH hpur hlen r2;rw[<-hμ]at hrun;exact qrU hO hG hS hB hH hnd hrun hval l1 l2 hH' hp
       ·cases h
      ·cases h
     ·
      rw[hm]at h hid;obtain⟨i1,i2⟩:=hid rfl;simp only[qaa]at h;split at h
      ·rename_i ds os hpur;split at h
       ·rename_i k es tt hval;simp only[zzb,zzc]at h;obtain⟨rfl,hH'⟩:=h;have hH'':(frz H os).put id (some (.sl k 0 es))=H':=by
         rw[<-hH'];split
         ·rename_i hc;have:os=[]:=by simpa using hc
          subst this;rfl
         ·rfl
        subst hH'';obtain⟨l1,l2⟩:=qw5 hH hpur hlen r2;have hcall:=hO.val _ _ _ _ hval w (FSq β H os S) _ (qjj hH hS os) (hG.ext (qeu hH os)) l1 l2
        rw[hμ]at hcall;refine qog hnd hrun hcall ?_;rintro e w' ⟨u,S',rfl,e1,e2,-,e4⟩;refine⟨u,rfl,?_⟩;obtain⟨k',es',hke,ho⟩:=e4 rfl;cases hke;obtain⟨b1,b2⟩:=qrR (qkO hH os) hB e1;have i2':id<(frz H os).length:=by rw[qc5];exact i2
        rcases ho with ⟨rfl,ad,rfl⟩|⟨blk,off,cap,cells,et,rfl,q1,q2,q3,q4,q5,q6⟩
        ·obtain⟨v1,v2⟩:=qsV b2 i1 i2' k 0;refine hp _ w' S' _ ((qeu hH os).trans b1) e2 v1 v2 (.r _ _ _ _ _ _ rfl ?_) (by rw[qaT,qc5];exact zzt _) (qeV _ _ _ _)
         unfold RelRf;rw[qaZ];exact⟨rfl,rfl,ad,rfl⟩
        ·have hoc:OCells C w' S' β cells blk off (.sl k 0 es):=by
          obtain⟨p0,cf,p1,p2⟩:=q6;refine⟨?_,cf,?_,p2,?_⟩
          ·have:es.length*k.size<=cap*k.size:=zzh _ q1
           omega
          ·intro j hj m hm
           have:=p1 j hj m hm
           rw[List.getElem?_drop]at this;rw[Nat.add_assoc];simpa using this
          ·intro j hj;exact q5 j (by omega)
         obtain⟨v1,v2⟩:=qHc b2 hB i1 i2' q2 (λo blk base k h=>hH.lt h) q3 hoc
         refine hp _ w' S' _ ((qeu hH os).trans b1) e2 v1 v2 (.r _ _ _ _ _ _ rfl ?_) (by rw[qaT,qc5];exact zzt _) (qeV _ _ _ _)
         unfold RelRf;rw[qaZ];refine⟨rfl,cap,_,rfl,λ_=>by simp,q1,(λh=>by cases h),et,cells.size,?_,by simpa using q4⟩
         unfold World.shape?;rw[q3]
       ·cases h
      ·cases h
     ·
      rw[hm]at h;simp only[qaa]at h;have hcall:=hO.ref _ _ _ _ _ h B w S β _ hB hS hG hH hlen r2
      rw[hμ]at hcall;refine qog hnd hrun hcall ?_;rintro e w' ⟨u,S',β',rfl,e1,e2,e3,e4,e5,e6,e7⟩;exact⟨u,rfl,hp u w' S' β' e1 e2 e3 e4 e5 e6 (λo ho _=>e7 o ho (by omega))⟩
  ·
   rename_i t hcal;obtain⟨as0,has,hd⟩:=zza.1 hd;cases hd;obtain⟨r1,r2⟩:=qis hN hG hf has;simp only[qaa]at h;split at h
   ·rename_i n caps hx;have hfx:=hf t
    have hx':fr.get t=.f n caps:=hx
    rw[hx']at hfx;obtain⟨us,h1,h2,h3⟩:=qsE hfx;split at h
    ·
     rename_i ds hpl;split at hpl
     ·rename_i hce;have hc0:caps=[]:=by simpa using hce
      subst hc0;have hu0:us=[]:=by cases us with|nil=>rfl|cons _ _=>simp at h2
      subst hu0;have hmap:=qlc hpl
      split at h
      ·rename_i r own hval;simp only[zzb,zzc]at h;obtain⟨rfl,hH'⟩:=h;obtain⟨fn,q1,q2,q3⟩:=hO.fnv _ _ _ hval;have hrun:=quD (P:=P) (w:=w) (a:=a) hop hcal (caps := #[]) (f:=C.μ n) h1 q1 q2 q3
       have hargs:c.args.map a.eval ++ #[]=(c.args.toList.map a.eval).toArray:=by apply Array.ext';simp
       rw[hargs]at hrun;have l1:ds.length=(c.args.toList.map a.eval).length:=by
        have:=congrArg List.length hmap
        simp only[zzo]at this⊢;simp only[r1]at this;simpa using this.symm
       refine qrU (os:=[]) hO hG hS hB hH hnd hrun hval l1 ?_ (by simpa using hH') hp
       intro j hj hj';have h5:Ae C w S β (.d ds[j]) (c.args.toList.map a.eval)[j]:=by
        have:=r2 j (by rw[hmap];simpa using hj) hj'
        simpa only[hmap,List.getElem_map]using this
       have h6:Al w S ds[j] (c.args.toList.map a.eval)[j]:=by
        generalize (c.args.toList.map a.eval)[j]=z at h5;cases h5 with
        |d _ _ h5=>exact h5
       exact h6.more (λ_ _ h=>Or.inl h)
      ·cases h
     ·cases hpl
    obtain⟨fn,q1,q2,q3⟩:=hO.fn _ _ _ _ h;have hrun:=quD (P:=P) (w:=w) (a:=a) hop hcal (caps:=us.toArray) (f:=C.μ n) h1 q1 q2 q3
    have hargs:c.args.map a.eval++us.toArray=(c.args.toList.map a.eval++us).toArray:=by apply Array.ext';simp
    rw[hargs]at hrun;have hlen:(as0.map (rd E fr)++caps).length=(c.args.toList.map a.eval++us).length:=by simp[r1,h2]
    have hrel:∀j (h:j<(as0.map (rd E fr)++caps).length) (h':j<(c.args.toList.map a.eval++us).length),Ae C w S β (as0.map (rd E fr)++caps)[j] (c.args.toList.map a.eval++us)[j]:=by
     intro j hj hj';by_cases hja:j<(as0.map (rd E fr)).length
     ·rw[List.getElem_append_left hja,List.getElem_append_left (by simpa[r1]using hja)]
      exact r2 j _ _
     ·rw[List.getElem_append_right (by omega),List.getElem_append_right (by simp only[zzo]at hja⊢;omega)]
      have e1:(as0.map (rd E fr)).length=(c.args.toList.map a.eval).length:=by simp[r1]
      simp only[e1];exact h3 _ _ _
    have hcall:=hO.ref _ _ _ _ _ h B w S β _ hB hS hG hH hlen hrel
    refine qog hnd hrun hcall ?_;rintro e w' ⟨u,S',β',rfl,e1,e2,e3,e4,e5,e6,e7⟩;exact⟨u,rfl,hp u w' S' β' e1 e2 e3 e4 e5 e6 (λo ho _=>e7 o ho (by omega))⟩
   ·rename_i n firsts hx;have hfx:=hf t
    have hx':fr.get t=.m n firsts:=hx
    rw[hx']at hfx;obtain⟨us,h1,h2,h3⟩:=qKG hfx;have hall:∀j (h:j<(firsts++as0.map (rd E fr)).length) (h':j<(us++c.args.toList.map a.eval).length),Ae C w S β (firsts++as0.map (rd E fr))[j] (us++c.args.toList.map a.eval)[j]:=by
     intro j hj hj';by_cases hja:j<firsts.length
     ·rw[List.getElem_append_left hja,List.getElem_append_left (by omega)]
      exact h3 j _ _
     ·rw[List.getElem_append_right (by omega),List.getElem_append_right (by omega)]
      simp only[h2];exact r2 _ _ _
    have hlen:(firsts++as0.map (rd E fr)).length=(us++c.args.toList.map a.eval).length:=by simp[r1,h2]
    have hargs:us.toArray++(c.args.map a.eval ++ #[])=(us++c.args.toList.map a.eval).toArray:=by apply Array.ext';simp
    split at h
    ·rename_i ds hpl;have hmap:=qlc hpl
     split at h
     ·rename_i r own hval;simp only[zzb,zzc]at h;obtain⟨rfl,hH'⟩:=h;obtain⟨fn,q1,q2,q3⟩:=hO.fnv _ _ _ hval;have hrun:=qB3 (P:=P) (w:=w) (a:=a) hop hcal (firsts:=us.toArray) (f:=C.μ n) h1 q1 q2 q3
      rw[hargs]at hrun;refine qrU (os:=[]) hO hG hS hB hH hnd hrun hval ?_ ?_ (by simpa using hH') hp
      ·have:=congrArg List.length hmap
       rw[zzo]at this;rw[<-this,hlen]
      ·intro j hj hj';have h5:Ae C w S β (.d ds[j]) (us++c.args.toList.map a.eval)[j]:=by
        have:=hall j (by rw[hmap];simpa using hj) hj'
        simpa only[hmap,List.getElem_map]using this
       have h6:Al w S ds[j] (us++c.args.toList.map a.eval)[j]:=by
        generalize (us++c.args.toList.map a.eval)[j]=z at h5;cases h5 with
        |d _ _ h5=>exact h5
       exact h6.more (λ_ _ h=>Or.inl h)
     ·cases h
    ·obtain⟨fn,q1,q2,q3⟩:=hO.fn _ _ _ _ h;have hrun:=qB3 (P:=P) (w:=w) (a:=a) hop hcal (firsts:=us.toArray) (f:=C.μ n) h1 q1 q2 q3
     rw[hargs]at hrun;have hcall:=hO.ref _ _ _ _ _ h B w S β _ hB hS hG hH hlen hall
     refine qog hnd hrun hcall ?_;rintro e w' ⟨u,S',β',rfl,e1,e2,e3,e4,e5,e6,e7⟩;exact⟨u,rfl,hp u w' S' β' e1 e2 e3 e4 e5 e6 (λo ho _=>e7 o ho (by omega))⟩
   ·rename_i o' hx;have hfx:=hf t
    have hx':fr.get t=.h o':=hx
    rw[hx']at hfx;obtain⟨y1,y2⟩:=hY _ _ _ _ _ h;obtain⟨blk,x,q1,q2,q3⟩:=qvr hH hfx y1;have q4:∃r,x=.loop r/\a.tmps.getD t undef=.func (.yield blk) #[] #[]:=by
     rcases q3 with ⟨rfl,-⟩|⟨rfl,-⟩|h
     ·exact q2.elim
     ·exact q2.elim
     ·exact h
    obtain⟨r0,rfl,hu⟩:=q4;have hlen:(as0.map (rd E fr)).length=(c.args.toList.map a.eval).length:=by simp[r1]
    obtain⟨rr,z1,z2,z3⟩:=y2 w S β (c.args.toList.map a.eval) blk r0 (Ext.refl _ _ _) (Lb.refl _ _) hyb hB hS hG hH q1 hlen r2 (FR ro) (nf-1) (λ_=>trivial) rfl rfl
    have hargs:c.args.map a.eval=(c.args.toList.map a.eval).toArray:=by apply Array.ext';simp
    have hrun:(execOp a.eval o).run P w=.ok (.round blk rr.fn ((rr.params.zip (c.args.toList.map a.eval).toArray).foldl (λtmps (t,a)=>tmps.setIfInBounds t a) rr.tmps) rr.assign rr.body) w:=by
     have hgl:(Instr.getLoop blk).run P w=.ok rr w:=by simp[Instr.getLoop,run_getObj_loop z1]
     have hev:a.eval (.tmp t)=.func (.yield blk) #[] #[]:=hu
     have hsz:(c.args.toList.map a.eval).toArray.size=rr.params.size:=by simpa using z2
     simp only[execOp,hop,resolve,hcal,hev,Deferred.ofValue,Sem.run_bind,Sem.run_pure,Result.andThen_ok,invoke,Array.empty_append,Instr.yield,hgl,hargs,hsz,ne_eq,not_true_eq_false,if_false]
    refine⟨λ_ _=>trivial,?_⟩
    rw[Oper.semAt_eq _ _ _ hnd,hrun];refine⟨(λh=>by simp[FR,Fence.wide]at h),z3.mono ?_⟩
    rintro e w' ⟨u,S',β',rfl,e1,e2,e3,e4,e5,e6,e7⟩;exact hp u w' S' β' e1 e2 e3 e4 e5 e6 (λo ho _=>e7 o ho (by omega))
   ·cases h
  ·cases hd
  ·
   rename_i b hcal;obtain⟨as0,has,hd⟩:=zza.1 hd;obtain⟨r1,r2⟩:=qis hN hG hf has;have hargs:c.args.map a.eval=(c.args.toList.map a.eval).toArray:=by apply Array.ext';simp
   split at hd
   ·
    split at hd
    ·rename_i x;obtain⟨t,ht,hd⟩:=zza.1 hd;have h1:∃y,c.args.toList=[y]:=by
      cases hc:c.args.toList with
      |nil=>rw[hc]at r1;simp at r1
      |cons y l=>cases l with
       |nil=>exact⟨y,rfl⟩
       |cons z l=>rw[hc]at r1;simp at r1
     obtain⟨y,hy⟩:=h1;have hxy:Ae C w S β (rd E fr x) (a.eval y):=by
      have:=r2 0 (by simp) (by simp[hy])
      simpa[hy]using this
     have len:∀str,(str=true/\P.underlying t=some .string)\/(str=false/\∃e,P.underlying t=some (.slice e))->qaa E (rd E fr) H id (.len str x)=some (v,H')->o.wpIn (FR ro) nf P a w next Q:=by
      intro str hst h;simp only[qaa]at h;split at h
      ·rename_i n hn;simp only[zzb,zzc]at h;obtain⟨rfl,rfl⟩:=h;refine qaR hnd ?_ (hp.same hH hS (.d _ _ (.i _ _)));simp only[execOp,hop,resolve,hcal,Sem.run_bind,Sem.run_pure,Result.andThen_ok,invoke,builtin,hargs,hy]
       have:=qJB (P:=P) hH hxy hn ht hst o.type
       simp only[zzu,List.map_nil,this,Result.andThen_ok]
      ·cases h
     split at hd
     ·cases hd;exact len _ (.inl ⟨rfl,by assumption⟩) h
     ·cases hd;exact len _ (.inr ⟨rfl,_,by assumption⟩) h
     ·cases hd
    ·cases hd
   ·
    split at hd
    ·rename_i x y;obtain⟨t,ht,hd⟩:=zza.1 hd;obtain⟨t2,ht2,hd⟩:=zza.1 hd;obtain⟨ek,hek,hd⟩:=zza.1 hd;obtain⟨z,hz,hd⟩:=zza.1 hd;obtain⟨hu,hk⟩:=qpe hek;have h1:∃p q,c.args.toList=[p,q]:=by
      cases hc:c.args.toList with
      |nil=>rw[hc]at r1;simp at r1
      |cons p l=>cases l with
       |nil=>rw[hc]at r1;simp at r1
       |cons q l=>cases l with
        |nil=>exact⟨p,q,rfl⟩
        |cons _ _=>rw[hc]at r1;simp at r1
     obtain⟨p,q,hpq⟩:=h1;have hxp:Ae C w S β (rd E fr x) (a.eval p):=by
      have:=r2 0 (by simp) (by simp[hpq])
      simpa[hpq]using this
     have hyq:Ae C w S β (rd E fr y) (a.eval q):=by
      have:=r2 1 (by simp) (by simp[hpq])
      simpa[hpq]using this
     have app:((∃e',P.underlying t2=some (.slice e'))\/P.underlying t2=some .string)->(if P.bytesOf ek.1=0 then none else some (.app ek.2 (P.bytesOf ek.1) x y))=some io->o.wpIn (FR ro) nf P a w next Q:=by
      intro hu2 hd;split at hd
      ·cases hd
      ·rename_i hb0;cases hd;obtain⟨i1,i2⟩:=hid rfl;simp only[qaa]at h;obtain⟨ur,w',e1,e2⟩:=qrK (P:=P) hH hS hB i1 i2 ht ht2 hu hk hu2 hz hb0 o.type hxp hyq h;refine qaR hnd ?_ (hp.of_leaves e2);simp only[execOp,hop,resolve,hcal,Sem.run_bind,Sem.run_pure,Result.andThen_ok,invoke,builtin,hargs,hpq,zzu,List.map_nil,e1]
     split at hd
     ·exact app (.inl ⟨_,by assumption⟩) hd
     ·exact app (.inr (by assumption)) hd
     ·cases hd
    ·cases hd
   ·
    split at hd
    ·rename_i x;obtain⟨t,ht,hd⟩:=zza.1 hd;obtain⟨ek,hek,hd⟩:=zza.1 hd;obtain⟨z,hz,hd⟩:=zza.1 hd;obtain⟨hu,hk⟩:=qpe hek;cases hd;have h1:∃y,c.args.toList=[y]:=by
      cases hc:c.args.toList with
      |nil=>rw[hc]at r1;simp at r1
      |cons y l=>cases l with
       |nil=>exact⟨y,rfl⟩
       |cons z l=>rw[hc]at r1;simp at r1
     obtain⟨y,hy⟩:=h1;have hxy:Ae C w S β (rd E fr x) (a.eval y):=by
      have:=r2 0 (by simp) (by simp[hy])
      simpa[hy]using this
     have none0:Ae C w S β (.t []) (.tuple #[]):=.t [] [] rfl (λj h=>absurd h (zzm _))
     simp only[qaa]at h;split at h
     ·rename_i oo k' off len tt hx;rw[hx]at hxy;split at h;case h_2=>cases h
      rename_i k'' ro es ho;split at h;case isFalse=>cases h
      rename_i hcnd;simp only[zzf,zzq]at hcnd;obtain⟨⟨⟨hk1,hk2⟩,hle⟩,hro⟩:=hcnd
      have:=K.eq_spec hk1
      subst this
      have:=K.eq_spec hk2
      subst this;simp only[zzb,zzc]at h;obtain⟨rfl,rfl⟩:=h;obtain⟨w',e1,e2,e3,e4⟩:=qFH (P:=P) hH hS ht hu hk hz hxy ho hle hro o.type;refine qaR hnd ?_ (hp _ _ S β e2 e3 e4 (Later.refl _) (.t [] [] rfl (λj h=>absurd h (zzm _))) (by rw[qaT];exact zzt _) (Kp.refl _ _ _))
      simp only[execOp,hop,resolve,hcal,Sem.run_bind,Sem.run_pure,Result.andThen_ok,invoke,builtin,hargs,hy,zzu,List.map_nil,e1]
     ·rename_i k0 t0 hx;rw[hx]at hxy;simp only[zzb,zzc]at h;obtain⟨rfl,rfl⟩:=h;obtain⟨ad,cap,hay⟩:∃ad cap,a.eval y=.slice ad 0 cap:=by
       generalize a.eval y=v at hxy;cases hxy with
       |d _ _ hq=>
       cases hq with
       |l _ _ _ ad cap=>exact⟨ad,cap,rfl⟩
      refine qaR hnd (u:=.tuple #[]) (w':=w) ?_ (hp.same hH hS none0);have e1:(Builtin.clear_ c.argTypes o.type #[.slice ad 0 cap]).run P w=.ok (.tuple #[]) w:=by
       cases ad<;>simp[Builtin.clear_,ht,qax hu]
      simp only[execOp,hop,resolve,hcal,Sem.run_bind,Sem.run_pure,Result.andThen_ok,invoke,builtin,hargs,hy,zzu,List.map_nil,hay,e1]
     ·cases h
    ·cases hd
   ·
    split at hd
    ·cases hd
    ·cases hd;simp only[qaa]at h;exact qBc hnd hop hcal (.inl ⟨rfl,rfl⟩) hargs (by simp[r1]) r2 hH hS h hp
   ·
    split at hd
    ·cases hd
    ·cases hd;simp only[qaa]at h;exact qBc hnd hop hcal (.inr ⟨rfl,rfl⟩) hargs (by simp[r1]) r2 hH hS h hp
   ·cases hd
  ·cases hd
 |ready g=>simp[qaO,hop]at hd
 |waits g=>simp[qaO,hop]at hd
 |sliceToArrayPointer d x=>simp[qaO,hop]at hd
 |makeInterface t x=>
  simp only[qaO,hop]at hd;split at hd
  ·cases hd
  ·rename_i hni;obtain⟨k,hk,hd⟩:=zza.1 hd;obtain⟨r,hr,hd⟩:=zza.1 hd;cases hd;simp only[qaa]at h;split at h
   ·rename_i y os hpu;simp only[zzb,zzc]at h;obtain⟨rfl,rfl⟩:=h;have hu:∃d,P.underlying t=some d:=by
     cases hq:P.underlying t with
     |none=>simp[kq,hq]at hk
     |some d=>exact⟨d,rfl⟩
    obtain⟨d,hu⟩:=hu;exact qOV hnd hop hu (λms hd=>hni ms (by rw[hu,hd])) (R hr) hH hS hpu hp
   ·simp only[zzb,zzc]at h;obtain⟨rfl,rfl⟩:=h;have hu:∃d,P.underlying t=some d:=by
     cases hq:P.underlying t with
     |none=>simp[kq,hq]at hk
     |some d=>exact⟨d,rfl⟩
    obtain⟨d,hu⟩:=hu;exact qOW hnd hop hu (λms hd=>hni ms (by rw[hu,hd])) (R hr) hH hS hp
 |makeMap t r=>
  cases r with
  |some r=>simp[qaO,hop]at hd
  |none=>
   simp only[qaO,hop]at hd;obtain⟨m,hm,hd⟩:=zza.1 hd;cases hd;simp only[qaa,zzb,zzc]at h;obtain⟨rfl,rfl⟩:=h;exact qOX hnd hop hH hS hB (hid rfl) hp
 |makeChan t s=>simp[qaO,hop]at hd
 |lookup t x i b=>
  simp only[qaO,hop]at hd;obtain⟨m,hm,hd⟩:=zza.1 hd;obtain⟨rx,hrx,hd⟩:=zza.1 hd;obtain⟨ri,hri,hd⟩:=zza.1 hd;obtain⟨z,hz,hd⟩:=zza.1 hd;cases hd;obtain⟨d,hu,hkt,hky⟩:=qAx hm;have h1:=R hrx
  have h2:=R hri
  simp only[qaa]at h;split at h
  ·rename_i k oo hk ho;rw[ho]at h1;rw[hk]at h2;split at h
   ·rename_i hok;split at h
    ·rename_i es hes;split at h
     ·rename_i r hr;simp only[zzb,zzc]at h;obtain⟨rfl,rfl⟩:=h;exact qOU hnd hop hu hz (λ_ _=>qzN hkt hky hok) h1 h2 hes hH hS hr hp
     ·cases h
    ·cases h
   ·cases h
  ·cases h
 |insert t x i y=>
  simp only[qaO,hop]at hd;exact mset (.inr hop) hd
 |mapUpdate t x i y=>
  simp only[qaO,hop]at hd;exact mset (.inl hop) hd
 |mapEntry t m k=>simp[qaO,hop]at hd
 |entryStore t m s x=>simp[qaO,hop]at hd
 |range t x=>
  simp only[qaO,hop]at hd;split at hd
  ·rename_i hu;obtain⟨r,hr,hd⟩:=zza.1 hd;cases hd;have h1:=R hr
   simp only[qaa]at h;split at h
   ·rename_i l hl;rw[hl]at h1;simp only[zzb,zzc]at h;obtain⟨rfl,rfl⟩:=h;exact qO0 hnd hop hu h1 hH hS hB (hid rfl) hp
   ·cases h
  ·cases hd
 |next it b=>
  cases b with
  |false=>simp[qaO,hop]at hd
  |true=>
   simp only[qaO,hop]at hd;obtain⟨r,hr,hd⟩:=zza.1 hd;cases hd;have h1:=R hr
   simp only[qaa]at h;split at h
   ·rename_i oo ho;rw[ho]at h1;split at h
    ·rename_i l pos hes;exact qOZ hnd hop h1 hes hH hS h hp
    ·cases h
   ·cases h
 |entry it=>simp[qaO,hop]at hd
 |typeAssert x s t ok=>
  simp only[qaO,hop]at hd;split at hd
  ·cases hd
  ·rename_i d hni hu;obtain⟨r,hr,hd⟩:=zza.1 hd;obtain⟨z,hz,hd⟩:=zza.1 hd;cases hd;simp only[qaa]at h;exact qO1 hnd hop hu (λms hd=>hni ms hd) hz h (R hr) hH hS hp
  ·cases hd
 |go c=>simp[qaO,hop]at hd
 |defer c=>exact absurd hop (hnd c)
 |panic x=>simp[qaO,hop]at hd
 |send c x=>simp[qaO,hop]at hd
 |recv t c b=>simp[qaO,hop]at hd
 |select cs b=>simp[qaO,hop]at hd
end
def qdm(t:Nat)(v:PV)(t':Nat):∀fr:Fr,(fr.set t v).get t'=if t'=t then v else fr.get t'
 |[]=>by simp only[Fr.set,Fr.get];split<;>split<;>simp_all
 | (j,x)::r=>by
  simp only[Fr.set];split
  ·rename_i h;subst h
   simp only[Fr.get];split
   ·rename_i h;subst h;simp
   ·rename_i h;rw[if_neg (λe=>h e.symm)]
  ·split
   ·by_cases h:t=t'
    ·subst h;simp[Fr.get]
    ·rw[if_neg (λe=>h e.symm)];simp only[Fr.get,h,if_false]
   ·rename_i h1 h2;simp only[Fr.get];split
    ·rename_i h;subst h;rw[if_neg h1]
    ·exact qdm t v t' r
def qpw(l:Cy)(t:Nat):∀fr:Fr,(fr.drop l).get t=if l.contains t&&Nat.blt t gh then .u else fr.get t
 |[]=>by simp[Fr.drop,Fr.get]
 | (j,x)::r=>by
  simp only[Fr.drop];split
  ·rename_i hc;rw[qpw l t r];by_cases hj:j=t
   ·subst hj;rw[if_pos hc,if_pos hc]
   ·simp[Fr.get,hj]
  ·rename_i hc;simp only[Fr.get];split
   ·rename_i hj;subst hj;rw[if_neg hc]
   ·exact qpw l t r
def qsJ(l:Cy)(t:Nat)(fr:Fr):(fr.drop l).get t=fr.get t\/(fr.drop l).get t=.u:=by
 rw[qpw];split
 ·exact .inr rfl
 ·exact .inl rfl
def qsK(l:Cy){t:Nat}(h:gh<=t)(fr:Fr):(fr.drop l).get t=fr.get t:=by
 rw[qpw];have:Nat.blt t gh=false:=by
  cases hb:Nat.blt t gh with
  |false=>rfl
  |true=>rw[Nat.blt_eq]at hb;omega
 simp[this]
def qpx(l:Cy)(t:Nat):∀fr:Fr,(fr.keep l).get t=if l.contains t||Nat.ble gh t then fr.get t else .u
 |[]=>by simp[Fr.keep,Fr.get]
 | (j,x)::r=>by
  simp only[Fr.keep];split
  ·rename_i hc;simp only[Fr.get];split
   ·rename_i hj;subst hj;rw[if_pos hc]
   ·exact qpx l t r
  ·rename_i hc;rw[qpx l t r];by_cases hj:j=t
   ·subst hj;rw[if_neg hc,if_neg hc]
   ·simp[Fr.get,hj]
def qGQ(l:Cy)(t:Nat)(fr:Fr):(fr.keep l).get t=fr.get t\/(fr.keep l).get t=.u:=by
 rw[qpx];split
 ·exact .inl rfl
 ·exact .inr rfl
def qGR(l:Cy){t:Nat}(h:gh<=t)(fr:Fr):(fr.keep l).get t=fr.get t:=by
 rw[qpx];have:Nat.ble gh t=true:=by rw[Nat.ble_eq];exact h
 simp[this]
def qpy(ρ:Nat->CE Nat)(t:Nat):∀fr:Fr,(fr.ren ρ).get t=(fr.get t).ren ρ
 |[]=>rfl
 | (j,x)::r=>by
  simp only[Fr.ren,Fr.get];split
  ·rfl
  ·exact qpy ρ t r
def qA7:∀(args:Cu) (j:Nat),∀p∈Fr.Aa j args,j<=p.1
 |[],j,p,h=>by cases h
 |v::r,j,p,h=>by
  simp only[Fr.Aa]at h;rcases zzB.1 h with h|h
  ·have:=qA7 r (j+1) p h;omega
  ·rw[zzH.1 h];exact zzt _
def qyA{t:Nat}{b:Fr}:∀{a:Fr},(∀p∈a,p.1≠t)->Fr.get (a++b) t=Fr.get b t
 |[],_=>rfl
 | (j,x)::r,h=>by
  simp only[List.cons_append,Fr.get];rw[if_neg (h (j,x) (zzr ..))];exact qyA λp hp=>h p (zzi _ hp)
def qyB{t j:Nat}{v:PV}(h:¬j=t):∀{a:Fr},Fr.get (a++[(j,v)]) t=Fr.get a t
 |[]=>by simp[Fr.get,h]
 | (i,x)::r=>by
  simp only[List.cons_append,Fr.get];rw[qyB h]
def qsL(t:Nat):∀(args:Cu) (j:Nat),(Fr.Aa j args).get t=if j<=t then args.getD (t-j) .u else .u
 |[],j=>by simp[Fr.Aa,Fr.get]
 |v::r,j=>by
  simp only[Fr.Aa];by_cases h:j=t
  ·subst h;rw[qyA (λp hp e=>by have:=qA7 r (j+1) p hp;omega)]
   simp[Fr.get]
  ·rw[qyB h,qsL t r (j+1)];by_cases hj:j<=t
   ·rw[if_pos hj,if_pos (by omega)]
    have:t-j=(t-(j+1))+1:=by omega
    rw[this];rfl
   ·rw[if_neg hj,if_neg (by omega)]
def qpf{E:Env}{ρ:Ab->PV}{H:CP}{x:IOp}(h:x.adds=false)(i j:Nat):qaa E ρ H i x=qaa E ρ H j x:=by
 cases x with
 |call m f args=>
  match m with
  |0=>rfl
  |1=>simp[IOp.adds]at h
  |m+2=>rfl
 |alloc=>simp[IOp.adds]at h
 |box=>simp[IOp.adds]at h
 |bsl=>simp[IOp.adds]at h
 |app=>simp[IOp.adds]at h
 |mksl=>simp[IOp.adds]at h
 |Bz=>simp[IOp.adds]at h
 |rngS=>simp[IOp.adds]at h
 |_=>rfl
section
variable {P:CO}{N:Names}{C:Cx}{w:CL}{S:qac}{β:Pl}{B:Nat}{H:CP}{a:Act}{E:Env}{ro:CE Nat}{nf:Nat}
def DRel(C:Cx)(w:CL)(S:qac)(β:Pl)(x:PV)(d:Deferred):Prop:=match x with
 |.g (.h o)=>∃r,d={ target:=.collected r,args := #[] }/\(β o=.sp r .defer\/β o=.dead)
 |.g (.f n caps)=>∃us:CF CJ,d={ target:=.fn (.func (C.μ n)) us.toArray,args := #[] }/\caps.length=us.length/\∀j (h:j<caps.length) (h':j<us.length),Ae C w S β caps[j] us[j]
 |.g .u=>True
 |_=>False
def DfRel(C:Cx)(w:CL)(S:qac)(β:Pl)(fr:Fr)(ds:CF Deferred):Prop:=
 ∃sl:Cy,sl.Nodup/\(∀t,t∈sl->gh<=t)/\(∀t,gh<=t->fr.get t≠.u->t∈sl)/\sl.length=ds.length/\∀j (h:j<sl.length) (h':j<ds.length),DRel C w S β (fr.get sl[j]) ds[j]
def DRel.ext{w':CL}{S':qac}{β':Pl}{x:PV}{d:Deferred}(h:DRel C w S β x d)(e:Ext B w S w' S')(hb:Later β β'):DRel C w' S' β' x d:=by
 unfold DRel at *
 split at h
 ·obtain⟨r,h1,h2⟩:=h;refine⟨r,h1,?_⟩;rename_i o;rcases hb o with h3|h3|h3
  ·rw[h3];exact h2
  ·exact .inr h3
  ·rcases h2 with h2|h2<;>rw[h3]at h2<;>cases h2
 ·obtain⟨us,h1,h2,h3⟩:=h;exact⟨us,h1,h2,λj hj hj'=>(h3 j hj hj').ext e hb⟩
 ·trivial
 ·exact h.elim
def DfRel.ext{w':CL}{S':qac}{β':Pl}{fr:Fr}{ds:CF Deferred}(h:DfRel C w S β fr ds)(e:Ext B w S w' S')(hb:Later β β'):DfRel C w' S' β' fr ds:=by
 obtain⟨sl,h1,h2,h3,h4,h5⟩:=h;exact⟨sl,h1,h2,h3,h4,λj hj hj'=>(h5 j hj hj').ext e hb⟩
def DfRel.frame{fr fr':Fr}{ds:CF Deferred}(h:DfRel C w S β fr ds)(he:∀t,gh<=t->fr'.get t=fr.get t):DfRel C w S β fr' ds:=by
 obtain⟨sl,h1,h2,h3,h4,h5⟩:=h;refine⟨sl,h1,h2,λt ht hn=>h3 t ht (by rw[<-he t ht];exact hn),h4,λj hj hj'=>?_⟩
 rw[he _ (h2 _ (zzs hj))];exact h5 j hj hj'
def DfRel.push{fr:Fr}{ds:CF Deferred}(h:DfRel C w S β fr ds){t:Nat}(ht:gh<=t)(hu:fr.get t=.u){x:PV}{d:Deferred}(hx:DRel C w S β x d):DfRel C w S β (fr.set t x) (d::ds):=by
 obtain⟨sl,h1,h2,h3,h4,h5⟩:=h;have hnt:∀j (hj:j<sl.length),sl[j]≠t:=λj hj hq=>by
  have:=h5 j hj (by omega)
  rw[hq,hu]at this;exact this
 have hn:t∉sl:=λhm=>by
  obtain⟨j,hj,hq⟩:=zzO hm;exact hnt j hj hq
 refine⟨t::sl,List.nodup_cons.2 ⟨hn,h1⟩,?_,?_,by simp[h4],?_⟩
 ·intro t' hm;rcases List.mem_cons.1 hm with rfl|hm
  ·exact ht
  ·exact h2 t' hm
 ·intro t' h6 h7;rw[qdm]at h7;split at h7
  ·rename_i hq;subst hq;exact zzr ..
  ·exact zzi _ (h3 t' h6 h7)
 ·intro j hj hj';cases j with
  |zero=>rw[qdm];simpa using hx
  |succ j=>
   simp only[zzG];rw[qdm,if_neg (hnt j (by simpa using hj))]
   exact h5 j _ _
structure Inv (P:Program) (N:Names) (C:Cx) (E:Env) (B base nt:Nat) (s:St) (a:Act) (w:World) (S:qac) (β:Pl):Prop where
 swf:Swf w S
 gok:GOK N E.G w S
 hB:B<=w.heap.size
 hok:HOK C B w S β s.H
 fok:FOK C w S β s.fr a
 size:a.tmps.size=nt
 defers:DfRel C w S β s.fr a.defers
 yok:∃yb,yb<=base/\YOK P C N E.G E.yld B w S β yb
 base:base<=s.H.length
def FOK.ext{w':CL}{S':qac}{β':Pl}{fr:Fr}(h:FOK C w S β fr a)(e:Ext B w S w' S')(hb:Later β β'):FOK C w' S' β' fr a:=λt=>(h t).ext e hb
def FOK.put{fr:Fr}(h:FOK C w S β fr a){d:Nat}(hd:d<a.tmps.size){v:PV}{u:CJ}(hv:Ae C w S β v u):FOK C w S β (fr.set d v) (a.put (some d) u):=by
 intro t;rw[qdm];simp only[Act.put,zzx];split
 ·rename_i ht;subst ht
  simpa[hd]using hv
 ·rename_i ht;rw[Array.getElem?_setIfInBounds_ne (λe=>ht e.symm)]
  have:=h t
  simpa[zzx]using this
def qno(hH:HOK C B w S β H)(n:Nat):HOK C B w S β (H++List.replicate n none):=by
 have hobj:∀o,o<H.length->Heap.obj (H++List.replicate n none) o=H.obj o:=by
  intro o ho;simp[Heap.obj,List.getElem?_append_left ho]
 have hlt:∀o,β o≠.pend->o<H.length:=λo h=>by
  rcases Nat.lt_or_ge o H.length with h1|h1
  ·exact h1
  ·exact absurd (hH.out o h1) h
 refine⟨?_,?_,?_,hH.inj,?_,λo blk x h=>?_,hH.spi⟩
 rotate_left 4
 ·rw[hobj o (hlt o (by rw[h];simp))];exact hH.sp o blk x h
 ·intro o blk base k h;rw[hobj o (hlt o (by rw[h];simp))];exact hH.live o blk base k h
 ·intro o h;rw[hobj o (hlt o (by rw[h];simp))];exact hH.dead o h
 ·intro o h;rw[hobj o (hlt o (by rw[h];simp))];exact hH.Bq o h
 ·intro o h;rw[zzp]at h;exact hH.out o (by omega)
def qsi(o:Oper)(all:Array Oper)(h:qbG o.op=false):(qaq P N all o).dst=o.dst:=by
 unfold qaq;split
 ·simp[h]
 ·rfl
def qO2(hO:OrOK P C N E)(hN:NOK P N C E.G){ops:Array Oper}{Q:Exit->Act->CL->Prop}{base nt:Nat}(hng:nt<=gh)(hro:ro=none\/∀o∈ops.toList,qbG o.op=false)(hdst:∀o∈ops.toList,∀d,o.dst=some d->d<nt):∀(m k id R:Nat) (s s':St) (a:Act) (w:CL) (S:qac) (β:Pl),k+m=ops.size->
  qaM E ((ops.toList.drop k).map (qaq P N ops)) id s=some s'->Inv P N C E B base nt s a w S β->(∀j,id<=j->j<R->β j=.pend)->id+qao ((ops.toList.drop k).map (qaq P N ops))<=R->R<=s.H.length->base<=id->
  (∀a' w' S' β',Inv P N C E B base nt s' a' w' S' β'->Ext B w S w' S'->Lb base β β'->Q .normal a' w')->wpOpsIn (FR ro) nf P ops Q (List.range' k m) a w:=by
 intro m;induction m with
 |zero=>
  intro k id R s s' a w S β hk he hI _ _ _ _ hQ;have:ops.toList.drop k=[]:=by rw[List.drop_eq_nil_iff];simp;omega
  rw[this]at he;simp only[List.map_nil,qaM,zzb]at he;subst he;exact hQ a w S β hI (Ext.refl _ _ _) (Lb.refl _ _)
 |succ m ih=>
  intro k id R s s' a w S β hk he hI hpend hroom hR hbase hQ;have hks:k<ops.size:=by omega
  have hdrop:ops.toList.drop k=ops[k]::ops.toList.drop (k+1):=by
   rw[zzz (by simpa using hks)];simp
  rw[hdrop]at he hroom;simp only[zzu]at he hroom;have hget:ops[k]? = some ops[k]:=by simp[hks]
  rw[List.range'_succ];simp only[wpOpsIn,hget];have hmem:ops[k]∈ops.toList:=by simp
  generalize hok:ops[k]=o at *
  have hdo:=hdst o hmem
  obtain⟨yb,hyb,hyok⟩:=hI.yok;cases hdf:qbG o.op with
  |true=>
   have hro':ro=none:=by
    rcases hro with h|h
    ·exact h
    ·have:=h o hmem;rw[hdf]at this;cases this
   subst hro';cases hop:o.op<;>(rw[hop]at hdf;try (cases hdf;done))
   rename_i c;cases hx:qaO P N o with
   |none=>
    have:qaq P N ops o=⟨o.dst,.bad,none⟩:=by unfold qaq;rw[hx]
    rw[this]at he;simp[qaM,qaa]at he
   |some x=>
    cases hg:qek ops o.guard with
    |none=>
     have:qaq P N ops o=⟨o.dst,.bad,none⟩:=by unfold qaq;rw[hx,hg]
     rw[this]at he;simp[qaM,qaa]at he
    |some g=>
     cases hgn:g with
     |some gg=>
      have:qaq P N ops o=⟨o.dst,.bad,none⟩:=by unfold qaq;rw[hx,hg];simp[hop,qbG,hgn]
      rw[this]at he;simp[qaM,qaa]at he
     |none=>
      cases hod:o.dst with
      |some d=>
       have:qaq P N ops o=⟨o.dst,.bad,none⟩:=by unfold qaq;rw[hx,hg];simp[hop,qbG,hgn,hod]
       rw[this]at he;simp[qaM,qaa]at he
      |none=>
      have hdg:qaq P N ops o=⟨some gh,x,none⟩:=by unfold qaq;rw[hx,hg];simp[hop,qbG,hgn,hod]
      rw[hdg]at he hroom;have hguard:o.guard=none:=by
       subst hgn;cases hq:o.guard with
       |none=>rfl
       |some gw=>
        obtain⟨j,want⟩:=gw;rw[hq]at hg;simp only[qek]at hg;obtain⟨t,-,hg⟩:=zza.1 hg;cases hg
      have hw:Region.wanted o (yielded ops a.tmps)=true:=by simp[Region.wanted,hguard]
      rw[if_pos hw];simp only[qaO,hop]at hx;split at hx
      ·rename_i t hcal;split at hx
       ·rename_i hargs;cases hx;simp only[qaM,qaa]at he;split at he
        ·rename_i v H' hev;split at hev
         ·rename_i n caps h1 h2;simp only[zzb,zzc]at hev;obtain⟨rfl,rfl⟩:=hev;have h1':s.fr.get t=.f n caps:=h1
          have h2':s.fr.get gh=.u:=h2
          have hfx:=hI.fok t
          rw[h1']at hfx;obtain⟨us,q1,q2,q3⟩:=qsE hfx;have ha0:c.args = #[]:=by simpa using hargs
          refine⟨λ_ _=>trivial,?_⟩
          have hrun:(o.semAt (FR none).round a.eval).run P w=.ok (.defer { target:=.fn (.func (C.μ n)) us.toArray,args := #[] }) w:=by
           have hev:a.eval (.tmp t)=.func (.func (C.μ n)) #[] us.toArray:=q1
           unfold Oper.semAt;rw[hop];simp[FR,Fence.wide,execOp,hop,resolve,hcal,hev,Deferred.ofValue,ha0]
          rw[hrun];show wpOpsIn _ _ _ _ _ _ ({ a with defers:=_::a.defers }.put o.dst undef) w
          have hnd:qao (⟨some gh,.dfr (.t t) (.t gh),none⟩::(ops.toList.drop (k+1)).map (qaq P N ops))=qao ((ops.toList.drop (k+1)).map (qaq P N ops)):=by simp[qao,IOp.adds]
          rw[hnd]at hroom;refine ih (k+1) id R _ s' _ w S β (by omega) (by simpa[IOp.adds]using he) ?_ hpend hroom (by simpa using hR) hbase hQ
          refine⟨hI.swf,hI.gok,hI.hB,hI.hok,?_,?_,?_,hI.yok,hI.base⟩
          ·rw[hod];intro t';show Ae C w S β ((s.fr.set gh (.g (.f n caps))).get t') _
           rw[qdm];split
           ·exact .g _ _
           ·exact hI.fok t'
          ·rw[hod];exact hI.size
          ·rw[hod];exact hI.defers.push (zzt gh) h2' (x:=.g (.f n caps)) (d:={ target:=.fn (.func (C.μ n)) us.toArray,args := #[] }) ⟨us,rfl,q2,q3⟩
         ·cases hev
        ·cases he
       ·cases hx
      ·cases hx
  |false=>
  have hnd:∀c,o.op≠.defer c:=λc h=>by rw[h]at hdf;cases hdf
  have hdig:(∃x g,qaO P N o=some x/\qek ops o.guard=some g/\qaq P N ops o=⟨o.dst,x,g⟩)\/qaq P N ops o=⟨o.dst,.bad,none⟩:=by
   unfold qaq;split
   ·exact .inl ⟨_,_,by assumption,by assumption,by simp[hdf]⟩
   ·exact .inr rfl
  rcases hdig with ⟨x,g,hx,hg,hdo'⟩|hbad
  ·rw[hdo']at he hroom;have hput:∀(v:PV) (H':CP) (u:CJ) (w':CL) (S':qac) (β':Pl),Ext B w S w' S'->Swf w' S'->HOK C B w' S' β' H'->Later β β'->Ae C w' S' β' v u->s.H.length<=H'.length->
     Lb base β β'->Inv P N C E B base nt ⟨match o.dst with|some t=>s.fr.set t v|none=>s.fr,H'⟩ (a.put o.dst u) w' S' β':=by
    intro v H' u w' S' β' e1 e2 e3 e4 e5 e6 e7;refine⟨e2,hI.gok.ext e1,zzL hI.hB e1.below.size,e3,?_,?_,?_,⟨yb,hyb,hyok.later e1 (e7.mono hyb)⟩,zzL hI.base e6⟩
    ·cases hd:o.dst with
     |none=>exact hI.fok.ext e1 e4
     |some d=>exact (hI.fok.ext e1 e4).put (by rw[hI.size];exact hdo d hd) e5
    ·cases hd:o.dst with
     |none=>exact hI.size
     |some d=>simp[Act.put,hI.size]
    ·cases hd:o.dst with
     |none=>exact hI.defers.ext e1 e4
     |some d=>
      refine (hI.defers.ext e1 e4).frame λt ht=>?_
      have hlt:=Nat.lt_of_lt_of_le (hdo d hd) (zzL hng ht)
      show (s.fr.set d v).get t=_
      rw[qdm,if_neg (λh=>Nat.lt_irrefl _ (h▸hlt))]
   have hadds:qao (⟨o.dst,x,g⟩::(ops.toList.drop (k+1)).map (qaq P N ops))=(if x.adds then 1 else 0)+qao ((ops.toList.drop (k+1)).map (qaq P N ops)):=rfl
   rw[hadds]at hroom;have go:(match qaa E (rd E s.fr) s.H id x with
     |some (v,H)=>qaM E ((ops.toList.drop (k+1)).map (qaq P N ops)) (if x.adds then id+1 else id) ⟨match o.dst with|some t=>s.fr.set t v|none=>s.fr,H⟩
     |none=>none)=some s'->o.wpIn (FR ro) nf P a w (wpOpsIn (FR ro) nf P ops Q (List.range' (k+1) m)) Q:=by
    intro he;split at he
    ·rename_i v H' hev;have hev':qaa E (rd E s.fr) s.H (if x.adds then id else s.H.length) x=some (v,H'):=by
      cases ha:x.adds with
      |true=>exact hev
      |false=>rw[<-hev];exact qpf ha _ _
     refine qt0 hO hN hI.gok hI.swf hI.hB hI.hok hI.fok hnd hyok (zzL hyb hI.base) hx ?_ hev' ?_
     ·intro hadd;rw[if_pos hadd]at hroom⊢;exact⟨hpend id (zzt _) (by omega),by omega⟩
     ·intro u w' S' β' e1 e2 e3 e4 e5 e6 e7;have hlb:Lb base β β':=by
       intro o' ho'
       have:=hI.base
       exact⟨e4 o',λhp=>e7 o' (by omega) (by split<;>omega) hp⟩
      refine ih (k+1) _ R _ s' _ w' S' β' (by omega) he (hput v H' u w' S' β' e1 e2 e3 e4 e5 e6 hlb) ?_ ?_ (by simp only;omega) ?_ ?_
      ·intro j hj hj';split at hj
       ·rename_i ha;rw[if_pos ha]at e7
        exact e7 j (by omega) (by omega) (hpend j (by omega) hj')
       ·rename_i ha;rw[if_neg ha]at e7
        exact e7 j (by omega) (by omega) (hpend j (by omega) hj')
      ·split at hroom
       ·rename_i ha;rw[if_pos ha];omega
       ·rename_i ha;rw[if_neg ha];omega
      ·split<;>omega
      ·intro a' w'' S'' β'' hI' e8 e9;exact hQ a' w'' S'' β'' hI' (e1.trans e8) (hlb.trans e9)
    ·cases he
   have no:qaM E ((ops.toList.drop (k+1)).map (qaq P N ops)) (if x.adds then id+1 else id) ⟨match o.dst with|some t=>s.fr.set t (.t [])|none=>s.fr,s.H⟩=some s'->wpOpsIn (FR ro) nf P ops Q (List.range' (k+1) m) (a.put o.dst undef) w:=by
    intro he;refine ih (k+1) _ R _ s' _ w S β (by omega) he (hput (.t []) s.H undef w S β (Ext.refl _ _ _) hI.swf hI.hok (Later.refl _) (.t [] [] rfl (λj h=>absurd h (zzm _))) (zzt _) (Lb.refl _ _)) ?_ ?_ hR ?_ hQ
    ·intro j hj hj';exact hpend j (by split at hj<;>omega) hj'
    ·split at hroom
     ·rename_i ha;rw[if_pos ha];omega
     ·rename_i ha;rw[if_neg ha];omega
    ·split<;>omega
   simp only[qaM]at he;cases hgo:o.guard with
   |none=>
    rw[hgo]at hg;simp only[qek,zzb]at hg;subst hg;have hw:Region.wanted o (yielded ops a.tmps)=true:=by simp[Region.wanted,hgo]
    rw[if_pos hw];exact go he
   |some gw=>
    obtain⟨j,want⟩:=gw;rw[hgo]at hg;simp only[qek]at hg;obtain⟨t,ht,hg⟩:=zza.1 hg;cases hg;simp only at he;have hyt:=hI.fok t
    have hy:yielded ops a.tmps j=match a.tmps[t]? with|some (.bool b)=>some b|_=>none:=by
     unfold yielded;rw[ht];rfl
    split at he
    ·rename_i b hb;rw[hb]at hyt
     have:=qi5 hyt
     have hyb:yielded ops a.tmps j=some b:=by
      rw[hy];rw[zzx]at this;cases hq:a.tmps[t]? with
      |none=>rw[hq]at this;cases this
      |some z=>rw[hq]at this;simp at this;subst this;rfl
     have hwd:Region.wanted o (yielded ops a.tmps)=(b==want):=by
      simp only[Region.wanted,hgo,hyb];cases b<;>cases want<;>rfl
     rw[hwd];split at he
     ·rename_i hbw;rw[if_pos hbw];exact go he
     ·rename_i hbw;rw[if_neg hbw];exact⟨λ_ _=>trivial,no he⟩
    ·rename_i hb;rw[hb]at hyt;have hyb:yielded ops a.tmps j=none:=by
      rw[hy];rw[zzx]at hyt;cases hq:a.tmps[t]? with
      |none=>rfl
      |some z=>
       rw[hq]at hyt;simp only[zzA]at hyt;cases hyt;rfl
     have hwd:Region.wanted o (yielded ops a.tmps)=false:=by
      simp only[Region.wanted,hgo,hyb];rfl
     rw[hwd];simp only[zzg,if_false];exact⟨λ_ _=>trivial,no he⟩
    ·cases he
  ·rw[hbad]at he;simp[qaM,qaa]at he
end
def qrO(acc:Cy):∀(es:CF Edge) (i:Nat),(qfH acc es).testBit i=true->∃e∈es,Region.binds .any e=true/\(i=e.on\/(acc.getD e.on 0).testBit i=true)
 |[],i,h=>by simp[qfH]at h
 |e::es,i,h=>by
  unfold qfH at h;split at h
  ·rename_i hb;rw[Nat.testBit_or,Nat.testBit_or,Bool.or_eq_true,Bool.or_eq_true]at h;rcases h with h|h|h
   ·refine⟨e,zzr ..,hb,.inl ?_⟩;rw[Nat.testBit_two_pow]at h;have:e.on=i:=by simpa using h
    exact this.symm
   ·exact⟨e,zzr ..,hb,.inr h⟩
   ·obtain⟨e',h1,h2⟩:=qrO acc es i h;exact⟨e',zzi _ h1,h2⟩
  ·obtain⟨e',h1,h2⟩:=qrO acc es i h;exact⟨e',zzi _ h1,h2⟩
def qwS:∀(ops:CF Oper) (acc:Cy),(bef ops acc).length=acc.length+ops.length/\(∀j,j<acc.length->(bef ops acc)[j]? = acc[j]?)/\
  ∀j (h:j<ops.length),∃acc':Cy,acc'.length=acc.length+j/\(∀i,i<acc'.length->acc'[i]? = (bef ops acc)[i]?)/\(bef ops acc)[acc.length+j]? = some (qfH acc' (ops[j].after.toList))
 |[],acc=>⟨by simp[bef],λ_ _=>rfl,λj h=>absurd h (zzm _)⟩
 |o::r,acc=>by
  obtain⟨h1,h2,h3⟩:=qwS r (acc++[qfH acc o.after.toList]);have hl:(acc++[qfH acc o.after.toList]).length=acc.length+1:=by simp
  refine⟨by simp only[bef,h1,hl,zzn];omega,?_,?_⟩
  ·intro j hj;simp only[bef];rw[h2 j (by rw[hl];omega),List.getElem?_append_left hj]
  ·intro j hj;cases j with
   |zero=>
    refine⟨acc,by simp,?_,?_⟩
    ·intro i hi;simp only[bef];rw[h2 i (by rw[hl];omega),List.getElem?_append_left hi]
    ·simp only[bef,Nat.add_zero,List.getElem_cons_zero];rw[h2 acc.length (by rw[hl];omega),List.getElem?_append_right (zzt _)]
     simp
   |succ j=>
    obtain⟨acc',a1,a2,a3⟩:=h3 j (by simpa using hj)
    refine⟨acc',by rw[a1,hl];omega,a2,?_⟩
    rw[hl]at a3;simp only[bef,zzG];have e:acc.length+(j+1)=acc.length+1+j:=by omega
    rw[e];exact a3
def qrP{ops:CF Oper}{S:Nat->Prop}(hS:∀j (h:j<ops.length),S j->∀e∈ops[j].after.toList,Region.binds .any e=true->S e.on) :
  ∀(j:Nat) (h:j<ops.length),(∀e∈ops[j].after.toList,Region.binds .any e=true->S e.on)->∀i,((bef ops []).getD j 0).testBit i=true->S i:=by
 intro j;induction j using Nat.strongRecOn with
 |ind j ih=>
  intro hj hpre i hi;obtain⟨acc',a1,a2,a3⟩:=(qwS ops []).2.2 j hj;simp only[List.length_nil,Nat.zero_add]at a1 a3;rw[List.getD,a3,zzA]at hi;obtain⟨e,e1,e2,e3⟩:=qrO _ _ _ hi;rcases e3 with rfl|e3
  ·exact hpre e e1 e2
  ·have hlt:e.on<acc'.length:=by
    rcases Nat.lt_or_ge e.on acc'.length with h|h
    ·exact h
    ·rw[List.getD,List.getElem?_eq_none h]at e3;simp at e3
   have e4:(bef ops []).getD e.on 0=acc'.getD e.on 0:=by rw[List.getD,List.getD,a2 _ hlt]
   rw[<-e4]at e3;have hjl:e.on<j:=by omega
   exact ih e.on hjl (by omega) (hS e.on (by omega) (hpre e e1 e2)) i e3
section
variable {E:Env}{H H2:CP}
def quq{fr fr':Fr}{r:Ab}(h:∀t∈r.uses,fr.get t=fr'.get t):rd E fr r=rd E fr' r:=by
 cases r with
 |t n=>exact h n (by simp[Ab.uses])
 |_=>rfl
def qBR{fr fr':Fr}:∀{rs:CF Ab},(∀t∈qci rs,fr.get t=fr'.get t)->rs.map (rd E fr)=rs.map (rd E fr')
 |[],_=>rfl
 |r::rs,h=>by
  simp only[qci,List.flatMap_cons,zzB]at h;rw[zzu,zzu,quq (λt ht=>h t (.inl ht)),qBR (rs:=rs) (λt ht=>h t (.inr ht))]
def qPw{fr fr':Fr}{r:CE Ab}(h:∀t∈qjX r,fr.get t=fr'.get t):r.map (rd E fr)=r.map (rd E fr'):=by
 cases r with
 |none=>rfl
 |some r=>simp only[Option.map_some];rw[quq h]
def qtY{fr fr':Fr}{id:Nat}{x:IOp}(h:∀t∈x.uses,fr.get t=fr'.get t):qaa E (rd E fr) H id x=qaa E (rd E fr') H id x/\x.okD (rd E fr)=x.okD (rd E fr')/\qaE (rd E fr) x=qaE (rd E fr') x/\qa8 (rd E fr) x=qa8 (rd E fr') x:=by
 have h1:∀r:Ab,(∀t∈r.uses,t∈x.uses)->rd E fr r=rd E fr' r:=λr hr=>quq λt ht=>h t (hr t ht)
 have hL:∀rs:CF Ab,(∀t∈qci rs,t∈x.uses)->rs.map (rd E fr)=rs.map (rd E fr'):=λrs hr=>qBR λt ht=>h t (hr t ht)
 have hF:∀rs:CF Ab,(∀t∈qci rs,t∈x.uses)->(rs.flatMap λx=>(rd E fr x).refs)=rs.flatMap λx=>(rd E fr' x).refs:=λrs hr=>by
  have e1:∀(ρ:Ab->PV),(rs.flatMap λx=>(ρ x).refs)=(rs.map ρ).flatMap PV.refs:=λρ=>by rw[List.flatMap_map]
  rw[e1,e1,hL rs hr]
 have hO:∀r:CE Ab,(∀t∈qjX r,t∈x.uses)->r.map (rd E fr)=r.map (rd E fr'):=λr hr=>qPw λt ht=>h t (hr t ht)
 cases x with
 |call m f args=>
  have e1:=hL args (λt ht=>ht)
  have e2:=hF args (λt ht=>ht)
  refine⟨?_,rfl,e2,rfl⟩;match m with
  |0=>simp only[qaa,e1]
  |1=>simp only[qaa,e1]
  |m+2=>simp only[qaa,e1]
 |BH x args=>
  have e1:=hL args (λt ht=>by simp[IOp.uses,ht])
  have e2:=h1 x (λt ht=>by simp[IOp.uses,ht])
  exact⟨by simp only[qaa,e1,e2],by simp only[IOp.okD,e1,e2],rfl,rfl⟩
 |invk tab x args=>
  have e1:=hL args (λt ht=>by simp[IOp.uses,ht])
  have e2:=h1 x (λt ht=>by simp[IOp.uses,ht])
  exact⟨by simp only[qaa,e1,e2],rfl,rfl,rfl⟩
 |bsl k z len parts=>
  have e1:parts.map (λx=>(x.1,rd E fr x.2))=parts.map (λx=>(x.1,rd E fr' x.2)):=by
   apply List.map_congr_left
   intro p hp;rw[h1 p.2 (λt ht=>by simp only[IOp.uses,List.mem_flatMap];exact⟨p,hp,ht⟩)]
  have e2:(parts.flatMap λx=>(rd E fr x.2).refs)=parts.flatMap λx=>(rd E fr' x.2).refs:=by
   have e3:∀(ρ:Ab->PV),(parts.flatMap λx=>(ρ x.2).refs)=(parts.map λx=>(x.1,ρ x.2)).flatMap λy=>y.2.refs:=λρ=>by rw[List.flatMap_map]
   rw[e3,e3,e1]
  refine⟨?_,rfl,e2,rfl⟩;simp only[qaa,e1]
 |agg z parts=>
  have:parts.map (λx=>(x.1,x.2.1,rd E fr x.2.2))=parts.map (λx=>(x.1,x.2.1,rd E fr' x.2.2)):=by
   apply List.map_congr_left
   intro p hp;rw[h1 p.2.2 (λt ht=>by simp only[IOp.uses,List.mem_flatMap];exact⟨p,hp,ht⟩)]
  refine⟨?_,rfl,rfl,rfl⟩;simp only[qaa,this]
 |pick c a b=>refine⟨?_,rfl,rfl,rfl⟩;simp only[qaa];rw[h1 c (λt ht=>by simp[IOp.uses,ht]),h1 a (λt ht=>by simp[IOp.uses,ht]),h1 b (λt ht=>by simp[IOp.uses,ht])]
 |mset _ c a b=>refine⟨?_,rfl,rfl,rfl⟩;simp only[qaa];rw[h1 c (λt ht=>by simp[IOp.uses,ht]),h1 a (λt ht=>by simp[IOp.uses,ht]),h1 b (λt ht=>by simp[IOp.uses,ht])]
 |mov x|box _ x|load _ x|un _ x|conv _ x|Be _ x|field _ _ x|len _ x|ext x _|BQ x|BI _ _ x|mkif _ x|tas _ _ _ x|clr _ _ x|mlen x|rngS x|nxt x|sb x|bs x=>have e:=h1 x (λt ht=>ht);exact⟨by simp only[qaa,e],rfl,by simp only[qaE,e],rfl⟩
 |store _ x y|bin _ x y|eqv _ _ x y|eqb _ x y|Az _ x y|BM _ _ x y|idxS x y|idxA _ _ x y|mksl _ _ _ x y|app _ _ x y|copy _ x y|mget _ _ _ x y|mdel _ x y|dfr x y=>
  have e:=h1 x (λt ht=>by simp[IOp.uses,ht])
  have e':=h1 y (λt ht=>by simp[IOp.uses,ht])
  exact⟨by simp only[qaa,e,e'],rfl,by simp only[qaE,e,e'],by simp only[qa8,e]⟩
 |slS x a b=>exact⟨by simp only[qaa];rw[h1 x (λt ht=>by simp[IOp.uses,ht]),hO a (λt ht=>by simp[IOp.uses,ht]),hO b (λt ht=>by simp[IOp.uses,ht])],rfl,rfl,rfl⟩
 |sl k x a b c=>
  have e:=h1 x (λt ht=>by simp[IOp.uses,ht])
  exact⟨by simp only[qaa];rw[e,hO a (λt ht=>by simp[IOp.uses,ht]),hO b (λt ht=>by simp[IOp.uses,ht]),hO c (λt ht=>by simp[IOp.uses,ht])],rfl,by simp only[qaE,e],rfl⟩
 |mkf _ cs|mkm _ cs|prim _ cs|minmax _ cs=>have e:=hL cs (λt ht=>ht);exact⟨by simp only[qaa,e],rfl,rfl,rfl⟩
 |alloc _ _=>exact⟨rfl,rfl,rfl,rfl⟩
 |Bz=>exact⟨rfl,rfl,rfl,rfl⟩
 |bad=>exact⟨rfl,rfl,rfl,rfl⟩
def qOR{fr fr':Fr}{id:Nat}{x:IOp}(h:∀t∈x.uses,fr.get t=fr'.get t):qal E (rd E fr) H id x=qal E (rd E fr') H id x/\qaE (rd E fr) x=qaE (rd E fr') x/\qa8 (rd E fr) x=qa8 (rd E fr') x:=by
 obtain⟨e1,e2,e3,e4⟩:=qtY (E:=E) (H:=H) (id:=id) h;exact⟨by unfold qal;rw[e1,e2],e3,e4⟩
def qBC{v:PV}(h:∀o∈v.refs,H2.obj o=H.obj o):qaW H2 v=qaW H v:=by
 cases v with
 |r o k off len t=>simp only[qaW];rw[h o (by simp[PV.refs])]
 |_=>rfl
def qBD{v:PV}{x:DV}{os:Cy}(h:qaW H v=some (x,os)):∀o∈os,o∈v.refs:=by
 unfold qaW at h;split at h
 ·cases h;exact λo ho=>absurd ho (zzC)
 ·split at h
  ·split at h
   ·cases h;exact λo ho=>by simpa[PV.refs]using ho
   ·cases h
  ·cases h
 ·cases h
def qBE:∀{vs:Cu},(∀o∈PV.AL vs,H2.obj o=H.obj o)->qcA H2 vs=qcA H vs
 |[],_=>rfl
 |v::vs,h=>by
  simp only[PV.AL,zzB]at h;simp only[qcA,qBC (λo ho=>h o (.inl ho)),qBE (λo ho=>h o (.inr ho))]
def qBF:∀{vs:Cu} {xs:Ct} {os:Cy},qcA H vs=some (xs,os)->∀o∈os,o∈PV.AL vs
 |[],_,_,h=>by cases h;exact λo ho=>absurd ho (zzC)
 |v::vs,xs,os,h=>by
  simp only[qcA]at h;split at h
  ·rename_i h1 h2;cases h;intro o ho;simp only[PV.AL,zzB]at ho⊢;rcases ho with ho|ho
   ·exact .inl (qBD h1 o ho)
   ·exact .inr (qBF h2 o ho)
  ·cases h
def qnX{v:PV}(h:∀o∈v.refs,H2.obj o=H.obj o):pur H2 v=pur H v:=by
 cases v with
 |a cs=>simp only[pur];rw[qBE (λo ho=>h o (by simpa[PV.refs]using ho))]
 |_=>exact qBC h
def qqu{v:PV}{x:DV}{os:Cy}(h:pur H v=some (x,os)):∀o∈os,o∈v.refs:=by
 unfold pur at h;split at h
 ·split at h
  ·rename_i h1;cases h;intro o ho;simp only[PV.refs];exact qBF h1 o ho
  ·cases h
 ·exact qBD h
def qub:∀{vs:Cu},(∀o∈vs.flatMap PV.refs,H2.obj o=H.obj o)->qaK H2 vs=qaK H vs
 |[],_=>rfl
 |v::vs,h=>by
  simp only[List.flatMap_cons,zzB]at h;simp only[qaK,qnX (λo ho=>h o (.inl ho)),qub (λo ho=>h o (.inr ho))]
def quc:∀{vs:Cu} {xs:Ct} {os:Cy},qaK H vs=some (xs,os)->∀o∈os,o∈vs.flatMap PV.refs
 |[],_,_,h=>by cases h;exact λo ho=>absurd ho (zzC)
 |v::vs,xs,os,h=>by
  simp only[qaK]at h;split at h
  ·rename_i h1 h2;cases h;intro o ho;simp only[List.flatMap_cons,zzB]at ho⊢;rcases ho with ho|ho
   ·exact .inl (qqu h1 o ho)
   ·exact .inr (quc h2 o ho)
  ·cases h
def qw2{k:K}:∀{ps:CF (Nat×PV)} {es:Ct},(∀o∈ps.flatMap (λy=>y.2.refs),H2.obj o=H.obj o)->qbt H2 k es ps=qbt H k es ps
 |[],_,_=>rfl
 | (j,v)::ps,es,h=>by
  simp only[List.flatMap_cons,zzB]at h;have e1:=qnX (H:=H) (H2:=H2) (v:=v) (λo ho=>h o (.inl ho))
  unfold qbt;rw[e1];have e2:∀es',qbt H2 k es' ps=qbt H k es' ps:=λes'=>qw2 (λo ho=>h o (.inr ho))
  simp only[e2]
def qw3{k:K}:∀{ps:CF (Nat×PV)} {es xs:Ct} {os:Cy},qbt H k es ps=some (xs,os)->∀o∈os,o∈ps.flatMap (λy=>y.2.refs)
 |[],_,_,_,h=>by
  simp only[qbt,zzb,zzc]at h;obtain⟨-,rfl⟩:=h;exact λo ho=>absurd ho (zzC)
 | (j,v)::ps,es,xs,os,h=>by
  unfold qbt at h;split at h
  ·split at h
   ·rename_i h1;split at h
    ·rename_i h2;cases h;intro o ho;simp only[List.flatMap_cons,zzB]at ho⊢;rcases ho with ho|ho
     ·exact .inl (qqu h1 o ho)
     ·exact .inr (qw3 h2 o ho)
    ·cases h
   ·cases h
  ·cases h
def qJI{k:K}{p:PV}(h:∀o∈p.refs,H2.obj o=H.obj o):qbp H2 k p=qbp H k p:=by
 cases p with
 |p o i c=>simp only[qbp];rw[h o (by simp[PV.refs])]
 |_=>rfl
def qQw{k:K}{p:PV}{a b c:CE PV}(h:∀o∈p.refs,H2.obj o=H.obj o):slA H2 k p a b c=slA H k p a b c:=by
 cases p with
 |r o k off len t=>simp only[slA];rw[h o (by simp[PV.refs])]
 |d v=>cases v<;>rfl
 |_=>rfl
def qHg{k:K}{p i:PV}(h:∀o∈p.refs,H2.obj o=H.obj o):Az H2 k p i=Az H k p i:=by
 cases p with
 |r o k off len t=>simp only[Az];rw[h o (by simp[PV.refs])]
 |d v=>cases v<;>rfl
 |_=>rfl
def qJz{s:CG}{p:PV}(h:∀o∈p.refs,H2.obj o=H.obj o):qbB H2 s p=qbB H s p:=by
 cases p with
 |r o k off len t=>simp only[qbB];rw[h o (by simp[PV.refs])]
 |d v=>cases v<;>rfl
 |_=>rfl
def qiM(ρ:Ab->PV)(x:IOp)(id:Nat)(F:CP->CP):Prop:=∃os:Cy,(∀o∈os,o∈qaE ρ x)/\((F=λH=>frz H os)\/(∃y,x.adds=true/\F=λH=>(frz H os).put id (some y))\/(∃p y,x.adds=false/\p∈qa8 ρ x/\F=λH=>(frz H os).put p (some y))\/∃p y,p∈qa8 ρ x/\x.adds=true/\F=λH=>(H.put p none).put id (some y))
def qQI{k:K}{p v:PV}{H':CP}(h:qby H k p v=some H'):∃o y os,o∈p.refs/\(∀o'∈os,o'∈v.refs)/\H'=(frz H os).put o (some y)/\∀H2,(∀o'∈p.refs++v.refs,H2.obj o'=H.obj o')->qby H2 k p v=some ((frz H2 os).put o (some y)):=by
 cases p with
 |p o i c=>
  have hm:o∈(PV.p o i c).refs:=by simp[PV.refs]
  unfold qby at h;simp only at h;split at h
  ·rename_i hfit;split at h
   ·rename_i kb w ho;split at h
    ·rename_i hi;split at h
     ·rename_i hck;cases h;exact⟨o,_,[],hm,λ_ h=>absurd h (zzC),rfl,λH2 hT=>by simp only[qby,hfit,if_true,hT o (by simp[PV.refs]),ho,hi,hck];rfl⟩
     ·rename_i hck;split at h
      ·rename_i hle;split at h
       ·rename_i w' hw';cases h;exact⟨o,_,[],hm,λ_ h=>absurd h (zzC),rfl,λH2 hT=>by simp only[qby,hfit,if_true,hT o (by simp[PV.refs]),ho,hi,hck,hle,hw'];rfl⟩
       ·cases h
      ·cases h
    ·cases h
   ·rename_i kb ro es ho;split at h
    ·rename_i e he;split at h
     ·rename_i hro;split at h
      ·rename_i x os hpur;have hos:=qqu hpur
       have hp2:∀H2:CP,(∀o'∈(PV.p o i c).refs++v.refs,H2.obj o'=H.obj o')->pur H2 v=some (x,os):=λH2 hT=>by rw[qnX (H:=H) (λo' ho'=>hT o' (zzB.2 (.inr ho')))];exact hpur
       split at h
       ·cases h
       ·rename_i hno;split at h
        ·rename_i hck;cases h;exact⟨o,_,os,hm,hos,rfl,λH2 hT=>by simp only[qby,hfit,if_true,hT o (by simp[PV.refs]),ho,he,hro,hp2 H2 hT,hno,hck];rfl⟩
        ·rename_i hck;split at h
         ·rename_i hle;split at h
          ·rename_i e' he';cases h;exact⟨o,_,os,hm,hos,rfl,λH2 hT=>by simp only[qby,hfit,if_true,hT o (by simp[PV.refs]),ho,he,hro,hp2 H2 hT,hno,hck,hle,he'];rfl⟩
          ·cases h
         ·cases h
      ·cases h
     ·cases h
    ·cases h
   ·cases h
  ·cases h
 |_=>simp[qby]at h
def qGa{k:K}{v:PV}(h:∀o∈v.refs,H2.obj o=H.obj o):qa4 H2 k v=qa4 H k v:=by
 cases v with
 |r o k' off len t=>
  have e:=h o (by simp[PV.refs])
  simp only[qa4,e]
 |d v=>cases v<;>rfl
 |_=>rfl
def qES{ρ:Ab->PV}{id:Nat}{k:K}{b:Nat}{x y:Ab}{v:PV}{H':CP}(h:qbU H id k b (ρ x) (ρ y)=some (v,H')):∃F,qiM ρ (.app k b x y) id F/\H'=F H/\∀H2,(∀o∈qaE ρ (.app k b x y),H2.obj o=H.obj o)->qbU H2 id k b (ρ x) (ρ y)=some (v,F H2):=by
 have hy:∀H2:CP,(∀o∈qaE ρ (.app k b x y),H2.obj o=H.obj o)->qa4 H2 k (ρ y)=qa4 H k (ρ y):=λH2 hT=>qGa λo ho=>hT o (zzB.2 (.inr ho))
 have hxo:∀H2:CP,(∀o∈qaE ρ (.app k b x y),H2.obj o=H.obj o)->∀o∈(ρ x).refs,H2.obj o=H.obj o:=λH2 hT o ho=>hT o (zzB.2 (.inl ho))
 have nof:∀o∈([]:Cy),o∈qaE ρ (.app k b x y):=λ_ h=>absurd h (zzC)
 have hst:qa8 ρ (.app k b x y)=(ρ x).refs:=rfl
 revert h
 generalize hX:ρ x=X at hxo hst;generalize hY:ρ y=Y at hy;unfold qbU;intro h;cases he:qa4 H k Y with
 |none=>rw[he]at h;cases h
 |some ys=>
  rw[he]at h;simp only at h;have hy':=λH2 hT=>(hy H2 hT).trans he
  cases X with
  |d w=>
   cases w with
   |l k' es t=>
    cases t with
    |false=>simp at h
    |true=>
     simp only[if_true]at h;split at h
     ·rename_i hb;cases es with
      |nil=>
       simp only[zzb,zzc]at h;obtain⟨rfl,rfl⟩:=h;exact⟨λH=>(frz H []).put id (some (.sl k 0 ys)),⟨[],nof,.inr (.inl ⟨_,rfl,rfl⟩)⟩,rfl,λH2 hT=>by rw[hy' H2 hT];simp only[if_true,if_pos hb];rfl⟩
      |cons e r=>
       simp only at h;split at h
       ·rename_i hk;cases ys with
        |nil=>
         simp only[zzb,zzc]at h;obtain⟨rfl,rfl⟩:=h;exact⟨λH=>frz H [],⟨[],nof,.inl rfl⟩,rfl,λH2 hT=>by rw[hy' H2 hT];simp only[if_true,if_pos hb,if_pos hk];rfl⟩
        |cons z zs=>
         simp only[zzb,zzc]at h;obtain⟨rfl,rfl⟩:=h;exact⟨λH=>(frz H []).put id (some (.sl k 0 ((e::r)++z::zs))),⟨[],nof,.inr (.inl ⟨_,rfl,rfl⟩)⟩,rfl,λH2 hT=>by rw[hy' H2 hT];simp only[if_true,if_pos hb,if_pos hk];rfl⟩
       ·cases h
     ·cases h
   |_=>simp at h
  |r o k' off len t=>
   have hox:=λH2 hT=>hxo H2 hT o (by simp[PV.refs])
   simp only at h;cases ho:H.obj o with
   |none=>rw[ho]at h;cases h
   |some ob=>
    rw[ho]at h;cases ob with
    |sl k'' ro es=>
     simp only at h;split at h
     ·rename_i hc;cases t with
      |true=>
       simp only[if_true]at h;cases ys with
       |nil=>
        simp only[zzb,zzc]at h;obtain⟨rfl,rfl⟩:=h;exact⟨λH=>frz H [],⟨[],nof,.inl rfl⟩,rfl,λH2 hT=>by rw[hy' H2 hT];simp only[hox H2 hT,ho,if_pos hc,if_true];rfl⟩
       |cons z zs=>
        simp only[zzb,zzc]at h;obtain⟨rfl,rfl⟩:=h;exact⟨λH=>(frz H []).put id (some (.sl k 0 ((es.drop off).take len++z::zs))),⟨[],nof,.inr (.inl ⟨_,rfl,rfl⟩)⟩,rfl,λH2 hT=>by rw[hy' H2 hT];simp only[hox H2 hT,ho,if_pos hc,if_true];rfl⟩
      |false=>
       simp only[zzg,if_false]at h;split at h
       ·rename_i hr;simp only[zzb,zzc]at h;obtain⟨rfl,rfl⟩:=h;exact⟨λH=>(H.put o none).put id (some (.sl k (ro-off) ((es.drop off).take len++ys))),⟨[],nof,.inr (.inr (.inr ⟨o,_,by rw[hst];simp[PV.refs],rfl,rfl⟩))⟩,rfl,λH2 hT=>by rw[hy' H2 hT];simp only[hox H2 hT,ho,if_pos hc,zzg,if_false,if_pos hr]⟩
       ·cases h
     ·cases h
    |_=>simp at h
  |_=>simp at h
def qBb{ρ:Ab->PV}{id:Nat}{x:IOp}{v:PV}{H':CP}(hk:x.okD ρ=true)(h:qal E ρ H id x=some (v,H')):∃F,qiM ρ x id F/\H'=F H/\∀H2,(∀o∈qaE ρ x,H2.obj o=H.obj o)->qal E ρ H2 id x=some (v,F H2):=by
 unfold qal at h⊢;simp only[hk,if_true]at h⊢;have same:x.adds=false->(H'=H/\∀H2,(∀o∈qaE ρ x,H2.obj o=H.obj o)->qaa E ρ H2 id x=some (v,H2))->∃F,qiM ρ x id F/\H'=F H/\∀H2,(∀o∈qaE ρ x,H2.obj o=H.obj o)->qaa E ρ H2 id x=some (v,F H2):=by
  rintro ha ⟨rfl,h2⟩;exact⟨λH=>frz H [],⟨[],λ_ h=>absurd h (zzC),.inl rfl⟩,rfl,h2⟩
 have key:∀(z:CP->CE PV),(∀H2,(∀o∈qaE ρ x,H2.obj o=H.obj o)->z H2=z H)->opt (z H) H=some (v,H')->H'=H/\∀H2,(∀o∈qaE ρ x,H2.obj o=H.obj o)->opt (z H2) H2=some (v,H2):=by
  intro z hz hq;unfold opt at hq;split at hq
  ·rename_i he;cases hq;exact⟨rfl,λH2 hT=>by rw[hz H2 hT,he];rfl⟩
  ·cases hq
 have keyD:∀(z:CE DV),qez z H=some (v,H')->H'=H/\∀H2:CP,(∀o∈qaE ρ x,H2.obj o=H.obj o)->qez z H2=some (v,H2):=by
  intro z hz;unfold qez at hz⊢;split at hz
  ·cases hz;exact⟨rfl,λ_ _=>rfl⟩
  ·cases hz
 cases x with
 |mov x=>simp only[qaa]at h;cases h;exact same rfl ⟨rfl,λ_ _=>rfl⟩
 |mkf f cs=>simp only[qaa]at h;cases h;exact same rfl ⟨rfl,λ_ _=>rfl⟩
 |mkm f cs=>simp only[qaa]at h;cases h;exact same rfl ⟨rfl,λ_ _=>rfl⟩
 |bin op x y=>exact same rfl (keyD _ h)
 |un op x=>exact same rfl (keyD _ h)
 |Be o x=>exact same rfl (key (λ_=>_) (λ_ _=>rfl) h)
 |field o k x=>exact same rfl (key (λ_=>_) (λ_ _=>rfl) h)
 |prim p as0=>exact same rfl (key (λ_=>_) (λ_ _=>rfl) h)
 |load k x=>exact same rfl (key (λH=>qbp H k (ρ x)) (λH2 hT=>qJI hT) h)
 |sl k x a b c=>exact same rfl (key (λH=>slA H k (ρ x) (a.map ρ) (b.map ρ) (c.map ρ)) (λH2 hT=>qQw hT) h)
 |Az k x i=>exact same rfl (key (λH=>Az H k (ρ x) (ρ i)) (λH2 hT=>qHg hT) h)
 |len s x=>
  simp only[qaa]at h⊢;split at h
  ·rename_i hq;cases h;exact same rfl ⟨rfl,λH2 hT=>by simp only[qaa];rw[qJz hT,hq]⟩
  ·cases h
 |pick c a b=>
  simp only[qaa]at h;split at h
  ·rename_i hq;cases h;exact same rfl ⟨rfl,λH2 _=>by simp only[qaa,hq]⟩
  ·rename_i hq;cases h;exact same rfl ⟨rfl,λH2 _=>by simp only[qaa,hq]⟩
  ·cases h
 |agg z ps=>
  simp only[qaa]at h;split at h
  ·rename_i hq;cases h;exact same rfl ⟨rfl,λH2 _=>by simp only[qaa,hq]⟩
  ·cases h
 |eqv n m x y=>
  simp only[qaa]at h;split at h
  ·rename_i hq;cases h;exact same rfl ⟨rfl,λH2 _=>by simp only[qaa,hq]⟩
  ·cases h
 |eqb n x y=>
  simp only[qaa]at h;split at h
  ·rename_i hq1 hq2;cases h;exact same rfl ⟨rfl,λH2 _=>by simp only[qaa,hq1,hq2]⟩
  ·cases h
 |BI n kd x=>
  simp only[qaa]at h;split at h
  ·rename_i hq;cases h;exact same rfl ⟨rfl,λH2 _=>by simp only[qaa,hq]⟩
  ·cases h
 |tas t z ok x=>
  simp only[qaa]at h;split at h
  ·rename_i hq;split at h
   ·rename_i ht;cases h;exact same rfl ⟨rfl,λH2 _=>by simp only[qaa,hq,ht,if_true]⟩
   ·rename_i ht;split at h
    ·rename_i hok;cases h;exact same rfl ⟨rfl,λH2 _=>by simp only[qaa,hq,ht,hok,if_true,if_false]⟩
    ·cases h
  ·rename_i hq;split at h
   ·rename_i ht;cases h;exact same rfl ⟨rfl,λH2 _=>by simp only[qaa,hq,ht,if_true]⟩
   ·rename_i ht;split at h
    ·rename_i hok;cases h;exact same rfl ⟨rfl,λH2 _=>by simp only[qaa,hq,ht,hok,if_true,if_false]⟩
    ·cases h
  ·rename_i hq;split at h
   ·rename_i hok;cases h;exact same rfl ⟨rfl,λH2 _=>by simp only[qaa,hq,hok,if_true]⟩
   ·cases h
  ·cases h
 |conv k x=>
  simp only[qaa]at h;split at h
  ·rename_i hq;cases h;exact same rfl ⟨rfl,λH2 _=>by simp only[qaa,hq]⟩
  ·cases h
 |BQ x=>
  simp only[qaa]at h;split at h
  ·rename_i hq;cases h;exact same rfl ⟨rfl,λH2 _=>by simp only[qaa,hq]⟩
  ·rename_i hq;cases h;exact same rfl ⟨rfl,λH2 _=>by simp only[qaa,hq]⟩
  ·rename_i hq;cases h;exact same rfl ⟨rfl,λH2 _=>by simp only[qaa,hq]⟩
  ·cases h
 |ext x i=>
  simp only[qaa]at h;split at h
  ·rename_i hq;obtain⟨g1,g2⟩:=key (λ_=>_) (λ_ _=>rfl) h
   exact same rfl ⟨g1,λH2 hT=>by simp only[qaa,hq];exact g2 H2 hT⟩
  ·cases h
 |slS x a b=>
  simp only[qaa]at h;split at h
  ·rename_i hq;split at h
   ·rename_i hq1;split at h
    ·rename_i hq2;cases h;exact same rfl ⟨rfl,λH2 _=>by simp only[qaa,hq,hq1,hq2]⟩
    ·cases h
   ·cases h
  ·cases h
 |BM n k x y=>
  simp only[qaa]at h;split at h
  ·rename_i hq;split at h
   ·rename_i hq1;obtain⟨g1,g2⟩:=key (λ_=>_) (λ_ _=>rfl) h
    exact same rfl ⟨g1,λH2 hT=>by simp only[qaa,hq,hq1];exact g2 H2 hT⟩
   ·cases h
  ·cases h
 |idxA n k x y=>
  simp only[qaa]at h;split at h
  ·rename_i hq;split at h
   ·rename_i hq1;obtain⟨g1,g2⟩:=key (λ_=>_) (λ_ _=>rfl) h
    exact same rfl ⟨g1,λH2 hT=>by simp only[qaa,hq,hq1];exact g2 H2 hT⟩
   ·cases h
  ·cases h
 |idxS x y=>
  simp only[qaa]at h;split at h
  ·rename_i hq1 hq2;split at h
   ·rename_i hq3;split at h
    ·rename_i hq4;cases h;exact same rfl ⟨rfl,λH2 _=>by simp only[qaa,hq1,hq2,hq3,if_true,hq4]⟩
    ·cases h
   ·cases h
  ·cases h
 |minmax b as0=>
  simp only[qaa]at h;split at h
  ·rename_i hq;obtain⟨g1,g2⟩:=key (λ_=>_) (λ_ _=>rfl) h
   exact same rfl ⟨g1,λH2 hT=>by simp only[qaa,hq];exact g2 H2 hT⟩
  ·cases h
 |alloc k z=>
  simp only[qaa]at h;cases h;exact⟨λH=>(frz H []).put id _,⟨[],λ_ h=>absurd h (zzC),.inr (.inl ⟨_,rfl,rfl⟩)⟩,rfl,λ_ _=>rfl⟩
 |box k x=>
  simp only[qaa]at h;split at h
  ·rename_i hc;cases h;exact⟨λH=>(frz H []).put id _,⟨[],λ_ h=>absurd h (zzC),.inr (.inl ⟨_,rfl,rfl⟩)⟩,rfl,λ_ _=>by simp only[qaa,hc,if_true];rfl⟩
  ·cases h
 |mksl k b z x y=>
  simp only[qaa]at h;split at h
  ·rename_i hq1 hq2;split at h
   ·rename_i hc;cases h;exact⟨λH=>(frz H []).put id _,⟨[],λ_ h=>absurd h (zzC),.inr (.inl ⟨_,rfl,rfl⟩)⟩,rfl,λ_ _=>by simp only[qaa,hq1,hq2,hc,and_self,if_true];rfl⟩
   ·cases h
  ·cases h
 |bsl k z n ps=>
  simp only[qaa]at h;split at h
  ·rename_i es os hq;cases h;have hfm:((ps.map λx=>(x.1,ρ x.2)).flatMap λy=>y.2.refs)=qaE ρ (.bsl k z n ps):=by simp only[qaE,List.flatMap_map]
   refine⟨λH=>(frz H os).put id _,⟨os,λo ho=>by rw[<-hfm];exact qw3 hq o ho,.inr (.inl ⟨_,rfl,rfl⟩)⟩,rfl,λH2 hT=>?_⟩
   simp only[qaa];rw[qw2 (H:=H) (λo ho=>hT o (by rw[<-hfm];exact ho)),hq]
  ·cases h
 |mkif t x=>
  simp only[qaa]at h;split at h
  ·rename_i y os hq;cases h;refine⟨λH=>frz H os,⟨os,λo ho=>qqu hq o ho,.inl rfl⟩,rfl,λH2 hT=>?_⟩
   simp only[qaa];rw[qnX (H:=H) hT,hq]
  ·rename_i hq;cases h;refine same rfl ⟨rfl,λH2 hT=>?_⟩
   simp only[qaa];rw[qnX (H:=H) hT,hq]
 |store k x y=>
  simp only[qaa]at h;split at h
  ·rename_i H1 hst;simp only[zzb,zzc]at h;obtain⟨rfl,rfl⟩:=h;obtain⟨o,y',os,g1,g2,g3,g4⟩:=qQI hst;refine⟨λH=>(frz H os).put o (some y'),⟨os,λo' ho'=>zzB.2 (.inr (g2 o' ho')),.inr (.inr (.inl ⟨o,y',rfl,g1,rfl⟩))⟩,g3,λH2 hT=>?_⟩
   simp only[qaa];rw[g4 H2 hT]
  ·cases h
 |BH x as0=>
  simp only[qaa]at h;split at h
  ·rename_i n caps hq;split at h
   ·rename_i ds hp;split at h
    ·rename_i hv;cases h;exact same rfl ⟨rfl,λH2 _=>by simp only[qaa,hq,hp,hv]⟩
    ·cases h
   ·rename_i hp;exfalso
    simp only[IOp.okD,hq,zzf]at hk;rw[if_pos hk.1]at hp;rw[hp]at hk;simp at hk
  ·rename_i hq;simp[IOp.okD,hq]at hk
  ·rename_i hq;simp[IOp.okD,hq]at hk
  ·cases h
 |call m f args=>
  have hfm:(args.map ρ).flatMap PV.refs=qaE ρ (.call m f args):=by simp only[qaE,List.flatMap_map]
  match m with
  |0=>
   simp only[qaa]at h;split at h
   ·rename_i ds os hq;have hos:∀o∈os,o∈qaE ρ (.call 0 f args):=λo ho=>by rw[<-hfm];exact quc hq o ho
    have hq2:∀H2:CP,(∀o∈qaE ρ (.call 0 f args),H2.obj o=H.obj o)->qaK H2 (args.map ρ)=some (ds,os):=λH2 hT=>by rw[qub (H:=H) (λo ho=>hT o (by rw[<-hfm];exact ho))];exact hq
    split at h
    ·rename_i r own hv;simp only[zzb,zzc]at h;obtain⟨rfl,rfl⟩:=h;cases hc:(os.isEmpty||r.AX)with
     |true=>exact⟨λH=>frz H [],⟨[],λ_ h=>absurd h (zzC),.inl rfl⟩,by simp[frz],λH2 hT=>by simp only[qaa,hq2 H2 hT,hv,hc,if_true];rfl⟩
     |false=>exact⟨λH=>frz H os,⟨os,hos,.inl rfl⟩,by simp,λH2 hT=>by simp only[qaa,hq2 H2 hT,hv,hc];simp⟩
    ·cases h
   ·cases h
  |1=>
   simp only[qaa]at h;split at h
   ·rename_i ds os hq;have hos:∀o∈os,o∈qaE ρ (.call 1 f args):=λo ho=>by rw[<-hfm];exact quc hq o ho
    have hq2:∀H2:CP,(∀o∈qaE ρ (.call 1 f args),H2.obj o=H.obj o)->qaK H2 (args.map ρ)=some (ds,os):=λH2 hT=>by rw[qub (H:=H) (λo ho=>hT o (by rw[<-hfm];exact ho))];exact hq
    split at h
    ·rename_i k es t hv;simp only[zzb,zzc]at h;obtain⟨rfl,rfl⟩:=h;cases hc:os.isEmpty with
     |true=>exact⟨λH=>(frz H []).put id (some (.sl k 0 es)),⟨[],λ_ h=>absurd h (zzC),.inr (.inl ⟨_,rfl,rfl⟩)⟩,by simp[frz],λH2 hT=>by simp only[qaa,hq2 H2 hT,hv,hc,if_true];rfl⟩
     |false=>exact⟨λH=>(frz H os).put id (some (.sl k 0 es)),⟨os,hos,.inr (.inl ⟨_,rfl,rfl⟩)⟩,by simp,λH2 hT=>by simp only[qaa,hq2 H2 hT,hv,hc];simp⟩
    ·cases h
   ·cases h
  |m+2=>simp[IOp.okD]at hk
 |app k b x y=>
  simp only[qaa]at h⊢;exact qES h
 |_=>simp[IOp.okD]at hk
def K.eq_of{k k':K}(h:K.eq k k'=true):k=k':=by
 cases k<;>cases k'<;>simp_all[K.eq]
mutual
def qpd:∀(x y:DV),DV.same x y=true->x=y
 |.b x,y,h=>by cases y<;>simp_all[DV.same]
 |.i k n,y,h=>by cases y<;>simp_all[DV.same]
 |.s x,y,h=>by cases y<;>simp_all[DV.same]
 |.a cs,y,h=>by
  cases y with
  |a ds=>simp only[DV.same]at h;rw[qjg cs ds h]
  |_=>simp[DV.same]at h
 |.l k es t,y,h=>by
  cases y with
  |l k' fs t'=>
   simp only[DV.same,zzf]at h;rw[K.eq_of h.1.1,qjg es fs h.2,eq_of_beq h.1.2]
  |_=>simp[DV.same]at h
 |.np,y,h=>by cases y<;>simp_all[DV.same]
 |.nf,y,h=>by cases y<;>simp_all[DV.same]
 |.ni,y,h=>by cases y<;>simp_all[DV.same]
 |.nm,y,h=>by cases y<;>simp_all[DV.same]
 |.ifc t v,y,h=>by
  cases y with
  |ifc t' w=>
   simp only[DV.same,zzf]at h;rw[zzy h.1,qpd v w h.2]
  |_=>simp[DV.same]at h
 |.tok n,y,h=>by
  cases y with
  |tok m=>simp only[DV.same]at h;rw[zzy h]
  |_=>simp[DV.same]at h
def qjg:∀(xs ys:Ct),DV.Bw xs ys=true->xs=ys
 |[],ys,h=>by cases ys<;>simp_all[DV.Bw]
 |x::xs,ys,h=>by
  cases ys with
  |nil=>simp[DV.Bw]at h
  |cons y ys=>
   simp only[DV.Bw,zzf]at h;rw[qpd x y h.1,qjg xs ys h.2]
end
mutual
def qnZ:∀(x y:PV),PV.same x y=true->x=y
 |.u,y,h=>by cases y<;>simp_all[PV.same]
 |.d v,y,h=>by
  cases y with
  |d v'=>simp only[PV.same]at h;rw[qpd v v' h]
  |_=>simp[PV.same]at h
 |.a cs,y,h=>by
  cases y with
  |a ds=>simp only[PV.same]at h;rw[qnY cs ds h]
  |_=>simp[PV.same]at h
 |.t cs,y,h=>by
  cases y with
  |t ds=>simp only[PV.same]at h;rw[qnY cs ds h]
  |_=>simp[PV.same]at h
 |.r o k off len tt,y,h=>by
  cases y with
  |r o' k' off' len' tt'=>
   simp only[PV.same,zzf]at h;rw[zzy h.1.1.1.1,K.eq_of h.1.1.1.2,zzy h.1.1.2,zzy h.1.2,eq_of_beq h.2]
  |_=>simp[PV.same]at h
 |.p o i c,y,h=>by
  cases y with
  |p o' i' c'=>
   simp only[PV.same,zzf]at h;rw[zzy h.1.1,zzy h.1.2,zzy h.2]
  |_=>simp[PV.same]at h
 |.q v k c,y,h=>by
  cases y with
  |q v' k' c'=>
   simp only[PV.same,zzf]at h;rw[qpd v v' h.1.1,K.eq_of h.1.2,zzy h.2]
  |_=>simp[PV.same]at h
 |.f n cs,y,h=>by
  cases y with
  |f n' ds=>simp only[PV.same,zzf]at h;rw[zzy h.1,qnY cs ds h.2]
  |_=>simp[PV.same]at h
 |.h o,y,h=>by
  cases y with
  |h o'=>simp only[PV.same]at h;rw[zzy h]
  |_=>simp[PV.same]at h
 |.g v,y,h=>by cases y<;>simp[PV.same]at h
 |.m n cs,y,h=>by
  cases y with
  |m n' ds=>simp only[PV.same,zzf]at h;rw[zzy h.1,qnY cs ds h.2]
  |_=>simp[PV.same]at h
 |.w n v,y,h=>by
  cases y with
  |w n' v'=>simp only[PV.same,zzf]at h;rw[zzy h.1,qnZ v v' h.2]
  |_=>simp[PV.same]at h
def qnY:∀(xs ys:Cu),PV.Bw xs ys=true->xs=ys
 |[],ys,h=>by cases ys<;>simp_all[PV.Bw]
 |x::xs,ys,h=>by
  cases ys with
  |nil=>simp[PV.Bw]at h
  |cons y ys=>
   simp only[PV.Bw,zzf]at h;rw[qnZ x y h.1,qnY xs ys h.2]
end
def qA5{x y:CE Obj}(h:qk9 x y=true):x=y:=by
 unfold qk9 at h;split at h
 ·rfl
 ·simp only[zzf]at h;rw[K.eq_of h.1,qnZ _ _ h.2]
 ·simp only[zzf]at h;rw[K.eq_of h.1.1,zzy h.1.2,qjg _ _ h.2]
 ·simp only[zzf]at h;rw[zzy h.1,eq_of_beq h.2]
 ·rfl
 ·cases h
def qrZ{H H':CP}{o:Nat}:∀{l:Cy},o∈l->o∉qm6 H H' l->H.obj o=H'.obj o
 |[],h,_=>absurd h (zzC)
 |p::r,h,hn=>by
  simp only[qm6]at hn;split at hn
  ·rename_i hb;rcases List.mem_cons.1 h with rfl|h
   ·exact qA5 hb
   ·exact qrZ h hn
  ·rcases List.mem_cons.1 h with rfl|h
   ·exact absurd (zzr ..) hn
   ·exact qrZ h (λhm=>hn (zzi _ hm))
def qwR{ρ:Ab->PV}{id:Nat}{x:IOp}{v:PV}{H':CP}(hk:x.okD ρ=false)(h:qal E ρ H id x=some (v,H')):qaa E ρ H id x=some (v,H')/\H'.length=H.length:=by
 unfold qal at h;rw[hk]at h;simp only[zzg,if_false]at h;split at h
 ·split at h
  ·rename_i he;split at h
   ·rename_i hl;cases h;exact⟨he,zzy hl⟩
   ·cases h
  ·cases h
 ·cases h
def qA6{H:CP}{o:Nat}(h:H.length<=o):H.obj o=none:=by
 unfold Heap.obj;rw[List.getElem?_eq_none h]
def qHa{H H2:CP}(hl:H2.length=H.length)(h:∀o,o<H.length->H2.obj o=H.obj o):H2=H:=by
 apply List.ext_getElem hl
 intro o h1 h2
 have:=h o h2
 unfold Heap.obj at this;rw[zze h1,zze h2]at this;exact this
