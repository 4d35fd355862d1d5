/- Part 5 of the proof: CbSimW, CbSimX, CbSimXD, CbSimXE0, CbSimXE, CbSimXM, CbSimXN, CbSimXO, CbSimY1, CbSimY2, CbSimY, CbSimZ, CbSimC, CbTabs. -/
import Derived.Test.YtkijgkjjbanipaaGreatDoorB4
import Derived.LoopN
import Derived.OrdersIn
import Derived.LoopNIn
import Derived.RangeFuncIn
import Derived.Lib.LazyBuf
section
open Go.RowKit
namespace Go.Sim
section
variable {P : Program} {N : Names} {C : Cx} {w : World} {S : qah} {β : Pl} {B : Nat} {H : Heap} {a : Act} {ro : Option Nat} {nf : Nat}
theorem qgV {E:Env} (hN:NOK P N C E.G) (hG:GOK N E.G w S) {fr:Fr} (hf:FOK C w S β fr a) : ∀{ts:List (Option TypeId)} {xs:List Operand} {rs:List Rand},qgu P N ts xs=some rs →
  rs.length=xs.length∧∀j (h:j<(rs.map (rd E fr)).length) (h':j<(xs.map a.eval).length),RelV C w S β (rs.map (rd E fr))[j] (xs.map a.eval)[j]
 | _,[],rs,h=>by cases h;exact⟨rfl,fun j h=>absurd h (zzm _)⟩
 |ts,x::xs,rs,h=>by
  unfold qgu at h;obtain⟨r,hr,h⟩:=zza.1 h;obtain⟨rs',hrs,h⟩:=zza.1 h;cases h;obtain⟨h1,h2⟩:=qgV hN hG hf hrs;refine⟨by simp[h1],?_⟩
  intro j hj hj';cases j with
  |zero=>exact qid hN hG hf hr
  |succ j=>exact h2 j (by simpa using hj) (by simpa using hj')
theorem qp1 {E:Env} (hN:NOK P N C E.G) (hG:GOK N E.G w S) {fr:Fr} (hf:FOK C w S β fr a) {x:Option Operand} {r:Option Rand} (h:qi1 P N x=some r):qg4 C w S β (r.map (rd E fr)) (x.map a.eval):=by
 cases x with
 |none=>cases h;trivial
 |some x =>
  simp only[qi1,Option.map_eq_some_iff] at h;obtain⟨y,hy,rfl⟩:=h;exact qid hN hG hf hy
theorem qol {E:Env} (hN:NOK P N C E.G) (hG:GOK N E.G w S) {fr:Fr} (hf:FOK C w S β fr a) {pl:Nat→Option (Nat×TypeId)} : ∀{parts:List (Nat×Operand)} {ps:List (Nat×K×Rand)},qkW P N pl parts=some ps →
  qhW C w S β (fun i=>(pl i).map fun p=>(p.1,P.cellsOf p.2)) (ps.map fun x=>(x.1,x.2.1,rd E fr x.2.2)) (parts.map fun x=>(x.1,a.eval x.2))
 | [],ps,h=>by cases h;trivial
 | (i,x)::r,ps,h=>by
  unfold qkW at h;obtain⟨p,hp,h⟩:=zza.1 h;obtain⟨k,hk,h⟩:=zza.1 h;obtain⟨y,hy,h⟩:=zza.1 h;obtain⟨ys,hys,h⟩:=zza.1 h;cases h;exact⟨by simp[hp,qif hk],qid hN hG hf hy,qol hN hG hf hys⟩
theorem qtj {E:Env} (hN:NOK P N C E.G) (hG:GOK N E.G w S) {fr:Fr} (hf:FOK C w S β fr a) {t:TypeId} : ∀{parts:List (Nat×Operand)} {ps:List (Nat×Rand)},qmk P N t parts=some ps →
  qmR C w S β (ps.map fun x=>(x.1,rd E fr x.2)) (parts.map fun x=>(x.1,a.eval x.2))
 | [],ps,h=>by cases h;trivial
 | (i,x)::r,ps,h=>by
  unfold qmk at h;obtain⟨y,hy,h⟩:=zza.1 h;obtain⟨ys,hys,h⟩:=zza.1 h;cases h;exact⟨rfl,qid hN hG hf hy,qtj hN hG hf hys⟩
theorem qlC {t:TypeId} {ek:TypeId×K} (h:qic P t=some ek):P.underlying t=some (.slice ek.1)∧kq P ek.1=some ek.2:=by
 unfold qic at h;split at h
 ·obtain⟨k,hk,h⟩:=zza.1 h;cases h;exact⟨‹_›,hk⟩
 ·cases h
theorem qoT {n:Nat} {cs:List PV} {u:Value} (h:RelV C w S β (.f n cs) u) : ∃us:List Value,u = .func (.func (C.μ n)) #[] us.toArray∧cs.length=us.length∧∀j (h:j<cs.length) (h':j<us.length),RelV C w S β cs[j] us[j]:=by
 cases h with
 |f _ _ us h1 h2=>exact⟨us,rfl,h1,h2⟩
theorem qtU {off:Nat} {k:K} {x v:PV} {u:Value} (hx:RelV C w S β x u) (h:qiB off k x=some v) :
  ∃vs:List Value,u = .agg vs.toArray∧off+k.size≤vs.length∧RelV C w S β v (mkV k (fun m=>vs.getD (off+m) undef)):=by
 unfold qiB at h;split at h
 ·rename_i cs;split at h
  ·rename_i hle;split at h
   ·rename_i d hm;cases h;cases hx with
    |d _ _ hx =>
    cases hx with
    |a _ vs h1 h2 h3 =>
    refine⟨vs,rfl,by omega,.d _ _ (qpN hm ?_ ?_)⟩
    ·intro m y hy hmk;obtain⟨e1,e2⟩:=getElem?_drop_take hy;obtain⟨e3,rfl⟩:=zzk.1 e1
     have:=h3 (off+m) e3 (by omega)
     simpa[List.getD,zze (show off+m<vs.length by omega)] using this
    ·intro m hmk;simp only[List.getD,zze (show off+m<vs.length by omega),Option.getD_some]
     exact h2 _ (zzs _)
   ·cases h
  ·cases h
 ·rename_i cs;split at h
  ·rename_i hle;cases hx with
   |a _ vs h1 h2 h3 =>
   refine⟨vs,rfl,by omega,qpC h ?_ ?_⟩
   ·intro m y hy hmk;obtain⟨e1,e2⟩:=getElem?_drop_take hy;obtain⟨e3,rfl⟩:=zzk.1 e1
    have:=h3 (off+m) e3 (by omega)
    simpa[List.getD,zze (show off+m<vs.length by omega)] using this
   ·intro m hmk;simp only[List.getD,zze (show off+m<vs.length by omega),Option.getD_some]
    exact h2 _ (zzs _)
  ·cases h
 ·cases h
theorem qpQ {o:Oper} {c:Call} (hop:o.op = .call c) {x:Operand} (hc:c.callee = .value x) {f:FuncId} {caps:Array Value} (hx:a.eval x = .func (.func f) #[] caps) {fn:Func} (hfn:P.funcs[f]? = some fn) (hb:fn.body.isNone=false) (hn:fn.name ≠ "runtime.NumGoroutine") :
  (execOp a.eval o).run P w = .ok (.enter f (c.args.map a.eval++caps)) w:=by
 simp only[execOp,hop,resolve,hc,hx,Deferred.ofValue,Sem.run_bind,Sem.run_pure,Result.andThen_ok,invoke,Array.empty_append];exact qlc hfn hb hn _
theorem qrV {o:Oper} {c:Call} (hop:o.op = .call c) {x:Operand} (hc:c.callee = .value x) {f:FuncId} {firsts:Array Value} (hx:a.eval x = .func (.func f) firsts #[]) {fn:Func} (hfn:P.funcs[f]? = some fn) (hb:fn.body.isNone=false) (hn:fn.name ≠ "runtime.NumGoroutine") :
  (execOp a.eval o).run P w = .ok (.enter f (firsts++(c.args.map a.eval ++ #[]))) w:=by
 simp only[execOp,hop,resolve,hc,hx,Deferred.ofValue,Sem.run_bind,Sem.run_pure,Result.andThen_ok,invoke];exact qlc hfn hb hn _
theorem qyG {n:Nat} {cs:List PV} {u:Value} (h:RelV C w S β (.m n cs) u) : ∃us:List Value,u = .func (.func (C.μ n)) us.toArray #[]∧cs.length=us.length∧∀j (h:j<cs.length) (h':j<us.length),RelV C w S β cs[j] us[j]:=by
 cases h with
 |m _ _ us h1 h2=>exact⟨us,rfl,h1,h2⟩
theorem qwT (hH:HOK C B w S β H) {str:Bool} {x:PV} {u:Value} {n:Nat} (hx:RelV C w S β x u) (h:qcJ H str x=some n) {ts:Array TypeId} {t:TypeId} (ht:ts[0]? = some t)
  (hu:(str=true∧P.underlying t=some .string)∨(str=false∧∃e,P.underlying t=some (.slice e))) (ty:TypeId):(Builtin.len_ ts ty #[u]).run P w = .ok (.int .i64 n) w:=by
 rcases qxz hH hx h with ⟨hs,a,cap,rfl⟩|⟨hs,s,rfl,hsz⟩
 ·rcases hu with ⟨h1,-⟩|⟨-,e,he⟩
  ·rw[hs] at h1;cases h1
  ·simp[Builtin.len_,ht,qas he,goInt]
 ·rcases hu with ⟨-,he⟩|⟨h1,-⟩
  ·simp[Builtin.len_,ht,qas he,goInt,hsz]
  ·rw[hs] at h1;cases h1
theorem qnl {E:Env} (hO:OrOK P C N E) (hG:GOK N E.G w S) (hS:Swf w S) (hB:B≤w.heap.size) (hH:HOK C B w S β H) {o:Oper} (hnd : ∀c,o.op≠.defer c) {f:Nat} {ds:List DV} {us:List Value} {os:List Nat} {r:PV} {own:Bool} {H':Heap} {id:Nat} {next:Act→World→Prop} {Q:Exit→Act→World→Prop}
  (hrun:(execOp a.eval o).run P w = .ok (.enter (C.μ f) us.toArray) w) (hval:E.val f ds=some (r,own)) (l1:ds.length=us.length) (l2 : ∀j (h:j<ds.length) (h':j<us.length),RelD w (FSq β H os S) ds[j] us[j]) (hH':(if os.isEmpty||r.scal then H else frz H os)=H')
  (hp:OpPost C B w S β H id r H' fun u w'=>next (a.put o.dst u) w'):o.wpIn (FR ro) nf P a w next Q:=by
 have hcall:=hO.val _ _ _ _ hval w (FSq β H os S) _ (qhQ hH hS os) (hG.ext (qf8 hH os)) l1 l2
 refine qi6 hnd hrun hcall ?_;rintro e w' ⟨u,S',rfl,e1,e2,e3,e4⟩;refine⟨u,rfl,?_⟩;have hres : ∃S2,Ext w.heap.size w (FSq β H os S) w' S2∧Swf w' S2∧RelV C w' S2 (fun _=>.pend) r u:=by
  cases own with
  |false=>exact⟨S',e1,e2,e3 rfl⟩
  |true =>
   obtain⟨k,es,rfl,ho⟩:=e4 rfl;obtain⟨S2,q1,q2,q3,-⟩:=qFn e2 ho;exact⟨S2,e1.trans q1,q2,.d _ _ q3⟩
 obtain⟨S2,g1,g2,g3⟩:=hres;have froz:OpPost C B w S β H id r (frz H os) (fun u w'=>next (a.put o.dst u) w')→next (a.put o.dst u) w':=by
  intro hp;obtain⟨b1,b2⟩:=qpx (qjt hH os) hB g1;exact hp u w' S2 β ((qf8 hH os).trans b1) g2 b2 (Later.refl _) g3.plain (by rw[qcL];exact zzt _) (Kp.refl _ _ _)
 split at hH'
 ·rename_i hc;subst hH';rcases Bool.or_eq_true _ _▸hc with hc|hc
  ·have:os=[]:=by simpa using hc
   subst this;exact froz hp
  ·have e5:Ext w.heap.size w S w' (fun b j=>S b j∨(w.heap.size≤b∧S2 b j)) :=
    ⟨g1.below,fun _ _ h=>.inl h,fun b j h=>g1.cell b j (.inl h),fun b j h=>h.imp (fun h=>h) And.left,g1.shape⟩
   obtain⟨b1,b2⟩:=qpx hH hB e5;refine hp u w' _ β b1 ?_ b2 (Later.refl _) (qyI hc g3) (zzt _) (Kp.refl _ _ _);rintro b j (h|⟨-,h⟩)
   ·obtain⟨z,hz⟩:=hS b j h;exact⟨z,(g1.cell b j (.inl h)).trans hz⟩
   ·exact g2 b j h
 ·subst hH';exact froz hp
theorem qvB {t:TypeId} {m:TypeId×TypeId×Ky} (h:qi9 P t=some m) : ∃d,P.underlying t=some (.map m.1 m.2.1)∧P.underlying m.1=some d∧qkQ P m.1 d=some m.2.2:=by
 unfold qi9 at h;split at h
 ·rename_i k e hu;obtain⟨d,hd,h⟩:=zza.1 h;obtain⟨ky,hky,h⟩:=zza.1 h;cases h;exact⟨d,hu,hd,hky⟩
 ·cases h
theorem qnJ {E:Env} (hO:OrOK P C N E) (hN:NOK P N C E.G) (hG:GOK N E.G w S) (hS:Swf w S) (hB:B≤w.heap.size) (hH:HOK C B w S β H) {fr:Fr} (hf:FOK C w S β fr a) {id:Nat} {o:Oper} {io:IOp}
  (hnd : ∀c,o.op≠.defer c) {yb:Nat} (hY:YOK P C N E.G E.yld B w S β yb) (hyb:yb≤H.length) (hd:qaG P N o=some io) (hid:io.adds=true→β id = .pend∧id<H.length) {v:PV} {H':Heap} (h:qaa E (rd E fr) H id io=some (v,H')) {next:Act→World→Prop} {Q:Exit→Act→World→Prop}
  (hp:OpPost C B w S β H id v H' fun u w'=>next (a.put o.dst u) w'):o.wpIn (FR ro) nf P a w next Q:=by
 have R : ∀{t:Option TypeId} {x:Operand} {r:Rand},qbX P N t x=some r→RelV C w S β (rd E fr r) (a.eval x):=fun h=>qid hN hG hf h
 have mset : ∀{t:TypeId} {x i y:Operand},(o.op = .mapUpdate t x i y∨o.op = .insert t x i y)→((qi9 P t).bind fun m=>(qbX P N none x).bind fun x=>(qbX P N (some m.1) i).bind fun i=>(kq P m.2.1).bind fun _=>(qbX P N (some m.2.1) y).bind fun v=>some (IOp.mset m.2.2 x i v))=some io→o.wpIn (FR ro) nf P a w next Q:=by
  intro t x i y hop hd;obtain⟨m,hm,hd⟩:=zza.1 hd;obtain⟨rx,hrx,hd⟩:=zza.1 hd;obtain⟨ri,hri,hd⟩:=zza.1 hd;obtain⟨k,hk,hd⟩:=zza.1 hd;obtain⟨rv,hrv,hd⟩:=zza.1 hd;cases hd;obtain⟨d,hu,hkt,hky⟩:=qvB hm;have h1:=R hrx
  have h2:=R hri
  simp only[qaa] at h;split at h
  ·rename_i k oo xv os hk ho hpu;rw[ho] at h1;rw[hk] at h2;split at h
   ·rename_i hok;split at h
    ·rename_i es hes;split at h
     ·rename_i es' hr;simp only[zzb,zzc] at h;obtain⟨rfl,rfl⟩:=h;exact qzr hnd hop hu (fun _ _=>qu1 hkt hky hok) h1 h2 (R hrv) hpu hes hH hS hr hp
     ·cases h
    ·cases h
   ·cases h
  ·cases h
 cases hop:o.op with
 |move x =>
  simp only[qaG,hop] at hd;obtain⟨r,hr,hd⟩:=zza.1 hd;cases hd;simp only[qaa,zzb,zzc] at h;obtain⟨rfl,rfl⟩:=h;exact qaI hnd (by simp[execOp,hop]) (hp.same hH hS (R hr))
 |assign x =>
  simp only[qaG,hop] at hd;obtain⟨r,hr,hd⟩:=zza.1 hd;cases hd;simp only[qaa,zzb,zzc] at h;obtain⟨rfl,rfl⟩:=h;exact qaI hnd (by simp[execOp,hop]) (hp.same hH hS (R hr))
 |pick c x y =>
  simp only[qaG,hop] at hd;obtain⟨rc,hrc,hd⟩:=zza.1 hd;obtain⟨rx,hrx,hd⟩:=zza.1 hd;obtain⟨ry,hry,hd⟩:=zza.1 hd;cases hd;have hc:=R hrc
  simp only[qaa] at h;split at h
  ·rename_i hcv;rw[hcv] at hc;cases h;cases hev:a.eval c with
   |bool b =>
    rw[hev] at hc;cases hc with
    |d _ _ hc =>
    cases hc;exact qaI hnd (by simp[execOp,hop,hev,asBool]) (hp.same hH hS (R hrx))
   | _=>rw[hev] at hc;cases hc with|d _ _ hc=>cases hc
  ·rename_i hcv;rw[hcv] at hc;cases h;cases hev:a.eval c with
   |bool b =>
    rw[hev] at hc;cases hc with
    |d _ _ hc =>
    cases hc;exact qaI hnd (by simp[execOp,hop,hev,asBool]) (hp.same hH hS (R hry))
   | _=>rw[hev] at hc;cases hc with|d _ _ hc=>cases hc
  ·cases h
 |alloc e =>
  simp only[qaG,hop] at hd;obtain⟨k,hk,hd⟩:=zza.1 hd;obtain⟨z,hz,hd⟩:=zza.1 hd;cases hd;simp only[qaa,zzb,zzc] at h;obtain⟨rfl,rfl⟩:=h;obtain⟨h1,h2⟩:=hid rfl;obtain⟨k',zv,hk',hzv,hfz,hrz⟩:=qgy hz;rw[hk] at hk';cases hk'
  obtain⟨w',β',b1,b2,b3,b4,b5,b6⟩:=qvN (P:=P) hH hS hB h1 h2 hfz (.d _ _ (hrz w S)) e;refine qaI hnd (u:=.pointer (some ⟨w.heap.size,0,none⟩)) (w':=w') ?_ (hp _ _ S β' b2 (hS.ext b2) b3 b4 b5 (by rw[qa0];exact zzt _) b6)
  simp only[execOp,hop];refine qa6 ?_;simp[Instr.alloc,qgC hzv,b1]
 |box e x =>
  simp only[qaG,hop] at hd;obtain⟨k,hk,hd⟩:=zza.1 hd;obtain⟨r,hr,hd⟩:=zza.1 hd;cases hd;simp only[qaa] at h;split at h
  ·rename_i hfit;simp only[zzb,zzc] at h;obtain⟨rfl,rfl⟩:=h;obtain⟨h1,h2⟩:=hid rfl;obtain⟨w',β',b1,b2,b3,b4,b5,b6⟩:=qvN (P:=P) hH hS hB h1 h2 hfit (R hr) e;refine qaI hnd (u:=.pointer (some ⟨w.heap.size,0,none⟩)) (w':=w') ?_ (hp _ _ S β' b2 (hS.ext b2) b3 b4 b5 (by rw[qa0];exact zzt _) b6)
   simp only[execOp,hop];refine qa6 ?_;simp[Instr.box,b1]
  ·cases h
 |load t x =>
  simp only[qaG,hop] at hd;obtain⟨k,hk,hd⟩:=zza.1 hd;obtain⟨r,hr,hd⟩:=zza.1 hd;cases hd;simp only[qaa,opt] at h;split at h
  ·rename_i v' hv';simp only[zzb,zzc] at h;obtain⟨rfl,rfl⟩:=h;obtain⟨u,h1,h2⟩:=qvO hH hk (R hr) hv';exact qaI hnd (by simp only[execOp,hop];exact qa6 h1) (hp.same hH hS h2)
  ·cases h
 |store t x y =>
  simp only[qaG,hop] at hd;obtain⟨k,hk,hd⟩:=zza.1 hd;obtain⟨rx,hrx,hd⟩:=zza.1 hd;obtain⟨ry,hry,hd⟩:=zza.1 hd;cases hd;simp only[qaa] at h;split at h
  ·rename_i H1 hH1;simp only[zzb,zzc] at h;obtain⟨rfl,rfl⟩:=h;obtain⟨w',S',b1,b2,b3,b4,b5⟩:=qwW hH hS hk (R hrx) (R hry) hH1;exact qt3 hnd (by simp only[execOp,hop];exact qod b1) (hp _ _ S' β b2 b3 b4 (Later.refl _) (.u _) (by omega) (Kp.refl _ _ _))
  ·cases h
 |extract x i =>
  simp only[qaG,hop] at hd;obtain⟨r,hr,hd⟩:=zza.1 hd;cases hd;have hx:=R hr
  simp only[qaa] at h;split at h
  ·rename_i vs hvs;rw[hvs] at hx;cases hev:a.eval x with
   |tuple us =>
    rw[hev] at hx;generalize hus:us=us' at hx;cases hx with
    |t _ vs' h1 h2 =>
    simp only[opt] at h;split at h
    ·rename_i v' hv';simp only[zzb,zzc] at h;obtain⟨rfl,rfl⟩:=h;obtain⟨hi,rfl⟩:=zzk.1 hv';have hi':i<vs'.length:=by omega
     refine qaI hnd (u:=vs'[i]) ?_ (hp.same hH hS (h2 i hi hi'));simp only[execOp,hop];refine qa6 ?_;simp[Instr.extract,hev,hus,zze hi']
    ·cases h
   | _=>rw[hev] at hx;cases hx
  ·cases h
 |unOp op t x =>
  simp only[qaG,hop] at hd;obtain⟨r,hr,hd⟩:=zza.1 hd;cases hd;simp only[qaa,qgb] at h;split at h
  ·rename_i d hdv;simp only[zzb,zzc] at h;obtain⟨rfl,rfl⟩:=h;obtain⟨u,h1,h2⟩:=qz4 (P:=P) (R hr) hdv;exact qaI hnd (by simp only[execOp,hop];exact qa6 h1) (hp.same hH hS (.d _ _ h2))
  ·cases h
 |convert s t x =>
  simp only[qaG,hop] at hd;obtain⟨r,hr,hd⟩:=zza.1 hd;split at hd
  ·rename_i k1 k hs ht;cases hd;have hx:=R hr
   simp only[qaa] at h;split at h
   ·rename_i k2 n hn;rw[hn] at hx;simp only[zzb,zzc] at h;obtain⟨rfl,rfl⟩:=h;obtain⟨k3,hk3⟩:=qhs hx rfl;refine qaI hnd (u:=.int k (k.wrap n)) ?_ (hp.same hH hS (.d _ _ (.i _ _)));simp only[execOp,hop];refine qa6 ?_;simp[convert,qas hs,qas ht,hk3,Conv.intToInt]
   ·cases h
  ·rename_i hs ht;cases hd;have hx:=R hr
   simp only[qaa] at h;split at h
   ·rename_i l hl;rw[hl] at hx;obtain⟨z,hax,hz⟩:=qqb hx;have hv:v = .d (.s l)∧H'=H:=by
     simp[bnd] at h;exact⟨h.1.symm,h.2.symm⟩
    obtain⟨rfl,rfl⟩:=hv;refine qaI hnd (u:=a.eval x) ?_ (hp.same hH hS hx);simp only[execOp,hop];refine qa6 ?_;simp[convert,qas hs,qas ht,hax]
   ·cases h
  ·rename_i e hs ht;split at hd
   ·rename_i he;cases hd;have hx:=R hr
    simp only[qaa] at h;generalize rd E fr r=y at h hx;split at h
    ·cases h
    ·rename_i hns;exact qBa hnd hop hs ht he hx hH (fun z hz=>hns z hz) h hS hp
   ·cases hd
  ·rename_i e hs ht;split at hd
   ·rename_i he;cases hd;have hx:=R hr
    simp only[qaa] at h;split at h
    ·rename_i l hl;rw[hl] at hx;simp only[zzb,zzc] at h;obtain⟨rfl,rfl⟩:=h;exact qwk hnd hop hs ht he hx hH hB hS hp
    ·cases h
   ·cases hd
  ·cases hd
 |fieldAddr s x f =>
  simp only[qaG,hop] at hd;obtain⟨fd,hfd,hd⟩:=zza.1 hd;obtain⟨k,hk,hd⟩:=zza.1 hd;obtain⟨r,hr,hd⟩:=zza.1 hd;split at hd
  ·cases hd
  ·rename_i hz;cases hd;simp only[qaa,opt] at h;split at h
   ·rename_i v' hv';simp only[zzb,zzc] at h;obtain⟨rfl,rfl⟩:=h;obtain⟨blk,o',h1,h2⟩:=qv3 (R hr) hv';refine qaI hnd ?_ (hp.same hH hS h2);simp only[execOp,hop,h1];exact qa6 (qA1 hfd hk hz blk o' w)
   ·cases h
 |nilCheck x =>
  simp only[qaG,hop] at hd;obtain⟨r,hr,hd⟩:=zza.1 hd;cases hd;have hx:=R hr
  simp only[qaa] at h;have fin : ∀v':PV,(∀u,RelV C w S β v' u→(∃p,u = .pointer (some p))∨∃f cs,u = .func (.func f) #[] cs)→RelV C w S β v' (a.eval x)→v'=v→H'=H→o.wpIn (FR ro) nf P a w next Q:=by
   intro v' hc hrel hv hH';subst hv hH';refine qaI hnd (u:=a.eval x) ?_ (hp.same hH hS hrel);rcases hc _ hrel with ⟨p,hu⟩|⟨f,cs,hu⟩<;>simp[execOp,hop,hu]
  split at h
  ·rename_i o' i c hv;simp only[zzb,zzc] at h;rw[hv] at hx;refine fin _ ?_ hx h.1 h.2.symm;intro u hu;cases hu with
   |p _ _ _ _ h0 hp =>
   unfold RelPt at hp;split at hp
   ·exact hp.elim
   ·obtain⟨_,_,rfl⟩:=hp;exact .inl ⟨_,rfl⟩
   ·exact hp.elim
   ·subst hp;exact .inl ⟨_,rfl⟩
   ·exact hp.elim
  ·rename_i hv;simp only[zzb,zzc] at h;rw[hv] at hx;refine fin _ ?_ hx h.1 h.2.symm;intro u hu;cases hu;exact .inl ⟨_,rfl⟩
  ·rename_i hv;simp only[zzb,zzc] at h;rw[hv] at hx;refine fin _ ?_ hx h.1 h.2.symm;intro u hu;cases hu;exact .inr ⟨_,_,rfl⟩
  ·cases h
 |build t parts =>
  simp only[qaG,hop] at hd;obtain⟨z,hz,hd⟩:=zza.1 hd;split at hd
  ·rename_i fs hu;split at hd
   ·rename_i hall;obtain⟨ps,hps,hd⟩:=zza.1 hd;cases hd;have hpr:=qol hN hG hf hps
    simp only[qaa] at h;split at h
    ·rename_i cs hcs;simp only[zzb,zzc] at h;obtain⟨rfl,rfl⟩:=h;have hpr':qhW C w S β (fun i=>(fs[i]?).map fun f=>(f.offset,P.cellsOf f.type)) (ps.map fun x=>(x.1,x.2.1,rd E fr x.2.2)) (parts.toList.map fun x=>(x.1,a.eval x.2)):=by
      have e:(fun (i:Nat)=>((fs[i]?).map fun (f:Field)=>(f.offset,f.type)).map fun p=>(p.1,P.cellsOf p.2))=(fun (i:Nat)=>(fs[i]?).map fun (f:Field)=>(f.offset,P.cellsOf f.type)):=by
       funext i;cases fs[i]? <;> rfl
      rw[←e];exact hpr
     obtain⟨u,h1,h2⟩:=qxO hz hu hall hpr' hcs;refine qaI hnd (u:=u) ?_ (hp.same hH hS h2);simp only[execOp,hop];refine qa6 ?_;have:parts.map (fun x=>(x.1,a.eval x.2))=(parts.toList.map fun x=>(x.1,a.eval x.2)).toArray:=by
      apply Array.ext';simp
     rw[←h1,←this]
    ·cases h
   ·cases hd
  ·rename_i n e hu;obtain⟨k,hk,hd⟩:=zza.1 hd;obtain⟨ps,hps,hd⟩:=zza.1 hd;cases hd;have hpr:=qol hN hG hf hps
   simp only[qaa] at h;split at h
   ·rename_i cs hcs;simp only[zzb,zzc] at h;obtain⟨rfl,rfl⟩:=h;obtain⟨u,h1,h2⟩:=qzF hz hu hk hpr hcs;refine qaI hnd (u:=u) ?_ (hp.same hH hS h2);simp only[execOp,hop];refine qa6 ?_;have:parts.map (fun x=>(x.1,a.eval x.2))=(parts.toList.map fun x=>(x.1,a.eval x.2)).toArray:=by
     apply Array.ext';simp
    rw[←h1,←this]
   ·cases h
  ·cases hd
 |buildSlice t n parts =>
  simp only[qaG,hop] at hd;obtain⟨ek,hek,hd⟩:=zza.1 hd;obtain⟨z,hz,hd⟩:=zza.1 hd;obtain⟨ps,hps,hd⟩:=zza.1 hd;split at hd
  ·rename_i hn;cases hd;obtain⟨hu,hk⟩:=qlC hek;have hpr:=qtj hN hG hf hps
   obtain⟨h1,h2⟩:=hid rfl;simp only[qaa] at h;split at h
   ·rename_i es os hes;simp only[zzb,zzc] at h;obtain⟨rfl,rfl⟩:=h;obtain⟨kz,zv,hkz,hzv,hfz,hrz⟩:=qgy hz;rw[hk] at hkz;cases hkz
    have hH1:=qjt hH os
    have hext1:=qf8 hH os
    have hS1:=qhQ hH hS os
    have hrow:=qmU (w:=w) (S:=FSq β H os S) (n:=n) hfz hrz (if n*ek.2.size=0 then #[] else zv.cells) (fun h=>by rw[if_neg h])
    obtain⟨A',c1,c2,c3,c4⟩:=qsW hH (FSq β H os S) (fun _ _ h=>.inl h) (fun _ _ h=>h) hrow hpr hes
    have hlen:es.length=n:=by rw[c3,List.length_replicate]
    have hAlen:A'.length=n*ek.2.size:=by rw[c4];simp
    obtain⟨a1,a2,a3,a4⟩:=qlT hH1 hS1 hB h1 (by rw[qcL];exact h2) c2 ek.1 0 (len:=n) (cap:=n) (tt:=true) (by rw[hAlen];exact zzt _) (zzt _) (fun _=>rfl)
    refine qaI hnd ?_ (hp _ _ _ _ (hext1.trans a1) (hS1.ext a1) a2 a3 a4 (by rw[qa0,qcL];exact zzt _) (qge _ _ _ _))
    simp only[execOp,hop];refine qa6 ?_;have hparts:parts.map (fun x=>(x.1,a.eval x.2))=(parts.toList.map fun x=>(x.1,a.eval x.2)).toArray:=by
     apply Array.ext';simp
    have hbig : ¬(n*ek.2.size>2^24):=by omega
    have hz0:(if n*ek.2.size=0 then pure #[] else do pure (←zeroValue ek.1).cells:Sem (Array Value)).run P w = .ok (if n*ek.2.size=0 then #[] else zv.cells) w:=by
     split
     ·rfl
     ·simp[qgC hzv]
    have hfill:Instr.fill (fun i=>some (i*ek.2.size,ek.2.size)) ((Array.range (n*ek.2.size)).map ((if n*ek.2.size=0 then #[] else zv.cells)[· % (if n*ek.2.size=0 then #[] else zv.cells).size]!)) (parts.map (fun x=>(x.1,a.eval x.2))).toList=some A'.toArray:=by
     rw[hparts];rw[Array.toArray_toList] at c1;exact c1
    have hrun:(Instr.buildSlice t n (parts.map (fun x=>(x.1,a.eval x.2)))).run P w = .ok (.slice (some ⟨w.heap.size,0,none⟩) n n) (w.alloc (.cells A'.toArray ek.1)):=by
     by_cases h0:n*ek.2.size=0
     ·rw[if_pos h0] at hfill;simp only[Instr.buildSlice,Sem.run_bind,qas hu,Result.andThen_ok,qfb hk,Sem.run_ite,hbig,if_false];rw[if_pos h0];simp only[Sem.run_pure,Result.andThen_ok,hfill];simp[newRow]
     ·rw[if_neg h0] at hfill;simp only[Instr.buildSlice,Sem.run_bind,qas hu,Result.andThen_ok,qfb hk,Sem.run_ite,hbig,if_false,h0,qgC hzv,Sem.run_pure,hfill];simp[newRow]
    exact hrun
   ·cases h
  ·cases hd
 |binOp op t x y ty =>
  simp only[qaG,hop] at hd;obtain⟨rx,hrx,hd⟩:=zza.1 hd;obtain⟨ry,hry,hd⟩:=zza.1 hd;have bin:qaa E (rd E fr) H id (.bin op rx ry)=some (v,H')→o.wpIn (FR ro) nf P a w next Q:=by
   intro h;simp only[qaa,qgb] at h;split at h
   ·rename_i d hdv;simp only[zzb,zzc] at h;obtain⟨rfl,rfl⟩:=h;obtain⟨u,h1,h2,h3⟩:=qwK (P:=P) (t:=t) (R hrx) (R hry) hdv x y;refine qaI hnd (u:=u) ?_ (hp.same hH hS (.d _ _ h3));simp only[execOp,hop];refine qa6 ?_;simp[h1,h2]
   ·cases h
  have eqb : ∀neg,(op = .eql∧neg=false∨op = .neq∧neg=true)→P.underlying t=some .bool→qaa E (rd E fr) H id (.eqb neg rx ry)=some (v,H')→o.wpIn (FR ro) nf P a w next Q:=by
   intro neg hneg hu h;have hx:=R hrx
   have hy:=R hry
   simp only[qaa] at h;split at h
   ·rename_i b1 b2 h1 h2;simp only[zzb,zzc] at h;obtain⟨rfl,rfl⟩:=h;rw[h1] at hx;rw[h2] at hy;have e1:=qh2 hx
    have e2:=qh2 hy
    have heq:=run_equalIn_bool' (P:=P) w 9999 t b1 b2 hu
    rcases hneg with ⟨rfl,rfl⟩|⟨rfl,rfl⟩
    ·refine qaI hnd (u:=.bool (b1==b2)) ?_ (hp.same hH hS (.d _ _ (.b _)));simp only[execOp,hop,e1,e2];refine qa6 ?_;simp[eqGuard,binOp,Op.equal,Op.maxDepth,heq]
    ·refine qaI hnd (u:=.bool (!(b1==b2))) ?_ (hp.same hH hS (.d _ _ (.b _)));simp only[execOp,hop,e1,e2];refine qa6 ?_;simp[eqGuard,binOp,Op.equal,Op.maxDepth,heq]
   ·cases h
  have eqv : ∀fs,P.underlying t=some (.struct fs)→(op = .eql∨op = .neq)→(if P.eqGuardType P.depth t then none else (qcI P 8 t).bind fun ks=>some (.eqv (op == .neq) ks rx ry))=some io→o.wpIn (FR ro) nf P a w next Q:=by
   intro fs hu hop' hd;split at hd
   ·cases hd
   ·rename_i hm;obtain⟨ks,hks,hd⟩:=zza.1 hd;cases hd;simp only[qaa] at h;split at h
    ·rename_i e he;simp only[zzb,zzc] at h;obtain⟨rfl,rfl⟩:=h;obtain⟨h1,h2⟩:=qCe hu hks (by simpa using hm) (R hrx) (R hry) he x y op hop'
     refine qaI hnd (u:=.bool (if op == .neq then !e else e)) ?_ (hp.same hH hS (.d _ _ (.b _)))
     simp only[execOp,hop];refine qa6 ?_;simp[h1,h2]
    ·cases h
  have nilc:(op = .eql∨op = .neq)→∀d,P.underlying t=some d→((qku d).bind fun kd=>if qgA kd ry then some (.isnil (op == .neq) kd rx) else if qgA kd rx then some (.isnil (op == .neq) kd ry) else none)=some io→o.wpIn (FR ro) nf P a w next Q:=by
   intro hop' d hu hd;obtain⟨kd,hkd,hd⟩:=zza.1 hd;split at hd
   ·rename_i hn;cases hd;obtain⟨c,rfl,hc⟩:=quy hry hn;simp only[qaa] at h;split at h
    ·rename_i b hb;simp only[zzb,zzc] at h;obtain⟨rfl,rfl⟩:=h;refine qaI hnd (u:=.bool (if op == .neq then !b else b)) ?_ (hp.same hH hS (.d _ _ (.b _)))
     simp only[execOp,hop];refine qa6 ?_;have:=(qs2 (P:=P) (w:=w) (x:=x) (y:=.const c) hop' (R hrx) hkd hb hu).1 ⟨c,rfl⟩
     simpa only[Act.eval,hc] using this
    ·cases h
   ·split at hd
    ·rename_i hn;cases hd;obtain⟨c,rfl,hc⟩:=quy hrx hn;simp only[qaa] at h;split at h
     ·rename_i b hb;simp only[zzb,zzc] at h;obtain⟨rfl,rfl⟩:=h;refine qaI hnd (u:=.bool (if op == .neq then !b else b)) ?_ (hp.same hH hS (.d _ _ (.b _)))
      simp only[execOp,hop];refine qa6 ?_;have:=(qs2 (P:=P) (w:=w) (x:=.const c) (y:=y) hop' (R hry) hkd hb hu).2 ⟨c,rfl⟩
      simpa only[Act.eval,hc] using this
     ·cases h
    ·cases hd
  unfold qq4 at hd;split at hd
  ·split at hd
   ·cases hd;exact bin h
   ·cases hd;exact bin h
   ·rename_i hu;cases hd;exact eqb _ (.inl ⟨rfl,rfl⟩) hu h
   ·rename_i fs hu;exact eqv fs hu (.inl rfl) hd
   ·rename_i d _ _ _ _ hu;exact nilc (.inl rfl) d hu hd
   ·cases hd
  ·split at hd
   ·cases hd;exact bin h
   ·cases hd;exact bin h
   ·rename_i hu;cases hd;exact eqb _ (.inr ⟨rfl,rfl⟩) hu h
   ·rename_i fs hu;exact eqv fs hu (.inr rfl) hd
   ·rename_i d _ _ _ _ hu;exact nilc (.inr rfl) d hu hd
   ·cases hd
  ·cases hd;exact bin h
 |makeFunc fn first caps =>
  simp only[qaG,hop] at hd;cases fn with
  |func f =>
   simp only at hd;split at hd
   ·rename_i hfs;obtain⟨x,hx,hd⟩:=zza.1 hd;obtain⟨cs,hcs,hd⟩:=zza.1 hd;cases hd;simp only[qaa,zzb,zzc] at h;obtain⟨rfl,rfl⟩:=h;obtain⟨h1,h2⟩:=qgV hN hG hf hcs;have hrel:=RelV.f (C:=C) (w:=w) (S:=S) (β:=β) x.1 (cs.map (rd E fr)) (caps.toList.map a.eval) (by simp[h1]) h2
    refine qaI hnd (u:=.func (.func (C.μ x.1)) #[] (caps.toList.map a.eval).toArray) ?_ (hp.same hH hS hrel);simp only[execOp,hop];refine qa6 ?_;have hf0:first = #[]:=by simpa using hfs
    subst hf0;have:caps.map a.eval=(caps.toList.map a.eval).toArray:=by apply Array.ext';simp
    simp only[Instr.makeFunc,hN.f f x hx,this,Array.map_empty,Sem.run_pure]
   ·split at hd
    ·rename_i hcs0;obtain⟨x,hx,hd⟩:=zza.1 hd;obtain⟨cs,hcs,hd⟩:=zza.1 hd;cases hd;simp only[qaa,zzb,zzc] at h;obtain⟨rfl,rfl⟩:=h;obtain⟨h1,h2⟩:=qgV hN hG hf hcs;have hrel:=RelV.m (C:=C) (w:=w) (S:=S) (β:=β) x.1 (cs.map (rd E fr)) (first.toList.map a.eval) (by simp[h1]) h2
     refine qaI hnd (u:=.func (.func (C.μ x.1)) (first.toList.map a.eval).toArray #[]) ?_ (hp.same hH hS hrel);simp only[execOp,hop];refine qa6 ?_;have hc0:caps = #[]:=by simpa using hcs0
     subst hc0;have:first.map a.eval=(first.toList.map a.eval).toArray:=by apply Array.ext';simp
     simp only[Instr.makeFunc,hN.f f x hx,this,Array.map_empty,Sem.run_pure]
    ·cases hd
  | _=>cases hd
 |makeSlice t l c =>
  simp only[qaG,hop] at hd;obtain⟨ek,hek,hd⟩:=zza.1 hd;obtain⟨z,hz,hd⟩:=zza.1 hd;obtain⟨rl,hrl,hd⟩:=zza.1 hd;obtain⟨rc,hrc,hd⟩:=zza.1 hd;split at hd
  ·cases hd
  ·rename_i hb0;cases hd;obtain⟨hu,hk⟩:=qlC hek;obtain⟨h1,h2⟩:=hid rfl;simp only[qaa] at h;split at h
   ·rename_i n c' hn hc;split at h
    ·rename_i hcnd;simp only[zzb,zzc] at h;obtain⟨rfl,rfl⟩:=h;obtain⟨ur,w',e1,e2⟩:=qzD hH hS hB h1 h2 hu hk hz hb0 (R hrl) (R hrc) hn hc hcnd;exact qaI hnd (by simp only[execOp,hop];exact qa6 e1) (hp.of_leaves e2)
    ·cases h
   ·cases h
 |slice t x lo hi mx =>
  simp only[qaG,hop] at hd;obtain⟨rx,hrx,hd⟩:=zza.1 hd;obtain⟨rlo,hrlo,hd⟩:=zza.1 hd;obtain⟨rhi,hrhi,hd⟩:=zza.1 hd;obtain⟨rmx,hrmx,hd⟩:=zza.1 hd;have h1:=qp1 hN hG hf hrlo
  have h2:=qp1 hN hG hf hrhi
  have h3:=qp1 hN hG hf hrmx
  split at hd
  ·rename_i hu;split at hd
   ·rename_i hmx;cases hd;have hmx0:mx=none:=by
     cases mx with
     |none=>rfl
     |some m =>
      simp only[qi1,Option.map_eq_some_iff] at hrmx;obtain⟨_,_,rfl⟩:=hrmx;simp at hmx
    subst hmx0;have hx:=R hrx
    simp only[qaa] at h;split at h
    ·rename_i s hs;rw[hs] at hx;split at h
     ·rename_i hh hhh;split at h
      ·rename_i l hl;simp only[zzb,zzc] at h;obtain⟨rfl,rfl⟩:=h;obtain⟨u,e1,e2⟩:=qCN (P:=P) hu hx h1 h2 hhh hl;exact qaI hnd (by simp only[execOp,hop];exact qa6 e1) (hp.same hH hS (.d _ _ e2))
      ·cases h
     ·cases h
    ·cases h
   ·cases hd
  ·rename_i e hu;obtain⟨k,hk,hd⟩:=zza.1 hd;split at hd
   ·cases hd
   ·rename_i hmh;cases hd;simp only[qaa,opt] at h;split at h
    ·rename_i v' hv';simp only[zzb,zzc] at h;obtain⟨rfl,rfl⟩:=h;obtain⟨u,e1,e2⟩:=qz7 hH hu hk (R hrx) h1 h2 h3 (by cases rmx<;>cases rhi<;>simp_all) hv'
     exact qaI hnd (by simp only[execOp,hop];exact qa6 e1) (hp.same hH hS e2)
    ·cases h
  ·cases hd
 |field s x f =>
  simp only[qaG,hop] at hd;obtain⟨fd,hfd,hd⟩:=zza.1 hd;obtain⟨k,hk,hd⟩:=zza.1 hd;obtain⟨r,hr,hd⟩:=zza.1 hd;cases hd;have hx:=R hr
  simp only[qaa,opt] at h;split at h;case h_2=>cases h
  rename_i v' hv';simp only[zzb,zzc] at h;obtain⟨rfl,rfl⟩:=h;have h:=hv'
  obtain⟨vs,e1,e2,e3⟩:=qtU hx h;refine qaI hnd ?_ (hp.same hH hS e3);simp only[execOp,hop];refine qa6 ?_;unfold fieldAt at hfd;split at hfd
  ·rename_i fs hu;simp[Instr.field,qas hu,hfd,e1,asAgg,qm5 hk e2]
  ·cases hfd
 |indexAddr t x i =>
  simp only[qaG,hop] at hd;obtain⟨rx,hrx,hd⟩:=zza.1 hd;obtain⟨ri,hri,hd⟩:=zza.1 hd;split at hd
  ·rename_i n e hu;obtain⟨k,hk,hd⟩:=zza.1 hd;cases hd;simp only[qaa] at h;split at h
   ·rename_i m hm;obtain⟨ki,hki⟩:=qhs (R hri) hm;split at h
    ·rename_i j hj;simp only[opt] at h;split at h
     ·rename_i v' hv';simp only[zzb,zzc] at h;obtain⟨rfl,rfl⟩:=h;obtain⟨blk,o',e1,e2⟩:=qv3 (R hrx) hv';refine qaI hnd ?_ (hp.same hH hS e2);simp only[execOp,hop,e1,hki];exact qa6 (qwJ hu hk hj ki blk o' w)
     ·cases h
    ·cases h
   ·cases h
  ·rename_i e hu;obtain⟨k,hk,hd⟩:=zza.1 hd;cases hd;simp only[qaa,opt] at h;split at h
   ·rename_i v' hv';simp only[zzb,zzc] at h;obtain⟨rfl,rfl⟩:=h;obtain⟨u,e1,e2⟩:=qFv hH hu hk (R hrx) (R hri) hv';exact qaI hnd (by simp only[execOp,hop];exact qa6 e1) (hp.same hH hS e2)
   ·cases h
  ·cases hd
 |index t x i =>
  simp only[qaG,hop] at hd;obtain⟨rx,hrx,hd⟩:=zza.1 hd;obtain⟨ri,hri,hd⟩:=zza.1 hd;split at hd
  ·rename_i n e hu;obtain⟨k,hk,hd⟩:=zza.1 hd;cases hd;simp only[qaa] at h;split at h
   ·rename_i m hm;obtain⟨ki,hki⟩:=qhs (R hri) hm;split at h
    ·rename_i j hj;simp only[opt] at h;split at h;case h_2=>cases h
     rename_i v' hv';simp only[zzb,zzc] at h;obtain⟨rfl,rfl⟩:=h;have h:=hv'
     obtain⟨vs,e1,e2,e3⟩:=qtU (R hrx) h;refine qaI hnd ?_ (hp.same hH hS e3);simp only[execOp,hop];refine qa6 ?_;obtain⟨q1,q2,q3,q4⟩:=qmq hj;subst q3;simp[Instr.index,qas hu,e1,hki,asIntOf,q1,q2,qfb hk,qm5 hk e2]
    ·cases h
   ·cases h
  ·rename_i hu;cases hd;simp only[qaa] at h;split at h
   ·rename_i s n hs hn;split at h
    ·rename_i h0;split at h
     ·rename_i b hb;simp only[zzb,zzc] at h;obtain⟨rfl,rfl⟩:=h
      have:=qEU (P:=P) hu (R hrx) (R hri) hs hn h0 hb
      exact qaI hnd (by simp only[execOp,hop];exact qa6 this) (hp.same hH hS (.d _ _ (.i _ _)))
     ·cases h
    ·cases h
   ·cases h
  ·cases hd
 |call c =>
  simp only[qaG,hop] at hd;unfold qqw at hd;have len1 : ∀{ts:List (Option TypeId)} {rs:List Rand},qgu P N ts c.args.toList=some rs→rs.length=c.args.size:=fun h=>by
   have:=(qgV hN hG hf h).1
   simpa using this
  split at hd
  ·
   rename_i f hcal;obtain⟨fn,hfn,hd⟩:=zza.1 hd;obtain⟨as0,has,hd⟩:=zza.1 hd;split at hd
   ·rename_i hbody;obtain⟨p,hp2,hd⟩:=zza.1 hd;cases hd;obtain⟨r1,r2⟩:=qgV hN hG hf has;simp only[qaa,opt] at h;split at h
    ·rename_i v' hv';simp only[zzb,zzc] at h;obtain⟨rfl,rfl⟩:=h;obtain⟨u,e1,e2⟩:=qw6 (P:=P) (w:=w) hp2 hfn hbody (by simp[r1]) r2 hv'
     refine qaI hnd ?_ (hp.same hH hS e2);have hev:a.eval (.func f) = .func (.func f) #[] #[]:=rfl
     have hargs2:c.args.map a.eval ++ #[]=(c.args.toList.map a.eval).toArray:=by apply Array.ext';simp
     simp only[execOp,hop,resolve,hcal,hev,Deferred.ofValue,Sem.run_bind,Sem.run_pure,Result.andThen_ok,invoke,Array.empty_append,hargs2,e1]
    ·cases h
   ·rename_i hbody;split at hd
    ·cases hd
    ·rename_i hname;obtain⟨x,hx,hd⟩:=zza.1 hd;cases hd;obtain⟨r1,r2⟩:=qgV hN hG hf has;have hrun:=qpQ (P:=P) (w:=w) (a:=a) hop hcal (caps := #[]) (f:=f) rfl hfn (by cases hq:fn.body<;>simp_all) hname
     have hargs:c.args.map a.eval ++ #[]=(c.args.toList.map a.eval).toArray:=by apply Array.ext';simp
     rw[hargs] at hrun;have hμ:=hN.f f x hx
     have hlen:(as0.map (rd E fr)).length=(c.args.toList.map a.eval).length:=by simp[r1]
     rcases hm:x.2 with _|_|m
     ·
      rw[hm] at h hid;simp only[qaa] at h;split at h
      ·rename_i ds os hpur;split at h
       ·rename_i r own hval;simp only[zzb,zzc] at h;obtain⟨rfl,hH'⟩:=h;obtain⟨l1,l2⟩:=qo6 hH hpur hlen r2;rw[←hμ] at hrun;exact qnl hO hG hS hB hH hnd hrun hval l1 l2 hH' hp
       ·cases h
      ·cases h
     ·
      rw[hm] at h hid;obtain⟨i1,i2⟩:=hid rfl;simp only[qaa] at h;split at h
      ·rename_i ds os hpur;split at h
       ·rename_i k es tt hval;simp only[zzb,zzc] at h;obtain⟨rfl,hH'⟩:=h;have hH'':(frz H os).put id (some (.sl k 0 es))=H':=by
         rw[←hH'];split
         ·rename_i hc;have:os=[]:=by simpa using hc
          subst this;rfl
         ·rfl
        subst hH'';obtain⟨l1,l2⟩:=qo6 hH hpur hlen r2;have hcall:=hO.val _ _ _ _ hval w (FSq β H os S) _ (qhQ hH hS os) (hG.ext (qf8 hH os)) l1 l2
        rw[hμ] at hcall;refine qi6 hnd hrun hcall ?_;rintro e w' ⟨u,S',rfl,e1,e2,-,e4⟩;refine⟨u,rfl,?_⟩;obtain⟨k',es',hke,ho⟩:=e4 rfl;cases hke;obtain⟨b1,b2⟩:=qpx (qjt hH os) hB e1;have i2':id<(frz H os).length:=by rw[qcL];exact i2
        rcases ho with ⟨rfl,ad,rfl⟩|⟨blk,off,cap,cells,et,rfl,q1,q2,q3,q4,q5,q6⟩
        ·obtain⟨v1,v2⟩:=qpm b2 i1 i2' k 0;refine hp _ w' S' _ ((qf8 hH os).trans b1) e2 v1 v2 (.r _ _ _ _ _ _ rfl ?_) (by rw[qa0,qcL];exact zzt _) (qge _ _ _ _)
         unfold RelRf;rw[qba];exact⟨rfl,rfl,ad,rfl⟩
        ·have hoc:OCells C w' S' β cells blk off (.sl k 0 es):=by
          obtain⟨p0,cf,p1,p2⟩:=q6;refine⟨?_,cf,?_,p2,?_⟩
          ·have:es.length*k.size≤cap*k.size:=zzh _ q1
           omega
          ·intro j hj m hm
           have:=p1 j hj m hm
           rw[List.getElem?_drop] at this;rw[Nat.add_assoc];simpa using this
          ·intro j hj;exact q5 j (by omega)
         obtain⟨v1,v2⟩:=qDe b2 hB i1 i2' q2 (fun o blk base k h=>hH.lt h) q3 hoc
         refine hp _ w' S' _ ((qf8 hH os).trans b1) e2 v1 v2 (.r _ _ _ _ _ _ rfl ?_) (by rw[qa0,qcL];exact zzt _) (qge _ _ _ _)
         unfold RelRf;rw[qba];refine⟨rfl,cap,_,rfl,fun _=>by simp,q1,(fun h=>by cases h),et,cells.size,?_,by simpa using q4⟩
         unfold World.shape?;rw[q3]
       ·cases h
      ·cases h
     ·
      rw[hm] at h;simp only[qaa] at h;have hcall:=hO.ref _ _ _ _ _ h B w S β _ hB hS hG hH hlen r2
      rw[hμ] at hcall;refine qi6 hnd hrun hcall ?_;rintro e w' ⟨u,S',β',rfl,e1,e2,e3,e4,e5,e6,e7⟩;exact⟨u,rfl,hp u w' S' β' e1 e2 e3 e4 e5 e6 (fun o ho _=>e7 o ho (by omega))⟩
  ·
   rename_i t hcal;obtain⟨as0,has,hd⟩:=zza.1 hd;cases hd;obtain⟨r1,r2⟩:=qgV hN hG hf has;simp only[qaa] at h;split at h
   ·rename_i n caps hx;have hfx:=hf t
    have hx':fr.get t = .f n caps:=hx
    rw[hx'] at hfx;obtain⟨us,h1,h2,h3⟩:=qoT hfx;split at h
    ·
     rename_i ds hpl;split at hpl
     ·rename_i hce;have hc0:caps=[]:=by simpa using hce
      subst hc0;have hu0:us=[]:=by cases us with|nil=>rfl|cons _ _=>simp at h2
      subst hu0;have hmap:=qka hpl
      split at h
      ·rename_i r own hval;simp only[zzb,zzc] at h;obtain⟨rfl,hH'⟩:=h;obtain⟨fn,q1,q2,q3⟩:=hO.fnv _ _ _ hval;have hrun:=qpQ (P:=P) (w:=w) (a:=a) hop hcal (caps := #[]) (f:=C.μ n) h1 q1 q2 q3
       have hargs:c.args.map a.eval ++ #[]=(c.args.toList.map a.eval).toArray:=by apply Array.ext';simp
       rw[hargs] at hrun;have l1:ds.length=(c.args.toList.map a.eval).length:=by
        have:=congrArg List.length hmap
        simp only[zzo] at this⊢;simp only[r1] at this;simpa using this.symm
       refine qnl (os:=[]) hO hG hS hB hH hnd hrun hval l1 ?_ (by simpa using hH') hp
       intro j hj hj';have h5:RelV C w S β (.d ds[j]) (c.args.toList.map a.eval)[j]:=by
        have:=r2 j (by rw[hmap];simpa using hj) hj'
        simpa only[hmap,List.getElem_map] using this
       have h6:RelD w S ds[j] (c.args.toList.map a.eval)[j]:=by
        generalize (c.args.toList.map a.eval)[j]=z at h5;cases h5 with
        |d _ _ h5=>exact h5
       exact h6.more (fun _ _ h=>Or.inl h)
      ·cases h
     ·cases hpl
    obtain⟨fn,q1,q2,q3⟩:=hO.fn _ _ _ _ h;have hrun:=qpQ (P:=P) (w:=w) (a:=a) hop hcal (caps:=us.toArray) (f:=C.μ n) h1 q1 q2 q3
    have hargs:c.args.map a.eval++us.toArray=(c.args.toList.map a.eval++us).toArray:=by apply Array.ext';simp
    rw[hargs] at hrun;have hlen:(as0.map (rd E fr)++caps).length=(c.args.toList.map a.eval++us).length:=by simp[r1,h2]
    have hrel : ∀j (h:j<(as0.map (rd E fr)++caps).length) (h':j<(c.args.toList.map a.eval++us).length),RelV C w S β (as0.map (rd E fr)++caps)[j] (c.args.toList.map a.eval++us)[j]:=by
     intro j hj hj';by_cases hja:j<(as0.map (rd E fr)).length
     ·rw[List.getElem_append_left hja,List.getElem_append_left (by simpa[r1] using hja)]
      exact r2 j _ _
     ·rw[List.getElem_append_right (by omega),List.getElem_append_right (by simp only[zzo] at hja⊢;omega)]
      have e1:(as0.map (rd E fr)).length=(c.args.toList.map a.eval).length:=by simp[r1]
      simp only[e1];exact h3 _ _ _
    have hcall:=hO.ref _ _ _ _ _ h B w S β _ hB hS hG hH hlen hrel
    refine qi6 hnd hrun hcall ?_;rintro e w' ⟨u,S',β',rfl,e1,e2,e3,e4,e5,e6,e7⟩;exact⟨u,rfl,hp u w' S' β' e1 e2 e3 e4 e5 e6 (fun o ho _=>e7 o ho (by omega))⟩
   ·rename_i n firsts hx;have hfx:=hf t
    have hx':fr.get t = .m n firsts:=hx
    rw[hx'] at hfx;obtain⟨us,h1,h2,h3⟩:=qyG hfx;have hall : ∀j (h:j<(firsts++as0.map (rd E fr)).length) (h':j<(us++c.args.toList.map a.eval).length),RelV C w S β (firsts++as0.map (rd E fr))[j] (us++c.args.toList.map a.eval)[j]:=by
     intro j hj hj';by_cases hja:j<firsts.length
     ·rw[List.getElem_append_left hja,List.getElem_append_left (by omega)]
      exact h3 j _ _
     ·rw[List.getElem_append_right (by omega),List.getElem_append_right (by omega)]
      simp only[h2];exact r2 _ _ _
    have hlen:(firsts++as0.map (rd E fr)).length=(us++c.args.toList.map a.eval).length:=by simp[r1,h2]
    have hargs:us.toArray++(c.args.map a.eval ++ #[])=(us++c.args.toList.map a.eval).toArray:=by apply Array.ext';simp
    split at h
    ·rename_i ds hpl;have hmap:=qka hpl
     split at h
     ·rename_i r own hval;simp only[zzb,zzc] at h;obtain⟨rfl,hH'⟩:=h;obtain⟨fn,q1,q2,q3⟩:=hO.fnv _ _ _ hval;have hrun:=qrV (P:=P) (w:=w) (a:=a) hop hcal (firsts:=us.toArray) (f:=C.μ n) h1 q1 q2 q3
      rw[hargs] at hrun;refine qnl (os:=[]) hO hG hS hB hH hnd hrun hval ?_ ?_ (by simpa using hH') hp
      ·have:=congrArg List.length hmap
       rw[zzo] at this;rw[←this,hlen]
      ·intro j hj hj';have h5:RelV C w S β (.d ds[j]) (us++c.args.toList.map a.eval)[j]:=by
        have:=hall j (by rw[hmap];simpa using hj) hj'
        simpa only[hmap,List.getElem_map] using this
       have h6:RelD w S ds[j] (us++c.args.toList.map a.eval)[j]:=by
        generalize (us++c.args.toList.map a.eval)[j]=z at h5;cases h5 with
        |d _ _ h5=>exact h5
       exact h6.more (fun _ _ h=>Or.inl h)
     ·cases h
    ·obtain⟨fn,q1,q2,q3⟩:=hO.fn _ _ _ _ h;have hrun:=qrV (P:=P) (w:=w) (a:=a) hop hcal (firsts:=us.toArray) (f:=C.μ n) h1 q1 q2 q3
     rw[hargs] at hrun;have hcall:=hO.ref _ _ _ _ _ h B w S β _ hB hS hG hH hlen hall
     refine qi6 hnd hrun hcall ?_;rintro e w' ⟨u,S',β',rfl,e1,e2,e3,e4,e5,e6,e7⟩;exact⟨u,rfl,hp u w' S' β' e1 e2 e3 e4 e5 e6 (fun o ho _=>e7 o ho (by omega))⟩
   ·rename_i o' hx;have hfx:=hf t
    have hx':fr.get t = .h o':=hx
    rw[hx'] at hfx;obtain⟨y1,y2⟩:=hY _ _ _ _ _ h;obtain⟨blk,x,q1,q2,q3⟩:=qoY hH hfx y1;have q4 : ∃r,x = .loop r∧a.tmps.getD t undef = .func (.yield blk) #[] #[]:=by
     rcases q3 with ⟨rfl,-⟩|⟨rfl,-⟩|h
     ·exact q2.elim
     ·exact q2.elim
     ·exact h
    obtain⟨r0,rfl,hu⟩:=q4;have hlen:(as0.map (rd E fr)).length=(c.args.toList.map a.eval).length:=by simp[r1]
    obtain⟨rr,z1,z2,z3⟩:=y2 w S β (c.args.toList.map a.eval) blk r0 (Ext.refl _ _ _) (Lb.refl _ _) hyb hB hS hG hH q1 hlen r2 (FR ro) (nf-1) (fun _=>trivial) rfl rfl
    have hargs:c.args.map a.eval=(c.args.toList.map a.eval).toArray:=by apply Array.ext';simp
    have hrun:(execOp a.eval o).run P w = .ok (.round blk rr.fn ((rr.params.zip (c.args.toList.map a.eval).toArray).foldl (fun tmps (t,a)=>tmps.setIfInBounds t a) rr.tmps) rr.assign rr.body) w:=by
     have hgl:(Instr.getLoop blk).run P w = .ok rr w:=by simp[Instr.getLoop,run_getObj_loop z1]
     have hev:a.eval (.tmp t) = .func (.yield blk) #[] #[]:=hu
     have hsz:(c.args.toList.map a.eval).toArray.size=rr.params.size:=by simpa using z2
     simp only[execOp,hop,resolve,hcal,hev,Deferred.ofValue,Sem.run_bind,Sem.run_pure,Result.andThen_ok,invoke,Array.empty_append,Instr.yield,hgl,hargs,hsz,ne_eq,not_true_eq_false,if_false]
    refine⟨fun _ _=>trivial,?_⟩
    rw[Oper.semAt_eq _ _ _ hnd,hrun];refine⟨(fun h=>by simp[FR,Fence.wide] at h),z3.mono ?_⟩
    rintro e w' ⟨u,S',β',rfl,e1,e2,e3,e4,e5,e6,e7⟩;exact hp u w' S' β' e1 e2 e3 e4 e5 e6 (fun o ho _=>e7 o ho (by omega))
   ·cases h
  ·cases hd
  ·
   rename_i b hcal;obtain⟨as0,has,hd⟩:=zza.1 hd;obtain⟨r1,r2⟩:=qgV hN hG hf has;have hargs:c.args.map a.eval=(c.args.toList.map a.eval).toArray:=by apply Array.ext';simp
   split at hd
   ·
    split at hd
    ·rename_i x;obtain⟨t,ht,hd⟩:=zza.1 hd;have h1 : ∃y,c.args.toList=[y]:=by
      cases hc:c.args.toList with
      |nil=>rw[hc] at r1;simp at r1
      |cons y l=>cases l with
       |nil=>exact⟨y,rfl⟩
       |cons z l=>rw[hc] at r1;simp at r1
     obtain⟨y,hy⟩:=h1;have hxy:RelV C w S β (rd E fr x) (a.eval y):=by
      have:=r2 0 (by simp) (by simp[hy])
      simpa[hy] using this
     have len : ∀str,(str=true∧P.underlying t=some .string)∨(str=false∧∃e,P.underlying t=some (.slice e))→qaa E (rd E fr) H id (.len str x)=some (v,H')→o.wpIn (FR ro) nf P a w next Q:=by
      intro str hst h;simp only[qaa] at h;split at h
      ·rename_i n hn;simp only[zzb,zzc] at h;obtain⟨rfl,rfl⟩:=h;refine qaI hnd ?_ (hp.same hH hS (.d _ _ (.i _ _)));simp only[execOp,hop,resolve,hcal,Sem.run_bind,Sem.run_pure,Result.andThen_ok,invoke,builtin,hargs,hy]
       have:=qwT (P:=P) hH hxy hn ht hst o.type
       simp only[zzu,List.map_nil,this,Result.andThen_ok]
      ·cases h
     split at hd
     ·cases hd;exact len _ (.inl ⟨rfl,by assumption⟩) h
     ·cases hd;exact len _ (.inr ⟨rfl,_,by assumption⟩) h
     ·cases hd
    ·cases hd
   ·
    split at hd
    ·rename_i x y;obtain⟨t,ht,hd⟩:=zza.1 hd;obtain⟨t2,ht2,hd⟩:=zza.1 hd;obtain⟨ek,hek,hd⟩:=zza.1 hd;obtain⟨z,hz,hd⟩:=zza.1 hd;obtain⟨hu,hk⟩:=qlC hek;have h1 : ∃p q,c.args.toList=[p,q]:=by
      cases hc:c.args.toList with
      |nil=>rw[hc] at r1;simp at r1
      |cons p l=>cases l with
       |nil=>rw[hc] at r1;simp at r1
       |cons q l=>cases l with
        |nil=>exact⟨p,q,rfl⟩
        |cons _ _=>rw[hc] at r1;simp at r1
     obtain⟨p,q,hpq⟩:=h1;have hxp:RelV C w S β (rd E fr x) (a.eval p):=by
      have:=r2 0 (by simp) (by simp[hpq])
      simpa[hpq] using this
     have hyq:RelV C w S β (rd E fr y) (a.eval q):=by
      have:=r2 1 (by simp) (by simp[hpq])
      simpa[hpq] using this
     have app:((∃e',P.underlying t2=some (.slice e'))∨P.underlying t2=some .string)→(if P.bytesOf ek.1=0 then none else some (.app ek.2 (P.bytesOf ek.1) x y))=some io→o.wpIn (FR ro) nf P a w next Q:=by
      intro hu2 hd;split at hd
      ·cases hd
      ·rename_i hb0;cases hd;obtain⟨i1,i2⟩:=hid rfl;simp only[qaa] at h;obtain⟨ur,w',e1,e2⟩:=qpL (P:=P) hH hS hB i1 i2 ht ht2 hu hk hu2 hz hb0 o.type hxp hyq h;refine qaI hnd ?_ (hp.of_leaves e2);simp only[execOp,hop,resolve,hcal,Sem.run_bind,Sem.run_pure,Result.andThen_ok,invoke,builtin,hargs,hpq,zzu,List.map_nil,e1]
     split at hd
     ·exact app (.inl ⟨_,by assumption⟩) hd
     ·exact app (.inr (by assumption)) hd
     ·cases hd
    ·cases hd
   ·
    split at hd
    ·rename_i x;obtain⟨t,ht,hd⟩:=zza.1 hd;obtain⟨ek,hek,hd⟩:=zza.1 hd;obtain⟨z,hz,hd⟩:=zza.1 hd;obtain⟨hu,hk⟩:=qlC hek;cases hd;have h1 : ∃y,c.args.toList=[y]:=by
      cases hc:c.args.toList with
      |nil=>rw[hc] at r1;simp at r1
      |cons y l=>cases l with
       |nil=>exact⟨y,rfl⟩
       |cons z l=>rw[hc] at r1;simp at r1
     obtain⟨y,hy⟩:=h1;have hxy:RelV C w S β (rd E fr x) (a.eval y):=by
      have:=r2 0 (by simp) (by simp[hy])
      simpa[hy] using this
     have none0:RelV C w S β (.t []) (.tuple #[]):=.t [] [] rfl (fun j h=>absurd h (zzm _))
     simp only[qaa] at h;split at h
     ·rename_i oo k' off len tt hx;rw[hx] at hxy;split at h;case h_2=>cases h
      rename_i k'' ro es ho;split at h;case isFalse=>cases h
      rename_i hcnd;simp only[zzf,zzq] at hcnd;obtain⟨⟨⟨hk1,hk2⟩,hle⟩,hro⟩:=hcnd
      have:=K.eq_spec hk1
      subst this
      have:=K.eq_spec hk2
      subst this;simp only[zzb,zzc] at h;obtain⟨rfl,rfl⟩:=h;obtain⟨w',e1,e2,e3,e4⟩:=qCO (P:=P) hH hS ht hu hk hz hxy ho hle hro o.type;refine qaI hnd ?_ (hp _ _ S β e2 e3 e4 (Later.refl _) (.t [] [] rfl (fun j h=>absurd h (zzm _))) (by rw[qa0];exact zzt _) (Kp.refl _ _ _))
      simp only[execOp,hop,resolve,hcal,Sem.run_bind,Sem.run_pure,Result.andThen_ok,invoke,builtin,hargs,hy,zzu,List.map_nil,e1]
     ·rename_i k0 t0 hx;rw[hx] at hxy;simp only[zzb,zzc] at h;obtain⟨rfl,rfl⟩:=h;obtain⟨ad,cap,hay⟩ : ∃ad cap,a.eval y = .slice ad 0 cap:=by
       generalize a.eval y=v at hxy;cases hxy with
       |d _ _ hq =>
       cases hq with
       |l _ _ _ ad cap=>exact⟨ad,cap,rfl⟩
      refine qaI hnd (u:=.tuple #[]) (w':=w) ?_ (hp.same hH hS none0);have e1:(Builtin.clear_ c.argTypes o.type #[.slice ad 0 cap]).run P w = .ok (.tuple #[]) w:=by
       cases ad<;>simp[Builtin.clear_,ht,qas hu]
      simp only[execOp,hop,resolve,hcal,Sem.run_bind,Sem.run_pure,Result.andThen_ok,invoke,builtin,hargs,hy,zzu,List.map_nil,hay,e1]
     ·cases h
    ·cases hd
   ·
    split at hd
    ·rename_i x y;obtain⟨t,ht,hd⟩:=zza.1 hd;obtain⟨t2,ht2,hd⟩:=zza.1 hd;obtain⟨ek,hek,hd⟩:=zza.1 hd;obtain⟨hu,hk⟩:=qlC hek;split at hd;case h_2=>cases hd
     split at hd;case isFalse=>cases hd
     cases hd;have h1 : ∃p q,c.args.toList=[p,q]:=by
      cases hc:c.args.toList with
      |nil=>rw[hc] at r1;simp at r1
      |cons p l=>cases l with
       |nil=>rw[hc] at r1;simp at r1
       |cons q l=>cases l with
        |nil=>exact⟨p,q,rfl⟩
        |cons _ _=>rw[hc] at r1;simp at r1
     obtain⟨p,q,hpq⟩:=h1;have hxp:RelV C w S β (rd E fr x) (a.eval p):=by
      have:=r2 0 (by simp) (by simp[hpq])
      simpa[hpq] using this
     have hyq:RelV C w S β (rd E fr y) (a.eval q):=by
      have:=r2 1 (by simp) (by simp[hpq])
      simpa[hpq] using this
     simp only[qaa] at h;split at h;case h_2=>cases h
     rename_i oo k' off len tt hx;rw[hx] at hxp;split at h;case h_2=>cases h
     rename_i k'' ro es ys ho hys;split at h;case isFalse=>cases h
     rename_i hcnd;simp only[zzf,zzq] at hcnd;obtain⟨⟨⟨hk1,hk2⟩,hle⟩,hro⟩:=hcnd
     have:=K.eq_spec hk1
     subst this
     have:=K.eq_spec hk2
     subst this;simp only[zzb,zzc] at h;obtain⟨rfl,rfl⟩:=h;obtain⟨w',e1,e2,e3,e4⟩:=qlR (P:=P) hH hS ht hu hk hxp ho hle hro hyq hys o.type;refine qaI hnd ?_ (hp _ _ S β e2 e3 e4 (Later.refl _) (.d _ _ (.i _ _)) (by rw[qa0];exact zzt _) (Kp.refl _ _ _))
     simp only[execOp,hop,resolve,hcal,Sem.run_bind,Sem.run_pure,Result.andThen_ok,invoke,builtin,hargs,hpq,zzu,List.map_nil,e1]
    ·cases hd
   ·
    split at hd
    ·cases hd
    ·cases hd;simp only[qaa] at h;exact qui hnd hop hcal (.inl ⟨rfl,rfl⟩) hargs (by simp[r1]) r2 hH hS h hp
   ·
    split at hd
    ·cases hd
    ·cases hd;simp only[qaa] at h;exact qui hnd hop hcal (.inr ⟨rfl,rfl⟩) hargs (by simp[r1]) r2 hH hS h hp
   ·cases hd
  ·
   rename_i recv name hcal;obtain⟨rr,hrr,hd⟩:=zza.1 hd;obtain⟨as0,has,hd⟩:=zza.1 hd;cases hd;obtain⟨r1,r2⟩:=qgV hN hG hf has;have hxr:=R hrr
   simp only[qaa] at h;split at h
   ·rename_i u y hu;rw[hu] at hxr;obtain⟨z,hz,hyz⟩:=qvn hxr;have hargs:c.args.map a.eval=(c.args.toList.map a.eval).toArray:=by apply Array.ext';simp
    have hgo : ∀md f,qh6 u (qnG P N name)=some (md,f)→(execOp a.eval o).run P w = .ok (.enter (C.μ f) (z::c.args.toList.map a.eval).toArray) w∧∃fn,P.funcs[C.μ f]? = some fn:=by
     intro md f hl;obtain⟨i,m,fid,d,fn,g1,g2,g3,g4,g5,g6,g7,g8,g9,g10⟩:=qD6 hl;have hμ:=hN.f fid (f,md) g10
     simp only at hμ
     have:=qEA (P:=P) (w:=w) (y:=z) (args:=c.args.map a.eval) g1 g2 g3 g4 g5 g6 g7 g8 g9
     refine⟨?_,fn,by rw[hμ];exact g7⟩
     have e1:(#[z]++c.args.map a.eval:Array Value)=(z::c.args.toList.map a.eval).toArray:=by rw[hargs];exact qw4 z _
     have e2:(#[(Value.iface u z)]++c.args.map a.eval)[0]? = some (.iface u z):=by rw[Array.getElem?_append_left (by simp)];rfl
     have e3:=qDU (.iface u z) (c.args.map a.eval)
     rw[e1] at this;simp only[execOp,hop,resolve,hcal,hz,Sem.run_bind,Sem.run_pure,Result.andThen_ok,invoke,e2,e3,this,hμ]
    split at h
    ·rename_i f hl;split at h
     ·rename_i ds os hpur;split at h
      ·rename_i r own hval;simp only[zzb,zzc] at h;obtain⟨rfl,hH'⟩:=h;obtain⟨l1,l2⟩:=qo6 hH hpur (by simp[r1]) r2
       refine qnl hO hG hS hB hH hnd (hgo _ _ hl).1 hval (by simp[l1]) ?_ hH' hp
       intro j hj hj';cases j with
       |zero=>exact hyz.more (fun _ _ h=>.inl h)
       |succ j=>exact l2 j (by simpa using hj) (by simpa using hj')
      ·cases h
     ·cases h
    ·rename_i md f _ hl;have hcall:=hO.ref _ _ _ _ _ h B w S β (z::c.args.toList.map a.eval) hB hS hG hH (by simp[r1]) (fun j hj hj'=>by
      cases j with
      |zero=>exact .d _ _ hyz
      |succ j=>exact r2 j (by simpa using hj) (by simpa using hj'))
     refine qi6 hnd (hgo _ _ hl).1 hcall ?_;rintro e w' ⟨u,S',β',rfl,e1,e2,e3,e4,e5,e6,e7⟩;exact⟨u,rfl,hp u w' S' β' e1 e2 e3 e4 e5 e6 (fun o ho _=>e7 o ho (by omega))⟩
    ·cases h
   ·cases h
 |ready g=>simp[qaG,hop] at hd
 |waits g=>simp[qaG,hop] at hd
 |sliceToArrayPointer d x=>simp[qaG,hop] at hd
 |makeInterface t x =>
  simp only[qaG,hop] at hd;split at hd
  ·cases hd
  ·rename_i hni;obtain⟨k,hk,hd⟩:=zza.1 hd;obtain⟨r,hr,hd⟩:=zza.1 hd;cases hd;simp only[qaa] at h;split at h
   ·rename_i y os hpu;simp only[zzb,zzc] at h;obtain⟨rfl,rfl⟩:=h;have hu : ∃d,P.underlying t=some d:=by
     cases hq:P.underlying t with
     |none=>simp[kq,hq] at hk
     |some d=>exact⟨d,rfl⟩
    obtain⟨d,hu⟩:=hu;exact qwO hnd hop hu (fun ms hd=>hni ms (by rw[hu,hd])) (R hr) hH hS hpu hp
   ·simp only[zzb,zzc] at h;obtain⟨rfl,rfl⟩:=h;have hu : ∃d,P.underlying t=some d:=by
     cases hq:P.underlying t with
     |none=>simp[kq,hq] at hk
     |some d=>exact⟨d,rfl⟩
    obtain⟨d,hu⟩:=hu;exact qzd hnd hop hu (fun ms hd=>hni ms (by rw[hu,hd])) (R hr) hH hS hp
 |makeMap t r =>
  cases r with
  |some r=>simp[qaG,hop] at hd
  |none =>
   simp only[qaG,hop] at hd;obtain⟨m,hm,hd⟩:=zza.1 hd;cases hd;simp only[qaa,zzb,zzc] at h;obtain⟨rfl,rfl⟩:=h;exact qwL hnd hop hH hS hB (hid rfl) hp
 |makeChan t s=>simp[qaG,hop] at hd
 |lookup t x i b =>
  simp only[qaG,hop] at hd;obtain⟨m,hm,hd⟩:=zza.1 hd;obtain⟨rx,hrx,hd⟩:=zza.1 hd;obtain⟨ri,hri,hd⟩:=zza.1 hd;obtain⟨z,hz,hd⟩:=zza.1 hd;cases hd;obtain⟨d,hu,hkt,hky⟩:=qvB hm;have h1:=R hrx
  have h2:=R hri
  simp only[qaa] at h;split at h
  ·rename_i k oo hk ho;rw[ho] at h1;rw[hk] at h2;split at h
   ·rename_i hok;split at h
    ·rename_i es hes;split at h
     ·rename_i r hr;simp only[zzb,zzc] at h;obtain⟨rfl,rfl⟩:=h;exact qyn hnd hop hu hz (fun _ _=>qu1 hkt hky hok) h1 h2 hes hH hS hr hp
     ·cases h
    ·cases h
   ·cases h
  ·cases h
 |insert t x i y =>
  simp only[qaG,hop] at hd;exact mset (.inr hop) hd
 |mapUpdate t x i y =>
  simp only[qaG,hop] at hd;exact mset (.inl hop) hd
 |mapEntry t m k=>simp[qaG,hop] at hd
 |entryStore t m s x=>simp[qaG,hop] at hd
 |range t x =>
  simp only[qaG,hop] at hd;split at hd
  ·rename_i hu;obtain⟨r,hr,hd⟩:=zza.1 hd;cases hd;have h1:=R hr
   simp only[qaa] at h;split at h
   ·rename_i l hl;rw[hl] at h1;simp only[zzb,zzc] at h;obtain⟨rfl,rfl⟩:=h;exact qw5 hnd hop hu h1 hH hS hB (hid rfl) hp
   ·cases h
  ·cases hd
 |next it b =>
  cases b with
  |false=>simp[qaG,hop] at hd
  |true =>
   simp only[qaG,hop] at hd;obtain⟨r,hr,hd⟩:=zza.1 hd;cases hd;have h1:=R hr
   simp only[qaa] at h;split at h
   ·rename_i oo ho;rw[ho] at h1;split at h
    ·rename_i l pos hes;exact qGb hnd hop h1 hes hH hS h hp
    ·cases h
   ·cases h
 |entry it=>simp[qaG,hop] at hd
 |typeAssert x s t ok =>
  simp only[qaG,hop] at hd;split at hd
  ·cases hd
  ·rename_i d hni hu;obtain⟨r,hr,hd⟩:=zza.1 hd;obtain⟨z,hz,hd⟩:=zza.1 hd;cases hd;simp only[qaa] at h;exact qyu hnd hop hu (fun ms hd=>hni ms hd) hz h (R hr) hH hS hp
  ·cases hd
 |go c=>simp[qaG,hop] at hd
 |defer c=>exact absurd hop (hnd c)
 |panic x=>simp[qaG,hop] at hd
 |send c x=>simp[qaG,hop] at hd
 |recv t c b=>simp[qaG,hop] at hd
 |select cs b=>simp[qaG,hop] at hd
end
end Go.Sim
end
section
open Go.RowKit
namespace Go.Sim
theorem qfp (t:Nat) (v:PV) (t':Nat) : ∀fr:Fr,(fr.set t v).get t'=if t'=t then v else fr.get t'
 | []=>by simp only[Fr.set,Fr.get];split<;>split<;>simp_all
 | (j,x)::r=>by
  simp only[Fr.set];split
  ·rename_i h;subst h
   simp only[Fr.get];split
   ·rename_i h;subst h;simp
   ·rename_i h;rw[if_neg (fun e=>h e.symm)]
  ·split
   ·by_cases h:t=t'
    ·subst h;simp[Fr.get]
    ·rw[if_neg (fun e=>h e.symm)];simp only[Fr.get,h,if_false]
   ·rename_i h1 h2;simp only[Fr.get];split
    ·rename_i h;subst h;rw[if_neg h1]
    ·exact qfp t v t' r
theorem ql3 (l:List Nat) (t:Nat) : ∀fr:Fr,(fr.drop l).get t=if l.contains t&&Nat.blt t gh then .u else fr.get t
 | []=>by simp[Fr.drop,Fr.get]
 | (j,x)::r=>by
  simp only[Fr.drop];split
  ·rename_i hc;rw[ql3 l t r];by_cases hj:j=t
   ·subst hj;rw[if_pos hc,if_pos hc]
   ·simp[Fr.get,hj]
  ·rename_i hc;simp only[Fr.get];split
   ·rename_i hj;subst hj;rw[if_neg hc]
   ·exact ql3 l t r
theorem qqt (l:List Nat) (t:Nat) (fr:Fr):(fr.drop l).get t=fr.get t∨(fr.drop l).get t = .u:=by
 rw[ql3];split
 ·exact .inr rfl
 ·exact .inl rfl
theorem qo3 (l:List Nat) {t:Nat} (h:gh≤t) (fr:Fr):(fr.drop l).get t=fr.get t:=by
 rw[ql3];have:Nat.blt t gh=false:=by
  cases hb:Nat.blt t gh with
  |false=>rfl
  |true=>rw[Nat.blt_eq] at hb;omega
 simp[this]
theorem qmx (l:List Nat) (t:Nat) : ∀fr:Fr,(fr.keep l).get t=if l.contains t||Nat.ble gh t then fr.get t else .u
 | []=>by simp[Fr.keep,Fr.get]
 | (j,x)::r=>by
  simp only[Fr.keep];split
  ·rename_i hc;simp only[Fr.get];split
   ·rename_i hj;subst hj;rw[if_pos hc]
   ·exact qmx l t r
  ·rename_i hc;rw[qmx l t r];by_cases hj:j=t
   ·subst hj;rw[if_neg hc,if_neg hc]
   ·simp[Fr.get,hj]
theorem qyW (l:List Nat) (t:Nat) (fr:Fr):(fr.keep l).get t=fr.get t∨(fr.keep l).get t = .u:=by
 rw[qmx];split
 ·exact .inl rfl
 ·exact .inr rfl
theorem qx7 (l:List Nat) {t:Nat} (h:gh≤t) (fr:Fr):(fr.keep l).get t=fr.get t:=by
 rw[qmx];have:Nat.ble gh t=true:=by rw[Nat.ble_eq];exact h
 simp[this]
theorem qmT (ρ:Nat→Option Nat) (t:Nat) : ∀fr:Fr,(fr.ren ρ).get t=(fr.get t).ren ρ
 | []=>rfl
 | (j,x)::r=>by
  simp only[Fr.ren,Fr.get];split
  ·rfl
  ·exact qmT ρ t r
theorem qtG : ∀(args:List PV) (j:Nat),∀p∈Fr.ofArgs j args,j≤p.1
 | [],j,p,h=>by cases h
 |v::r,j,p,h=>by
  simp only[Fr.ofArgs] at h;rcases List.mem_append.1 h with h|h
  ·have:=qtG r (j+1) p h;omega
  ·rw[List.mem_singleton.1 h];exact zzt _
theorem qtN {t:Nat} {b:Fr} : ∀{a:Fr},(∀p∈a,p.1≠t)→Fr.get (a++b) t=Fr.get b t
 | [],_=>rfl
 | (j,x)::r,h=>by
  simp only[List.cons_append,Fr.get];rw[if_neg (h (j,x) (zzr ..))];exact qtN fun p hp=>h p (zzi _ hp)
theorem qvR {t j:Nat} {v:PV} (h : ¬j=t) : ∀{a:Fr},Fr.get (a++[(j,v)]) t=Fr.get a t
 | []=>by simp[Fr.get,h]
 | (i,x)::r=>by
  simp only[List.cons_append,Fr.get];rw[qvR h]
theorem qrd (t:Nat) : ∀(args:List PV) (j:Nat),(Fr.ofArgs j args).get t=if j≤t then args.getD (t-j) .u else .u
 | [],j=>by simp[Fr.ofArgs,Fr.get]
 |v::r,j=>by
  simp only[Fr.ofArgs];by_cases h:j=t
  ·subst h;rw[qtN (fun p hp e=>by have:=qtG r (j+1) p hp;omega)]
   simp[Fr.get]
  ·rw[qvR h,qrd t r (j+1)];by_cases hj:j≤t
   ·rw[if_pos hj,if_pos (by omega)]
    have:t-j=(t-(j+1))+1:=by omega
    rw[this];rfl
   ·rw[if_neg hj,if_neg (by omega)]
theorem qmf {E:Env} {ρ:Rand→PV} {H:Heap} {x:IOp} (h:x.adds=false) (i j:Nat):qaa E ρ H i x=qaa E ρ H j x:=by
 cases x with
 |call m f args =>
  match m with
  | 0=>rfl
  | 1=>simp[IOp.adds] at h
  |m+2=>rfl
 |alloc=>simp[IOp.adds] at h
 |box=>simp[IOp.adds] at h
 |bsl=>simp[IOp.adds] at h
 |app=>simp[IOp.adds] at h
 |mksl=>simp[IOp.adds] at h
 |mkmap=>simp[IOp.adds] at h
 |rngS=>simp[IOp.adds] at h
 | _=>rfl
section
variable {P : Program} {N : Names} {C : Cx} {w : World} {S : qah} {β : Pl} {B : Nat} {H : Heap} {a : Act} {E : Env} {ro : Option Nat} {nf : Nat}
def DRel (C:Cx) (w:World) (S:qah) (β:Pl) (x:PV) (d:Deferred):Prop:=match x with
 | .g (.h o)=>∃r,d={ target:=.collected r,args := #[] }∧(β o = .sp r .defer∨β o = .dead)
 | .g (.f n caps)=>∃us:List Value,d={ target:=.fn (.func (C.μ n)) us.toArray,args := #[] }∧caps.length=us.length∧∀j (h:j<caps.length) (h':j<us.length),RelV C w S β caps[j] us[j]
 | .g .u=>True
 | _=>False
def DfRel (C:Cx) (w:World) (S:qah) (β:Pl) (fr:Fr) (ds:List Deferred):Prop :=
 ∃sl:List Nat,sl.Nodup∧(∀t,t∈sl→gh≤t)∧(∀t,gh≤t→fr.get t≠.u→t∈sl)∧sl.length=ds.length∧∀j (h:j<sl.length) (h':j<ds.length),DRel C w S β (fr.get sl[j]) ds[j]
theorem DRel.ext {w':World} {S':qah} {β':Pl} {x:PV} {d:Deferred} (h:DRel C w S β x d) (e:Ext B w S w' S') (hb:Later β β'):DRel C w' S' β' x d:=by
 unfold DRel at *
 split at h
 ·obtain⟨r,h1,h2⟩:=h;refine⟨r,h1,?_⟩;rename_i o;rcases hb o with h3|h3|h3
  ·rw[h3];exact h2
  ·exact .inr h3
  ·rcases h2 with h2|h2<;>rw[h3] at h2<;>cases h2
 ·obtain⟨us,h1,h2,h3⟩:=h;exact⟨us,h1,h2,fun j hj hj'=>(h3 j hj hj').ext e hb⟩
 ·trivial
 ·exact h.elim
theorem DfRel.ext {w':World} {S':qah} {β':Pl} {fr:Fr} {ds:List Deferred} (h:DfRel C w S β fr ds) (e:Ext B w S w' S') (hb:Later β β'):DfRel C w' S' β' fr ds:=by
 obtain⟨sl,h1,h2,h3,h4,h5⟩:=h;exact⟨sl,h1,h2,h3,h4,fun j hj hj'=>(h5 j hj hj').ext e hb⟩
theorem DfRel.frame {fr fr':Fr} {ds:List Deferred} (h:DfRel C w S β fr ds) (he : ∀t,gh≤t→fr'.get t=fr.get t):DfRel C w S β fr' ds:=by
 obtain⟨sl,h1,h2,h3,h4,h5⟩:=h;refine⟨sl,h1,h2,fun t ht hn=>h3 t ht (by rw[←he t ht];exact hn),h4,fun j hj hj' => ?_⟩
 rw[he _ (h2 _ (zzs hj))];exact h5 j hj hj'
theorem DfRel.push {fr:Fr} {ds:List Deferred} (h:DfRel C w S β fr ds) {t:Nat} (ht:gh≤t) (hu:fr.get t = .u) {x:PV} {d:Deferred} (hx:DRel C w S β x d):DfRel C w S β (fr.set t x) (d::ds):=by
 obtain⟨sl,h1,h2,h3,h4,h5⟩:=h;have hnt : ∀j (hj:j<sl.length),sl[j]≠t:=fun j hj hq=>by
  have:=h5 j hj (by omega)
  rw[hq,hu] at this;exact this
 have hn:t∉sl:=fun hm=>by
  obtain⟨j,hj,hq⟩:=List.getElem_of_mem hm;exact hnt j hj hq
 refine⟨t::sl,List.nodup_cons.2 ⟨hn,h1⟩,?_,?_,by simp[h4],?_⟩
 ·intro t' hm;rcases List.mem_cons.1 hm with rfl|hm
  ·exact ht
  ·exact h2 t' hm
 ·intro t' h6 h7;rw[qfp] at h7;split at h7
  ·rename_i hq;subst hq;exact zzr ..
  ·exact zzi _ (h3 t' h6 h7)
 ·intro j hj hj';cases j with
  |zero=>rw[qfp];simpa using hx
  |succ j =>
   simp only[List.getElem_cons_succ];rw[qfp,if_neg (hnt j (by simpa using hj))]
   exact h5 j _ _
structure Inv (P:Program) (N:Names) (C:Cx) (E:Env) (B base nt:Nat) (s:St) (a:Act) (w:World) (S:qah) (β:Pl):Prop where
 swf:Swf w S
 gok:GOK N E.G w S
 hB:B≤w.heap.size
 hok:HOK C B w S β s.H
 fok:FOK C w S β s.fr a
 size:a.tmps.size=nt
 defers:DfRel C w S β s.fr a.defers
 yok : ∃yb,yb≤base∧YOK P C N E.G E.yld B w S β yb
 base:base≤s.H.length
theorem FOK.ext {w':World} {S':qah} {β':Pl} {fr:Fr} (h:FOK C w S β fr a) (e:Ext B w S w' S') (hb:Later β β'):FOK C w' S' β' fr a:=fun t=>(h t).ext e hb
theorem FOK.put {fr:Fr} (h:FOK C w S β fr a) {d:Nat} (hd:d<a.tmps.size) {v:PV} {u:Value} (hv:RelV C w S β v u):FOK C w S β (fr.set d v) (a.put (some d) u):=by
 intro t;rw[qfp];simp only[Act.put,Array.getD_eq_getD_getElem?];split
 ·rename_i ht;subst ht
  simpa[hd] using hv
 ·rename_i ht;rw[Array.getElem?_setIfInBounds_ne (fun e=>ht e.symm)]
  have:=h t
  simpa[Array.getD_eq_getD_getElem?] using this
theorem qkJ (hH:HOK C B w S β H) (n:Nat):HOK C B w S β (H++List.replicate n none):=by
 have hobj : ∀o,o<H.length→Heap.obj (H++List.replicate n none) o=H.obj o:=by
  intro o ho;simp[Heap.obj,List.getElem?_append_left ho]
 have hlt : ∀o,β o≠.pend→o<H.length:=fun o h=>by
  rcases Nat.lt_or_ge o H.length with h1|h1
  ·exact h1
  ·exact absurd (hH.out o h1) h
 refine⟨?_,?_,?_,hH.inj,?_,fun o blk x h => ?_,hH.spi⟩
 rotate_left 4
 ·rw[hobj o (hlt o (by rw[h];simp))];exact hH.sp o blk x h
 ·intro o blk base k h;rw[hobj o (hlt o (by rw[h];simp))];exact hH.live o blk base k h
 ·intro o h;rw[hobj o (hlt o (by rw[h];simp))];exact hH.dead o h
 ·intro o h;rw[hobj o (hlt o (by rw[h];simp))];exact hH.virt o h
 ·intro o h;rw[zzp] at h;exact hH.out o (by omega)
theorem qoG (o:Oper) (all:Array Oper) (h:qb8 o.op=false):(qar P N all o).dst=o.dst:=by
 unfold qar;split
 ·simp[h]
 ·rfl
theorem qxH (hO:OrOK P C N E) (hN:NOK P N C E.G) {ops:Array Oper} {Q:Exit→Act→World→Prop} {base nt:Nat} (hng:nt≤gh) (hro:ro=none∨∀o∈ops.toList,qb8 o.op=false) (hdst : ∀o∈ops.toList,∀d,o.dst=some d→d<nt) : ∀(m k id R:Nat) (s s':St) (a:Act) (w:World) (S:qah) (β:Pl),k+m=ops.size →
  qaO E ((ops.toList.drop k).map (qar P N ops)) id s=some s'→Inv P N C E B base nt s a w S β→(∀j,id≤j→j<R→β j = .pend)→id+qap ((ops.toList.drop k).map (qar P N ops))≤R→R≤s.H.length→base≤id →
  (∀a' w' S' β',Inv P N C E B base nt s' a' w' S' β'→Ext B w S w' S'→Lb base β β'→Q .normal a' w')→wpOpsIn (FR ro) nf P ops Q (List.range' k m) a w:=by
 intro m;induction m with
 |zero =>
  intro k id R s s' a w S β hk he hI _ _ _ _ hQ;have:ops.toList.drop k=[]:=by rw[List.drop_eq_nil_iff];simp;omega
  rw[this] at he;simp only[List.map_nil,qaO,zzb] at he;subst he;exact hQ a w S β hI (Ext.refl _ _ _) (Lb.refl _ _)
 |succ m ih =>
  intro k id R s s' a w S β hk he hI hpend hroom hR hbase hQ;have hks:k<ops.size:=by omega
  have hdrop:ops.toList.drop k=ops[k]::ops.toList.drop (k+1):=by
   rw[List.drop_eq_getElem_cons (by simpa using hks)];simp
  rw[hdrop] at he hroom;simp only[zzu] at he hroom;have hget:ops[k]? = some ops[k]:=by simp[hks]
  rw[List.range'_succ];simp only[wpOpsIn,hget];have hmem:ops[k]∈ops.toList:=by simp
  generalize hok:ops[k]=o at *
  have hdo:=hdst o hmem
  obtain⟨yb,hyb,hyok⟩:=hI.yok;cases hdf:qb8 o.op with
  |true =>
   have hro':ro=none:=by
    rcases hro with h|h
    ·exact h
    ·have:=h o hmem;rw[hdf] at this;cases this
   subst hro';cases hop:o.op<;>(rw[hop] at hdf;try (cases hdf;done))
   rename_i c;cases hx:qaG P N o with
   |none =>
    have:qar P N ops o=⟨o.dst,.bad,none⟩:=by unfold qar;rw[hx]
    rw[this] at he;simp[qaO,qaa] at he
   |some x =>
    cases hg:qfX ops o.guard with
    |none =>
     have:qar P N ops o=⟨o.dst,.bad,none⟩:=by unfold qar;rw[hx,hg]
     rw[this] at he;simp[qaO,qaa] at he
    |some g =>
     cases hgn:g with
     |some gg =>
      have:qar P N ops o=⟨o.dst,.bad,none⟩:=by unfold qar;rw[hx,hg];simp[hop,qb8,hgn]
      rw[this] at he;simp[qaO,qaa] at he
     |none =>
      cases hod:o.dst with
      |some d =>
       have:qar P N ops o=⟨o.dst,.bad,none⟩:=by unfold qar;rw[hx,hg];simp[hop,qb8,hgn,hod]
       rw[this] at he;simp[qaO,qaa] at he
      |none =>
      have hdg:qar P N ops o=⟨some gh,x,none⟩:=by unfold qar;rw[hx,hg];simp[hop,qb8,hgn,hod]
      rw[hdg] at he hroom;have hguard:o.guard=none:=by
       subst hgn;cases hq:o.guard with
       |none=>rfl
       |some gw =>
        obtain⟨j,want⟩:=gw;rw[hq] at hg;simp only[qfX] at hg;obtain⟨t,-,hg⟩:=zza.1 hg;cases hg
      have hw:Region.wanted o (yielded ops a.tmps)=true:=by simp[Region.wanted,hguard]
      rw[if_pos hw];simp only[qaG,hop] at hx;split at hx
      ·rename_i t hcal;split at hx
       ·rename_i hargs;cases hx;simp only[qaO,qaa] at he;split at he
        ·rename_i v H' hev;split at hev
         ·rename_i n caps h1 h2;simp only[zzb,zzc] at hev;obtain⟨rfl,rfl⟩:=hev;have h1':s.fr.get t = .f n caps:=h1
          have h2':s.fr.get gh = .u:=h2
          have hfx:=hI.fok t
          rw[h1'] at hfx;obtain⟨us,q1,q2,q3⟩:=qoT hfx;have ha0:c.args = #[]:=by simpa using hargs
          refine⟨fun _ _=>trivial,?_⟩
          have hrun:(o.semAt (FR none).round a.eval).run P w = .ok (.defer { target:=.fn (.func (C.μ n)) us.toArray,args := #[] }) w:=by
           have hev:a.eval (.tmp t) = .func (.func (C.μ n)) #[] us.toArray:=q1
           unfold Oper.semAt;rw[hop];simp[FR,Fence.wide,execOp,hop,resolve,hcal,hev,Deferred.ofValue,ha0]
          rw[hrun];show wpOpsIn _ _ _ _ _ _ ({ a with defers:=_::a.defers }.put o.dst undef) w
          have hnd:qap (⟨some gh,.dfr (.t t) (.t gh),none⟩::(ops.toList.drop (k+1)).map (qar P N ops))=qap ((ops.toList.drop (k+1)).map (qar P N ops)):=by simp[qap,IOp.adds]
          rw[hnd] at hroom;refine ih (k+1) id R _ s' _ w S β (by omega) (by simpa[IOp.adds] using he) ?_ hpend hroom (by simpa using hR) hbase hQ
          refine⟨hI.swf,hI.gok,hI.hB,hI.hok,?_,?_,?_,hI.yok,hI.base⟩
          ·rw[hod];intro t';show RelV C w S β ((s.fr.set gh (.g (.f n caps))).get t') _
           rw[qfp];split
           ·exact .g _ _
           ·exact hI.fok t'
          ·rw[hod];exact hI.size
          ·rw[hod];exact hI.defers.push (zzt gh) h2' (x:=.g (.f n caps)) (d:={ target:=.fn (.func (C.μ n)) us.toArray,args := #[] }) ⟨us,rfl,q2,q3⟩
         ·cases hev
        ·cases he
       ·cases hx
      ·cases hx
  |false =>
  have hnd : ∀c,o.op≠.defer c:=fun c h=>by rw[h] at hdf;cases hdf
  have hdig:(∃x g,qaG P N o=some x∧qfX ops o.guard=some g∧qar P N ops o=⟨o.dst,x,g⟩)∨qar P N ops o=⟨o.dst,.bad,none⟩:=by
   unfold qar;split
   ·exact .inl ⟨_,_,by assumption,by assumption,by simp[hdf]⟩
   ·exact .inr rfl
  rcases hdig with ⟨x,g,hx,hg,hdo'⟩|hbad
  ·rw[hdo'] at he hroom;have hput : ∀(v:PV) (H':Heap) (u:Value) (w':World) (S':qah) (β':Pl),Ext B w S w' S'→Swf w' S'→HOK C B w' S' β' H'→Later β β'→RelV C w' S' β' v u→s.H.length≤H'.length →
     Lb base β β'→Inv P N C E B base nt ⟨match o.dst with|some t=>s.fr.set t v|none=>s.fr,H'⟩ (a.put o.dst u) w' S' β':=by
    intro v H' u w' S' β' e1 e2 e3 e4 e5 e6 e7;refine⟨e2,hI.gok.ext e1,Nat.le_trans hI.hB e1.below.size,e3,?_,?_,?_,⟨yb,hyb,hyok.later e1 (e7.mono hyb)⟩,Nat.le_trans hI.base e6⟩
    ·cases hd:o.dst with
     |none=>exact hI.fok.ext e1 e4
     |some d=>exact (hI.fok.ext e1 e4).put (by rw[hI.size];exact hdo d hd) e5
    ·cases hd:o.dst with
     |none=>exact hI.size
     |some d=>simp[Act.put,hI.size]
    ·cases hd:o.dst with
     |none=>exact hI.defers.ext e1 e4
     |some d =>
      refine (hI.defers.ext e1 e4).frame fun t ht => ?_
      have hlt:=Nat.lt_of_lt_of_le (hdo d hd) (Nat.le_trans hng ht)
      show (s.fr.set d v).get t=_
      rw[qfp,if_neg (fun h=>Nat.lt_irrefl _ (h▸hlt))]
   have hadds:qap (⟨o.dst,x,g⟩::(ops.toList.drop (k+1)).map (qar P N ops))=(if x.adds then 1 else 0)+qap ((ops.toList.drop (k+1)).map (qar P N ops)):=rfl
   rw[hadds] at hroom;have go:(match qaa E (rd E s.fr) s.H id x with
     |some (v,H)=>qaO E ((ops.toList.drop (k+1)).map (qar P N ops)) (if x.adds then id+1 else id) ⟨match o.dst with|some t=>s.fr.set t v|none=>s.fr,H⟩
     |none=>none)=some s'→o.wpIn (FR ro) nf P a w (wpOpsIn (FR ro) nf P ops Q (List.range' (k+1) m)) Q:=by
    intro he;split at he
    ·rename_i v H' hev;have hev':qaa E (rd E s.fr) s.H (if x.adds then id else s.H.length) x=some (v,H'):=by
      cases ha:x.adds with
      |true=>exact hev
      |false=>rw[←hev];exact qmf ha _ _
     refine qnJ hO hN hI.gok hI.swf hI.hB hI.hok hI.fok hnd hyok (Nat.le_trans hyb hI.base) hx ?_ hev' ?_
     ·intro hadd;rw[if_pos hadd] at hroom⊢;exact⟨hpend id (zzt _) (by omega),by omega⟩
     ·intro u w' S' β' e1 e2 e3 e4 e5 e6 e7;have hlb:Lb base β β':=by
       intro o' ho'
       have:=hI.base
       exact⟨e4 o',fun hp=>e7 o' (by omega) (by split<;>omega) hp⟩
      refine ih (k+1) _ R _ s' _ w' S' β' (by omega) he (hput v H' u w' S' β' e1 e2 e3 e4 e5 e6 hlb) ?_ ?_ (by simp only;omega) ?_ ?_
      ·intro j hj hj';split at hj
       ·rename_i ha;rw[if_pos ha] at e7
        exact e7 j (by omega) (by omega) (hpend j (by omega) hj')
       ·rename_i ha;rw[if_neg ha] at e7
        exact e7 j (by omega) (by omega) (hpend j (by omega) hj')
      ·split at hroom
       ·rename_i ha;rw[if_pos ha];omega
       ·rename_i ha;rw[if_neg ha];omega
      ·split<;>omega
      ·intro a' w'' S'' β'' hI' e8 e9;exact hQ a' w'' S'' β'' hI' (e1.trans e8) (hlb.trans e9)
    ·cases he
   have no:qaO E ((ops.toList.drop (k+1)).map (qar P N ops)) (if x.adds then id+1 else id) ⟨match o.dst with|some t=>s.fr.set t (.t [])|none=>s.fr,s.H⟩=some s'→wpOpsIn (FR ro) nf P ops Q (List.range' (k+1) m) (a.put o.dst undef) w:=by
    intro he;refine ih (k+1) _ R _ s' _ w S β (by omega) he (hput (.t []) s.H undef w S β (Ext.refl _ _ _) hI.swf hI.hok (Later.refl _) (.t [] [] rfl (fun j h=>absurd h (zzm _))) (zzt _) (Lb.refl _ _)) ?_ ?_ hR ?_ hQ
    ·intro j hj hj';exact hpend j (by split at hj<;>omega) hj'
    ·split at hroom
     ·rename_i ha;rw[if_pos ha];omega
     ·rename_i ha;rw[if_neg ha];omega
    ·split<;>omega
   simp only[qaO] at he;cases hgo:o.guard with
   |none =>
    rw[hgo] at hg;simp only[qfX,zzb] at hg;subst hg;have hw:Region.wanted o (yielded ops a.tmps)=true:=by simp[Region.wanted,hgo]
    rw[if_pos hw];exact go he
   |some gw =>
    obtain⟨j,want⟩:=gw;rw[hgo] at hg;simp only[qfX] at hg;obtain⟨t,ht,hg⟩:=zza.1 hg;cases hg;simp only at he;have hyt:=hI.fok t
    have hy:yielded ops a.tmps j=match a.tmps[t]? with|some (.bool b)=>some b|_=>none:=by
     unfold yielded;rw[ht];rfl
    split at he
    ·rename_i b hb;rw[hb] at hyt
     have:=qh2 hyt
     have hyb:yielded ops a.tmps j=some b:=by
      rw[hy];rw[Array.getD_eq_getD_getElem?] at this;cases hq:a.tmps[t]? with
      |none=>rw[hq] at this;cases this
      |some z=>rw[hq] at this;simp at this;subst this;rfl
     have hwd:Region.wanted o (yielded ops a.tmps)=(b==want):=by
      simp only[Region.wanted,hgo,hyb];cases b<;>cases want<;>rfl
     rw[hwd];split at he
     ·rename_i hbw;rw[if_pos hbw];exact go he
     ·rename_i hbw;rw[if_neg hbw];exact⟨fun _ _=>trivial,no he⟩
    ·rename_i hb;rw[hb] at hyt;have hyb:yielded ops a.tmps j=none:=by
      rw[hy];rw[Array.getD_eq_getD_getElem?] at hyt;cases hq:a.tmps[t]? with
      |none=>rfl
      |some z =>
       rw[hq] at hyt;simp only[Option.getD_some] at hyt;cases hyt;rfl
     have hwd:Region.wanted o (yielded ops a.tmps)=false:=by
      simp only[Region.wanted,hgo,hyb];rfl
     rw[hwd];simp only[zzg,if_false];exact⟨fun _ _=>trivial,no he⟩
    ·cases he
  ·rw[hbad] at he;simp[qaO,qaa] at he
end
end Go.Sim
end
section
open Go.RowKit
namespace Go.Sim
theorem qpE (acc:List Nat) : ∀(es:List Edge) (i:Nat),(qgY acc es).testBit i=true→∃e∈es,Region.binds .any e=true∧(i=e.on∨(acc.getD e.on 0).testBit i=true)
 | [],i,h=>by simp[qgY] at h
 |e::es,i,h=>by
  unfold qgY at h;split at h
  ·rename_i hb;rw[Nat.testBit_or,Nat.testBit_or,Bool.or_eq_true,Bool.or_eq_true] at h;rcases h with h|h|h
   ·refine⟨e,zzr ..,hb,.inl ?_⟩;rw[Nat.testBit_two_pow] at h;have:e.on=i:=by simpa using h
    exact this.symm
   ·exact⟨e,zzr ..,hb,.inr h⟩
   ·obtain⟨e',h1,h2⟩:=qpE acc es i h;exact⟨e',zzi _ h1,h2⟩
  ·obtain⟨e',h1,h2⟩:=qpE acc es i h;exact⟨e',zzi _ h1,h2⟩
theorem qts : ∀(ops:List Oper) (acc:List Nat),(bef ops acc).length=acc.length+ops.length∧(∀j,j<acc.length→(bef ops acc)[j]? = acc[j]?) ∧
  ∀j (h:j<ops.length),∃acc':List Nat,acc'.length=acc.length+j∧(∀i,i<acc'.length→acc'[i]? = (bef ops acc)[i]?)∧(bef ops acc)[acc.length+j]? = some (qgY acc' (ops[j].after.toList))
 | [],acc=>⟨by simp[bef],fun _ _=>rfl,fun j h=>absurd h (zzm _)⟩
 |o::r,acc=>by
  obtain⟨h1,h2,h3⟩:=qts r (acc++[qgY acc o.after.toList]);have hl:(acc++[qgY acc o.after.toList]).length=acc.length+1:=by simp
  refine⟨by simp only[bef,h1,hl,zzn];omega,?_,?_⟩
  ·intro j hj;simp only[bef];rw[h2 j (by rw[hl];omega),List.getElem?_append_left hj]
  ·intro j hj;cases j with
   |zero =>
    refine⟨acc,by simp,?_,?_⟩
    ·intro i hi;simp only[bef];rw[h2 i (by rw[hl];omega),List.getElem?_append_left hi]
    ·simp only[bef,Nat.add_zero,List.getElem_cons_zero];rw[h2 acc.length (by rw[hl];omega),List.getElem?_append_right (zzt _)]
     simp
   |succ j =>
    obtain⟨acc',a1,a2,a3⟩:=h3 j (by simpa using hj)
    refine⟨acc',by rw[a1,hl];omega,a2,?_⟩
    rw[hl] at a3;simp only[bef,List.getElem_cons_succ];have e:acc.length+(j+1)=acc.length+1+j:=by omega
    rw[e];exact a3
theorem qqN {ops:List Oper} {S:Nat→Prop} (hS : ∀j (h:j<ops.length),S j→∀e∈ops[j].after.toList,Region.binds .any e=true→S e.on) :
  ∀(j:Nat) (h:j<ops.length),(∀e∈ops[j].after.toList,Region.binds .any e=true→S e.on)→∀i,((bef ops []).getD j 0).testBit i=true→S i:=by
 intro j;induction j using Nat.strongRecOn with
 |ind j ih =>
  intro hj hpre i hi;obtain⟨acc',a1,a2,a3⟩:=(qts ops []).2.2 j hj;simp only[List.length_nil,Nat.zero_add] at a1 a3;rw[List.getD,a3,Option.getD_some] at hi;obtain⟨e,e1,e2,e3⟩:=qpE _ _ _ hi;rcases e3 with rfl|e3
  ·exact hpre e e1 e2
  ·have hlt:e.on<acc'.length:=by
    rcases Nat.lt_or_ge e.on acc'.length with h|h
    ·exact h
    ·rw[List.getD,List.getElem?_eq_none h] at e3;simp at e3
   have e4:(bef ops []).getD e.on 0=acc'.getD e.on 0:=by rw[List.getD,List.getD,a2 _ hlt]
   rw[←e4] at e3;have hjl:e.on<j:=by omega
   exact ih e.on hjl (by omega) (hS e.on (by omega) (hpre e e1 e2)) i e3
section
variable {E : Env} {H H2 : Heap}
theorem qpg {fr fr':Fr} {r:Rand} (h : ∀t∈r.uses,fr.get t=fr'.get t):rd E fr r=rd E fr' r:=by
 cases r with
 |t n=>exact h n (by simp[Rand.uses])
 | _=>rfl
theorem qsH {fr fr':Fr} : ∀{rs:List Rand},(∀t∈qa4 rs,fr.get t=fr'.get t)→rs.map (rd E fr)=rs.map (rd E fr')
 | [],_=>rfl
 |r::rs,h=>by
  simp only[qa4,List.flatMap_cons,List.mem_append] at h;rw[zzu,zzu,qpg (fun t ht=>h t (.inl ht)),qsH (rs:=rs) (fun t ht=>h t (.inr ht))]
theorem qDl {fr fr':Fr} {r:Option Rand} (h : ∀t∈qiz r,fr.get t=fr'.get t):r.map (rd E fr)=r.map (rd E fr'):=by
 cases r with
 |none=>rfl
 |some r=>simp only[Option.map_some];rw[qpg h]
theorem qn4 {fr fr':Fr} {id:Nat} {x:IOp} (h : ∀t∈x.uses,fr.get t=fr'.get t):qaa E (rd E fr) H id x=qaa E (rd E fr') H id x∧x.okD (rd E fr)=x.okD (rd E fr')∧qam (rd E fr) x=qam (rd E fr') x∧qax (rd E fr) x=qax (rd E fr') x:=by
 have h1 : ∀r:Rand,(∀t∈r.uses,t∈x.uses)→rd E fr r=rd E fr' r:=fun r hr=>qpg fun t ht=>h t (hr t ht)
 have hL : ∀rs:List Rand,(∀t∈qa4 rs,t∈x.uses)→rs.map (rd E fr)=rs.map (rd E fr'):=fun rs hr=>qsH fun t ht=>h t (hr t ht)
 have hF : ∀rs:List Rand,(∀t∈qa4 rs,t∈x.uses)→(rs.flatMap fun x=>(rd E fr x).refs)=rs.flatMap fun x=>(rd E fr' x).refs:=fun rs hr=>by
  have e1 : ∀(ρ:Rand→PV),(rs.flatMap fun x=>(ρ x).refs)=(rs.map ρ).flatMap PV.refs:=fun ρ=>by rw[List.flatMap_map]
  rw[e1,e1,hL rs hr]
 have hO : ∀r:Option Rand,(∀t∈qiz r,t∈x.uses)→r.map (rd E fr)=r.map (rd E fr'):=fun r hr=>qDl fun t ht=>h t (hr t ht)
 cases x with
 |call m f args =>
  have e1:=hL args (fun t ht=>ht)
  have e2:=hF args (fun t ht=>ht)
  refine⟨?_,rfl,e2,rfl⟩;match m with
  | 0=>simp only[qaa,e1]
  | 1=>simp only[qaa,e1]
  |m+2=>simp only[qaa,e1]
 |callv x args =>
  have e1:=hL args (fun t ht=>by simp[IOp.uses,ht])
  have e2:=h1 x (fun t ht=>by simp[IOp.uses,ht])
  exact⟨by simp only[qaa,e1,e2],by simp only[IOp.okD,e1,e2],rfl,rfl⟩
 |invk tab x args =>
  have e1:=hL args (fun t ht=>by simp[IOp.uses,ht])
  have e2:=h1 x (fun t ht=>by simp[IOp.uses,ht])
  exact⟨by simp only[qaa,e1,e2],rfl,rfl,rfl⟩
 |bsl k z len parts =>
  have e1:parts.map (fun x=>(x.1,rd E fr x.2))=parts.map (fun x=>(x.1,rd E fr' x.2)):=by
   apply List.map_congr_left
   intro p hp;rw[h1 p.2 (fun t ht=>by simp only[IOp.uses,List.mem_flatMap];exact⟨p,hp,ht⟩)]
  have e2:(parts.flatMap fun x=>(rd E fr x.2).refs)=parts.flatMap fun x=>(rd E fr' x.2).refs:=by
   have e3 : ∀(ρ:Rand→PV),(parts.flatMap fun x=>(ρ x.2).refs)=(parts.map fun x=>(x.1,ρ x.2)).flatMap fun y=>y.2.refs:=fun ρ=>by rw[List.flatMap_map]
   rw[e3,e3,e1]
  refine⟨?_,rfl,e2,rfl⟩;simp only[qaa,e1]
 |agg z parts =>
  have:parts.map (fun x=>(x.1,x.2.1,rd E fr x.2.2))=parts.map (fun x=>(x.1,x.2.1,rd E fr' x.2.2)):=by
   apply List.map_congr_left
   intro p hp;rw[h1 p.2.2 (fun t ht=>by simp only[IOp.uses,List.mem_flatMap];exact⟨p,hp,ht⟩)]
  refine⟨?_,rfl,rfl,rfl⟩;simp only[qaa,this]
 |pick c a b=>refine⟨?_,rfl,rfl,rfl⟩;simp only[qaa];rw[h1 c (fun t ht=>by simp[IOp.uses,ht]),h1 a (fun t ht=>by simp[IOp.uses,ht]),h1 b (fun t ht=>by simp[IOp.uses,ht])]
 |mset _ c a b=>refine⟨?_,rfl,rfl,rfl⟩;simp only[qaa];rw[h1 c (fun t ht=>by simp[IOp.uses,ht]),h1 a (fun t ht=>by simp[IOp.uses,ht]),h1 b (fun t ht=>by simp[IOp.uses,ht])]
 |mov x|box _ x|load _ x|un _ x|conv _ x|faddr _ x|field _ _ x|len _ x|ext x _|nilck x|isnil _ _ x|mkif _ x|tas _ _ _ x|clr _ _ x|mlen x|rngS x|nxt x|sb x|bs x=>have e:=h1 x (fun t ht=>ht);exact⟨by simp only[qaa,e],rfl,by simp only[qam,e],rfl⟩
 |store _ x y|bin _ x y|eqv _ _ x y|eqb _ x y|iaddr _ x y|iaddrA _ _ x y|idxS x y|idxA _ _ x y|mksl _ _ _ x y|app _ _ x y|copy _ x y|mget _ _ _ x y|mdel _ x y|dfr x y =>
  have e:=h1 x (fun t ht=>by simp[IOp.uses,ht])
  have e':=h1 y (fun t ht=>by simp[IOp.uses,ht])
  exact⟨by simp only[qaa,e,e'],rfl,by simp only[qam,e,e'],by simp only[qax,e]⟩
 |slS x a b=>exact⟨by simp only[qaa];rw[h1 x (fun t ht=>by simp[IOp.uses,ht]),hO a (fun t ht=>by simp[IOp.uses,ht]),hO b (fun t ht=>by simp[IOp.uses,ht])],rfl,rfl,rfl⟩
 |sl k x a b c =>
  have e:=h1 x (fun t ht=>by simp[IOp.uses,ht])
  exact⟨by simp only[qaa];rw[e,hO a (fun t ht=>by simp[IOp.uses,ht]),hO b (fun t ht=>by simp[IOp.uses,ht]),hO c (fun t ht=>by simp[IOp.uses,ht])],rfl,by simp only[qam,e],rfl⟩
 |mkf _ cs|mkm _ cs|prim _ cs|minmax _ cs=>have e:=hL cs (fun t ht=>ht);exact⟨by simp only[qaa,e],rfl,rfl,rfl⟩
 |alloc _ _=>exact⟨rfl,rfl,rfl,rfl⟩
 |mkmap=>exact⟨rfl,rfl,rfl,rfl⟩
 |bad=>exact⟨rfl,rfl,rfl,rfl⟩
theorem qCS {fr fr':Fr} {id:Nat} {x:IOp} (h : ∀t∈x.uses,fr.get t=fr'.get t):qao E (rd E fr) H id x=qao E (rd E fr') H id x∧qam (rd E fr) x=qam (rd E fr') x∧qax (rd E fr) x=qax (rd E fr') x:=by
 obtain⟨e1,e2,e3,e4⟩:=qn4 (E:=E) (H:=H) (id:=id) h;exact⟨by unfold qao;rw[e1,e2],e3,e4⟩
theorem qt0 {v:PV} (h : ∀o∈v.refs,H2.obj o=H.obj o):qbV H2 v=qbV H v:=by
 cases v with
 |r o k off len t=>simp only[qbV];rw[h o (by simp[PV.refs])]
 | _=>rfl
theorem quA {v:PV} {x:DV} {os:List Nat} (h:qbV H v=some (x,os)) : ∀o∈os,o∈v.refs:=by
 unfold qbV at h;split at h
 ·cases h;exact fun o ho=>absurd ho (List.not_mem_nil)
 ·split at h
  ·split at h
   ·cases h;exact fun o ho=>by simpa[PV.refs] using ho
   ·cases h
  ·cases h
 ·cases h
theorem qvx : ∀{vs:List PV},(∀o∈PV.refsL vs,H2.obj o=H.obj o)→qf3 H2 vs=qf3 H vs
 | [],_=>rfl
 |v::vs,h=>by
  simp only[PV.refsL,List.mem_append] at h;simp only[qf3,qt0 (fun o ho=>h o (.inl ho)),qvx (fun o ho=>h o (.inr ho))]
theorem qun : ∀{vs:List PV} {xs:List DV} {os:List Nat},qf3 H vs=some (xs,os)→∀o∈os,o∈PV.refsL vs
 | [],_,_,h=>by cases h;exact fun o ho=>absurd ho (List.not_mem_nil)
 |v::vs,xs,os,h=>by
  simp only[qf3] at h;split at h
  ·rename_i h1 h2;cases h;intro o ho;simp only[PV.refsL,List.mem_append] at ho⊢;rcases ho with ho|ho
   ·exact .inl (quA h1 o ho)
   ·exact .inr (qun h2 o ho)
  ·cases h
theorem qkr {v:PV} (h : ∀o∈v.refs,H2.obj o=H.obj o):pur H2 v=pur H v:=by
 cases v with
 |a cs=>simp only[pur];rw[qvx (fun o ho=>h o (by simpa[PV.refs] using ho))]
 | _=>exact qt0 h
theorem qmo {v:PV} {x:DV} {os:List Nat} (h:pur H v=some (x,os)) : ∀o∈os,o∈v.refs:=by
 unfold pur at h;split at h
 ·split at h
  ·rename_i h1;cases h;intro o ho;simp only[PV.refs];exact qun h1 o ho
  ·cases h
 ·exact quA h
theorem qqJ : ∀{vs:List PV},(∀o∈vs.flatMap PV.refs,H2.obj o=H.obj o)→qbe H2 vs=qbe H vs
 | [],_=>rfl
 |v::vs,h=>by
  simp only[List.flatMap_cons,List.mem_append] at h;simp only[qbe,qkr (fun o ho=>h o (.inl ho)),qqJ (fun o ho=>h o (.inr ho))]
theorem qnI : ∀{vs:List PV} {xs:List DV} {os:List Nat},qbe H vs=some (xs,os)→∀o∈os,o∈vs.flatMap PV.refs
 | [],_,_,h=>by cases h;exact fun o ho=>absurd ho (List.not_mem_nil)
 |v::vs,xs,os,h=>by
  simp only[qbe] at h;split at h
  ·rename_i h1 h2;cases h;intro o ho;simp only[List.flatMap_cons,List.mem_append] at ho⊢;rcases ho with ho|ho
   ·exact .inl (qmo h1 o ho)
   ·exact .inr (qnI h2 o ho)
  ·cases h
theorem qr8 {k:K} : ∀{ps:List (Nat×PV)} {es:List DV},(∀o∈ps.flatMap (fun y=>y.2.refs),H2.obj o=H.obj o)→qci H2 k es ps=qci H k es ps
 | [],_,_=>rfl
 | (j,v)::ps,es,h=>by
  simp only[List.flatMap_cons,List.mem_append] at h;have e1:=qkr (H:=H) (H2:=H2) (v:=v) (fun o ho=>h o (.inl ho))
  unfold qci;rw[e1];have e2 : ∀es',qci H2 k es' ps=qci H k es' ps:=fun es'=>qr8 (fun o ho=>h o (.inr ho))
  simp only[e2]
theorem quR {k:K} : ∀{ps:List (Nat×PV)} {es xs:List DV} {os:List Nat},qci H k es ps=some (xs,os)→∀o∈os,o∈ps.flatMap (fun y=>y.2.refs)
 | [],_,_,_,h=>by
  simp only[qci,zzb,zzc] at h;obtain⟨-,rfl⟩:=h;exact fun o ho=>absurd ho (List.not_mem_nil)
 | (j,v)::ps,es,xs,os,h=>by
  unfold qci at h;split at h
  ·split at h
   ·rename_i h1;split at h
    ·rename_i h2;cases h;intro o ho;simp only[List.flatMap_cons,List.mem_append] at ho⊢;rcases ho with ho|ho
     ·exact .inl (qmo h1 o ho)
     ·exact .inr (quR h2 o ho)
    ·cases h
   ·cases h
  ·cases h
theorem qzV {k:K} {p:PV} (h : ∀o∈p.refs,H2.obj o=H.obj o):qcm H2 k p=qcm H k p:=by
 cases p with
 |p o i c=>simp only[qcm];rw[h o (by simp[PV.refs])]
 | _=>rfl
theorem qFB {k:K} {p:PV} {a b c:Option PV} (h : ∀o∈p.refs,H2.obj o=H.obj o):slA H2 k p a b c=slA H k p a b c:=by
 cases p with
 |r o k off len t=>simp only[slA];rw[h o (by simp[PV.refs])]
 |d v=>cases v<;>rfl
 | _=>rfl
theorem qBy {k:K} {p i:PV} (h : ∀o∈p.refs,H2.obj o=H.obj o):iaddr H2 k p i=iaddr H k p i:=by
 cases p with
 |r o k off len t=>simp only[iaddr];rw[h o (by simp[PV.refs])]
 |d v=>cases v<;>rfl
 | _=>rfl
theorem qyR {s:Bool} {p:PV} (h : ∀o∈p.refs,H2.obj o=H.obj o):qcJ H2 s p=qcJ H s p:=by
 cases p with
 |r o k off len t=>simp only[qcJ];rw[h o (by simp[PV.refs])]
 |d v=>cases v<;>rfl
 | _=>rfl
def qiR (ρ:Rand→PV) (x:IOp) (id:Nat) (F:Heap→Heap):Prop:=∃os:List Nat,(∀o∈os,o∈qam ρ x)∧((x.adds=false∧F=fun H=>frz H os)∨(∃y,x.adds=true∧F=fun H=>(frz H os).put id (some y))∨∃p y,p∈qax ρ x∧F=fun H=>(frz H os).put p (some y))
theorem qAj {k:K} {p v:PV} {H':Heap} (h:qcf H k p v=some H') : ∃o y os,o∈p.refs∧(∀o'∈os,o'∈v.refs)∧H'=(frz H os).put o (some y)∧∀H2,(∀o'∈p.refs++v.refs,H2.obj o'=H.obj o')→qcf H2 k p v=some ((frz H2 os).put o (some y)):=by
 cases p with
 |p o i c =>
  have hm:o∈(PV.p o i c).refs:=by simp[PV.refs]
  unfold qcf at h;simp only at h;split at h
  ·rename_i hfit;split at h
   ·rename_i kb w ho;split at h
    ·rename_i hi;split at h
     ·rename_i hck;cases h;exact⟨o,_,[],hm,fun _ h=>absurd h (List.not_mem_nil),rfl,fun H2 hT=>by simp only[qcf,hfit,if_true,hT o (by simp[PV.refs]),ho,hi,hck];rfl⟩
     ·rename_i hck;split at h
      ·rename_i hle;split at h
       ·rename_i w' hw';cases h;exact⟨o,_,[],hm,fun _ h=>absurd h (List.not_mem_nil),rfl,fun H2 hT=>by simp only[qcf,hfit,if_true,hT o (by simp[PV.refs]),ho,hi,hck,hle,hw'];rfl⟩
       ·cases h
      ·cases h
    ·cases h
   ·rename_i kb ro es ho;split at h
    ·rename_i e he;split at h
     ·rename_i hro;split at h
      ·rename_i x os hpur;have hos:=qmo hpur
       have hp2 : ∀H2:Heap,(∀o'∈(PV.p o i c).refs++v.refs,H2.obj o'=H.obj o')→pur H2 v=some (x,os):=fun H2 hT=>by rw[qkr (H:=H) (fun o' ho'=>hT o' (List.mem_append.2 (.inr ho')))];exact hpur
       split at h
       ·cases h
       ·rename_i hno;split at h
        ·rename_i hck;cases h;exact⟨o,_,os,hm,hos,rfl,fun H2 hT=>by simp only[qcf,hfit,if_true,hT o (by simp[PV.refs]),ho,he,hro,hp2 H2 hT,hno,hck];rfl⟩
        ·rename_i hck;split at h
         ·rename_i hle;split at h
          ·rename_i e' he';cases h;exact⟨o,_,os,hm,hos,rfl,fun H2 hT=>by simp only[qcf,hfit,if_true,hT o (by simp[PV.refs]),ho,he,hro,hp2 H2 hT,hno,hck,hle,he'];rfl⟩
          ·cases h
         ·cases h
      ·cases h
     ·cases h
    ·cases h
   ·cases h
  ·cases h
 | _=>simp[qcf] at h
theorem quD {ρ:Rand→PV} {id:Nat} {x:IOp} {v:PV} {H':Heap} (hk:x.okD ρ=true) (h:qao E ρ H id x=some (v,H')) : ∃F,qiR ρ x id F∧H'=F H∧∀H2,(∀o∈qam ρ x,H2.obj o=H.obj o)→qao E ρ H2 id x=some (v,F H2):=by
 unfold qao at h⊢;simp only[hk,if_true] at h⊢;have same:x.adds=false→(H'=H∧∀H2,(∀o∈qam ρ x,H2.obj o=H.obj o)→qaa E ρ H2 id x=some (v,H2))→∃F,qiR ρ x id F∧H'=F H∧∀H2,(∀o∈qam ρ x,H2.obj o=H.obj o)→qaa E ρ H2 id x=some (v,F H2):=by
  rintro ha ⟨rfl,h2⟩;exact⟨fun H=>frz H [],⟨[],fun _ h=>absurd h (List.not_mem_nil),.inl ⟨ha,rfl⟩⟩,rfl,h2⟩
 have key : ∀(z:Heap→Option PV),(∀H2,(∀o∈qam ρ x,H2.obj o=H.obj o)→z H2=z H)→opt (z H) H=some (v,H')→H'=H∧∀H2,(∀o∈qam ρ x,H2.obj o=H.obj o)→opt (z H2) H2=some (v,H2):=by
  intro z hz hq;unfold opt at hq;split at hq
  ·rename_i he;cases hq;exact⟨rfl,fun H2 hT=>by rw[hz H2 hT,he];rfl⟩
  ·cases hq
 have keyD : ∀(z:Option DV),qgb z H=some (v,H')→H'=H∧∀H2:Heap,(∀o∈qam ρ x,H2.obj o=H.obj o)→qgb z H2=some (v,H2):=by
  intro z hz;unfold qgb at hz⊢;split at hz
  ·cases hz;exact⟨rfl,fun _ _=>rfl⟩
  ·cases hz
 cases x with
 |mov x=>simp only[qaa] at h;cases h;exact same rfl ⟨rfl,fun _ _=>rfl⟩
 |mkf f cs=>simp only[qaa] at h;cases h;exact same rfl ⟨rfl,fun _ _=>rfl⟩
 |mkm f cs=>simp only[qaa] at h;cases h;exact same rfl ⟨rfl,fun _ _=>rfl⟩
 |bin op x y=>exact same rfl (keyD _ h)
 |un op x=>exact same rfl (keyD _ h)
 |faddr o x=>exact same rfl (key (fun _=>_) (fun _ _=>rfl) h)
 |field o k x=>exact same rfl (key (fun _=>_) (fun _ _=>rfl) h)
 |prim p as0=>exact same rfl (key (fun _=>_) (fun _ _=>rfl) h)
 |load k x=>exact same rfl (key (fun H=>qcm H k (ρ x)) (fun H2 hT=>qzV hT) h)
 |sl k x a b c=>exact same rfl (key (fun H=>slA H k (ρ x) (a.map ρ) (b.map ρ) (c.map ρ)) (fun H2 hT=>qFB hT) h)
 |iaddr k x i=>exact same rfl (key (fun H=>iaddr H k (ρ x) (ρ i)) (fun H2 hT=>qBy hT) h)
 |len s x =>
  simp only[qaa] at h⊢;split at h
  ·rename_i hq;cases h;exact same rfl ⟨rfl,fun H2 hT=>by simp only[qaa];rw[qyR hT,hq]⟩
  ·cases h
 |pick c a b =>
  simp only[qaa] at h;split at h
  ·rename_i hq;cases h;exact same rfl ⟨rfl,fun H2 _=>by simp only[qaa,hq]⟩
  ·rename_i hq;cases h;exact same rfl ⟨rfl,fun H2 _=>by simp only[qaa,hq]⟩
  ·cases h
 |agg z ps =>
  simp only[qaa] at h;split at h
  ·rename_i hq;cases h;exact same rfl ⟨rfl,fun H2 _=>by simp only[qaa,hq]⟩
  ·cases h
 |eqv n m x y =>
  simp only[qaa] at h;split at h
  ·rename_i hq;cases h;exact same rfl ⟨rfl,fun H2 _=>by simp only[qaa,hq]⟩
  ·cases h
 |eqb n x y =>
  simp only[qaa] at h;split at h
  ·rename_i hq1 hq2;cases h;exact same rfl ⟨rfl,fun H2 _=>by simp only[qaa,hq1,hq2]⟩
  ·cases h
 |isnil n kd x =>
  simp only[qaa] at h;split at h
  ·rename_i hq;cases h;exact same rfl ⟨rfl,fun H2 _=>by simp only[qaa,hq]⟩
  ·cases h
 |tas t z ok x =>
  simp only[qaa] at h;split at h
  ·rename_i hq;split at h
   ·rename_i ht;cases h;exact same rfl ⟨rfl,fun H2 _=>by simp only[qaa,hq,ht,if_true]⟩
   ·rename_i ht;split at h
    ·rename_i hok;cases h;exact same rfl ⟨rfl,fun H2 _=>by simp only[qaa,hq,ht,hok,if_true,if_false]⟩
    ·cases h
  ·rename_i hq;split at h
   ·rename_i ht;cases h;exact same rfl ⟨rfl,fun H2 _=>by simp only[qaa,hq,ht,if_true]⟩
   ·rename_i ht;split at h
    ·rename_i hok;cases h;exact same rfl ⟨rfl,fun H2 _=>by simp only[qaa,hq,ht,hok,if_true,if_false]⟩
    ·cases h
  ·rename_i hq;split at h
   ·rename_i hok;cases h;exact same rfl ⟨rfl,fun H2 _=>by simp only[qaa,hq,hok,if_true]⟩
   ·cases h
  ·cases h
 |conv k x =>
  simp only[qaa] at h;split at h
  ·rename_i hq;cases h;exact same rfl ⟨rfl,fun H2 _=>by simp only[qaa,hq]⟩
  ·cases h
 |nilck x =>
  simp only[qaa] at h;split at h
  ·rename_i hq;cases h;exact same rfl ⟨rfl,fun H2 _=>by simp only[qaa,hq]⟩
  ·rename_i hq;cases h;exact same rfl ⟨rfl,fun H2 _=>by simp only[qaa,hq]⟩
  ·rename_i hq;cases h;exact same rfl ⟨rfl,fun H2 _=>by simp only[qaa,hq]⟩
  ·cases h
 |ext x i =>
  simp only[qaa] at h;split at h
  ·rename_i hq;obtain⟨g1,g2⟩:=key (fun _=>_) (fun _ _=>rfl) h
   exact same rfl ⟨g1,fun H2 hT=>by simp only[qaa,hq];exact g2 H2 hT⟩
  ·cases h
 |slS x a b =>
  simp only[qaa] at h;split at h
  ·rename_i hq;split at h
   ·rename_i hq1;split at h
    ·rename_i hq2;cases h;exact same rfl ⟨rfl,fun H2 _=>by simp only[qaa,hq,hq1,hq2]⟩
    ·cases h
   ·cases h
  ·cases h
 |iaddrA n k x y =>
  simp only[qaa] at h;split at h
  ·rename_i hq;split at h
   ·rename_i hq1;obtain⟨g1,g2⟩:=key (fun _=>_) (fun _ _=>rfl) h
    exact same rfl ⟨g1,fun H2 hT=>by simp only[qaa,hq,hq1];exact g2 H2 hT⟩
   ·cases h
  ·cases h
 |idxA n k x y =>
  simp only[qaa] at h;split at h
  ·rename_i hq;split at h
   ·rename_i hq1;obtain⟨g1,g2⟩:=key (fun _=>_) (fun _ _=>rfl) h
    exact same rfl ⟨g1,fun H2 hT=>by simp only[qaa,hq,hq1];exact g2 H2 hT⟩
   ·cases h
  ·cases h
 |idxS x y =>
  simp only[qaa] at h;split at h
  ·rename_i hq1 hq2;split at h
   ·rename_i hq3;split at h
    ·rename_i hq4;cases h;exact same rfl ⟨rfl,fun H2 _=>by simp only[qaa,hq1,hq2,hq3,if_true,hq4]⟩
    ·cases h
   ·cases h
  ·cases h
 |minmax b as0 =>
  simp only[qaa] at h;split at h
  ·rename_i hq;obtain⟨g1,g2⟩:=key (fun _=>_) (fun _ _=>rfl) h
   exact same rfl ⟨g1,fun H2 hT=>by simp only[qaa,hq];exact g2 H2 hT⟩
  ·cases h
 |alloc k z =>
  simp only[qaa] at h;cases h;exact⟨fun H=>(frz H []).put id _,⟨[],fun _ h=>absurd h (List.not_mem_nil),.inr (.inl ⟨_,rfl,rfl⟩)⟩,rfl,fun _ _=>rfl⟩
 |box k x =>
  simp only[qaa] at h;split at h
  ·rename_i hc;cases h;exact⟨fun H=>(frz H []).put id _,⟨[],fun _ h=>absurd h (List.not_mem_nil),.inr (.inl ⟨_,rfl,rfl⟩)⟩,rfl,fun _ _=>by simp only[qaa,hc,if_true];rfl⟩
  ·cases h
 |mksl k b z x y =>
  simp only[qaa] at h;split at h
  ·rename_i hq1 hq2;split at h
   ·rename_i hc;cases h;exact⟨fun H=>(frz H []).put id _,⟨[],fun _ h=>absurd h (List.not_mem_nil),.inr (.inl ⟨_,rfl,rfl⟩)⟩,rfl,fun _ _=>by simp only[qaa,hq1,hq2,hc,and_self,if_true];rfl⟩
   ·cases h
  ·cases h
 |bsl k z n ps =>
  simp only[qaa] at h;split at h
  ·rename_i es os hq;cases h;have hfm:((ps.map fun x=>(x.1,ρ x.2)).flatMap fun y=>y.2.refs)=qam ρ (.bsl k z n ps):=by simp only[qam,List.flatMap_map]
   refine⟨fun H=>(frz H os).put id _,⟨os,fun o ho=>by rw[←hfm];exact quR hq o ho,.inr (.inl ⟨_,rfl,rfl⟩)⟩,rfl,fun H2 hT => ?_⟩
   simp only[qaa];rw[qr8 (H:=H) (fun o ho=>hT o (by rw[←hfm];exact ho)),hq]
  ·cases h
 |mkif t x =>
  simp only[qaa] at h;split at h
  ·rename_i y os hq;cases h;refine⟨fun H=>frz H os,⟨os,fun o ho=>qmo hq o ho,.inl ⟨rfl,rfl⟩⟩,rfl,fun H2 hT => ?_⟩
   simp only[qaa];rw[qkr (H:=H) hT,hq]
  ·rename_i hq;cases h;refine same rfl ⟨rfl,fun H2 hT => ?_⟩
   simp only[qaa];rw[qkr (H:=H) hT,hq]
 |store k x y =>
  simp only[qaa] at h;split at h
  ·rename_i H1 hst;simp only[zzb,zzc] at h;obtain⟨rfl,rfl⟩:=h;obtain⟨o,y',os,g1,g2,g3,g4⟩:=qAj hst;refine⟨fun H=>(frz H os).put o (some y'),⟨os,fun o' ho'=>List.mem_append.2 (.inr (g2 o' ho')),.inr (.inr ⟨o,y',g1,rfl⟩)⟩,g3,fun H2 hT => ?_⟩
   simp only[qaa];rw[g4 H2 hT]
  ·cases h
 |callv x as0 =>
  simp only[qaa] at h;split at h
  ·rename_i n caps hq;split at h
   ·rename_i ds hp;split at h
    ·rename_i hv;cases h;exact same rfl ⟨rfl,fun H2 _=>by simp only[qaa,hq,hp,hv]⟩
    ·cases h
   ·rename_i hp;exfalso
    simp only[IOp.okD,hq,zzf] at hk;rw[if_pos hk.1] at hp;rw[hp] at hk;simp at hk
  ·rename_i hq;simp[IOp.okD,hq] at hk
  ·rename_i hq;simp[IOp.okD,hq] at hk
  ·cases h
 |call m f args =>
  have hfm:(args.map ρ).flatMap PV.refs=qam ρ (.call m f args):=by simp only[qam,List.flatMap_map]
  match m with
  | 0 =>
   simp only[qaa] at h;split at h
   ·rename_i ds os hq;have hos : ∀o∈os,o∈qam ρ (.call 0 f args):=fun o ho=>by rw[←hfm];exact qnI hq o ho
    have hq2 : ∀H2:Heap,(∀o∈qam ρ (.call 0 f args),H2.obj o=H.obj o)→qbe H2 (args.map ρ)=some (ds,os):=fun H2 hT=>by rw[qqJ (H:=H) (fun o ho=>hT o (by rw[←hfm];exact ho))];exact hq
    split at h
    ·rename_i r own hv;simp only[zzb,zzc] at h;obtain⟨rfl,rfl⟩:=h;cases hc:(os.isEmpty||r.scal) with
     |true=>exact⟨fun H=>frz H [],⟨[],fun _ h=>absurd h (List.not_mem_nil),.inl ⟨rfl,rfl⟩⟩,by simp[frz],fun H2 hT=>by simp only[qaa,hq2 H2 hT,hv,hc,if_true];rfl⟩
     |false=>exact⟨fun H=>frz H os,⟨os,hos,.inl ⟨rfl,rfl⟩⟩,by simp,fun H2 hT=>by simp only[qaa,hq2 H2 hT,hv,hc];simp⟩
    ·cases h
   ·cases h
  | 1 =>
   simp only[qaa] at h;split at h
   ·rename_i ds os hq;have hos : ∀o∈os,o∈qam ρ (.call 1 f args):=fun o ho=>by rw[←hfm];exact qnI hq o ho
    have hq2 : ∀H2:Heap,(∀o∈qam ρ (.call 1 f args),H2.obj o=H.obj o)→qbe H2 (args.map ρ)=some (ds,os):=fun H2 hT=>by rw[qqJ (H:=H) (fun o ho=>hT o (by rw[←hfm];exact ho))];exact hq
    split at h
    ·rename_i k es t hv;simp only[zzb,zzc] at h;obtain⟨rfl,rfl⟩:=h;cases hc:os.isEmpty with
     |true=>exact⟨fun H=>(frz H []).put id (some (.sl k 0 es)),⟨[],fun _ h=>absurd h (List.not_mem_nil),.inr (.inl ⟨_,rfl,rfl⟩)⟩,by simp[frz],fun H2 hT=>by simp only[qaa,hq2 H2 hT,hv,hc,if_true];rfl⟩
     |false=>exact⟨fun H=>(frz H os).put id (some (.sl k 0 es)),⟨os,hos,.inr (.inl ⟨_,rfl,rfl⟩)⟩,by simp,fun H2 hT=>by simp only[qaa,hq2 H2 hT,hv,hc];simp⟩
    ·cases h
   ·cases h
  |m+2=>simp[IOp.okD] at hk
 | _=>simp[IOp.okD] at hk
theorem K.eq_of {k k':K} (h:K.eq k k'=true):k=k':=by
 cases k<;>cases k'<;>simp_all[K.eq]
mutual
theorem qmL : ∀(x y:DV),DV.same x y=true→x=y
 | .b x,y,h=>by cases y<;>simp_all[DV.same]
 | .i k n,y,h=>by cases y<;>simp_all[DV.same]
 | .s x,y,h=>by cases y<;>simp_all[DV.same]
 | .a cs,y,h=>by
  cases y with
  |a ds=>simp only[DV.same] at h;rw[qkB cs ds h]
  | _=>simp[DV.same] at h
 | .l k es t,y,h=>by
  cases y with
  |l k' fs t' =>
   simp only[DV.same,zzf] at h;rw[K.eq_of h.1.1,qkB es fs h.2,eq_of_beq h.1.2]
  | _=>simp[DV.same] at h
 | .np,y,h=>by cases y<;>simp_all[DV.same]
 | .nf,y,h=>by cases y<;>simp_all[DV.same]
 | .ni,y,h=>by cases y<;>simp_all[DV.same]
 | .nm,y,h=>by cases y<;>simp_all[DV.same]
 | .ifc t v,y,h=>by
  cases y with
  |ifc t' w =>
   simp only[DV.same,zzf] at h;rw[Nat.eq_of_beq_eq_true h.1,qmL v w h.2]
  | _=>simp[DV.same] at h
 | .tok n,y,h=>by
  cases y with
  |tok m=>simp only[DV.same] at h;rw[Nat.eq_of_beq_eq_true h]
  | _=>simp[DV.same] at h
theorem qkB : ∀(xs ys:List DV),DV.sameL xs ys=true→xs=ys
 | [],ys,h=>by cases ys<;>simp_all[DV.sameL]
 |x::xs,ys,h=>by
  cases ys with
  |nil=>simp[DV.sameL] at h
  |cons y ys =>
   simp only[DV.sameL,zzf] at h;rw[qmL x y h.1,qkB xs ys h.2]
end
mutual
theorem qqW : ∀(x y:PV),PV.same x y=true→x=y
 | .u,y,h=>by cases y<;>simp_all[PV.same]
 | .d v,y,h=>by
  cases y with
  |d v'=>simp only[PV.same] at h;rw[qmL v v' h]
  | _=>simp[PV.same] at h
 | .a cs,y,h=>by
  cases y with
  |a ds=>simp only[PV.same] at h;rw[qli cs ds h]
  | _=>simp[PV.same] at h
 | .t cs,y,h=>by
  cases y with
  |t ds=>simp only[PV.same] at h;rw[qli cs ds h]
  | _=>simp[PV.same] at h
 | .r o k off len tt,y,h=>by
  cases y with
  |r o' k' off' len' tt' =>
   simp only[PV.same,zzf] at h;rw[Nat.eq_of_beq_eq_true h.1.1.1.1,K.eq_of h.1.1.1.2,Nat.eq_of_beq_eq_true h.1.1.2,Nat.eq_of_beq_eq_true h.1.2,eq_of_beq h.2]
  | _=>simp[PV.same] at h
 | .p o i c,y,h=>by
  cases y with
  |p o' i' c' =>
   simp only[PV.same,zzf] at h;rw[Nat.eq_of_beq_eq_true h.1.1,Nat.eq_of_beq_eq_true h.1.2,Nat.eq_of_beq_eq_true h.2]
  | _=>simp[PV.same] at h
 | .q v k c,y,h=>by
  cases y with
  |q v' k' c' =>
   simp only[PV.same,zzf] at h;rw[qmL v v' h.1.1,K.eq_of h.1.2,Nat.eq_of_beq_eq_true h.2]
  | _=>simp[PV.same] at h
 | .f n cs,y,h=>by
  cases y with
  |f n' ds=>simp only[PV.same,zzf] at h;rw[Nat.eq_of_beq_eq_true h.1,qli cs ds h.2]
  | _=>simp[PV.same] at h
 | .h o,y,h=>by
  cases y with
  |h o'=>simp only[PV.same] at h;rw[Nat.eq_of_beq_eq_true h]
  | _=>simp[PV.same] at h
 | .g v,y,h=>by cases y<;>simp[PV.same] at h
 | .m n cs,y,h=>by
  cases y with
  |m n' ds=>simp only[PV.same,zzf] at h;rw[Nat.eq_of_beq_eq_true h.1,qli cs ds h.2]
  | _=>simp[PV.same] at h
 | .w n v,y,h=>by
  cases y with
  |w n' v'=>simp only[PV.same,zzf] at h;rw[Nat.eq_of_beq_eq_true h.1,qqW v v' h.2]
  | _=>simp[PV.same] at h
theorem qli : ∀(xs ys:List PV),PV.sameL xs ys=true→xs=ys
 | [],ys,h=>by cases ys<;>simp_all[PV.sameL]
 |x::xs,ys,h=>by
  cases ys with
  |nil=>simp[PV.sameL] at h
  |cons y ys =>
   simp only[PV.sameL,zzf] at h;rw[qqW x y h.1,qli xs ys h.2]
end
theorem qyP {x y:Option Obj} (h:qoW x y=true):x=y:=by
 unfold qoW at h;split at h
 ·rfl
 ·simp only[zzf] at h;rw[K.eq_of h.1,qqW _ _ h.2]
 ·simp only[zzf] at h;rw[K.eq_of h.1.1,Nat.eq_of_beq_eq_true h.1.2,qkB _ _ h.2]
 ·simp only[zzf] at h;rw[Nat.eq_of_beq_eq_true h.1,eq_of_beq h.2]
 ·rfl
 ·cases h
theorem qpR {H H':Heap} {o:Nat} : ∀{l:List Nat},o∈l→o∉qlm H H' l→H.obj o=H'.obj o
 | [],h,_=>absurd h (List.not_mem_nil)
 |p::r,h,hn=>by
  simp only[qlm] at hn;split at hn
  ·rename_i hb;rcases List.mem_cons.1 h with rfl|h
   ·exact qyP hb
   ·exact qpR h hn
  ·rcases List.mem_cons.1 h with rfl|h
   ·exact absurd (zzr ..) hn
   ·exact qpR h (fun hm=>hn (zzi _ hm))
theorem qr7 {ρ:Rand→PV} {id:Nat} {x:IOp} {v:PV} {H':Heap} (hk:x.okD ρ=false) (h:qao E ρ H id x=some (v,H')):qaa E ρ H id x=some (v,H')∧H'.length=H.length:=by
 unfold qao at h;rw[hk] at h;simp only[zzg,if_false] at h;split at h
 ·split at h
  ·rename_i he;split at h
   ·rename_i hl;cases h;exact⟨he,Nat.eq_of_beq_eq_true hl⟩
   ·cases h
  ·cases h
 ·cases h
theorem quu {H:Heap} {o:Nat} (h:H.length≤o):H.obj o=none:=by
 unfold Heap.obj;rw[List.getElem?_eq_none h]
theorem qAS {H H2:Heap} (hl:H2.length=H.length) (h : ∀o,o<H.length→H2.obj o=H.obj o):H2=H:=by
 apply List.ext_getElem hl
 intro o h1 h2
 have:=h o h2
 unfold Heap.obj at this;rw[zze h1,zze h2] at this;exact this
end
end Go.Sim
end
section
open Go.RowKit
namespace Go.Sim
def qcD (fr:Fr) (d:Option Nat) (v:PV):Fr:=match d with|some t=>fr.set t v|none=>fr
def gd (o:IOper) (fr:Fr):Option Bool:=match o.g with
 |none=>some true
 |some (t,want)=>match fr.get t with
  | .d (.b b)=>some (b==want)
  | .t []=>some false
  | _=>none
theorem qqA {E:Env} {o:IOper} {id:Nat} {s s':St} (h:stepD E o id s=some s') :
  (gd o s.fr=some true∧∃v H',qao E (rd E s.fr) s.H id o.op=some (v,H')∧s'=⟨qcD s.fr o.dst v,H'⟩)∨(gd o s.fr=some false∧s'=⟨qcD s.fr o.dst (.t []),s.H⟩):=by
 have hgo : ∀x,(match qao E (rd E s.fr) s.H id o.op with
   |some (v,H)=>some (⟨match o.dst with|some t=>s.fr.set t v|none=>s.fr,H⟩:St)
   |none=>none)=some x→∃v H',qao E (rd E s.fr) s.H id o.op=some (v,H')∧x=⟨qcD s.fr o.dst v,H'⟩:=by
  intro x hx;split at hx
  ·rename_i v H he;cases hx;exact⟨v,H,he,rfl⟩
  ·cases hx
 unfold stepD at h;unfold gd;simp only at h;split at h
 ·rename_i hg;rw[hg];exact .inl ⟨rfl,hgo _ h⟩
 ·rename_i t want hg;rw[hg];simp only;split at h
  ·rename_i b hb;simp only[hb];split at h
   ·rename_i hw;exact .inl ⟨by simp[hw],hgo _ h⟩
   ·rename_i hw;have:(b==want)=false:=by simpa using hw
    cases h;exact .inr ⟨by simp[this],rfl⟩
  ·rename_i hb;simp only[hb];cases h;exact .inr ⟨by simp,rfl⟩
  ·cases h
theorem qkG (fr:Fr) (d:Option Nat) (v:PV) (t:Nat):(qcD fr d v).get t=if d=some t then v else fr.get t:=by
 cases d with
 |none=>simp[qcD]
 |some d =>
  simp only[qcD,qfp,zzb];by_cases h:t=d
  ·subst h;simp
  ·rw[if_neg h,if_neg (fun e=>h e.symm)]
theorem qrr : ∀(L:List IOper) (i:Nat) (h:i<L.length),qap (L.take (i+1))=qap (L.take i)+(if L[i].op.adds then 1 else 0)
 | [],i,h=>absurd h (zzm _)
 |o::L,0,_=>by simp[qap]
 |o::L,i+1,h=>by
  have:=qrr L i (by simpa using h)
  simp only[List.take_succ_cons,qap,List.getElem_cons_succ] at this⊢;rw[this];omega
theorem qoV (L:List IOper) : ∀i,qap (L.take i)≤qap L:=by
 induction L with
 |nil=>intro i;simp[qap]
 |cons o L ih =>
  intro i;cases i with
  |zero=>simp[qap]
  |succ i=>simp only[List.take_succ_cons,qap];have:=ih i;omega
section
variable {α : Type} (w : Nat → Nat → Bool) (v : Nat → Nat → α) (z : Nat → α)
def GF (S:Nat→Bool):Nat→Nat→α
 | 0,t=>z t
 |j+1,t=>if S j&&w j t then v j t else GF S j t
variable {w v z}
theorem qgo {S S':Nat→Bool} {t:Nat} : ∀{m:Nat},(∀j,j<m→w j t=true→S j=S' j)→GF w v z S m t=GF w v z S' m t
 | 0,_=>rfl
 |m+1,h=>by
  simp only[GF];cases hw:w m t with
  |true=>rw[h m (Nat.lt_succ_self m) hw,qgo (fun j hj=>h j (Nat.lt_succ_of_lt hj))]
  |false =>
   simp only[Bool.and_false,zzg,if_false];exact qgo (fun j hj=>h j (Nat.lt_succ_of_lt hj))
theorem qq9 {t i:Nat} : ∀{m:Nat},i≤m→GF w v z (fun j=>decide (j<i)) m t=GF w v z (fun _=>true) i t
 | 0,h=>by
  have:i=0:=by omega
  subst this;rfl
 |m+1,h=>by
  by_cases hm:i=m+1
  ·subst hm;exact qgo (fun j hj _=>by simpa using hj)
  ·simp only[GF];have:decide (m<i)=false:=by simp;omega
   simp only[this,Bool.false_and,zzg,if_false];exact qq9 (by omega)
theorem qo5 {x:Nat→Nat→α} {n t:Nat} (h0:x 0 t=z t) (h1 : ∀i,i<n→w i t=true→v i t=x (i+1) t) (h2 : ∀i,i<n→w i t=false→x (i+1) t=x i t) : ∀i,i≤n→x i t=GF w v z (fun _=>true) i t
 | 0,_=>h0
 |i+1,hi=>by
  simp only[GF,Bool.true_and];cases hw:w i t with
  |true=>rw[if_pos rfl,h1 i (by omega) hw]
  |false =>
   rw[h2 i (by omega) hw]
   simp only[zzg,if_false];exact qo5 h0 h1 h2 i (by omega)
theorem qn7 {S:Nat→Bool} {i t:Nat} : ∀{m:Nat},i<m→S i=false→(∀j,i<j→j<m→w j t=true→w i t=true→S j=false) →
  GF w v z (fun j=>S j||j==i) m t=if w i t then v i t else GF w v z S m t
 | 0,h,_,_=>absurd h (zzm _)
 |m+1,h,hS,hlast=>by
  by_cases hm:i=m
  ·subst hm;simp only[GF,BEq.rfl,Bool.or_true,Bool.true_and];cases hw:w i t with
   |true=>rfl
   |false =>
    simp only[Bool.and_false,zzg,if_false];exact qgo (fun j hj _=>by
     have:(j==i)=false:=by simp;omega
     simp[this])
  ·have hlt:i<m:=by omega
   have hmi:(m==i)=false:=by simp;omega
   have ih:=qn7 (S:=S) (t:=t) hlt hS (fun j h1 h2 h3 h4=>hlast j h1 (by omega) h3 h4)
   simp only[GF,hmi,Bool.or_false];rw[ih];cases hw:w i t with
   |true =>
    rw[if_pos rfl,if_pos rfl];split
    ·rename_i hc;simp only[zzf] at hc
     have:=hlast m hlt (Nat.lt_succ_self m) hc.2 hw
     rw[this] at hc;simp at hc
    ·rfl
   |false=>simp
end
theorem qgg (H:Heap) (o p:Nat) (x:Option Obj):(H.put p x).obj o=if o=p∧p<H.length then x else H.obj o:=by
 by_cases hp:o=p
 ·subst hp;by_cases hl:o<H.length
  ·rw[if_pos ⟨rfl,hl⟩,qdT hl]
  ·rw[if_neg (fun h=>hl h.2)]
   have e1:(H.put o x).length=H.length:=qa0 _ _ _
   unfold Heap.obj;rw[List.getElem?_eq_none (by omega),List.getElem?_eq_none (by omega)]
 ·rw[if_neg (fun h=>hp h.1),qbb (fun h=>hp h.symm)]
theorem qy5 {os:List Nat} {o:Nat} (h:o∉os) (x:Option Obj):qg6 os o x=x:=by
 unfold qg6;split
 ·rw[if_neg (by simpa using h)]
 ·rfl
theorem qvf {ρ:Rand→PV} {x:IOp} {o:Nat} (h:o∈qax ρ x):o∈qam ρ x:=by
 cases x<;>simp_all[qax,qam]
section
variable {ρ : Rand → PV} {x : IOp} {id : Nat} {F : Heap → Heap} {H H2 : Heap} {o : Nat}
theorem qu5 (hF:qiR ρ x id F) (H:Heap):(F H).length=H.length:=by
 obtain⟨os,-,⟨-,rfl⟩|⟨y,-,rfl⟩|⟨p,y,-,rfl⟩⟩:=hF<;>simp[qa0,qcL]
theorem qvP (hF:qiR ρ x id F) (h1:o∉qam ρ x) (h2 : ¬(x.adds=true∧o=id)):(F H).obj o=H.obj o:=by
 obtain⟨os,h0,h⟩:=hF;have hf:(frz H os).obj o=H.obj o:=by rw[qfI];exact qy5 (fun h=>h1 (h0 o h)) _
 rcases h with ⟨-,rfl⟩|⟨y,ha,rfl⟩|⟨p,y,hp,rfl⟩
 ·exact hf
 ·simp only[qgg];rw[if_neg (fun h=>h2 ⟨ha,h.1⟩)];exact hf
 ·simp only[qgg];rw[if_neg (fun (h:o=p∧_)=>h1 (h.1▸qvf hp))];exact hf
theorem qvZ (hF:qiR ρ x id F) (hT : ∀o∈qam ρ x,H2.obj o=H.obj o) (hl:H2.length=H.length) (h1:o∈qam ρ x∨(x.adds=true∧o=id)):(F H2).obj o=(F H).obj o:=by
 obtain⟨os,h0,h⟩:=hF;have hf:o∈qam ρ x→(frz H2 os).obj o=(frz H os).obj o:=fun h=>by rw[qfI,qfI,hT o h]
 rcases h with ⟨ha,rfl⟩|⟨y,ha,rfl⟩|⟨p,y,hp,rfl⟩
 ·rcases h1 with h1|h1
  ·exact hf h1
  ·rw[ha] at h1;cases h1.1
 ·simp only[qgg,qcL,hl];by_cases hc:o=id∧id<H.length
  ·rw[if_pos hc,if_pos hc]
  ·rw[if_neg hc,if_neg hc];rcases h1 with h1|h1
   ·exact hf h1
   ·have hge:H.length≤o:=by
     rw[h1.2] at hc⊢;simpa using hc
    have hz : ∀G:Heap,G.length=H.length→G.obj o=none:=fun G hG=>by
     unfold Heap.obj;rw[List.getElem?_eq_none (by omega)]
    rw[hz _ (by rw[qcL,hl]),hz _ (qcL _ _)]
 ·simp only[qgg,qcL,hl];by_cases hc:o=p∧p<H.length
  ·rw[if_pos hc,if_pos hc]
  ·rw[if_neg hc,if_neg hc];rcases h1 with h1|h1
   ·exact hf h1
   ·exfalso
    cases x<;>simp[qax] at hp<;>simp[IOp.adds] at h1
theorem qCE (hF:qiR ρ x id F) (h1:o∉qax ρ x) (h2 : ¬(x.adds=true∧o=id)) (hr:qaK (H.obj o)=qaK ((F H).obj o)):(F H).obj o=H.obj o:=by
 obtain⟨os,h0,h⟩:=hF;have hf:(F H).obj o=qg6 os o (H.obj o):=by
  rw[←qfI];rcases h with ⟨-,rfl⟩|⟨y,ha,rfl⟩|⟨p,y,hp,rfl⟩
  ·rfl
  ·simp only[qgg];rw[if_neg (fun h=>h2 ⟨ha,h.1⟩)]
  ·simp only[qgg];rw[if_neg (fun (h:o=p∧_)=>h1 (h.1▸hp))]
 rw[hf] at hr⊢;cases ho:H.obj o with
 |none=>rfl
 |some x =>
  cases x with
  |sl k ro es =>
   rw[ho] at hr;simp only[qg6,qaK] at hr⊢;rw[←hr]
  | _=>rfl
end
theorem qqH {H H':Heap} {o:Nat} : ∀{l:List Nat},o∈l→o∉chg H H' l→qaK (H.obj o)=qaK (H'.obj o)
 | [],h,_=>absurd h (List.not_mem_nil)
 |p::r,h,hn=>by
  simp only[chg] at hn;split at hn
  ·rename_i hb;rcases List.mem_cons.1 h with rfl|h
   ·exact Nat.eq_of_beq_eq_true hb
   ·exact qqH h hn
  ·rcases List.mem_cons.1 h with rfl|h
   ·exact absurd (zzr ..) hn
   ·exact qqH h (fun hm=>hn (zzi _ hm))
theorem qqp {H H':Heap} {o:Nat} : ∀{l:List Nat},o∈chg H H' l→o∈l
 | [],h=>by cases h
 |p::r,h=>by
  simp only[chg] at h;split at h
  ·exact zzi _ (qqp h)
  ·rcases List.mem_cons.1 h with rfl|h
   ·exact zzr ..
   ·exact zzi _ (qqp h)
theorem qiZ {o:IOper} {fr:Fr} {b:Bool} (h:gd o fr=some b):qaB o fr=b:=by
 unfold gd at h;unfold qaB;cases hg:o.g with
 |none=>rw[hg] at h;simpa using h
 |some p =>
  obtain⟨t,want⟩:=p;rw[hg] at h;simp only at h⊢;split at h
  ·rename_i hb;rw[hb];simpa using h
  ·rename_i hb;rw[hb];simpa using h
  ·cases h
theorem qsD {a b:List Nat} (h:qaE a b=true) {o:Nat} (ha:o∈a):o∉b:=by
 have:=List.all_eq_true.1 h o ha
 simpa using this
def WW (E:Env) (L:List IOper) (id:Nat) (st:Nat→St) (k:Nat):List Nat:=writeS E (L.getD k default) (id+qap (L.take k)) (st k) (st (k+1))
def TT (E:Env) (L:List IOper) (id:Nat) (st:Nat→St) (k:Nat):List Nat:=WW E L id st k++touchS E (L.getD k default) (st k)
theorem quF {b:Nat} {t w:List Nat} : ∀{l:List (List Nat×List Nat)} {k:Nat},qat b k l t w=true→∀i (h:i<l.length),(qaE l[i].2 t=true∧qaE w l[i].1=true)∨b.testBit (k+i)=true
 | [],k,_,i,h=>absurd h (zzm _)
 |x::r,k,hp,i,h=>by
  simp only[qat,zzf,Bool.or_eq_true] at hp;cases i with
  |zero=>exact hp.1.symm
  |succ i =>
   have:=quF hp.2 i (by simpa using h)
   rw[show k+(i+1)=k+1+i by omega]
   exact this
theorem qrJ {E:Env} : ∀(L:List IOper) (bf:List Nat) (acc:List (List Nat×List Nat)) (id:Nat) (s s':St),qca E L bf acc id s=some s'→∃st:Nat→St,st 0=s∧st L.length=s'∧(∀i (h:i<L.length),stepD E L[i] (id+qap (L.take i)) (st i)=some (st (i+1))) ∧
  ∀j,j<L.length→qat (bf.getD j 0) 0 (acc++(List.range j).map fun k=>(TT E L id st k,WW E L id st k)) (TT E L id st j) (WW E L id st j)=true
 | [],bf,acc,id,s,s',h=>by cases h;exact⟨fun _=>s,rfl,rfl,fun i h=>absurd h (zzm _),fun i h=>absurd h (zzm _)⟩
 |o::L,bf,acc,id,s,s',h=>by
  simp only[qca] at h;split at h
  ·rename_i s1 h1;split at h
   ·rename_i hp;obtain⟨st,q1,q2,q3,q4⟩:=qrJ L _ _ _ s1 s' h;let st':Nat→St:=fun i=>match i with|0=>s|i+1=>st i
    have e : ∀i,id+qap (o::L.take i)=(if o.op.adds then id+1 else id)+qap (L.take i):=fun i=>by
     simp only[qap];split<;>omega
    have hW0:WW E (o::L) id st' 0=writeS E o id s s1:=by
     show writeS E o (id+qap []) s (st 0)=_
     rw[q1];rfl
    have hT0:TT E (o::L) id st' 0=writeS E o id s s1++touchS E o s:=by
     unfold TT;rw[hW0];rfl
    have hWs : ∀k,WW E (o::L) id st' (k+1)=WW E L (if o.op.adds then id+1 else id) st k:=fun k=>by
     show writeS E (L.getD k default) (id+qap (o::L.take k)) (st k) (st (k+1))=_
     rw[e];rfl
    have hTs : ∀k,TT E (o::L) id st' (k+1)=TT E L (if o.op.adds then id+1 else id) st k:=fun k=>by
     unfold TT;rw[hWs];rfl
    refine⟨st',rfl,q2,?_,?_⟩
    ·intro i hi;cases i with
     |zero=>simpa[qap,q1,st'] using h1
     |succ i =>
      have:=q3 i (by simpa using hi)
      simp only[List.getElem_cons_succ,List.take_succ_cons];rw[e];exact this
    ·intro j hj;cases j with
     |zero =>
      rw[hT0,hW0];simpa[List.headD_eq_head?_getD,List.getD,List.head?_eq_getElem?] using hp
     |succ j =>
      have:=q4 j (by simpa using hj)
      rw[hTs,hWs,List.range_succ_eq_map,zzu,List.map_map];have e2:(List.range j).map ((fun k=>(TT E (o::L) id st' k,WW E (o::L) id st' k))∘Nat.succ)=(List.range j).map fun k=>(TT E L (if o.op.adds then id+1 else id) st k,WW E L (if o.op.adds then id+1 else id) st k):=by
       apply List.map_congr_left
       intro k _;show (TT E (o::L) id st' (k+1),WW E (o::L) id st' (k+1))=_
       rw[hTs,hWs]
      rw[e2,hT0,hW0];have e3:bf.getD (j+1) 0=bf.tail.getD j 0:=by cases bf<;>rfl
      rw[e3];simpa[List.append_assoc] using this
   ·cases h
  ·cases h
section
variable (L : List IOper) (st : Nat → St) (id0 : Nat)
def qcd (i:Nat):Nat:=id0+qap (L.take i)
variable {L st id0} {E : Env}
theorem qlP (htr : ∀i (h:i<L.length),stepD E L[i] (id0+qap (L.take i)) (st i)=some (st (i+1))) {i:Nat} (hi:i<L.length):(st (i+1)).H.length=(st i).H.length∧∀o,o∉WW E L id0 st i→(st (i+1)).H.obj o=(st i).H.obj o:=by
 have hg:L.getD i default=L[i]:=by simp[List.getD,zze hi]
 have hs:=htr i hi
 rcases qqA hs with ⟨hgd,v,H',he,h⟩|⟨hgd,h⟩
 ·cases hk:L[i].op.okD (rd E (st i).fr) with
  |false =>
   obtain⟨-,hl⟩:=qr7 hk he;have hH:(st (i+1)).H=H':=by rw[h]
   refine⟨by rw[hH];exact hl,fun o ho => ?_⟩
   unfold WW writeS at ho;rw[hg,qiZ hgd] at ho;simp only[if_true,hk,zzg,if_false,List.mem_append,not_or] at ho;by_cases hm:o<(st i).H.length
   ·exact (qpR (List.mem_range.2 hm) ho.2).symm
   ·rw[quu (show (st (i+1)).H.length≤o by rw[hH,hl];omega),quu (show (st i).H.length≤o by omega)]
  |true =>
  obtain⟨F,hF,rfl,-⟩:=quD hk he;have hH:(st (i+1)).H=F (st i).H:=by rw[h]
  refine⟨by rw[hH];exact qu5 hF _,fun o ho => ?_⟩
  unfold WW writeS at ho;rw[hg,qiZ hgd] at ho;simp only[if_true,hk,List.mem_append,not_or] at ho;obtain⟨h1,h2,h3⟩:=ho;have h1' : ¬(L[i].op.adds=true∧o=id0+qap (L.take i)):=by
   rintro⟨a,b⟩;rw[if_pos a] at h1;exact h1 (by rw[b];exact List.mem_singleton.2 rfl)
  rw[hH] at h3⊢;by_cases hm:o∈qam (rd E (st i).fr) L[i].op
  ·exact qCE hF h2 h1' (qqH hm h3)
  ·exact qvP hF hm h1'
 ·have hH:(st (i+1)).H=(st i).H:=by rw[h]
  rw[hH];exact⟨rfl,fun _ _=>rfl⟩
theorem qvX (htr : ∀i (h:i<L.length),stepD E L[i] (id0+qap (L.take i)) (st i)=some (st (i+1))) : ∀i,i≤L.length→(st i).H.length=(st 0).H.length
 | 0,_=>rfl
 |i+1,hi=>((qlP htr (show i<L.length by omega)).1).trans (qvX htr i (by omega))
def wF (L:List IOper) (j t:Nat):Bool:=(L.getD j default).dst==some t
theorem qx1 (htr : ∀i (h:i<L.length),stepD E L[i] (id0+qap (L.take i)) (st i)=some (st (i+1))) {i:Nat} (hi:i<L.length) {t:Nat} (h:wF L i t=false):(st (i+1)).fr.get t=(st i).fr.get t:=by
 have hg:L.getD i default=L[i]:=by simp[List.getD,zze hi]
 have hd:L[i].dst≠some t:=by
  unfold wF at h;rw[hg] at h;simpa using h
 rcases qqA (htr i hi) with ⟨-,v,H',-,h⟩|⟨-,h⟩<;>rw[h,qkG,if_neg hd]
def TF (L:List IOper) (st:Nat→St) (S:Nat→Bool) (m t:Nat):PV:=GF (wF L) (fun j t=>(st (j+1)).fr.get t) (fun t=>(st 0).fr.get t) S m t
def HF (E:Env) (L:List IOper) (id0:Nat) (st:Nat→St) (S:Nat→Bool) (m o:Nat):Option Obj:=GF (fun j o=>(WW E L id0 st j).contains o) (fun j o=>(st (j+1)).H.obj o) (fun o=>(st 0).H.obj o) S m o
theorem qsn (htr : ∀i (h:i<L.length),stepD E L[i] (id0+qap (L.take i)) (st i)=some (st (i+1))) (t i:Nat) (hi:i≤L.length):(st i).fr.get t=TF L st (fun _=>true) i t :=
 qo5 (x:=fun i t=>(st i).fr.get t) (n:=L.length) rfl (fun _ _ _=>rfl) (fun _i hi hw=>qx1 htr hi hw) i hi
theorem qrD (htr : ∀i (h:i<L.length),stepD E L[i] (id0+qap (L.take i)) (st i)=some (st (i+1))) (o i:Nat) (hi:i≤L.length):(st i).H.obj o=HF E L id0 st (fun _=>true) i o :=
 qo5 (x:=fun i o=>(st i).H.obj o) (n:=L.length) rfl (fun _ _ _=>rfl) (fun i hi hw=>(qlP htr hi).2 o (by simpa using hw)) i hi
end
theorem qoK {p p':Nat→Bool} {i:Nat} : ∀{l:List Nat},(∀j∈l,p' j=true→p j=true)→i∈l→p i=true→p' i=false→l.countP p'<l.countP p
 | [],_,h,_,_=>(List.not_mem_nil h).elim
 |x::l,hle,hi,h1,h2=>by
  simp only[List.countP_cons];have hm:l.countP p'≤l.countP p:=List.countP_mono_left (fun j hj=>hle j (zzi _ hj))
  rcases List.mem_cons.1 hi with rfl|hi
  ·rw[h1,h2];simp;omega
  ·have:=qoK (fun j hj=>hle j (zzi _ hj)) hi h1 h2
   have hx:=hle x (zzr ..)
   cases hp:p' x with
   |true=>rw[hx hp];simp;omega
   |false=>cases p x<;>simp<;>omega
theorem qmE {x y:IOper} (h:qlo x y=true):(∀d,x.dst=some d→d∉y.uses∧y.dst≠some d)∧(∀d,y.dst=some d→d∉x.uses):=by
 unfold qlo at h;simp only[zzf] at h;obtain⟨h1,h2⟩:=h;refine⟨?_,?_⟩
 ·intro d hd;rw[hd] at h1;simpa using h1
 ·intro d hd;rw[hd] at h2;simpa using h2
theorem qnC {L:List IOper} {id0 i k:Nat} (hi:i<L.length) (ha:(L.getD i default).op.adds=true) (hk:i<k):qcd L id0 i<qcd L id0 k:=by
 have hg:L.getD i default=L[i]:=by simp[List.getD,zze hi]
 rw[hg] at ha;have h1:=qrr L i hi
 rw[if_pos ha] at h1;have h2:qap (L.take (i+1))≤qap (L.take k):=by
  have:L.take (i+1)=(L.take k).take (i+1):=by rw[List.take_take,Nat.min_eq_left hk]
  rw[this];exact qoV _ _
 unfold qcd;omega
end Go.Sim
end
section
open Go.RowKit
namespace Go.Sim
section
variable {P : Program} {N : Names} {C : Cx} {B base nt : Nat} {E : Env} {ro : Option Nat} {nf : Nat}
theorem qqB {ops:Array Oper} {o:Oper} {fr:Fr} {w:World} {S:qah} {β:Pl} {a:Act} (hf:FOK C w S β fr a) {x:IOp} {g:Option (Nat×Bool)} (hg:qfX ops o.guard=some g) {b:Bool} (h:gd ⟨o.dst,x,g⟩ fr=some b) :
  Region.wanted o (yielded ops a.tmps)=b:=by
 cases hgo:o.guard with
 |none =>
  rw[hgo] at hg;simp only[qfX,zzb] at hg;subst hg;simp only[gd,zzb] at h;simp[Region.wanted,hgo,h]
 |some gw =>
  obtain⟨j,want⟩:=gw;rw[hgo] at hg;simp only[qfX] at hg;obtain⟨t,ht,hg⟩:=zza.1 hg;cases hg;simp only[gd] at h;have hyt:=hf t
  have hy:yielded ops a.tmps j=match a.tmps[t]? with|some (.bool b)=>some b|_=>none:=by
   unfold yielded;rw[ht];rfl
  split at h
  ·rename_i b' hb;rw[hb] at hyt
   have:=qh2 hyt
   have hyb:yielded ops a.tmps j=some b':=by
    rw[hy];rw[Array.getD_eq_getD_getElem?] at this;cases hq:a.tmps[t]? with
    |none=>rw[hq] at this;cases this
    |some z=>rw[hq] at this;simp at this;subst this;rfl
   simp only[zzb] at h;rw[←h];simp only[Region.wanted,hgo,hyb];cases b'<;>cases want<;>rfl
  ·rename_i hb;rw[hb] at hyt;have hyb:yielded ops a.tmps j=none:=by
    rw[hy];rw[Array.getD_eq_getD_getElem?] at hyt;cases hq:a.tmps[t]? with
    |none=>rfl
    |some z =>
     rw[hq] at hyt;simp only[Option.getD_some] at hyt;cases hyt;rfl
   simp only[zzb] at h;rw[←h];simp only[Region.wanted,hgo,hyb];rfl
  ·cases h
theorem qse {o:IOper} {fr fr':Fr} (h : ∀t∈o.uses,fr.get t=fr'.get t):gd o fr=gd o fr':=by
 unfold gd;cases hg:o.g with
 |none=>rfl
 |some p =>
  obtain⟨t,want⟩:=p;simp only;rw[h t (by simp[IOper.uses,hg])]
theorem qCL (hO:OrOK P C N E) (hN:NOK P N C E.G) (hng:nt≤gh) {ops:Array Oper} (hnof : ∀o∈ops.toList,qb8 o.op=false) {L:List IOper} (hL:L=ops.toList.map (qar P N ops)) {st:Nat→St} {id0:Nat} {Q:Exit→Act→World→Prop} (hdst : ∀o∈ops.toList,∀d,o.dst=some d→d<nt)
  (hok:qig ops.toList L=true) (htr : ∀i (h:i<L.length),stepD E L[i] (id0+qap (L.take i)) (st i)=some (st (i+1)))
  (hpd : ∀j,j<L.length→qat ((bef ops.toList []).getD j 0) 0 ((List.range j).map fun k=>(TT E L id0 st k,WW E L id0 st k)) (TT E L id0 st j) (WW E L id0 st j)=true) (hR:id0+qap L≤(st 0).H.length) (hbase:base≤id0)
  {w0:World} {S0:qah} {β0:Pl} (hQ : ∀a' w' S' β',Inv P N C E B base nt (st L.length) a' w' S' β'→Ext B w0 S0 w' S'→Lb base β0 β'→Q .normal a' w') :
  ∀(fuel:Nat) (listed:Array Bool) (a:Act) (w:World) (S:qah) (β:Pl) (fr:Fr) (Hc:Heap),listed.size=L.length→(∀j (h:j<ops.toList.length),listed.getD j false=true→∀e∈ops.toList[j].after.toList,Region.binds .any e=true→listed.getD e.on false=true) →
   (List.range L.length).countP (fun j => !listed.getD j false)≤fuel→Inv P N C E B base nt ⟨fr,Hc⟩ a w S β→(∀t,fr.get t=TF L st (fun j=>listed.getD j false) L.length t)→(∀o,Hc.obj o=HF E L id0 st (fun j=>listed.getD j false) L.length o)→Hc.length=(st 0).H.length →
   (∀k,k<L.length→(L.getD k default).op.adds=true→listed.getD k false=false→β (qcd L id0 k) = .pend) →
   Ext B w0 S0 w S→Lb base β0 β→wpAnyIn (FR ro) nf P .any ops Q fuel listed a w:=by
 have hlen:L.length=ops.size:=by rw[hL];simp
 have hgetL : ∀i (h:i<L.length),L.getD i default=L[i]:=fun i h=>by simp[List.getD,zze h]
 have hchk : ∀j,j<L.length→(∀e∈(ops.toList.getD j default).after.toList,Region.binds .any e=true→e.on<j)∧∀i,i<j→((bef ops.toList []).getD j 0).testBit i=true∨qlo (L.getD i default) (L.getD j default)=true:=by
  intro j hj;simp only[qig,List.all_eq_true,List.mem_range,zzf,Bool.or_eq_true,Bool.not_eq_true',zzq,Array.length_toList] at hok;obtain⟨h1,h2⟩:=hok j (by omega)
  refine⟨fun e he hb=>(h1 e he).resolve_left (by simp[hb]),h2⟩
 have hchk2 : ∀j,j<L.length→∀i,i<j→((bef ops.toList []).getD j 0).testBit i=true∨((∀o,o∈WW E L id0 st i→o∉TT E L id0 st j)∧∀o,o∈WW E L id0 st j→o∉TT E L id0 st i):=by
  intro j hj i hi
  have:=quF (hpd j hj) i (by simpa using hi)
  simp only[List.getElem_map,List.getElem_range,Nat.zero_add] at this;rcases this with ⟨h1,h2⟩|h
  ·exact .inr ⟨fun o ho=>qsD h1 ho,fun o ho=>qsD h2 ho⟩
  ·exact .inl h
 have hWT : ∀i o,o∈WW E L id0 st i→o∈TT E L id0 st i:=fun i o h=>List.mem_append.2 (.inl h)
 have hopsget : ∀j (h:j<ops.toList.length),ops.toList.getD j default=ops.toList[j]:=fun j h=>by simp[List.getD,zze h]
 have hheap:=fun i hi=>qvX htr i hi
 have done : ∀(listed:Array Bool) (a:Act) (w:World) (S:qah) (β:Pl) (fr:Fr) (Hc:Heap),(∀j,j<L.length→listed.getD j false=true)→Inv P N C E B base nt ⟨fr,Hc⟩ a w S β→(∀t,fr.get t=TF L st (fun j=>listed.getD j false) L.length t)→(∀o,Hc.obj o=HF E L id0 st (fun j=>listed.getD j false) L.length o)→Hc.length=(st 0).H.length →
   Ext B w0 S0 w S→Lb base β0 β→Q .normal a w:=by
  intro listed a w S β fr Hc hall hI hfr hHc hHl he hlb;refine hQ a w S β ?_ he hlb;have hend : ∀o,Hc.obj o=(st L.length).H.obj o:=by
   intro o;rw[hHc o,qrD htr o L.length (zzt _)];exact qgo (fun j hj _=>hall j hj)
  have hlenE:(st L.length).H.length=Hc.length:=by rw[hHl];exact hheap L.length (zzt _)
  have eqf : ∀t,(st L.length).fr.get t=fr.get t:=by
   intro t;rw[qsn htr t L.length (zzt _),hfr t];exact qgo (fun j hj _=>(hall j hj).symm)
  refine⟨hI.swf,hI.gok,hI.hB,⟨?_,?_,?_,hI.hok.inj,?_,?_,hI.hok.spi⟩,?_,hI.size,hI.defers.frame (fun t _=>eqf t),hI.yok,by rw[hlenE];exact hI.base⟩
  ·intro o blk b k h;rw[←hend];exact hI.hok.live o blk b k h
  ·intro o h;rw[←hend];exact hI.hok.dead o h
  ·intro o h;rw[←hend];exact hI.hok.virt o h
  ·intro o h;rw[hlenE] at h;exact hI.hok.out o h
  ·intro o blk x h;rw[←hend];exact hI.hok.sp o blk x h
  ·intro t;rw[eqf];exact hI.fok t
 intro fuel;induction fuel with
 |zero =>
  intro listed a w S β fr Hc hsz hcl hcnt hI hfr hHc hHl hpend he hlb;have hall : ∀j,j<L.length→listed.getD j false=true:=by
   intro j hj;have h0:(List.range L.length).countP (fun j => !listed.getD j false)=0:=by omega
   rw[List.countP_eq_zero] at h0
   have:=h0 j (List.mem_range.2 hj)
   simpa using this
  refine⟨?_,done listed a w S β fr Hc hall hI hfr hHc hHl he hlb⟩;rw[List.eq_nil_iff_forall_not_mem];intro j hj;rw[mem_ready] at hj;obtain⟨h1,o,ho,-⟩:=hj;have hj':j<L.length:=by rw[hlen];exact (Array.getElem?_eq_some_iff.1 ho).1
  have h2:=hall j hj'
  have:listed.getD j true=listed.getD j false:=by
   simp[Array.getD_eq_getD_getElem?,Array.getElem?_eq_getElem (show j<listed.size by omega)]
  rw[this,h2] at h1;cases h1
 |succ fuel ih =>
  intro listed a w S β fr Hc hsz hcl hcnt hI hfr hHc hHl hpend he hlb;have hgd : ∀j,j<L.length→listed.getD j true=listed.getD j false:=fun j hj=>by
   simp[Array.getD_eq_getD_getElem?,Array.getElem?_eq_getElem (show j<listed.size by omega)]
  refine⟨?_,?_⟩
  ·intro hnil;refine done listed a w S β fr Hc ?_ hI hfr hHc hHl he hlb;intro j;induction j using Nat.strongRecOn with
   |ind j ihj =>
    intro hj;cases hl:listed.getD j false with
    |true=>rfl
    |false =>
     exfalso
     have hjo:j<ops.size:=by omega
     have:j∈Region.ready .any ops listed:=by
      rw[mem_ready];refine⟨by rw[hgd j hj];exact hl,ops[j],by simp[hjo],?_⟩
      intro e hem hb;have hlt:=(hchk j hj).1 e (by rw[hopsget j (by simpa using hjo)];simpa using hem) hb
      exact ihj e.on hlt (by omega)
     rw[hnil] at this;exact List.not_mem_nil this
  ·intro i hi;rw[mem_ready] at hi;obtain⟨hun,o,ho,hpre⟩:=hi;have hio:i<ops.size:=(Array.getElem?_eq_some_iff.1 ho).1
   have hiL:i<L.length:=by omega
   have hoi:ops.toList[i]'(by simpa using hio)=o:=by
    have:=(Array.getElem?_eq_some_iff.1 ho).2
    simpa using this
   rw[hgd i hiL] at hun;have hbefi : ∀k,((bef ops.toList []).getD i 0).testBit k=true→listed.getD k false=true :=
    qqN (S:=fun k=>listed.getD k false=true) hcl i (by simpa using hio) (fun e hem hb=>hpre e (by rw[hoi] at hem;simpa using hem) hb)
   have hafter : ∀j,j<L.length→((bef ops.toList []).getD j 0).testBit i=true→listed.getD j false=false:=by
    intro j hj hb;cases hl:listed.getD j false with
    |false=>rfl
    |true =>
     have:=qqN (S:=fun k=>listed.getD k false=true) hcl j (by simp;omega) (fun e hem hb'=>hcl j (by simp;omega) hl e hem hb') i hb
     rw[hun] at this;cases this
   have hgi:=hgetL i hiL
   have huse : ∀t∈(L.getD i default).uses,fr.get t=(st i).fr.get t:=by
    intro t ht;rw[hfr t,qsn htr t i (by omega)]
    refine Eq.trans ?_ (qq9 (show i≤L.length by omega))
    refine qgo ?_;intro j hj hd;have hd:(L.getD j default).dst=some t:=by simpa[wF] using hd
    rcases Nat.lt_trichotomy j i with h1|h1|h1
    ·have:listed.getD j false=true:=by
      rcases (hchk i hiL).2 j h1 with hb|hap
      ·exact hbefi j hb
      ·exact absurd ht ((qmE hap).1 t hd).1
     rw[this];simp[h1]
    ·subst h1;rw[hun];simp
    ·have:listed.getD j false=false:=by
      rcases (hchk j hj).2 i h1 with hb|hap
      ·exact hafter j hj hb
      ·exact absurd ht ((qmE hap).2 t hd)
     rw[this];simp;omega
   have hobj : ∀o'∈TT E L id0 st i,Hc.obj o'=(st i).H.obj o':=by
    intro o' ho';rw[hHc o',qrD htr o' i (by omega)]
    refine Eq.trans ?_ (qq9 (show i≤L.length by omega))
    refine qgo ?_;intro j hj hd;have hd:o'∈WW E L id0 st j:=by simpa using hd
    rcases Nat.lt_trichotomy j i with h1|h1|h1
    ·have:listed.getD j false=true:=by
      rcases hchk2 i hiL j h1 with hb|hap
      ·exact hbefi j hb
      ·exact absurd ho' (hap.1 o' hd)
     rw[this];simp[h1]
    ·subst h1;rw[hun];simp
    ·have:listed.getD j false=false:=by
      rcases hchk2 j hj i h1 with hb|hap
      ·exact hafter j hj hb
      ·exact absurd ho' (hap.2 o' hd)
     rw[this];simp;omega
   have hset : ∀j,(listed.setIfInBounds i true).getD j false=(listed.getD j false||j==i):=by
    intro j;by_cases hji:j=i
    ·subst hji;simp[Array.getD_eq_getD_getElem?,show j<listed.size by omega]
    ·rw[getD_set_ne false (fun e=>hji e.symm)]
     simp[hji]
   have hsz':(listed.setIfInBounds i true).size=L.length:=by simp[hsz]
   have hcl' : ∀j (h:j<ops.toList.length),(listed.setIfInBounds i true).getD j false=true→∀e∈ops.toList[j].after.toList,Region.binds .any e=true→(listed.setIfInBounds i true).getD e.on false=true:=by
    intro j hj hl e hem hb;rw[hset] at hl;rw[hset];by_cases hji:j=i
    ·subst hji;rw[hpre e (by rw[hoi] at hem;simpa using hem) hb];rfl
    ·have:listed.getD j false=true:=by simpa[hji] using hl
     rw[hcl j hj this e hem hb];rfl
   have hcnt':(List.range L.length).countP (fun j => !(listed.setIfInBounds i true).getD j false)≤fuel:=by
    have:=qoK (p:=fun j => !listed.getD j false) (p':=fun j => !(listed.setIfInBounds i true).getD j false) (i:=i) (l:=List.range L.length) (fun j _ h=>by
     simp only[hset] at h;simp only[Bool.not_eq_true',Bool.or_eq_false_iff] at h⊢;exact h.1) (List.mem_range.2 hiL) (by simp only[hun];rfl) (by simp only[hset];simp)
    omega
   have hfr2 : ∀v H',st (i+1)=⟨qcD (st i).fr (L.getD i default).dst v,H'⟩→∀t,(qcD fr (L.getD i default).dst v).get t=TF L st (fun j=>(listed.setIfInBounds i true).getD j false) L.length t:=by
    intro v H' hs t;have e1:TF L st (fun j=>(listed.setIfInBounds i true).getD j false) L.length t=TF L st (fun j=>listed.getD j false||j==i) L.length t:=qgo (fun j _ _=>hset j)
    rw[e1];unfold TF;rw[qn7 hiL hun,qkG]
    ·cases hw:wF L i t with
     |true =>
      have hd:(L.getD i default).dst=some t:=by simpa[wF] using hw
      rw[if_pos hd,if_pos rfl,hs,hd];simp only[qkG,if_true]
     |false =>
      have hd:(L.getD i default).dst≠some t:=by simpa[wF] using hw
      rw[if_neg hd];simp only[zzg,if_false];exact hfr t
    ·intro j h1 h2 h3 h4;have h3:(L.getD j default).dst=some t:=by simpa[wF] using h3
     have h4:(L.getD i default).dst=some t:=by simpa[wF] using h4
     rcases (hchk j h2).2 i h1 with hb|hap
     ·exact hafter j h2 hb
     ·exact absurd h3 ((qmE hap).1 t h4).2
   have hH2 : ∀Hn:Heap,(∀o',o'∈WW E L id0 st i→Hn.obj o'=(st (i+1)).H.obj o')→(∀o',o'∉WW E L id0 st i→Hn.obj o'=Hc.obj o')→∀o',Hn.obj o'=HF E L id0 st (fun j=>(listed.setIfInBounds i true).getD j false) L.length o':=by
    intro Hn hin hout o';have e1:HF E L id0 st (fun j=>(listed.setIfInBounds i true).getD j false) L.length o'=HF E L id0 st (fun j=>listed.getD j false||j==i) L.length o':=qgo (fun j _ _=>hset j)
    rw[e1];unfold HF;rw[qn7 hiL hun]
    ·by_cases hm:o'∈WW E L id0 st i
     ·rw[if_pos (by simpa using hm),hin o' hm]
     ·rw[if_neg (by simpa using hm),hout o' hm]
      exact hHc o'
    ·intro j h1 h2 h3 h4;have h3:o'∈WW E L id0 st j:=by simpa using h3
     have h4:o'∈WW E L id0 st i:=by simpa using h4
     rcases hchk2 j h2 i h1 with hb|hap
     ·exact hafter j h2 hb
     ·exact absurd (hWT j o' h3) (hap.1 o' h4)
   have hstep:=htr i hiL
   rw[←hgi] at hstep;have hdf:qb8 o.op=false:=hnof o (by rw[←hoi];simp)
   have hnd : ∀c,o.op≠.defer c:=fun c h=>by rw[h] at hdf;cases hdf
   obtain⟨yb,hyb,hyok⟩:=hI.yok;have hdo:(L.getD i default).dst=o.dst:=by
    rw[hgi];simp only[hL,List.getElem_map,hoi];exact qoG _ _ hdf
   have hdig:(∃x g,qaG P N o=some x∧qfX ops o.guard=some g∧L.getD i default=⟨o.dst,x,g⟩)∨L.getD i default=⟨o.dst,.bad,none⟩:=by
    have:L.getD i default=qar P N ops o:=by
     rw[hgi];simp only[hL,List.getElem_map,hoi]
    rw[this];unfold qar;split
    ·exact .inl ⟨_,_,by assumption,by assumption,by simp[hdf]⟩
    ·exact .inr rfl
   have hoN:o.dst=none∨∃d,o.dst=some d∧d<nt:=by
    cases hd:o.dst with
    |none=>exact .inl rfl
    |some d=>exact .inr ⟨d,rfl,hdst o (by rw[←hoi];simp) d hd⟩
   have hinv : ∀{v:PV} {H':Heap} {u:Value} {w':World} {S':qah} {β':Pl},Ext B w S w' S'→Swf w' S'→HOK C B w' S' β' H'→Later β β'→RelV C w' S' β' v u→Hc.length≤H'.length→Lb base β β' →
     Inv P N C E B base nt ⟨qcD fr o.dst v,H'⟩ (a.put o.dst u) w' S' β':=by
    intro v H' u w' S' β' e1 e2 e3 e4 e5 e6 e7;refine⟨e2,hI.gok.ext e1,Nat.le_trans hI.hB e1.below.size,e3,?_,?_,?_,⟨yb,hyb,hyok.later e1 (e7.mono hyb)⟩,Nat.le_trans hI.base e6⟩
    ·rcases hoN with hd|⟨d,hd,hdn⟩
     ·rw[hd];exact hI.fok.ext e1 e4
     ·rw[hd];exact (hI.fok.ext e1 e4).put (by rw[hI.size];exact hdn) e5
    ·cases hd:o.dst with
     |none=>exact hI.size
     |some d=>simp[Act.put,hI.size]
    ·rcases hoN with hd|⟨d,hd,hdn⟩
     ·rw[hd];exact hI.defers.ext e1 e4
     ·rw[hd];refine (hI.defers.ext e1 e4).frame fun t ht => ?_
      have hlt:=Nat.lt_of_lt_of_le hdn (Nat.le_trans hng ht)
      show (fr.set d v).get t=_
      rw[qfp,if_neg (fun h=>Nat.lt_irrefl _ (h▸hlt))]
   rcases hdig with ⟨x,g,hx,hg,hLi⟩|hbad
   ·unfold wpOpIn;rw[ho];simp only;rcases qqA hstep with ⟨hgt,v,H',hev,hst'⟩|⟨hgf,hst'⟩
    ·
     have hgfr:gd (L.getD i default) fr=some true:=by rw[qse huse];exact hgt
     rw[hLi] at hgfr;have hw:=qqB (ops:=ops) (o:=o) hI.fok hg hgfr
     rw[if_pos hw];obtain⟨c1,c2,c3⟩:=qCS (E:=E) (H:=Hc) (fr:=fr) (fr':=(st i).fr) (id:=qcd L id0 i) (x:=(L.getD i default).op) (fun t ht=>huse t (List.mem_append.2 (.inl ht)))
     have hlenc:Hc.length=(st i).H.length:=by rw[hHl];exact (hheap i (by omega)).symm
     have hadd1:(L.getD i default).op.adds=true→β (qcd L id0 i) = .pend∧qcd L id0 i<Hc.length:=by
      intro ha;refine⟨hpend i hiL ha hun,?_⟩
      have:=qnC (id0:=id0) hiL ha (Nat.lt_add_one i)
      have h2:qcd L id0 (i+1)≤id0+qap L:=by unfold qcd;have:=qoV L (i+1);omega
      omega
     obtain⟨Hn,hev1,hin,hout,hFl⟩ : ∃Hn:Heap,qaa E (rd E fr) Hc (qcd L id0 i) (L.getD i default).op=some (v,Hn)∧(∀o',o'∈WW E L id0 st i→Hn.obj o'=(st (i+1)).H.obj o')∧(∀o',o'∉WW E L id0 st i→Hn.obj o'=Hc.obj o')∧Hn.length=Hc.length:=by
      cases hk:(L.getD i default).op.okD (rd E (st i).fr) with
      |false =>
       obtain⟨he1,he2⟩:=qr7 hk hev;have hHc2:Hc=(st i).H:=by
        refine qAS hlenc fun o' ho'=>hobj o' (List.mem_append.2 (.inr ?_))
        unfold touchS;rw[qiZ hgt,hk];exact List.mem_range.2 ho'
       subst hHc2;refine⟨H',by rw[(qn4 (E:=E) (fr:=fr) (fr':=(st i).fr) (id:=qcd L id0 i) (x:=(L.getD i default).op) (fun t ht=>huse t (List.mem_append.2 (.inl ht)))).1];exact he1,fun o' _=>by rw[hst'],fun o' ho' => ?_,he2⟩
       rw[←(qlP htr hiL).2 o' ho',hst']
      |true =>
       obtain⟨F,hF,hHF,hloc⟩:=quD hk hev;have hfoot : ∀o'∈qam (rd E (st i).fr) (L.getD i default).op,Hc.obj o'=(st i).H.obj o':=by
        intro o' ho';refine hobj o' (List.mem_append.2 (.inr ?_));unfold touchS;rw[qiZ hgt,hk];exact ho'
       have hev1:qao E (rd E fr) Hc (qcd L id0 i) (L.getD i default).op=some (v,F Hc):=by
        rw[c1];exact hloc Hc hfoot
       have hWi:WW E L id0 st i=(if (L.getD i default).op.adds then [qcd L id0 i] else [])++(qax (rd E (st i).fr) (L.getD i default).op++chg (st i).H (st (i+1)).H (qam (rd E (st i).fr) (L.getD i default).op)):=by
        unfold WW writeS;rw[qiZ hgt,hk];rfl
       refine⟨F Hc,?_,?_,?_,qu5 hF Hc⟩
       ·have hkc:(L.getD i default).op.okD (rd E fr)=true:=by
         rw[(qn4 (E:=E) (H:=Hc) (fr:=fr) (fr':=(st i).fr) (id:=qcd L id0 i) (x:=(L.getD i default).op) (fun t ht=>huse t (List.mem_append.2 (.inl ht)))).2.1];exact hk
        unfold qao at hev1;rw[if_pos hkc] at hev1;exact hev1
       ·intro o' ho';rw[hst',hHF];refine qvZ hF hfoot hlenc ?_;rw[hWi] at ho';rcases List.mem_append.1 ho' with h|h
        ·split at h
         ·rename_i ha;exact .inr ⟨ha,List.mem_singleton.1 h⟩
         ·cases h
        ·rcases List.mem_append.1 h with h|h
         ·exact .inl (qvf h)
         ·exact .inl (qqp h)
       ·intro o' ho';have hno : ¬((L.getD i default).op.adds=true∧o'=qcd L id0 i):=by
         rintro⟨ha,hb⟩;rw[hWi,if_pos ha] at ho';exact ho' (List.mem_append.2 (.inl (by rw[hb];exact List.mem_singleton.2 rfl)))
        by_cases hm:o'∈qam (rd E (st i).fr) (L.getD i default).op
        ·rw[hfoot o' hm,←(qlP htr hiL).2 o' ho',hst',hHF];exact qvZ hF hfoot hlenc (.inl hm)
        ·exact qvP hF hm hno
     have hev2:qaa E (rd E fr) Hc (if x.adds then qcd L id0 i else Hc.length) x=some (v,Hn):=by
      have h3:=hev1
      rw[hLi] at h3;cases ha:x.adds with
      |true=>exact h3
      |false=>rw[←h3];exact qmf ha _ _
     have hadd2:x.adds=(L.getD i default).op.adds:=by rw[hLi]
     refine qnJ hO hN hI.gok hI.swf hI.hB hI.hok hI.fok hnd hyok (Nat.le_trans hyb hI.base) hx ?_ hev2 ?_
     ·intro ha;rw[if_pos ha];exact hadd1 (hadd2▸ha)
     ·intro u w' S' β' e1 e2 e3 e4 e5 e6 e7;have hlb1:Lb base β β':=by
       intro o' ho';have hb:base≤Hc.length:=hI.base
       refine⟨e4 o',fun hp=>e7 o' (Nat.lt_of_lt_of_le ho' hb) ?_ hp⟩
       split
       ·unfold qcd;omega
       ·omega
      refine ih (listed.setIfInBounds i true) (a.put o.dst u) w' S' β' (qcD fr o.dst v) Hn hsz' hcl' hcnt' (hinv e1 e2 e3 e4 e5 e6 hlb1) ?_ (hH2 _ hin hout) (hFl.trans hHl) ?_ (he.trans e1) (hlb.trans hlb1)
      ·rw[←hdo];exact hfr2 v H' hst'
      ·intro k hk hka hkl;rw[hset] at hkl;simp only[Bool.or_eq_false_iff,beq_eq_false_iff_ne] at hkl;have h1:=hpend k hk hka hkl.1
       have h2:qcd L id0 k<Hc.length:=by
        have:=qnC (id0:=id0) hk hka (Nat.lt_add_one k)
        have h2:qcd L id0 (k+1)≤id0+qap L:=by unfold qcd;have:=qoV L (k+1);omega
        omega
       refine e7 _ h2 ?_ h1;split
       ·rename_i ha;rw[hadd2] at ha;rcases Nat.lt_or_gt_of_ne hkl.2 with hlt|hgt
        ·have:=qnC (id0:=id0) hk hka hlt;omega
        ·have:=qnC (id0:=id0) hiL ha hgt;omega
       ·omega
    ·
     have hgfr:gd (L.getD i default) fr=some false:=by rw[qse huse];exact hgf
     rw[hLi] at hgfr;have hw:=qqB (ops:=ops) (o:=o) hI.fok hg hgfr
     rw[hw];simp only[zzg,if_false];refine⟨fun _ _=>trivial,?_⟩
     have hW0:WW E L id0 st i=[]:=by
      unfold WW writeS;rw[qiZ hgf];rfl
     refine ih (listed.setIfInBounds i true) (a.put o.dst undef) w S β (qcD fr o.dst (.t [])) Hc hsz' hcl' hcnt' (hinv (Ext.refl _ _ _) hI.swf hI.hok (Later.refl _) (.t [] [] rfl (fun j h=>absurd h (zzm _))) (zzt _) (Lb.refl _ _)) ?_ (hH2 _ (fun o' ho'=>by rw[hW0] at ho';cases ho') (fun _ _=>rfl)) hHl ?_ he hlb
     ·rw[←hdo];exact hfr2 _ _ hst'
     ·intro k hk hka hkl;rw[hset] at hkl;simp only[Bool.or_eq_false_iff] at hkl;exact hpend k hk hka hkl.1
   ·exfalso
    rw[hbad] at hstep;simp[stepD,qao,IOp.okD,IOp.barr] at hstep
theorem qm6 (H:Heap) (n o:Nat):Heap.obj (H++List.replicate n none) o=H.obj o:=by
 rcases Nat.lt_or_ge o H.length with h|h
 ·unfold Heap.obj;rw[List.getElem?_append_left h]
 ·unfold Heap.obj;rw[List.getElem?_append_right h,List.getElem?_replicate,List.getElem?_eq_none h];by_cases hc:o-H.length<n
  ·rw[if_pos hc]
  ·rw[if_neg hc]
theorem qwH (hO:OrOK P C N E) (hN:NOK P N C E.G) (hng:nt≤gh) {id:Nat} {ops:Array Oper} {s s':St} {a:Act} {w:World} {S:qah} {β:Pl} {Q:Exit→Act→World→Prop} (hnof : ∀o∈ops.toList,qb8 o.op=false) (hdst : ∀o∈ops.toList,∀d,o.dst=some d→d<nt)
  (hok:qig ops.toList (ops.toList.map (qar P N ops))=true) (he:qca E (ops.toList.map (qar P N ops)) (bef ops.toList []) [] s.H.length ⟨s.fr,s.H++List.replicate (qap (ops.toList.map (qar P N ops))) none⟩=some s') (hI:Inv P N C E B base nt s a w S β)
  (hQ : ∀a' w' S' β',Inv P N C E B base nt s' a' w' S' β'→Ext B w S w' S'→Lb base β β'→Q .normal a' w'):(Code.region id ops true).wpIn (FR ro) nf P Q a w:=by
 refine wpIn_region_any hN.mixed ?_;obtain⟨st,h0,h1,h2,h3⟩:=qrJ _ _ _ _ _ _ he;have hd:(w.drew:World)={ w with drawn:=w.drawn+1 }:=rfl
 rw[←hd];have hlen0:(st 0).H.length=s.H.length+qap (ops.toList.map (qar P N ops)):=by rw[h0];simp
 have hno : ∀j,(Array.replicate ops.size false).getD j false=false:=fun j=>by
  simp[Array.getD_eq_getD_getElem?,Array.getElem?_replicate];split<;>rfl
 have hz : ∀{α:Type} (w:Nat→Nat→Bool) (v:Nat→Nat→α) (z:Nat→α) (m t:Nat),GF w v z (fun j=>(Array.replicate ops.size false).getD j false) m t=z t:=by
  intro α w v z m t;induction m with
  |zero=>rfl
  |succ m ih =>
   show (if (Array.replicate ops.size false).getD m false&&w m t then _ else _)=_
   rw[hno m];exact ih
 obtain⟨yb,hyb,hyok⟩:=hI.yok;have hg:=qkJ hI.hok (qap (ops.toList.map (qar P N ops)))
 refine qCL (B:=B) (base:=base) (nt:=nt) (st:=st) (id0:=s.H.length) (w0:=w) (S0:=S) (β0:=β) hO hN hng hnof rfl hdst hok h2 (by simpa using h3) ?_ hI.base ?_ ops.size (Array.replicate ops.size false) a w.drew S β s.fr (s.H++List.replicate (qap (ops.toList.map (qar P N ops))) none) (by simp) ?_ ?_ ?_ ?_ ?_ ?_ ?_ (drew_ext (B:=B)) (Lb.refl _ _)
 ·rw[hlen0];exact zzt _
 ·intro a' w' S' β' hI' e1 e2;rw[h1] at hI';exact hQ a' w' S' β' hI' e1 e2
 ·intro j hj hl;rw[hno] at hl;cases hl
 ·refine Nat.le_trans (List.countP_le_length) ?_;simp
 ·refine⟨hI.swf.ext (drew_ext (B:=B)),hI.gok.ext (drew_ext (B:=B)),hI.hB,hg.drew,hI.fok.ext (drew_ext (B:=B)) (Later.refl _),hI.size,hI.defers.ext (drew_ext (B:=B)) (Later.refl _),⟨yb,hyb,hyok.later (drew_ext (B:=B)) (Lb.refl _ _)⟩,?_⟩
  have:=hI.base
  simp only[zzp];omega
 ·intro t;unfold TF;rw[hz,h0]
 ·intro o;unfold HF;rw[hz,h0]
 ·rw[h0]
 ·intro k hk _ _;refine hI.hok.out _ ?_;unfold qcd;omega
end
end Go.Sim
end
section
open Go.RowKit
namespace Go.Sim
theorem qt7 {E:Env} {fr:Fr} : ∀{ps:List (Nat×K×Rand)} {qs:List (Nat×K×PV)},qlW ps=some qs→ps.map (fun x=>(x.1,x.2.1,rd E fr x.2.2))=qs
 | [],qs,h=>by cases h;rfl
 | (c,k,.c v)::r,qs,h=>by
  simp only[qlW,Option.map_eq_some_iff] at h;obtain⟨l,h1,rfl⟩:=h;rw[zzu,qt7 h1];rfl
 | (_,_,.t _)::_,_,h=>by cases h
 | (_,_,.g _)::_,_,h=>by cases h
 | (_,_,.f _)::_,_,h=>by cases h
theorem qyB {E:Env} {fr:Fr} {H:Heap} {id:Nat} {x:IOp} {k:DV} (h:qht x=some k):qaa E (rd E fr) H id x=some (.d k,H):=by
 unfold qht at h;split at h
 ·rename_i z ps;split at h
  ·rename_i qs hq;split at h
   ·rename_i cs hcs;split at h
    ·rename_i k' hk;simp only[zzb] at h;subst h;simp only[qaa,qt7 hq,hcs,hk]
    ·cases h
   ·cases h
  ·cases h
 ·cases h
def qh4 (id0:Nat) (o:IOper):PV:=match qht o.op with|some k=>.d k|none=>.h id0
theorem qsf {α:Type} {e:Nat→Option α} {S:Nat→Bool} {i:Nat} (hS:S i=false) : ∀l:List Nat,l.Nodup→(l.filterMap fun j=>if (S j||j==i)=true then e j else none).Perm (if i∈l then (e i).toList++(l.filterMap fun j=>if S j=true then e j else none) else l.filterMap fun j=>if S j=true then e j else none)
 | [],_=>by simp
 |a::r,hn=>by
  obtain⟨ha,hr⟩:=List.nodup_cons.1 hn;have ih:=qsf (e:=e) hS r hr
  by_cases hai:a=i
  ·subst hai;rw[if_neg ha] at ih;rw[if_pos (zzr ..),List.filterMap_cons,List.filterMap_cons];simp only[hS,BEq.rfl,Bool.or_true,if_true,zzg,if_false];cases e a with
   |none=>simpa using ih
   |some x=>simpa using ih
  ·have hb:(a==i)=false:=by simpa using hai
   have hm:(i∈a::r)↔i∈r:=by
    rw[List.mem_cons];exact⟨fun h=>h.resolve_left fun e=>hai e.symm,.inr⟩
   rw[List.filterMap_cons,List.filterMap_cons];simp only[hb,Bool.or_false];by_cases hir:i∈r
   ·rw[if_pos (hm.2 hir)];rw[if_pos hir] at ih;cases hh:(if S a=true then e a else none) with
    |none=>simpa using ih
    |some x =>
     simp only;exact (ih.cons x).trans (List.perm_middle.symm)
   ·rw[if_neg (fun h=>hir (hm.1 h))]
    rw[if_neg hir] at ih;cases hh:(if S a=true then e a else none) with
    |none=>simpa using ih
    |some x=>simpa using ih
def qf9 (L:List IOper) (S:Nat→Bool):List (DV×DV):=(List.range L.length).filterMap fun j=>if S j=true then qcq L j else none
structure Desc (L:List IOper) (id0:Nat) (fr0:Fr) (H0:Heap) (S:Nat→Bool) (fr:Fr) (H:Heap):Prop where
 f1 : ∀j,j<L.length→S j=true→∀t,(L.getD j default).dst=some t→fr.get t=qh4 id0 (L.getD j default)
 f2 : ∀t,(∀j,j<L.length→S j=true→(L.getD j default).dst≠some t)→fr.get t=fr0.get t
 h0:H.length=H0.length
 h1 : ∀o,o≠id0→H.obj o=H0.obj o
 h2:S 0=false→H.obj id0=H0.obj id0∧∀j,j<L.length→S j=true→qcq L j=none
 h3:S 0=true→∃es,H.obj id0=some (.mp es)∧es.Perm (qf9 L S)
theorem qjk {L:List IOper} {id0:Nat} {fr0:Fr} {H0:Heap} {S S':Nat→Bool} {fr:Fr} {H:Heap} (h : ∀j,j<L.length→S j=S' j) (hL:0<L.length) (D:Desc L id0 fr0 H0 S fr H):Desc L id0 fr0 H0 S' fr H:=by
 have he:qf9 L S=qf9 L S':=by
  unfold qf9;have key : ∀l:List Nat,(∀j∈l,j<L.length)→(l.filterMap fun j=>if S j=true then qcq L j else none)=l.filterMap fun j=>if S' j=true then qcq L j else none:=by
   intro l;induction l with
   |nil=>intro _;rfl
   |cons a r ih =>
    intro hl;rw[List.filterMap_cons,List.filterMap_cons,h a (hl a (by simp)),ih fun j hj=>hl j (by simp[hj])]
  exact key _ fun j hj=>List.mem_range.1 hj
 refine⟨fun j hj hs=>D.f1 j hj (by rw[h j hj];exact hs),fun t ht=>D.f2 t fun j hj hs=>ht j hj (by rw[←h j hj];exact hs),D.h0,D.h1,fun h0 => ?_,fun h0 => ?_⟩
 ·obtain⟨a,b⟩:=D.h2 (by rw[h 0 hL];exact h0)
  exact⟨a,fun j hj hs=>b j hj (by rw[h j hj];exact hs)⟩
 ·obtain⟨es,a,b⟩:=D.h3 (by rw[h 0 hL];exact h0)
  exact⟨es,a,he▸b⟩
section
variable {L : List IOper} {bf : List Nat} {t0 : Nat} {r0 : List IOper}
theorem qnz (hL:L=⟨some t0,.mkmap,none⟩::r0) (h:qc6 L bf=true):(∀j,0<j→j<L.length→qny L bf t0 j (L.getD j default)=true)∧∀i j,i<j→j<L.length→∀t,(L.getD j default).dst=some t→(L.getD i default).dst≠some t:=by
 subst hL;simp only[qc6,zzf,List.all_eq_true,List.mem_range,Bool.or_eq_true,beq_iff_eq] at h;refine⟨fun j h0 hj=>(h.1 j hj).resolve_left (by omega),fun i j hij hj t ht hi => ?_⟩
 have:=h.2 j hj i hij
 rw[ht] at this;simp only[Bool.not_eq_true',decide_eq_false_iff_not] at this;exact this hi
theorem qx6 (hL:L=⟨some t0,.mkmap,none⟩::r0) (h:qc6 L bf=true) {i j:Nat} (hi:i<L.length) (hj:j<L.length) (hij:i≠j) {t:Nat} (ht:(L.getD j default).dst=some t):(L.getD i default).dst≠some t:=by
 rcases Nat.lt_or_gt_of_ne hij with h1|h1
 ·exact (qnz hL h).2 i j h1 hj t ht
 ·intro hi';exact (qnz hL h).2 j i h1 hi t hi' ht
inductive LK (L:List IOper) (t0 j:Nat):IOper→Prop
 |mk:j=0→LK L t0 j ⟨some t0,.mkmap,none⟩
 |ag (t:Nat) (x:IOp) (k:DV):qht x=some k→x.adds=false→(∀ky a b c,x≠.mset ky a b c)→LK L t0 j ⟨some t,x,none⟩
 |ms (ky:Ky) (k i:Nat) (key v:DV):i<j→(L.getD i default).dst=some k→qht (L.getD i default).op=some key→qfg ky key=true→qno L j k=some key→LK L t0 j ⟨none,.mset ky (.t t0) (.t k) (.c v),none⟩
 |mv (t x i:Nat):i<j→(L.getD i default).dst=some x→qht (L.getD i default).op=none→LK L t0 j ⟨some t,.mov (.t x),none⟩
theorem qvY {α:Type} [Inhabited α] {L:List α} {j:Nat} {o:α} (h:o∈L.take j) : ∃i,i<j∧i<L.length∧L.getD i default=o:=by
 obtain⟨i,hi,e⟩:=List.getElem_of_mem h;rw[List.length_take] at hi;rw[List.getElem_take] at e;refine⟨i,by omega,by omega,?_⟩
 rw[List.getD_eq_getElem?_getD,zze (by omega),Option.getD_some];exact e
theorem qlQ (hL:L=⟨some t0,.mkmap,none⟩::r0) (h:qc6 L bf=true) {j:Nat} (hj:j<L.length):LK L t0 j (L.getD j default):=by
 by_cases h0:j=0
 ·subst h0;subst hL;exact .mk rfl
 ·have hl:=(qnz hL h).1 j (by omega) hj
  generalize L.getD j default=o at *
  unfold qny at hl;split at hl
  ·rename_i t z ps;obtain⟨k,hk⟩:=Option.isSome_iff_exists.1 hl;exact .ag t _ k hk rfl (fun _ _ _ _ e=>by cases e)
  ·rename_i ky m k v;simp only[zzf,zzq] at hl;obtain⟨rfl,hl⟩:=hl;split at hl
   ·rename_i key hkey;simp only[zzf] at hl;have hk2:=hkey
    unfold qno at hk2;obtain⟨o,ho,e⟩:=List.exists_of_findSome?_eq_some hk2;split at e
    ·rename_i hd;obtain⟨i,hi,-,rfl⟩:=qvY ho;exact .ms ky k i key v hi hd e hl.1 hkey
    ·cases e
   ·cases hl
  ·rename_i t x;simp only[zzf] at hl;have hm:=hl.1
   unfold qtA at hm;obtain⟨o,ho,e⟩:=List.any_eq_true.1 hm;simp only[zzf,zzq] at e;obtain⟨i,hi,-,rfl⟩:=qvY ho;refine .mv t x i hi e.1 ?_;have e2:=e.2
   unfold qs8 at e2;split at e2
   ·rename_i e3;rw[e3];rfl
   ·rename_i e3;rw[e3];rfl
   ·cases e2
  ·cases hl
theorem qsJ (L:List IOper) {j:Nat} (hj:j<L.length):L[j]? = some (L.getD j default):=by
 rw[List.getD_eq_getElem?_getD,zze hj,Option.getD_some]
theorem qrO (hL:L=⟨some t0,.mkmap,none⟩::r0) (h:qc6 L bf=true) {i j:Nat} (hij:i<j) (hj:j<L.length) {a b:DV×DV} (ha:qcq L i=some a) (hb:qcq L j=some b):qbZ b.1 a.1=some false:=by
 have hl:=(qnz hL h).1 j (by omega) hj
 have hb':=hb
 unfold qcq at hb';rw[qsJ L hj] at hb';generalize L.getD j default=o at *
 split at hb'
 ·rename_i d ky x k v g e;simp only[zzb] at e;subst e;unfold qny at hl;split at hl
  ·rename_i e2;cases e2
  ·rename_i ky' m k' v' e2;cases e2;simp only[zzf,zzq] at hl;obtain⟨-,hl⟩:=hl;split at hl
   ·rename_i key hkey;rw[hkey] at hb';simp only[Option.map_some,zzb] at hb';subst hb';simp only[zzf,List.all_eq_true,List.mem_range] at hl
    have:=hl.2 i hij
    rw[ha] at this;simpa using this
   ·cases hl
  ·rename_i e2;cases e2
  ·cases hl
 ·cases hb'
end
end Go.Sim
end
section
open Go.RowKit
namespace Go.Sim
section
variable {L : List IOper} {bf : List Nat} {t0 : Nat} {r0 : List IOper} {E : Env} {id0 : Nat} {fr0 fr : Fr} {H0 H : Heap} {S : Nat → Bool}
theorem qzo {e:DV×DV} (h:e∈qf9 L S) : ∃i,i<L.length∧S i=true∧qcq L i=some e:=by
 unfold qf9 at h;obtain⟨i,hi,he⟩:=List.mem_filterMap.1 h;split at he
 ·rename_i hs;exact⟨i,List.mem_range.1 hi,hs,he⟩
 ·cases he
theorem qBW {j:Nat} (hj:j<L.length) (hun:S j=false):(qf9 L fun k=>S k||k==j).Perm ((qcq L j).toList++qf9 L S):=by
 have:=qsf (e:=qcq L) hun (List.range L.length) List.nodup_range
 rw[if_pos (List.mem_range.2 hj)] at this;exact this
theorem qD5 (hL:L=⟨some t0,.mkmap,none⟩::r0) (hlit:qc6 L bf=true) (D:Desc L id0 fr0 H0 S fr H) {j:Nat} (hj:j<L.length) {v:PV} (hv : ∀t,(L.getD j default).dst=some t→v=qh4 id0 (L.getD j default)) :
  (∀i,i<L.length→(S i||i==j)=true→∀t,(L.getD i default).dst=some t→(qcD fr (L.getD j default).dst v).get t=qh4 id0 (L.getD i default)) ∧
  ∀t,(∀i,i<L.length→(S i||i==j)=true→(L.getD i default).dst≠some t)→(qcD fr (L.getD j default).dst v).get t=fr0.get t:=by
 refine⟨fun i hi hs t ht => ?_,fun t ht => ?_⟩
 ·rw[qkG];by_cases hij:i=j
  ·subst hij;rw[if_pos ht];exact hv t ht
  ·rw[if_neg (qx6 hL hlit hj hi (fun e=>hij e.symm) ht)]
   have:S i=true:=by simpa[hij] using hs
   exact D.f1 i hi this t ht
 ·rw[qkG,if_neg (ht j hj (by simp))]
  exact D.f2 t fun i hi hs=>ht i hi (by simp[hs])
theorem qsB (hL:L=⟨some t0,.mkmap,none⟩::r0) (hlit:qc6 L bf=true) (hid:id0<H0.length) (D:Desc L id0 fr0 H0 S fr H) {j:Nat} (hj:j<L.length) (hun:S j=false)
  (hdep : ∀i,i<j→∀t,(L.getD i default).dst=some t→t∈(L.getD j default).op.uses→S i=true) :
  ∃v H',qaa E (rd E fr) H id0 (L.getD j default).op=some (v,H')∧Desc L id0 fr0 H0 (fun k=>S k||k==j) (qcD fr (L.getD j default).dst v) H':=by
 have hk:=qlQ hL hlit hj
 have hid':id0<H.length:=by rw[D.h0];exact hid
 have hLp:0<L.length:=by omega
 have hfr:=fun v hv=>qD5 hL hlit D hj (v:=v) hv
 have hadd:=qBW (L:=L) (S:=S) hj hun
 have hg0:L.getD 0 default=⟨some t0,.mkmap,none⟩:=by subst hL;rfl
 have hgo:=qsJ L hj
 generalize ho:L.getD j default=o at *
 cases hk with
 |mk h0 =>
  subst h0;have he:qcq L 0=none:=by unfold qcq;rw[hgo]
  obtain⟨a1,a2⟩:=D.h2 hun;obtain⟨g1,g2⟩:=hfr (.h id0) (fun t _=>rfl)
  refine⟨.h id0,H.put id0 (some (.mp [])),rfl,g1,g2,by rw[qa0];exact D.h0,fun o ho => ?_,fun h=>by simp at h,fun _=>⟨[],?_,?_⟩⟩
  ·rw[qgg,if_neg (fun c=>ho c.1)];exact D.h1 o ho
  ·rw[qgg,if_pos ⟨rfl,hid'⟩]
  ·rw[he] at hadd;refine (List.Perm.symm ?_);refine hadd.trans ?_;have:qf9 L S=[]:=by
    unfold qf9;rw[List.filterMap_eq_nil_iff];intro i hi;split
    ·rename_i hs;exact a2 i (List.mem_range.1 hi) hs
    ·rfl
   rw[this];exact .nil
 |ag t x k hx ha hm =>
  have he:qcq L j=none:=by
   unfold qcq;rw[hgo];split
   ·rename_i e;simp only[zzb,IOper.mk.injEq] at e;exact absurd e.2.1 (hm _ _ _ _)
   ·rfl
  obtain⟨g1,g2⟩:=hfr (.d k) (fun t _=>by show _=qh4 id0 ⟨some _,x,none⟩;unfold qh4;rw[hx])
  refine⟨.d k,H,qyB hx,g1,g2,D.h0,D.h1,fun h => ?_,fun h => ?_⟩
  ·simp only[Bool.or_eq_false_iff] at h;obtain⟨a1,a2⟩:=D.h2 h.1;refine⟨a1,fun i hi hs => ?_⟩
   by_cases hij:i=j
   ·subst hij;exact he
   ·exact a2 i hi (by simpa[hij] using hs)
  ·have h0:S 0=true:=by
    cases hS:S 0 with
    |true=>rfl
    |false =>
     rw[hS] at h;have:j=0:=by
      have:(0==j)=true:=by simpa using h
      have:=beq_iff_eq.1 this
      omega
     subst this;rw[hg0] at ho;cases ho;simp[IOp.adds] at ha
   obtain⟨es,b1,b2⟩:=D.h3 h0;rw[he] at hadd;exact⟨es,b1,b2.trans hadd.symm⟩
 |ms ky k i key v hi hd hlo hky hka =>
  have hj0:0<j:=by omega
  have hS0:S 0=true:=hdep 0 hj0 t0 (by rw[hg0]) (by simp[IOp.uses,Rand.uses])
  have hSi:S i=true:=hdep i hi k hd (by simp[IOp.uses,Rand.uses])
  have e1:fr.get t0 = .h id0:=by
   have:=D.f1 0 hLp hS0 t0 (by rw[hg0])
   rw[hg0] at this;exact this
  have e2:fr.get k = .d key:=by
   have:=D.f1 i (by omega) hSi k hd
   unfold qh4 at this;rw[hlo] at this;exact this
  obtain⟨es,b1,b2⟩:=D.h3 hS0;have he:qcq L j=some (key,v):=by unfold qcq;rw[hgo];simp only[hka,Option.map_some]
  have hno:NoK key es:=by
   intro e hem;obtain⟨i',hi',hs',hen⟩:=qzo (b2.mem_iff.1 hem);have hne:i'≠j:=fun c=>by rw[c,hun] at hs';cases hs'
   rcases Nat.lt_or_gt_of_ne hne with h1|h1
   ·exact qrO hL hlit h1 hj hen he
   ·exact qnM (qrO hL hlit h1 hi' he hen)
  obtain⟨g1,g2⟩:=hfr .u (fun t ht=>by cases ht)
  refine⟨.u,H.put id0 (some (.mp (es++[(key,v)]))),?_,g1,g2,by rw[qa0];exact D.h0,fun o ho => ?_,fun h => ?_,fun _=>⟨es++[(key,v)],?_,?_⟩⟩
  ·simp only[qaa,rd,e1,e2,pur,qbV,hky,if_true,b1,qqG hno,frz]
  ·rw[qgg,if_neg (fun c=>ho c.1)];exact D.h1 o ho
  ·rw[hS0] at h;simp at h
  ·rw[qgg,if_pos ⟨rfl,hid'⟩]
  ·rw[he] at hadd;refine (List.Perm.trans ?_ hadd.symm);show (es++[(key,v)]).Perm ((key,v)::qf9 L S)
   exact (List.perm_append_comm).trans (b2.cons _)
 |mv t x i hi hd hlo =>
  have hSi:S i=true:=hdep i hi x hd (by simp[IOp.uses,Rand.uses])
  have e1:fr.get x = .h id0:=by
   have:=D.f1 i (by omega) hSi x hd
   unfold qh4 at this;rw[hlo] at this;exact this
  have he:qcq L j=none:=by unfold qcq;rw[hgo]
  obtain⟨g1,g2⟩:=hfr (.h id0) (fun t _=>rfl)
  refine⟨.h id0,H,by simp only[qaa,rd,e1],g1,g2,D.h0,D.h1,fun h => ?_,fun h => ?_⟩
  ·simp only[Bool.or_eq_false_iff] at h;obtain⟨a1,a2⟩:=D.h2 h.1;refine⟨a1,fun i' hi' hs => ?_⟩
   by_cases hij:i'=j
   ·subst hij;exact he
   ·exact a2 i' hi' (by simpa[hij] using hs)
  ·have h0:S 0=true:=by
    cases hS:S 0 with
    |true=>rfl
    |false =>
     rw[hS] at h;have:(0==j)=true:=by simpa using h
     have:=beq_iff_eq.1 this
     omega
   obtain⟨es,b1,b2⟩:=D.h3 h0;rw[he] at hadd;exact⟨es,b1,b2.trans hadd.symm⟩
theorem qsq (hL:L=⟨some t0,.mkmap,none⟩::r0) (hlit:qc6 L bf=true) {j:Nat} (hj:j<L.length):(L.getD j default).g=none∧(0<j→(L.getD j default).op.adds=false):=by
 have hk:=qlQ hL hlit hj
 generalize L.getD j default=o at *
 cases hk with
 |mk h0=>exact⟨rfl,fun h=>by omega⟩
 |ag t x k hx ha hm=>exact⟨rfl,fun _=>ha⟩
 |ms=>exact⟨rfl,fun _=>rfl⟩
 |mv=>exact⟨rfl,fun _=>rfl⟩
theorem qrQ (hL:L=⟨some t0,.mkmap,none⟩::r0) (hlit:qc6 L bf=true) (hid:id0<H0.length) : ∀(m i id:Nat) (fr:Fr) (H:Heap) (s':St),i+m=L.length→Desc L id0 fr0 H0 (fun k=>decide (k<i)) fr H→(i=0→id=id0)→qaO E (L.drop i) id ⟨fr,H⟩=some s'→Desc L id0 fr0 H0 (fun _=>true) s'.fr s'.H
 | 0,i,id,fr,H,s',hi,D,_,he=>by
  rw[List.drop_of_length_le (by omega)] at he
  simp only[qaO,zzb] at he;subst he;have hp:0<L.length:=by rw[hL];simp
  exact qjk (fun j hj=>by simp;omega) hp D
 |m+1,i,id,fr,H,s',hi,D,hz,he=>by
  have hil:i<L.length:=by omega
  obtain⟨v,H',h1,h2⟩:=qsB (E:=E) hL hlit hid D hil (by simp) (fun k hk _ _ _=>by simpa using hk)
  obtain⟨g1,g2⟩:=qsq hL hlit hil;have hev:qaa E (rd E fr) H id (L.getD i default).op=some (v,H'):=by
   by_cases h0:i=0
   ·rw[hz h0];exact h1
   ·rw[qmf (g2 (by omega)) id id0];exact h1
  have hdr:L.drop i=L.getD i default::L.drop (i+1):=by
   rw[List.drop_eq_getElem_cons hil,List.getD_eq_getElem?_getD,zze hil,Option.getD_some]
  rw[hdr] at he;simp only[qaO,g1,hev] at he;have hp:0<L.length:=by omega
  refine qrQ hL hlit hid m (i+1) _ _ _ s' (by omega) (qjk (fun j hj => ?_) hp h2) (fun h=>by omega) he
  rw[Bool.eq_iff_iff];simp only[Bool.or_eq_true,zzq,beq_iff_eq];omega
end
end Go.Sim
end
section
open Go.RowKit
namespace Go.Sim
section
variable {P : Program} {N : Names} {C : Cx} {B base nt : Nat} {E : Env} {ro : Option Nat} {nf : Nat}
theorem qwr (hO:OrOK P C N E) (hN:NOK P N C E.G) (hng:nt≤gh) {ops:Array Oper} (hnof : ∀o∈ops.toList,qb8 o.op=false) {L:List IOper} (hLd:L=ops.toList.map (qar P N ops)) {id0:Nat} {fr0:Fr} {H0:Heap} {Q:Exit→Act→World→Prop} (hdst : ∀o∈ops.toList,∀d,o.dst=some d→d<nt)
  (hok:qig ops.toList L=true) {t0:Nat} {r0:List IOper} (hL:L=⟨some t0,.mkmap,none⟩::r0) (hlit:qc6 L (bef ops.toList [])=true) (hid:id0<H0.length)
  {w0:World} {S0:qah} {β0:Pl} (hbase:base≤id0) (hQ : ∀a' w' S' β' fr H,Inv P N C E B base nt ⟨fr,H⟩ a' w' S' β'→Desc L id0 fr0 H0 (fun _=>true) fr H→Ext B w0 S0 w' S'→Lb base β0 β'→Q .normal a' w') :
  ∀(fuel:Nat) (listed:Array Bool) (a:Act) (w:World) (S:qah) (β:Pl) (fr:Fr) (Hc:Heap),listed.size=L.length→(∀j (h:j<ops.toList.length),listed.getD j false=true→∀e∈ops.toList[j].after.toList,Region.binds .any e=true→listed.getD e.on false=true) →
   (List.range L.length).countP (fun j => !listed.getD j false)≤fuel→Inv P N C E B base nt ⟨fr,Hc⟩ a w S β→Desc L id0 fr0 H0 (fun j=>listed.getD j false) fr Hc →
   (listed.getD 0 false=false→β id0 = .pend) →
   Ext B w0 S0 w S→Lb base β0 β→wpAnyIn (FR ro) nf P .any ops Q fuel listed a w:=by
 have hlen:L.length=ops.size:=by rw[hLd];simp
 have hp:0<L.length:=by rw[hL];simp
 have hgetL : ∀i (h:i<L.length),L.getD i default=L[i]:=fun i h=>by simp[List.getD,zze h]
 have hchk : ∀j,j<L.length→(∀e∈(ops.toList.getD j default).after.toList,Region.binds .any e=true→e.on<j)∧∀i,i<j→((bef ops.toList []).getD j 0).testBit i=true∨qlo (L.getD i default) (L.getD j default)=true:=by
  intro j hj;simp only[qig,List.all_eq_true,List.mem_range,zzf,Bool.or_eq_true,Bool.not_eq_true',zzq,Array.length_toList] at hok;obtain⟨h1,h2⟩:=hok j (by omega)
  refine⟨fun e he hb=>(h1 e he).resolve_left (by simp[hb]),h2⟩
 have hopsget : ∀j (h:j<ops.toList.length),ops.toList.getD j default=ops.toList[j]:=fun j h=>by simp[List.getD,zze h]
 have done : ∀(listed:Array Bool) (a:Act) (w:World) (S:qah) (β:Pl) (fr:Fr) (Hc:Heap),(∀j,j<L.length→listed.getD j false=true)→Inv P N C E B base nt ⟨fr,Hc⟩ a w S β→Desc L id0 fr0 H0 (fun j=>listed.getD j false) fr Hc →
   Ext B w0 S0 w S→Lb base β0 β→Q .normal a w:=by
  intro listed a w S β fr Hc hall hI hD he hlb;exact hQ a w S β fr Hc hI (qjk (fun j hj=>hall j hj) hp hD) he hlb
 intro fuel;induction fuel with
 |zero =>
  intro listed a w S β fr Hc hsz hcl hcnt hI hD hpend he hlb;have hall : ∀j,j<L.length→listed.getD j false=true:=by
   intro j hj;have h0:(List.range L.length).countP (fun j => !listed.getD j false)=0:=by omega
   rw[List.countP_eq_zero] at h0
   have:=h0 j (List.mem_range.2 hj)
   simpa using this
  refine⟨?_,done listed a w S β fr Hc hall hI hD he hlb⟩;rw[List.eq_nil_iff_forall_not_mem];intro j hj;rw[mem_ready] at hj;obtain⟨h1,o,ho,-⟩:=hj;have hj':j<L.length:=by rw[hlen];exact (Array.getElem?_eq_some_iff.1 ho).1
  have h2:=hall j hj'
  have:listed.getD j true=listed.getD j false:=by
   simp[Array.getD_eq_getD_getElem?,Array.getElem?_eq_getElem (show j<listed.size by omega)]
  rw[this,h2] at h1;cases h1
 |succ fuel ih =>
  intro listed a w S β fr Hc hsz hcl hcnt hI hD hpend he hlb;have hgd : ∀j,j<L.length→listed.getD j true=listed.getD j false:=fun j hj=>by
   simp[Array.getD_eq_getD_getElem?,Array.getElem?_eq_getElem (show j<listed.size by omega)]
  refine⟨?_,?_⟩
  ·intro hnil;refine done listed a w S β fr Hc ?_ hI hD he hlb;intro j;induction j using Nat.strongRecOn with
   |ind j ihj =>
    intro hj;cases hl:listed.getD j false with
    |true=>rfl
    |false =>
     exfalso
     have hjo:j<ops.size:=by omega
     have:j∈Region.ready .any ops listed:=by
      rw[mem_ready];refine⟨by rw[hgd j hj];exact hl,ops[j],by simp[hjo],?_⟩
      intro e hem hb;have hlt:=(hchk j hj).1 e (by rw[hopsget j (by simpa using hjo)];simpa using hem) hb
      exact ihj e.on hlt (by omega)
     rw[hnil] at this;exact List.not_mem_nil this
  ·intro i hi;rw[mem_ready] at hi;obtain⟨hun,o,ho,hpre⟩:=hi;have hio:i<ops.size:=(Array.getElem?_eq_some_iff.1 ho).1
   have hiL:i<L.length:=by omega
   have hoi:ops.toList[i]'(by simpa using hio)=o:=by
    have:=(Array.getElem?_eq_some_iff.1 ho).2
    simpa using this
   rw[hgd i hiL] at hun;have hbefi : ∀k,((bef ops.toList []).getD i 0).testBit k=true→listed.getD k false=true :=
    qqN (S:=fun k=>listed.getD k false=true) hcl i (by simpa using hio) (fun e hem hb=>hpre e (by rw[hoi] at hem;simpa using hem) hb)
   have hgi:=hgetL i hiL
   have hdep : ∀k,k<i→∀t,(L.getD k default).dst=some t→t∈(L.getD i default).op.uses→listed.getD k false=true:=by
    intro k hk t ht hu;rcases (hchk i hiL).2 k hk with hb|hap
    ·exact hbefi k hb
    ·exact absurd (List.mem_append.2 (.inl hu)) ((qmE hap).1 t ht).1
   obtain⟨v,Hn,hev,hD'⟩:=qsB (E:=E) hL hlit hid hD hiL hun hdep;obtain⟨hgn,hadd⟩:=qsq hL hlit hiL;have hset : ∀j,(listed.setIfInBounds i true).getD j false=(listed.getD j false||j==i):=by
    intro j;by_cases hji:j=i
    ·subst hji;simp[Array.getD_eq_getD_getElem?,show j<listed.size by omega]
    ·rw[getD_set_ne false (fun e=>hji e.symm)]
     simp[hji]
   have hsz':(listed.setIfInBounds i true).size=L.length:=by simp[hsz]
   have hcl' : ∀j (h:j<ops.toList.length),(listed.setIfInBounds i true).getD j false=true→∀e∈ops.toList[j].after.toList,Region.binds .any e=true→(listed.setIfInBounds i true).getD e.on false=true:=by
    intro j hj hl e hem hb;rw[hset] at hl;rw[hset];by_cases hji:j=i
    ·subst hji;rw[hpre e (by rw[hoi] at hem;simpa using hem) hb];rfl
    ·have:listed.getD j false=true:=by simpa[hji] using hl
     rw[hcl j hj this e hem hb];rfl
   have hcnt':(List.range L.length).countP (fun j => !(listed.setIfInBounds i true).getD j false)≤fuel:=by
    have:=qoK (p:=fun j => !listed.getD j false) (p':=fun j => !(listed.setIfInBounds i true).getD j false) (i:=i) (l:=List.range L.length) (fun j _ h=>by
     simp only[hset] at h;simp only[Bool.not_eq_true',Bool.or_eq_false_iff] at h⊢;exact h.1) (List.mem_range.2 hiL) (by simp only[hun];rfl) (by simp only[hset];simp)
    omega
   have hD2:Desc L id0 fr0 H0 (fun j=>(listed.setIfInBounds i true).getD j false) (qcD fr (L.getD i default).dst v) Hn:=qjk (fun j _=>(hset j).symm) hp hD'
   have hdf:qb8 o.op=false:=hnof o (by rw[←hoi];simp)
   have hnd : ∀c,o.op≠.defer c:=fun c h=>by rw[h] at hdf;cases hdf
   obtain⟨yb,hyb,hyok⟩:=hI.yok;have hdo:(L.getD i default).dst=o.dst:=by
    rw[hgi];simp only[hLd,List.getElem_map,hoi];exact qoG _ _ hdf
   have hdig:(∃x g,qaG P N o=some x∧qfX ops o.guard=some g∧L.getD i default=⟨o.dst,x,g⟩)∨L.getD i default=⟨o.dst,.bad,none⟩:=by
    have:L.getD i default=qar P N ops o:=by
     rw[hgi];simp only[hLd,List.getElem_map,hoi]
    rw[this];unfold qar;split
    ·exact .inl ⟨_,_,by assumption,by assumption,by simp[hdf]⟩
    ·exact .inr rfl
   have hoN:o.dst=none∨∃d,o.dst=some d∧d<nt:=by
    cases hd:o.dst with
    |none=>exact .inl rfl
    |some d=>exact .inr ⟨d,rfl,hdst o (by rw[←hoi];simp) d hd⟩
   have hinv : ∀{v:PV} {H':Heap} {u:Value} {w':World} {S':qah} {β':Pl},Ext B w S w' S'→Swf w' S'→HOK C B w' S' β' H'→Later β β'→RelV C w' S' β' v u→Hc.length≤H'.length→Lb base β β' →
     Inv P N C E B base nt ⟨qcD fr o.dst v,H'⟩ (a.put o.dst u) w' S' β':=by
    intro v H' u w' S' β' e1 e2 e3 e4 e5 e6 e7;refine⟨e2,hI.gok.ext e1,Nat.le_trans hI.hB e1.below.size,e3,?_,?_,?_,⟨yb,hyb,hyok.later e1 (e7.mono hyb)⟩,Nat.le_trans hI.base e6⟩
    ·rcases hoN with hd|⟨d,hd,hdn⟩
     ·rw[hd];exact hI.fok.ext e1 e4
     ·rw[hd];exact (hI.fok.ext e1 e4).put (by rw[hI.size];exact hdn) e5
    ·cases hd:o.dst with
     |none=>exact hI.size
     |some d=>simp[Act.put,hI.size]
    ·rcases hoN with hd|⟨d,hd,hdn⟩
     ·rw[hd];exact hI.defers.ext e1 e4
     ·rw[hd];refine (hI.defers.ext e1 e4).frame fun t ht => ?_
      have hlt:=Nat.lt_of_lt_of_le hdn (Nat.le_trans hng ht)
      show (fr.set d v).get t=_
      rw[qfp,if_neg (fun h=>Nat.lt_irrefl _ (h▸hlt))]
   rcases hdig with ⟨x,g,hx,hg,hLi⟩|hbad
   ·unfold wpOpIn;rw[ho];simp only;have hg0:g=none:=by rw[hLi] at hgn;exact hgn
    subst hg0;have hw:=qqB (ops:=ops) (o:=o) (b:=true) (x:=x) hI.fok hg rfl
    rw[if_pos hw];have hx2:(L.getD i default).op=x:=by rw[hLi]
    rw[hx2] at hev hadd;have hid2:id0<Hc.length:=by rw[hD.h0];exact hid
    have hev2:qaa E (rd E fr) Hc (if x.adds then id0 else Hc.length) x=some (v,Hn):=by
     cases ha:x.adds with
     |true=>exact hev
     |false=>rw[←hev];exact qmf ha _ _
    refine qnJ hO hN hI.gok hI.swf hI.hB hI.hok hI.fok hnd hyok (Nat.le_trans hyb hI.base) hx ?_ hev2 ?_
    ·intro ha;rw[if_pos ha];have h0:i=0:=by
      rcases Nat.eq_zero_or_pos i with h|h
      ·exact h
      ·rw[hadd h] at ha;cases ha
     subst h0;exact⟨hpend hun,hid2⟩
    ·intro u w' S' β' e1 e2 e3 e4 e5 e6 e7;have hlb1:Lb base β β':=by
      intro o' ho';have hb:base≤Hc.length:=hI.base
      refine⟨e4 o',fun hp=>e7 o' (Nat.lt_of_lt_of_le ho' hb) ?_ hp⟩
      split
      ·omega
      ·omega
     refine ih (listed.setIfInBounds i true) (a.put o.dst u) w' S' β' (qcD fr o.dst v) Hn hsz' hcl' hcnt' (hinv e1 e2 e3 e4 e5 e6 hlb1) ?_ ?_ (he.trans e1) (hlb.trans hlb1)
     ·rw[←hdo];exact hD2
     ·intro hl0;rw[hset] at hl0;simp only[Bool.or_eq_false_iff,beq_eq_false_iff_ne] at hl0;refine e7 _ hid2 ?_ (hpend hl0.1);split
      ·rename_i ha;exact absurd (hadd (by omega)) (by rw[ha];decide)
      ·omega
   ·exfalso
    have hk:=qlQ hL hlit hiL
    rw[hbad] at hk;generalize hq:(⟨o.dst,.bad,none⟩:IOper)=q at hk;have hq2:=congrArg IOper.op hq
    cases hk with
    |mk=>cases hq2
    |ag t x k hx _ _ =>
     have hq2:IOp.bad=x:=hq2
     subst hq2;cases hx
    |ms=>cases hq2
    |mv=>cases hq2
theorem qFU {L:List IOper} {bf:List Nat} (hlit:qc6 L bf=true) : ∀o∈L,o.op≠.bad∧∀x y,o.op≠.dfr x y:=by
 intro o ho;obtain⟨t0,r0,hL⟩ : ∃t0 r0,L=⟨some t0,.mkmap,none⟩::r0:=by
  have h:=hlit
  unfold qc6 at h;split at h
  ·rename_i t0 r0;exact⟨t0,r0,rfl⟩
  ·cases h
 obtain⟨j,hj,e⟩:=List.getElem_of_mem ho;have hk:=qlQ hL hlit hj
 rw[List.getD_eq_getElem?_getD,zze hj,Option.getD_some,e] at hk;cases hk with
 |mk=>exact⟨(fun h=>by cases h),(fun x y h=>by cases h)⟩
 |ag t x k hx _ _=>exact⟨(fun h=>by have h:x = .bad:=h;subst h;cases hx),(fun y z h=>by have h:x = .dfr y z:=h;subst h;cases hx)⟩
 |ms=>exact⟨(fun h=>by cases h),(fun x y h=>by cases h)⟩
 |mv=>exact⟨(fun h=>by cases h),(fun x y h=>by cases h)⟩
theorem qxG (hO:OrOK P C N E) (hN:NOK P N C E.G) (hng:nt≤gh) {id:Nat} {ops:Array Oper} {s s':St} {a:Act} {w:World} {S:qah} {β:Pl} {Q:Exit→Act→World→Prop} (hnof : ∀o∈ops.toList,qb8 o.op=false) (hdst : ∀o∈ops.toList,∀d,o.dst=some d→d<nt)
  (hok:qig ops.toList (ops.toList.map (qar P N ops))=true) (hlit:qc6 (ops.toList.map (qar P N ops)) (bef ops.toList [])=true) (he:qaO E (ops.toList.map (qar P N ops)) s.H.length ⟨s.fr,s.H++List.replicate (qap (ops.toList.map (qar P N ops))) none⟩=some s') (hI:Inv P N C E B base nt s a w S β)
  (hQ : ∀a' w' S' β',Inv P N C E B base nt s' a' w' S' β'→Ext B w S w' S'→Lb base β β'→Q .normal a' w'):(Code.region id ops true).wpIn (FR ro) nf P Q a w:=by
 refine wpIn_region_any hN.mixed ?_;have hd:(w.drew:World)={ w with drawn:=w.drawn+1 }:=rfl
 rw[←hd];obtain⟨t0,r0,hL⟩ : ∃t0 r0,ops.toList.map (qar P N ops)=⟨some t0,.mkmap,none⟩::r0:=by
  have h:=hlit
  unfold qc6 at h;split at h
  ·rename_i t0 r0 e;exact⟨t0,r0,e⟩
  ·cases h
 have hno : ∀j,(Array.replicate ops.size false).getD j false=false:=fun j=>by
  simp[Array.getD_eq_getD_getElem?,Array.getElem?_replicate];split<;>rfl
 have hna:1≤qap (ops.toList.map (qar P N ops)):=by
  rw[hL];simp only[qap,IOp.adds,if_true];omega
 have hid:s.H.length<(s.H++List.replicate (qap (ops.toList.map (qar P N ops))) none).length:=by
  simp only[zzp,List.length_replicate];omega
 have hp:0<(ops.toList.map (qar P N ops)).length:=by rw[hL];simp
 have D0:Desc (ops.toList.map (qar P N ops)) s.H.length s.fr (s.H++List.replicate (qap (ops.toList.map (qar P N ops))) none) (fun _=>false) s.fr (s.H++List.replicate (qap (ops.toList.map (qar P N ops))) none) :=
  ⟨fun _ _ h=>by (cases h),fun _ _=>rfl,rfl,fun _ _=>rfl,fun _=>⟨rfl,fun _ _ h=>by (cases h)⟩,fun h=>by (cases h)⟩
 have Ds:=qrQ hL hlit hid (fr0:=s.fr) _ 0 s.H.length s.fr _ s' (Nat.zero_add _) (qjk (fun j _=>by simp) hp D0) (fun _=>rfl) (by rw[List.drop_zero];exact he)
 obtain⟨yb,hyb,hyok⟩:=hI.yok;have hg:=qkJ hI.hok (qap (ops.toList.map (qar P N ops)))
 refine qwr (B:=B) (base:=base) (nt:=nt) (id0:=s.H.length) (fr0:=s.fr) (H0:=s.H++List.replicate (qap (ops.toList.map (qar P N ops))) none) (w0:=w) (S0:=S) (β0:=β) hO hN hng hnof rfl hdst hok hL hlit hid hI.base ?_ ops.size (Array.replicate ops.size false) a w.drew S β s.fr (s.H++List.replicate (qap (ops.toList.map (qar P N ops))) none) (by simp) ?_ ?_ ?_ ?_ ?_ (drew_ext (B:=B)) (Lb.refl _ _)
 ·intro a' w' S' β' fr H hI' D e1 e2;refine hQ a' w' S' β' ?_ e1 e2;obtain⟨es,b1,b2⟩:=D.h3 rfl;obtain⟨es',b3,b4⟩:=Ds.h3 rfl;have hpe:es.Perm es':=b2.trans b4.symm
  have hob : ∀o,o≠s.H.length→s'.H.obj o=H.obj o:=fun o ho=>(Ds.h1 o ho).trans (D.h1 o ho).symm
  have hlen:s'.H.length=H.length:=Ds.h0.trans D.h0.symm
  have eqf : ∀t,s'.fr.get t=fr.get t:=by
   intro t;by_cases h : ∃j,j<(ops.toList.map (qar P N ops)).length∧((ops.toList.map (qar P N ops)).getD j default).dst=some t
   ·obtain⟨j,hj,ht⟩:=h;rw[D.f1 j hj rfl t ht,Ds.f1 j hj rfl t ht]
   ·rw[D.f2 t fun j hj _ ht=>h ⟨j,hj,ht⟩,Ds.f2 t fun j hj _ ht=>h ⟨j,hj,ht⟩]
  refine⟨hI'.swf,hI'.gok,hI'.hB,⟨?_,?_,?_,hI'.hok.inj,?_,?_,hI'.hok.spi⟩,?_,hI'.size,hI'.defers.frame (fun t _=>eqf t),hI'.yok,by rw[hlen];exact hI'.base⟩
  ·intro o blk b k h;by_cases ho:o=s.H.length
   ·subst ho;obtain⟨h1,x,cells,e,h2,-,-,h3⟩:=hI'.hok.live _ blk b k h;rw[b1] at h2;cases h2;exact h3.elim
   ·rw[hob o ho];exact hI'.hok.live o blk b k h
  ·intro o h;by_cases ho:o=s.H.length
   ·subst ho
    have:=hI'.hok.dead _ h
    rw[b1] at this;cases this
   ·rw[hob o ho];exact hI'.hok.dead o h
  ·intro o h;by_cases ho:o=s.H.length
   ·subst ho;obtain⟨k,r,h2⟩:=hI'.hok.virt _ h;rw[b1] at h2;cases h2
   ·rw[hob o ho];exact hI'.hok.virt o h
  ·intro o h;rw[hlen] at h;exact hI'.hok.out o h
  ·intro o blk x h;by_cases ho:o=s.H.length
   ·subst ho;obtain⟨h1,y,h2,h3⟩:=hI'.hok.sp _ blk x h;rw[b1] at h2;cases h2;refine⟨h1,_,b3,?_⟩;cases x with
    |map =>
     obtain⟨ms,clock,q1,q2⟩:=h3;exact⟨ms,clock,q1,q2.perm hpe⟩
    |iter=>exact h3.elim
    |loop r=>exact h3.elim
    |defer=>exact h3.elim
   ·rw[hob o ho];exact hI'.hok.sp o blk x h
  ·intro t;rw[eqf];exact hI'.fok t
 ·intro j hj hl;rw[hno] at hl;cases hl
 ·refine Nat.le_trans (List.countP_le_length) ?_;simp
 ·refine⟨hI.swf.ext (drew_ext (B:=B)),hI.gok.ext (drew_ext (B:=B)),hI.hB,hg.drew,hI.fok.ext (drew_ext (B:=B)) (Later.refl _),hI.size,hI.defers.ext (drew_ext (B:=B)) (Later.refl _),⟨yb,hyb,hyok.later (drew_ext (B:=B)) (Lb.refl _ _)⟩,?_⟩
  have:=hI.base
  simp only[zzp];omega
 ·exact qjk (fun j _=>(hno j).symm) hp D0
 ·intro _;exact hI.hok.out _ (zzt _)
end
end Go.Sim
end
section
open Go.RowKit
namespace Go.Sim
theorem qCA {P:Program} {n:Nat} {fn:Func} {tmps:Array Value} {R:Ending→World→Prop} : ∀(ds:List Deferred) (u:FrameMode) (w:World) (fr:Frame) (cs:List Frame),fr.mode=u→fr.defers=ds→fr.tmps=tmps→P.funcs[fr.fn]? = some fn→fr.kind = .deferred →
  LeavesInM Fence.wide n P fn tmps R ds u w→∃e w' fr',R e w'∧Comes P (lone fr cs w) (lone fr' cs w') e∧fr'.fn=fr.fn∧fr'.kind = .deferred∧fr'.going P w' e:=by
 intro ds;induction ds with
 |nil =>
  intro u w fr cs hu hd ht hf hk h;cases u with
  |run=>exact h.elim
  |returning =>
   obtain⟨v,h1,h2⟩:=h;exact⟨.returned v,w,fr,h2,Steps.refl _ _,rfl,hk,hu,hd,fn,hf,ht▸h1⟩
  |panicking c=>exact⟨.panicked c,w,fr,h,Steps.refl _ _,rfl,hk,hu,hd,fn,hf⟩
 |cons d ds ih =>
  intro u w fr cs hu hd ht hf hk h;obtain⟨hrun,h⟩:=h;subst hu;rcases h with ⟨r,w1,h1,h2,h3⟩|⟨-,fv,cap,f,args,h1,h2,-,h3⟩
  ·have hs:=step_collected (P:=P) (cs:=cs) hrun hd h1 h2
   obtain⟨e,w2,fr2,q1,q2,q3,q4,q5⟩:=ih fr.mode w1 { fr with defers:=[]++ds } cs rfl rfl ht hf hk h3
   exact⟨e,w2,fr2,q1,.of_steps (.one hs) q2,q3,q4,q5⟩
  ·have hs:=step_defer (P:=P) (cs:=cs) hrun hd h1 h2
   obtain⟨e,u1,w1,fr1,r1,r2,r3,-,r5⟩:=h3.2 { fr with defers:=ds } cs rfl (room_wide _)
   have r2:=comesIn_wide.1 r2
   cases e with
   |outgrown=>exact⟨.outgrown,w1,fr,r1,Outgrown.of_steps (.one hs) r2,rfl,hk,trivial⟩
   |returned v =>
    have h4:=step_going_returned (c:={ { fr with defers:=ds } with mode:=u1 }) (cs:=cs) r3 r5
    obtain⟨e,w2,fr2,q1,q2,q3,q4,q5⟩:=ih (settle u1) w1 { { { fr with defers:=ds } with mode:=u1 } with mode:=settle u1 } cs rfl rfl ht hf hk r1
    exact⟨e,w2,fr2,q1,.of_steps (.head hs (Steps.trans r2 (.one h4))) q2,q3,q4,q5⟩
   |panicked ch =>
    have h4:=step_going_panicked (c:={ { fr with defers:=ds } with mode:=u1 }) (cs:=cs) r5
    obtain⟨e,w2,fr2,q1,q2,q3,q4,q5⟩:=ih (raised u1 ch) w1 { { { fr with defers:=ds } with mode:=u1 } with mode:=raised u1 ch } cs rfl rfl ht hf hk r1
    exact⟨e,w2,fr2,q1,.of_steps (.head hs (Steps.trans r2 (.one h4))) q2,q3,q4,q5⟩
theorem qwq {P:Program} {n:Nat} {f:FuncId} {fn:Func} {c:Code} {args:Array Value} {u:FrameMode} {w:World} {R:Ending→World→Prop} (hf:P.funcs[f]? = some fn) (hb:fn.body=some c)
  (h:c.wpIn Fence.wide n P (bodyPostM Fence.wide n P fn R) { tmps:=args++Array.replicate (fn.ntmps-args.size) undef,defers:=[] } w):CallsDIn Fence.wide n P f args u w fun e u' w'=>u'=u∧R e w':=by
 refine⟨trivial,fun c0 cs hu _ => ?_⟩
 have hc:({ c0 with mode:=u }:Frame)=c0:=by subst hu;rfl
 let b:Frame:={ (default:Frame) with fn:=f,kind:=.deferred,roundOf:=none }
 have henter:Frame.enter P f args .deferred=b.atR { tmps:=args++Array.replicate (fn.ntmps-args.size) undef,defers:=[] } [.code c]:=by
  simp[Frame.enter,Frame.atR,hf,hb,b]
 obtain⟨e,a',w',hq,harr⟩:=h b [] (c0::cs) rfl trivial (room_wide _);rw[←henter] at harr;have fin : ∀(m:FrameMode) (fr:Frame),fr.mode=m→fr.defers=a'.defers→fr.tmps=a'.tmps→fr.fn=f→fr.kind = .deferred→Steps P (lone (Frame.enter P f args .deferred) (c0::cs) w) (lone fr (c0::cs) w')→LeavesInM Fence.wide n P fn a'.tmps R a'.defers m w' →
   ∃e u' w'' fr',(u'=u∧R e w'')∧ComesIn (Machine.fenced P Fence.wide) P (lone (Frame.enter P f args .deferred) (c0::cs) w) (lone fr' ({ c0 with mode:=u' }::cs) w'') e∧fr'.kind = .deferred∧fr'.fn=f∧fr'.going P w'' e:=by
  intro m fr g1 g2 g3 g4 g5 hs hl;obtain⟨e',w2,fr',q1,q2,q3,q4,q5⟩:=qCA a'.defers m w' fr (c0::cs) g1 g2 g3 (by rw[g4];exact hf) g5 hl
  exact⟨e',u,w2,fr',⟨rfl,q1⟩,(by rw[hc];exact comesIn_wide.2 (.of_steps hs q2)),q4,q3.trans g4,q5⟩
 cases e with
 |normal=>exact fin .returning { b.atR a' [] with mode:=.returning } rfl rfl rfl rfl rfl (Steps.trans (stepsIn_wide.1 harr) (.one (stepR_end rfl))) hq
 |ret =>
  obtain⟨todo,hs⟩:=harr.1 rfl;exact fin .returning { b.atR a' todo with mode:=.returning } rfl rfl rfl rfl rfl (stepsIn_wide.1 hs) hq
 |panic ch =>
  obtain⟨todo,hs⟩:=harr;exact fin (.panicking ch) { b.atR a' todo with mode:=.panicking ch } rfl rfl rfl rfl rfl (stepsIn_wide.1 hs) hq
 |exit id=>exact hq.elim
 |goto l=>exact hq.elim
 |outgrown =>
  refine⟨.outgrown,u,w',b,⟨rfl,hq⟩,?_,rfl,rfl,trivial⟩;exact harr.resolve_left (by simp[b])
section
variable {P : Program} {N : Names} {C : Cx} {w : World} {S : qah} {β : Pl} {B : Nat} {H : Heap} {a : Act} {E : Env}
theorem qt9 (hH:HOK C B w S β H) (hS:Swf w S) {o blk:Nat} {x:Sp} (hb:β o = .sp blk x) (ob:Go.Obj) :
  Ext B w S (w.putObj blk ob) S∧HOK C B (w.putObj blk ob) S (upd β o .dead) (H.put o none)∧Later β (upd β o .dead):=by
 obtain⟨g1,y,g2,g3⟩:=hH.sp o blk x hb;obtain⟨o0,g4,g5⟩:=g3.obj;have hext:=qq7 hS g1 g4 g5 ob
 obtain⟨k1,k2⟩:=qpB hH o (qhv g2);refine⟨hext,k1.ext hext ?_ (fun _ _ _ _ _ _ h=>h) ?_,k2 (by rw[hb];simp)⟩
 ·intro o' blk' base k h;obtain⟨-,x0,c0,e0,-,-,h4,-⟩:=k1.live o' blk' base k h;refine World.putObj_heap_other (fun hq => ?_)
  subst hq;rw[g4] at h4;cases h4
  exact g5 _ _ _ rfl
 ·intro o' blk' x' h;refine World.putObj_heap_other (fun hq => ?_)
  subst hq;by_cases ho:o'=o
  ·subst ho;rw[qba] at h;cases h
  ·rw[qaw ho] at h;exact ho (hH.spi _ _ _ _ _ h hb)
theorem qkY (H:Heap) (base:Nat) : ∀(n:Nat) (acc todo:List Nat),acc.Nodup→(∀o∈acc,base≤o)→(qad H base n acc todo).Nodup∧∀o∈qad H base n acc todo,base≤o
 | 0,acc,_,h1,h2=>⟨h1,h2⟩
 | _+1,acc,[],h1,h2=>⟨h1,h2⟩
 |n+1,acc,o::todo,h1,h2=>by
  simp only[qad];split
  ·exact qkY H base n acc todo h1 h2
  ·split
   ·exact qkY H base n acc todo h1 h2
   ·rename_i hlt hc;refine qkY H base n _ _ ?_ ?_
    ·rw[List.nodup_append];refine⟨h1,by simp,?_⟩
     intro x hx y hy;simp at hy;subst hy;rintro rfl;simp at hc;exact hc hx
    ·intro x hx;rcases List.mem_append.1 hx with hx|hx
     ·exact h2 x hx
     ·simp at hx;omega
def gcβ (β:Pl) (base:Nat) (ids:List Nat):Pl:=fun n=>if n<base then β n else match ids[n-base]? with|some o=>β o|none=>.pend
theorem qmM {base:Nat} {ids:List Nat} {o o':Nat} (h:qag base ids o=some o'):gcβ β base ids o'=β o:=by
 by_cases hlt:o<base
 ·simp only[qag,hlt,if_true,zzb] at h;subst h;simp[gcβ,hlt]
 ·simp only[qag,hlt,if_false,Option.map_eq_some_iff] at h;obtain⟨i,hi,rfl⟩:=h;have:ids[i]? = some o:=by
   rw[List.idxOf?_eq_some_iff] at hi;obtain⟨h1,h2,-⟩:=hi;rw[zze h1];simpa using h2
  have e : ¬(base+i<base):=by omega
  simp only[gcβ,e,if_false,Nat.add_sub_cancel_left,this]
theorem PV.renL_length (ρ:Nat→Option Nat) : ∀cs:List PV,(PV.renL ρ cs).length=cs.length
 | []=>rfl
 |v::vs=>by simp[PV.renL,PV.renL_length ρ vs]
theorem PV.renL_get (ρ:Nat→Option Nat) : ∀(cs:List PV) (j:Nat) (hj:j<cs.length) (hj':j<(PV.renL ρ cs).length),(PV.renL ρ cs)[j]=(cs[j]).ren ρ
 | [],j,hj,_=>absurd hj (zzm _)
 |v::vs,0,_,_=>rfl
 |v::vs,j+1,hj,hj'=>by
  simp only[PV.renL,List.getElem_cons_succ];exact PV.renL_get ρ vs j _ _
theorem qmY {β':Pl} {ρ:Nat→Option Nat} (hρ : ∀o o',ρ o=some o'→β' o'=β o) {x:PV} {v:Value} (h:RelV C w S β x v):RelV C w S β' (x.ren ρ) v:=by
 induction h with
 |u v=>exact .u v
 |d x v h=>exact .d x v h
 |a cs vs h1 h2 _ ih =>
  refine .a _ vs (by rw[PV.renL_length];exact h1) h2 ?_
  intro j hj hj';rw[PV.renL_length] at hj;rw[PV.renL_get ρ cs j hj];exact ih j hj hj'
 |t cs vs h1 _ ih =>
  refine .t _ vs (by rw[PV.renL_length];exact h1) ?_
  intro j hj hj';rw[PV.renL_length] at hj;rw[PV.renL_get ρ cs j hj];exact ih j hj hj'
 |r o k off len t v h0 h =>
  simp only[PV.ren];cases ho:ρ o with
  |none=>exact .u v
  |some o' =>
   refine .r _ _ _ _ _ _ h0 ?_;unfold RelRf at *
   rw[hρ o o' ho];exact h
 |p o i c v h0 h =>
  simp only[PV.ren];cases ho:ρ o with
  |none=>exact .u v
  |some o' =>
   refine .p _ _ _ _ h0 ?_;unfold RelPt at *
   rw[hρ o o' ho];exact h
 |q x k c blk off f h1 h2=>exact .q x k c blk off f h1 h2
 |f n cs vs h1 _ ih =>
  refine .f n _ vs (by rw[PV.renL_length];exact h1) ?_
  intro j hj hj';rw[PV.renL_length] at hj;rw[PV.renL_get ρ cs j hj];exact ih j hj hj'
 |h o v h0 h =>
  simp only[PV.ren];cases ho:ρ o with
  |none=>exact .u v
  |some o' =>
   refine .h _ _ h0 ?_;unfold RelH at *
   rw[hρ o o' ho];exact h
 |g x v=>exact .g _ v
 |m n cs vs h1 _ ih =>
  refine .m n _ vs (by rw[PV.renL_length];exact h1) ?_
  intro j hj hj';rw[PV.renL_length] at hj;rw[PV.renL_get ρ cs j hj];exact ih j hj hj'
 |w t x v _ ih=>exact .w t _ v ih
theorem qpS {ρ:Nat→Option Nat} {base:Nat} {ids:List Nat} (hb:base≤H.length):(gcH ρ H base ids).length=base+ids.length:=by
 simp[gcH];omega
theorem qss {ρ:Nat→Option Nat} {base:Nat} {ids:List Nat} (hb:base≤H.length) (n:Nat):Heap.obj (gcH ρ H base ids) n=if n<base then (H.obj n).map (·.ren ρ) else match ids[n-base]? with|some o=>(H.obj o).map (·.ren ρ)|none=>none:=by
 show (match (gcH ρ H base ids)[n]? with|some x=>x|none=>none)=_
 by_cases hn:n<base
 ·have e:(gcH ρ H base ids)[n]? = (H[n]?).map (·.map (·.ren ρ)):=by
   unfold gcH;rw[List.getElem?_append_left (by simp;omega),zzj,List.getElem?_take,if_pos hn]
  rw[e,if_pos hn];unfold Heap.obj;cases H[n]? with
  |none=>rfl
  |some x=>cases x<;>rfl
 ·have e:(gcH ρ H base ids)[n]? = (ids[n-base]?).map fun o=>(H.obj o).map (·.ren ρ):=by
   unfold gcH;have hl:(List.map (Option.map (·.ren ρ)) (List.take base H)).length=base:=by simp;omega
   rw[List.getElem?_append_right (by rw[hl];omega),hl,zzj]
  rw[e,if_neg hn];cases ids[n-base]? <;> rfl
theorem OCells.ren {β':Pl} {ρ:Nat→Option Nat} (hρ : ∀o o',ρ o=some o'→β' o'=β o) {cells:Array Value} {blk base:Nat} {x:Obj} (h:OCells C w S β cells blk base x):OCells C w S β' cells blk base (x.ren ρ):=by
 cases x with
 |box k v =>
  obtain⟨h0,f,h1,h2,h3⟩:=h;exact⟨h0,f,h1,qmY hρ h2,h3⟩
 |sl k ro es=>exact h
 |mp es=>exact h
 |si s p=>exact h
 |lp st j=>exact h
 |df=>exact h
theorem Obj.ren_shape (ρ:Nat→Option Nat) (x:Obj):(x.ren ρ).shape=x.shape:=by cases x<;>rfl
theorem SpOK.ren {blk:Nat} {x:Sp} {y:Obj} (h:SpOK w S blk x y) (ρ:Nat→Option Nat):SpOK w S blk x (y.ren ρ):=by
 cases y with
 |box k v=>cases x<;>exact h
 | _=>exact h
theorem qsE (hH:HOK C B w S β H) {base:Nat} (hb:base≤H.length) {ids:List Nat} (hn:ids.Nodup) (hi : ∀o∈ids,base≤o):HOK C B w S (gcβ β base ids) (gcH (qag base ids) H base ids):=by
 have hρ : ∀o o',qag base ids o=some o'→gcβ β base ids o'=β o:=fun o o' h=>qmM h
 have from_ : ∀n,gcβ β base ids n≠.pend→∃o,gcβ β base ids n=β o∧Heap.obj (gcH (qag base ids) H base ids) n=(H.obj o).map (·.ren (qag base ids))∧((n<base∧o=n)∨(base≤n∧ids[n-base]? = some o)):=by
  intro n h;by_cases hlt:n<base
  ·exact⟨n,by simp[gcβ,hlt],by rw[qss hb,if_pos hlt],.inl ⟨hlt,rfl⟩⟩
  ·cases ho:ids[n-base]? with
   |none=>simp[gcβ,hlt,ho] at h
   |some o=>exact⟨o,by simp[gcβ,hlt,ho],by rw[qss hb,if_neg hlt,ho],.inr ⟨by omega,rfl⟩⟩
 have same : ∀n n' o o',o=o'→((n<base∧o=n)∨(base≤n∧ids[n-base]? = some o))→((n'<base∧o'=n')∨(base≤n'∧ids[n'-base]? = some o'))→n=n':=by
  intro n n' o o' hoo h3 h3';subst hoo;rcases h3 with ⟨q1,rfl⟩|⟨q1,q2⟩
  ·rcases h3' with ⟨p1,rfl⟩|⟨p1,p2⟩
   ·rfl
   ·have:=hi _ (List.mem_of_getElem? p2);omega
  ·rcases h3' with ⟨p1,rfl⟩|⟨p1,p2⟩
   ·have:=hi _ (List.mem_of_getElem? q2);omega
   ·obtain⟨i1,i2⟩:=zzk.1 q2;obtain⟨j1,j2⟩:=zzk.1 p2;have hpw:=List.pairwise_iff_getElem.1 hn
    rcases Nat.lt_trichotomy (n-base) (n'-base) with hlt|heq|hgt
    ·exact absurd (i2.trans j2.symm) (hpw _ _ i1 j1 hlt)
    ·omega
    ·exact absurd (j2.trans i2.symm) (hpw _ _ j1 i1 hgt)
 refine⟨?_,?_,?_,?_,?_,?_,?_⟩
 ·intro n blk b k h;obtain⟨o,h1,h2,-⟩:=from_ n (by rw[h];simp)
  rw[h1] at h;obtain⟨a1,x,cells,e,a2,a3,a4,a5⟩:=hH.live o blk b k h;exact⟨a1,x.ren (qag base ids),cells,e,by rw[h2,a2];rfl,by rw[Obj.ren_shape];exact a3,a4,a5.ren hρ⟩
 ·intro n h;obtain⟨o,h1,h2,-⟩:=from_ n (by rw[h];simp)
  rw[h1] at h;rw[h2,hH.dead o h];rfl
 ·intro n h;obtain⟨o,h1,h2,-⟩:=from_ n (by rw[h];simp)
  rw[h1] at h;obtain⟨k,ro,h3⟩:=hH.virt o h;exact⟨k,ro,by rw[h2,h3];rfl⟩
 ·intro n n' blk b k b' k' h h';obtain⟨o,h1,-,h3⟩:=from_ n (by rw[h];simp)
  obtain⟨o',h1',-,h3'⟩:=from_ n' (by rw[h'];simp)
  rw[h1] at h;rw[h1'] at h';exact same n n' o o' (hH.inj o o' blk b k b' k' h h') h3 h3'
 ·intro n h;rw[qpS hb] at h;have h1 : ¬n<base:=by omega
  have h2:ids[n-base]? = none:=by rw[List.getElem?_eq_none_iff];omega
  simp[gcβ,h1,h2]
 ·intro n blk x h;obtain⟨o,h1,h2,-⟩:=from_ n (by rw[h];simp)
  rw[h1] at h;obtain⟨a1,y,a2,a3⟩:=hH.sp o blk x h;exact⟨a1,y.ren (qag base ids),by rw[h2,a2];rfl,a3.ren _⟩
 ·intro n n' blk x x' h h';obtain⟨o,h1,-,h3⟩:=from_ n (by rw[h];simp)
  obtain⟨o',h1',-,h3'⟩:=from_ n' (by rw[h'];simp)
  rw[h1] at h;rw[h1'] at h';exact same n n' o o' (hH.spi o o' blk x x' h h') h3 h3'
theorem qqj (base:Nat) (ids:List Nat):Lb base β (gcβ β base ids):=fun o ho=>by
 have:gcβ β base ids o=β o:=by simp[gcβ,ho]
 exact⟨.inl this,fun h=>this.trans h⟩
theorem PV.ren_ne {ρ:Nat→Option Nat} {x:PV} (h:x.ren ρ≠.u):x≠.u:=fun hx=>h (by subst hx;rfl)
theorem DRel.ren {β':Pl} {ρ:Nat→Option Nat} (hρ : ∀o o',ρ o=some o'→β' o'=β o) {x:PV} {d:Deferred} (h:DRel C w S β x d):DRel C w S β' (x.ren ρ) d:=by
 unfold DRel at h;split at h
 ·rename_i o;obtain⟨r,h1,h2⟩:=h;simp only[PV.ren];cases ho:ρ o with
  |none=>trivial
  |some o'=>exact⟨r,h1,by rw[hρ o o' ho];exact h2⟩
 ·rename_i n caps;obtain⟨us,h1,h2,h3⟩:=h;refine⟨us,h1,by rw[PV.renL_length];exact h2,fun j hj hj' => ?_⟩
  rw[PV.renL_get ρ caps j (by rw[PV.renL_length] at hj;exact hj)]
  exact qmY hρ (h3 j _ hj')
 ·trivial
 ·exact h.elim
theorem DfRel.ren {β':Pl} {ρ:Nat→Option Nat} (hρ : ∀o o',ρ o=some o'→β' o'=β o) {fr:Fr} {ds:List Deferred} (h:DfRel C w S β fr ds):DfRel C w S β' (fr.ren ρ) ds:=by
 obtain⟨sl,h1,h2,h3,h4,h5⟩:=h;refine⟨sl,h1,h2,fun t ht hn=>h3 t ht (PV.ren_ne (by rw[qmT] at hn;exact hn)),h4,fun j hj hj' => ?_⟩
 rw[qmT];exact (h5 j hj hj').ren hρ
theorem qAz {base nt:Nat} {s:St} (hI:Inv P N C E B base nt s a w S β) (live:List Nat) : ∃β',Inv P N C E B base nt (gc live base s) a w S β'∧Lb base β β':=by
 obtain⟨h1,h2⟩:=qkY s.H base 1000 [] (qac (Fr.keep live s.fr)++qab (s.H.take base)) (by simp) (by simp)
 obtain⟨yb,hyb,hyok⟩:=hI.yok;refine⟨_,⟨hI.swf,hI.gok,hI.hB,qsE hI.hok hI.base h1 h2,?_,hI.size,?_,⟨yb,hyb,hyok.later (Ext.refl B w S) ((qqj _ _).mono hyb)⟩,?_⟩,qqj _ _⟩
 ·intro t;simp only[gc];rw[qmT];refine qmY (fun o o' h=>qmM h) ?_
  rcases qyW live t s.fr with h|h
  ·rw[h];exact hI.fok t
  ·rw[h];exact .u _
 ·simp only[gc];exact (hI.defers.frame (fr':=Fr.keep live s.fr) (fun t ht=>qx7 live ht s.fr)).ren (fun o o' h=>qmM h)
 ·simp only[gc];rw[qpS hI.base];omega
theorem qsV {v:PV} {u:Value} (hH:HOK C B w S β H) (hv:RelV C w S β v u) {base:Nat} (hb:base≤H.length) : ∃β',HOK C B w S β' (gcV base v H).2∧RelV C w S β' (gcV base v H).1 u∧Lb base β β'∧base≤(gcV base v H).2.length:=by
 obtain⟨h1,h2⟩:=qkY H base 1000 [] (v.refs++qab (H.take base)) (by simp) (by simp)
 refine⟨_,qsE hH hb h1 h2,qmY (fun o o' h=>qmM h) hv,qqj _ _,?_⟩
 simp only[gcV];rw[qpS hb];omega
end
end Go.Sim
end
section
open Go.RowKit
namespace Go.Sim
def qhS (nt:Nat) (inr:Bool) (o:IOper):Bool:=match o.op with
 | .dfr _ _ => !inr
 | _=>match o.dst with|some d=>decide (d<nt)|none=>true
def qch (nt:Nat) (inr:Bool):PC→Bool
 | .reg ops _=>ops.all (qhS nt inr)
 | .regD ops _ _=>ops.all (qhS nt inr)
 | .seq x y=>qch nt inr x&&qch nt inr y
 | .cond _ x y=>qch nt inr x&&qch nt inr y
 | .block _ x=>qch nt inr x
 | .loop _ x=>qch nt inr x
 | .rng _ g ps _ a x => !inr&&Nat.ble gh g&&ps.all (fun p=>decide (p<nt))&&qch nt true a&&qch nt true x
 | _=>true
def qlY:Ex→Exit
 | .norm=>.normal
 | .exit id=>.exit id
 | .ret=>.ret
theorem qoA (l:List Nat) {t:Nat} (h:gh≤t) : ∀fr:Fr,(fr.only l).get t = .u
 | []=>rfl
 | (j,x)::r=>by
  simp only[Fr.only];split
  ·rename_i hc;simp only[zzf,Nat.blt_eq] at hc;simp only[Fr.get];rw[if_neg (by omega)]
   exact qoA l h r
  ·exact qoA l h r
theorem qqS (l:List Nat) (t:Nat) : ∀fr:Fr,(fr.only l).get t=if l.contains t&&Nat.blt t gh then fr.get t else .u
 | []=>by simp[Fr.only,Fr.get]
 | (j,x)::r=>by
  simp only[Fr.only];split
  ·rename_i hc;simp only[Fr.get];split
   ·rename_i hj;subst hj;rw[if_pos hc]
   ·exact qqS l t r
  ·rename_i hc;rw[qqS l t r];by_cases hj:j=t
   ·subst hj;rw[if_neg hc,if_neg hc]
   ·simp[Fr.get,hj]
theorem qyi (l:List Nat) (t:Nat) (fr:Fr):(fr.only l).get t=fr.get t∨(fr.only l).get t = .u:=by
 rw[qqS];split
 ·exact .inl rfl
 ·exact .inr rfl
theorem quI {t:Nat} : ∀(ps:List Nat) (vs:List PV) (fr:Fr),t∉ps→(qfn fr ps vs).get t=fr.get t
 | [],vs,fr,_=>by cases vs<;>rfl
 |p::ps,[],fr,_=>rfl
 |p::ps,v::vs,fr,h=>by
  simp only[qfn];rw[quI ps vs _ (fun hm=>h (zzi _ hm)),qfp,if_neg (fun hq=>h (by rw[hq];exact zzr ..))]
section
variable {P : Program} {N : Names} {C : Cx} {w : World} {S : qah} {β : Pl} {B : Nat} {H : Heap} {a : Act} {E : Env}
theorem qt2 : ∀(ps:List Nat) (args:List PV) (us:List Value) (fr:Fr) (tmps:Array Value),args.length=us.length→(∀p∈ps,p<tmps.size)→(∀t,RelV C w S β (fr.get t) (tmps.getD t undef)) →
  (∀j (h:j<args.length) (h':j<us.length),RelV C w S β args[j] us[j])→∀t,RelV C w S β ((qfn fr ps args).get t) (((ps.zip us).foldl (fun tmps (x:Nat×Value)=>tmps.setIfInBounds x.1 x.2) tmps).getD t undef)
 | [],args,us,fr,tmps,_,_,hf,_,t=>by cases args<;>exact hf t
 |p::ps,[],us,fr,tmps,hl,_,hf,_,t=>by
  have:us=[]:=by cases us with|nil=>rfl|cons _ _=>simp at hl
  subst this;exact hf t
 |p::ps,v::args,[],fr,tmps,hl,_,_,_,t=>by simp at hl
 |p::ps,v::args,u::us,fr,tmps,hl,hp,hf,hr,t=>by
  simp only[qfn,List.zip_cons_cons,List.foldl_cons];have hsz:p<tmps.size:=hp p (zzr ..)
  refine qt2 ps args us _ _ (by simpa using hl) (fun q hq=>by simpa using hp q (zzi _ hq)) ?_ (fun j hj hj'=>hr (j+1) (by simpa using hj) (by simpa using hj')) t
  intro t';rw[qfp];split
  ·rename_i ht;subst ht
   have:=hr 0 (by simp) (by simp)
   simpa[Array.getD_eq_getD_getElem?,hsz] using this
  ·rename_i ht
   have:=hf t'
   simp only[Array.getD_eq_getD_getElem?] at this⊢;rw[Array.getElem?_setIfInBounds_ne (fun e=>ht e.symm)]
   exact this
theorem qrm : ∀(l:List (Nat×Value)) (tmps:Array Value),(l.foldl (fun tmps (x:Nat×Value)=>tmps.setIfInBounds x.1 x.2) tmps).size=tmps.size
 | [],_=>rfl
 |x::l,tmps=>by rw[List.foldl_cons,qrm l];simp
theorem qAG (H:Heap) (x y:Option Obj):(Heap.put (Heap.put (H++List.replicate 2 none) (H.length+1) y) H.length x)=H++[x,y]:=by
 simp[Heap.put,List.replicate]
theorem quB (ps:Array Tmp) (us:List Value) (tmps:Array Value):(ps.zip us.toArray).foldl (fun tmps (t,a)=>tmps.setIfInBounds t a) tmps=(ps.toList.zip us).foldl (fun tmps (x:Nat×Value)=>tmps.setIfInBounds x.1 x.2) tmps:=by
 rw[←Array.foldl_toList];simp only[Array.toList_zip]
theorem qql {b:Nat} {β':Pl} (h:Lb b β β') (ho : ∀o,b≤o→β o = .pend):Later β β':=fun o=>by
 rcases Nat.lt_or_ge o b with h1|h1
 ·exact (h o h1).1
 ·exact .inr (.inr (ho o h1))
def CS (P:Program) (N:Names) (C:Cx) (E:Env) (B nt n:Nat) (pc:PC) (c:Code):Prop :=
 ∀(base:Nat) (ro:Option Nat) (nf:Nat),qch nt ro.isSome pc=true→∀(s s':St) (ex:Ex) (a:Act) (w:World) (S:qah) (β:Pl) (Q:Exit→Act→World→Prop),
  qak E (lpN n) base pc s=some (ex,s')→Inv P N C E B base nt s a w S β→(∀a' w' S' β',Inv P N C E B base nt s' a' w' S' β'→Ext B w S w' S'→Lb base β β'→Q (qlY ex) a' w')→c.wpIn (FR ro) nf P Q a w
theorem qnn {β':Pl} {b o blk:Nat} {x:Sp} {y:Obj} {H':Heap} {w':World} {S':qah} (hb:β o = .sp blk x) (hl:β' o=β o∨β' o = .dead∨β o = .pend) (hH:HOK C b w' S' β' H') (hy:H'.obj o=some y):β' o = .sp blk x∧SpOK w' S' blk x y:=by
 have h1:β' o = .sp blk x:=by
  rcases hl with h|h|h
  ·rw[h];exact hb
  ·rw[hH.dead o h] at hy;cases hy
  ·rw[hb] at h;cases h
 obtain⟨-,y',h2,h3⟩:=hH.sp o blk x h1;rw[hy] at h2;cases h2
 exact⟨h1,h3⟩
theorem qB3 {nt n:Nat} (hng:nt≤gh) {x y:PC} {ca cx:Code} (hA:CS P N C E B nt n x ca) (hX:CS P N C E B nt n y cx) {ps:Array Tmp} (hps : ∀p∈ps.toList,p<nt) (hdx:qch nt true x=true) (hdy:qch nt true y=true) {base:Nat} {s:St}
  (hI:Inv P N C E B base nt s a w S β) {w2:World} (hext:Ext B w S w2 S) {β2:Pl} {l:Nat} {rec:Loop} {bo:BO} (hβ2:β2=upd (upd β (s.H.length+1) bo) s.H.length (.sp l (.loop rec)))
  (h1:rec.tmps=a.tmps) (h2:rec.params=ps) (h3:rec.assign=ca) (h4:rec.body=cx) (live:List Nat) :
  YOK P C N E.G (qdA (fun b s=>qak E (lpN n) b x s) (fun b s=>qak E (lpN n) b y s) (Fr.only live s.fr) s.H.length ps.toList E.yld) B w2 S β2 (s.H.length+2):=by
 have hb2:β2 s.H.length = .sp l (.loop rec):=by rw[hβ2,qba]
 have hlow : ∀o,o<s.H.length→β2 o=β o:=fun o ho=>by rw[hβ2,qaw (by omega),qaw (by omega)]
 obtain⟨yb,hyb,hyok⟩:=hI.yok;have hbs:=hI.base
 have lb02:Lb s.H.length β β2:=fun o ho=>⟨.inl (hlow o ho),fun h=>by rw[hlow o ho];exact h⟩
 intro o' args H r H' h;unfold qdA at h;split at h
 ·rename_i ho;subst ho;split at h
  ·rename_i hal;split at h
   ·rename_i hobj;refine⟨hobj,?_⟩;intro w3 S3 β3 us blk r0 e3 l3 hl3 hB3 hS3 hG3 hH3 hb3 hlen hrel F nf hF hd ha;obtain⟨hbo,hsp⟩:=qnn (y:=.lp 0 none) hb2 (l3 _ (by omega)).1 hH3 hobj
    rw[hb3] at hbo;cases hbo;have hsp:w3.heap[l]? = some (.loop { rec with state:=.ready,pending:=none }):=hsp
    refine⟨_,hsp,?_,?_⟩
    ·show us.length=rec.params.size
     rw[h2,←hlen,hal,Array.length_toList]
    have hFR:F.inRound l=FR (some l):=by
     obtain⟨fn,dp,al,rd⟩:=F;simp only at hF hd ha;have:fn=fun _=>True:=funext fun f=>propext ⟨fun _=>trivial,fun _=>hF f⟩
     subst this hd ha;rfl
    refine roundIn_of_wpIn (hF _) ?_;rw[hFR];split at h
    ·rename_i s1 hev1;split at h
     ·rename_i hobj1;split at h
      ·rename_i e s2 hev2;split at h
       ·rename_i hobj2;simp only[zzb] at h;have lb23:Lb s.H.length β β3:=lb02.trans (l3.mono (by omega))
        have e03:Ext B w S w3 S3:=hext.trans e3
        have lat3:Later β β3:=qql lb23 (fun o ho=>hI.hok.out o ho)
        subst h2 h3 h4;have hlt:s.H.length<H.length:=by omega
        have hargs:args.length=us.length:=hlen
        have hfok:FOK C w3 S3 β3 (qfn (Fr.only live s.fr) rec.params.toList args) { tmps:=(rec.params.zip us.toArray).foldl (fun tmps (t,a)=>tmps.setIfInBounds t a) rec.tmps,defers:=[] }:=by
         intro t;show RelV C w3 S3 β3 _ (Array.getD (Array.foldl _ _ _) t undef)
         rw[quB];refine qt2 _ args us _ rec.tmps hargs (fun p hp => ?_) (fun t => ?_) hrel t
         ·rw[h1,hI.size];exact hps p hp
         ·rw[h1];rcases qyi live t s.fr with h|h
          ·rw[h];exact (hI.fok t).ext e03 lat3
          ·rw[h];exact .u _
        refine hA H.length (some l) nf hdx _ s1 .norm _ w3 S3 β3 _ hev1 ⟨hS3,hG3,hB3,hH3,hfok,?_,?_,⟨yb,by omega,hyok.later e03 (lb23.mono (by omega))⟩,zzt _⟩ ?_
        ·show Array.size (Array.foldl _ _ _)=nt
         rw[quB,qrm,h1];exact hI.size
        ·refine⟨[],List.nodup_nil,fun t ht=>absurd ht (List.not_mem_nil),fun t ht hne=>absurd ?_ hne,rfl,fun j hj=>absurd hj (zzm _)⟩
         rw[quI _ _ _ (fun hm=>Nat.not_lt.2 (Nat.le_trans hng ht) (hps t hm))]
         exact qoA live ht s.fr
        intro a1 w4 S4 β4 hI4 e4 l4;show ∃w5,_
        obtain⟨hb4,hsp4⟩:=qnn (y:=.lp 0 none) hb3 (l4 _ hlt).1 hI4.hok hobj1;have hsp4:w4.heap[l]? = some (.loop { rec with state:=.ready,pending:=none }):=hsp4
        have hl4:l<w4.heap.size:=(Array.getElem?_eq_some_iff.1 hsp4).1
        refine⟨_,run_beginRound hsp4 rfl,?_⟩;obtain⟨e5,h5⟩:=qlK hI4.hok hI4.swf hb4 (.loop { rec with state:=.busy,pending:=none }) (y':=.lp 2 none) (World.putObj_heap_same hl4)
        refine hX H.length (some l) nf hdy _ s2 e a1 _ S4 β4 _ hev2 ⟨hI4.swf.ext e5,hI4.gok.ext e5,by rw[World.putObj_size];exact hI4.hB,h5,hI4.fok.ext e5 (Later.refl _),hI4.size,hI4.defers.ext e5 (Later.refl _),⟨yb,by omega,hyok.later (e03.trans (e4.trans e5)) ((lb23.mono (by omega)).trans (l4.mono (by omega)))⟩,by rw[qa0];exact hI4.base⟩ ?_
        intro a2 w6 S6 β6 hI6 e6 l6;obtain⟨hb6,hsp6⟩:=qnn (y:=.lp 2 none) hb4 (l6 _ hlt).1 hI6.hok hobj2;have hsp6:w6.heap[l]? = some (.loop { rec with state:=.busy,pending:=none }):=hsp6
        have hl6:l<w6.heap.size:=(Array.getElem?_eq_some_iff.1 hsp6).1
        have key : ∀jump:Option Code,jump=(if isN e then none else some (exC e))→∃v w',(Instr.endRound l jump).run P w6 = .ok v w'∧∃u S' β',Ending.returned v=Ending.returned u∧Ext B w3 S3 w' S'∧Swf w' S'∧HOK C B w' S' β' H'∧Later β3 β'∧RelV C w' S' β' r u∧H.length≤H'.length∧Kp H.length H.length β3 β':=by
         intro jump hj;refine⟨_,_,run_endRound jump hsp6,?_⟩;have hy:SpOK (w6.putObj l (.loop { rec with state:=if jump.isNone then .ready else .done,pending:=jump })) S6 l (.loop rec) (if isN e then .lp 0 none else .lp 1 (some e)):=by
          cases hn:isN e with
          |true =>
           rw[hn] at hj;subst hj;exact World.putObj_heap_same hl6
          |false =>
           rw[hn] at hj;subst hj;exact World.putObj_heap_same hl6
         obtain⟨e7,h7⟩:=qlK hI6.hok hI6.swf hb6 (.loop { rec with state:=if jump.isNone then .ready else .done,pending:=jump }) hy
         have hbool:RelV C (w6.putObj l (.loop { rec with state:=if jump.isNone then .ready else .done,pending:=jump })) S6 β6 (.d (.b (isN e))) (.bool jump.isNone):=by
          have:jump.isNone=isN e:=by rw[hj];cases isN e<;>rfl
          rw[this];exact .d _ _ (.b _)
         obtain⟨β7,k1,k2,k3,k4⟩:=qsV h7 hbool (base:=H.length) (by rw[qa0];exact hI6.base)
         have lb37:Lb H.length β3 β7:=l4.trans (l6.trans k3)
         rw[h] at k1 k2 k4;exact⟨_,S6,β7,rfl,e4.trans (e5.trans (e6.trans e7)),hI6.swf.ext e7,k1,qql lb37 (fun o ho=>hH3.out o ho),k2,k4,fun o ho _ hp=>(lb37 o ho).2 hp⟩
        cases e with
        |norm=>exact key none rfl
        |exit id=>exact key (some (.exit id)) rfl
        |ret=>exact key (some .ret) rfl
       ·cases h
      ·cases h
     ·cases h
    ·cases h
   ·cases h
  ·cases h
 ·obtain⟨g1,g2⟩:=hyok o' args H r H' h;refine⟨g1,fun w3 S3 β3 us blk r0 e3 l3 hl3=>g2 w3 S3 β3 us blk r0 (hext.trans e3) ((lb02.mono (by omega)).trans (l3.mono (by omega))) (by omega)⟩
theorem qDS (hO:OrOK P C N E) (hN:NOK P N C E.G) {nt n:Nat} (hng:nt≤gh) {x y:PC} {ca cx:Code} (hA:CS P N C E B nt n x ca) (hX:CS P N C E B nt n y cx) {f:Operand} {rf:Rand} (hr:qbX P N none f=some rf) {ps:Array Tmp} (hps : ∀p∈ps.toList,p<nt) {g:Nat} (hg:gh≤g)
  {live:List Nat} (hdx:qch nt true x=true) (hdy:qch nt true y=true) {base:Nat} {s s':St} {ex:Ex} {nf:Nat} {Q:Exit→Act→World→Prop} (he:qak E (lpN n) base (.rng rf g ps.toList live x y) s=some (ex,s')) (hI:Inv P N C E B base nt s a w S β)
  (hQ : ∀a' w' S' β',Inv P N C E B base nt s' a' w' S' β'→Ext B w S w' S'→Lb base β β'→Q (qlY ex) a' w'):(Code.rangeFunc f ps ca cx).wpIn (FR none) nf P Q a w:=by
 simp only[qak] at he;split at he;case h_2=>cases he
 rename_i m caps h1 h2;split at he;case h_2=>cases he
 rename_i r H' hit;have hrel:=qid hN hI.gok hI.fok hr
 rw[h1] at hrel;obtain⟨us,q1,q2,q3⟩:=qoT hrel;refine wpIn_rangeFunc fun fn _ => ?_
 have hpend : ∀o,s.H.length≤o→β o = .pend:=fun o ho=>hI.hok.out o ho
 have hbs:=hI.base
 obtain⟨yb,hyb,hyok⟩:=hI.yok;have hg2:=qkJ hI.hok 2
 have ho1:β (s.H.length+1) = .pend:=hpend _ (by omega)
 obtain⟨k1,k2⟩:=qpl hg2 hI.swf hI.hB (id:=s.H.length+1) ho1 (by simp) (ob:=.deferred (some [])) (x:=.defer) (y:=.df) (World.alloc_heap_new w _)
 have e1:Ext B w S (w.alloc (.deferred (some []))) S:=qsC hI.swf hI.hB _
 have hS1:Swf (w.alloc (.deferred (some []))) S:=hI.swf.ext e1
 have hB1:B≤(w.alloc (.deferred (some []))).heap.size:=Nat.le_trans hI.hB e1.below.size
 have hsz1:(w.alloc (.deferred (some []))).heap.size=w.heap.size+1:=World.size_alloc ..
 have ho0:upd β (s.H.length+1) (.sp w.heap.size .defer) s.H.length = .pend:=by rw[qaw (by omega)];exact hpend _ (zzt _)
 obtain⟨k3,k4⟩:=qpl k1 hS1 hB1 (id:=s.H.length) ho0 (by simp[qa0]) (ob:=.loop { state:=.ready,pending:=none,fn,tmps:=a.tmps,params:=ps,assign:=ca,body:=cx,defers:=w.heap.size })
  (x:=.loop { state:=.ready,pending:=none,fn,tmps:=a.tmps,params:=ps,assign:=ca,body:=cx,defers:=w.heap.size }) (y:=.lp 0 none) (World.alloc_heap_new _ _)
 have e2:Ext B (w.alloc (.deferred (some []))) S ((w.alloc (.deferred (some []))).alloc (.loop { state:=.ready,pending:=none,fn,tmps:=a.tmps,params:=ps,assign:=ca,body:=cx,defers:=w.heap.size })) S:=qsC hS1 hB1 _
 rw[qAG,hsz1] at k3;rw[hsz1] at k4;generalize hrec:({ state:=.ready,pending:=none,fn,tmps:=a.tmps,params:=ps,assign:=ca,body:=cx,defers:=w.heap.size }:Loop)=rec at *
 generalize hw2:(w.alloc (.deferred (some []))).alloc (.loop rec)=w2 at *
 generalize hβ2:upd (upd β (s.H.length+1) (.sp w.heap.size .defer)) s.H.length (.sp (w.heap.size+1) (.loop rec))=β2 at *
 have e02:Ext B w S w2 S:=e1.trans e2
 have hb2:β2 s.H.length = .sp (w.heap.size+1) (.loop rec):=by rw[←hβ2,qba]
 have hd2:β2 (s.H.length+1) = .sp w.heap.size .defer:=by rw[←hβ2,qaw (by omega),qba]
 have lat2:Later β β2:=(k2).trans k4
 have hyk:=qB3 hng hA hX hps hdx hdy hI e02 hβ2.symm (by rw[←hrec]) (by rw[←hrec]) (by rw[←hrec]) (by rw[←hrec]) live
 have hlen2:(s.H++[some (Obj.lp 0 none),some Obj.df]).length=s.H.length+2:=by simp
 have hcall:=hO.it _ _ _ _ _ _ hit B w2 S β2 (.func (.yield (w.heap.size+1)) #[] #[]::us) (Nat.le_trans hI.hB e02.below.size) (hI.swf.ext e02) (hI.gok.ext e02) k3 (by simp[q2]) (fun j hj hj'=>by
  cases j with
  |zero =>
   have hrh:RelH β2 s.H.length (.func (.yield (w.heap.size+1)) #[] #[]):=by
    unfold RelH;rw[hb2]
   exact .h _ _ rfl hrh
  |succ j=>exact (q3 j (by simpa using hj) (by simpa using hj')).ext e02 lat2) (by rw[hlen2];exact hyk)
 refine⟨w.heap.size+1,[{ target:=.collected w.heap.size,args := #[] }],w2,{ target:=.fn (.func (C.μ m)) us.toArray,args := #[.func (.yield (w.heap.size+1)) #[] #[]] },w2,C.μ m,(Value.func (.yield (w.heap.size+1)) #[] #[]::us).toArray,w2,?_,?_,fun _ _=>trivial,?_,(fun h=>by simp[FR,Fence.wide] at h),quQ.2 (hcall.mono ?_)⟩
 ·rw[←hw2,←hrec];exact run_enterLoop_outer fn a.tmps ps ca cx
 ·simp only[resolve,q1,Deferred.ofValue,Sem.run_pure,List.map_toArray,zzu,List.map_nil,Array.empty_append];rfl
 ·obtain⟨fn',z1,z2,z3⟩:=hO.fni _ _ _ _ _ hit;simp only[invoke];have harr : #[Value.func (.yield (w.heap.size+1)) #[] #[]]++us.toArray=(Value.func (.yield (w.heap.size+1)) #[] #[]::us).toArray:=by apply Array.ext';simp
  rw[harr];exact qlc z1 z2 z3 _
 rintro e w3 ⟨u,S3,β3,rfl,e3,hS3,hH3,lat3,-,hl3,kp3⟩;rw[hlen2] at hl3 kp3;have lb03:Lb base β β3:=fun o ho=>by
  have h02:β2 o=β o:=by rw[←hβ2,qaw (by omega),qaw (by omega)]
  refine⟨?_,fun hp=>kp3 o (by omega) (by omega) (by rw[h02];exact hp)⟩
  rw[←h02];exact lat3 o
 have fin : ∀(st:Nat) (j:Option Ex),(H'.obj s.H.length=some (.lp st j))→qlF st≠.busy→∀(s1:St),s1=⟨s.fr.set g (.g (.h (s.H.length+1))),H'.put s.H.length none⟩→∃w4,(Instr.endLoop (w.heap.size+1)).run P w3 = .ok (j.map exC) w4∧∃S4 β4,Ext B w S w4 S4∧Lb base β β4 ∧
   Inv P N C E B base nt s1 { a with defers:=[{ target:=.collected w.heap.size,args := #[] }]++a.defers } w4 S4 β4:=by
  intro st j hob hst s1 hs1;obtain⟨hb3,hsp3⟩:=qnn hb2 (lat3 _) hH3 hob;have hsp3:w3.heap[w.heap.size+1]? = some (.loop { rec with state:=qlF st,pending:=j.map exC }):=hsp3
  refine⟨_,run_endLoop hsp3 hst,S3,upd β3 s.H.length .dead,?_⟩;obtain⟨e4,h4,l4⟩:=qt9 hH3 hS3 hb3 (.loop { rec with state:=.exhausted,pending:=j.map exC })
  have e04:=e02.trans (e3.trans e4)
  have lat04:Later β (upd β3 s.H.length .dead):=lat2.trans (lat3.trans l4)
  have lb04:Lb base β (upd β3 s.H.length .dead):=lb03.trans (fun o ho=>by rw[qaw (by omega)];exact⟨.inl rfl,fun h=>h⟩)
  refine⟨e04,lb04,?_⟩;subst hs1;refine⟨hS3.ext e4,hI.gok.ext e04,Nat.le_trans hI.hB e04.below.size,h4,?_,hI.size,?_,⟨yb,hyb,hyok.later e04 (lb04.mono hyb)⟩,by simp only[qa0];omega⟩
  ·intro t;show RelV C _ S3 _ ((s.fr.set g _).get t) _
   rw[qfp];split
   ·exact .g _ _
   ·exact (hI.fok t).ext e04 lat04
  ·refine (hI.defers.ext e04 lat04).push hg h2 ⟨w.heap.size,rfl,?_⟩;rcases l4 (s.H.length+1) with h|h|h
   ·rcases lat3 (s.H.length+1) with h'|h'|h'
    ·rw[h,h',hd2];exact .inl rfl
    ·rw[h,h'];exact .inr rfl
    ·rw[hd2] at h';cases h'
   ·exact .inr h
   ·rcases lat3 (s.H.length+1) with h'|h'|h'
    ·rw[h',hd2] at h;cases h
    ·rw[h'] at h;cases h
    ·rw[hd2] at h';cases h'
 split at he
 ·rename_i hob;simp only[zzb,zzc] at he;obtain⟨rfl,rfl⟩:=he;obtain⟨w4,r1,S4,β4,r2,r3,r4⟩:=fin 0 none hob (by simp[qlF]) _ rfl
  exact⟨none,w4,r1,hQ _ w4 S4 β4 r4 r2 r3⟩
 ·rename_i e' hob;simp only[zzb,zzc] at he;obtain⟨rfl,rfl⟩:=he;obtain⟨w4,r1,S4,β4,r2,r3,r4⟩:=fin 1 (some e') hob (by simp[qlF]) _ rfl
  refine⟨some (exC e'),w4,r1,?_⟩;cases e' with
  |norm=>exact wpIn_skip (hQ _ w4 S4 β4 r4 r2 r3)
  |exit id=>exact wpIn_exit (hQ _ w4 S4 β4 r4 r2 r3)
  |ret=>exact wpIn_ret (hQ _ w4 S4 β4 r4 r2 r3)
 ·cases he
end
end Go.Sim
end
section
open Go.RowKit
namespace Go.Sim
section
variable {P : Program} {N : Names} {C : Cx} {w : World} {S : qah} {β : Pl} {B : Nat} {H : Heap} {a : Act} {E : Env}
theorem qm7 {ops:Array Oper} {o:Oper} (h:qb8 o.op=true):(qar P N ops o).g=none∧((qar P N ops o).op = .bad∧(qar P N ops o).dst=o.dst∨(∃x y,(qar P N ops o).op = .dfr x y)∧o.dst=none):=by
 cases hop:o.op<;>(rw[hop] at h;try (cases h;done))
 rename_i c;unfold qar;split
 ·rename_i x g hx hg;rw[if_pos (by rw[hop];rfl)]
  split
  ·rename_i hc;simp only[zzf,Option.isNone_iff_eq_none] at hc;refine⟨rfl,.inr ⟨?_,hc.2⟩⟩;simp only[qaG,hop] at hx;split at hx
   ·split at hx
    ·cases hx;exact⟨_,_,rfl⟩
    ·cases hx
   ·cases hx
  ·exact⟨rfl,.inl ⟨rfl,rfl⟩⟩
 ·exact⟨rfl,.inl ⟨rfl,rfl⟩⟩
theorem qne {E:Env} : ∀(L:List IOper) (id:Nat) (s s':St),qaO E L id s=some s'→∀o∈L,o.g=none→o.op≠.bad
 | [],_,_,_,_,_,hm,_=>absurd hm (List.not_mem_nil)
 |o::L,id,s,s',h,o',hm,hg=>by
  rcases List.mem_cons.1 hm with rfl|hm
  ·intro hb;simp only[qaO,hg,hb,qaa] at h;cases h
  ·simp only[qaO] at h;have go : ∀r,(match qaa E (rd E s.fr) s.H id o.op with
     |some (v,H)=>qaO E L (if o.op.adds then id+1 else id) ⟨match o.dst with|some t=>s.fr.set t v|none=>s.fr,H⟩
     |none=>none)=some r→o'.op≠.bad:=by
    intro r hr;split at hr
    ·exact qne L _ _ _ hr o' hm hg
    ·cases hr
   split at h
   ·exact go _ h
   ·split at h
    ·split at h
     ·exact go _ h
     ·exact qne L _ _ _ h o' hm hg
    ·exact qne L _ _ _ h o' hm hg
    ·cases h
theorem qrH {E:Env} : ∀(L:List IOper) (bf:List Nat) (acc:List (List Nat×List Nat)) (id:Nat) (s s':St),qca E L bf acc id s=some s'→∀o∈L,o.g=none→o.op≠.bad∧∀x y,o.op≠.dfr x y
 | [],_,_,_,_,_,_,_,hm,_=>absurd hm (List.not_mem_nil)
 |o::L,bf,acc,id,s,s',h,o',hm,hg=>by
  simp only[qca] at h;split at h
  ·rename_i s1 h1;split at h
   ·rcases List.mem_cons.1 hm with rfl|hm
    ·refine⟨fun hb => ?_,fun x y hb => ?_⟩ <;>
     ·simp[stepD,hg,hb,qao,IOp.okD,IOp.barr] at h1
    ·exact qrH L _ _ _ _ _ h o' hm hg
   ·cases h
  ·cases h
theorem qxo {o:Oper} {x y:Rand} (h:qaG P N o=some (.dfr x y)):qb8 o.op=true:=by
 cases hop:o.op<;>simp only[qaG,hop] at h<;>first
  |rfl
  | (exfalso;repeat' first
    | (cases h;done)
    |contradiction
    | (split at h)
    | (rw[zza] at h;obtain⟨_,_,h⟩:=h)
    | (simp only[qqw,qq4] at h))
theorem qFq {ops:Array Oper} {o:Oper} (hd:qb8 o.op=false) (x y:Rand):(qar P N ops o).op≠.dfr x y:=by
 intro h;unfold qar at h;split at h
 ·rename_i z g hz hg;rw[if_neg (by simp[hd])] at h
  simp only at h;subst h;rw[qxo hz] at hd;cases hd
 ·cases h
theorem qpP {nt:Nat} {inr:Bool} {ops:Array Oper} (hd:(ops.toList.map (qar P N ops)).all (qhS nt inr)=true) : ∀o∈ops.toList,∀d,o.dst=some d→d<nt:=by
 intro o ho d hod;have h1:qhS nt inr (qar P N ops o)=true:=List.all_eq_true.1 hd _ (List.mem_map_of_mem ho)
 cases hdf:qb8 o.op with
 |true =>
  rcases (qm7 (P:=P) (N:=N) (ops:=ops) hdf).2 with ⟨h2,h3⟩|⟨-,h3⟩
  ·unfold qhS at h1;rw[h2,h3,hod] at h1;simpa using h1
  ·rw[h3] at hod;cases hod
 |false =>
  have h3:=qoG (P:=P) (N:=N) o ops hdf
  unfold qhS at h1;split at h1
  ·rename_i x y hx;exact absurd hx (qFq hdf x y)
  ·rw[h3,hod] at h1;simpa using h1
theorem quf (hO:OrOK P C N E) (hN:NOK P N C E.G) {nt n:Nat} (hng:nt≤gh) : ∀(pc:PC) (c:Code),qaA pc=qaz P N c→CS P N C E B nt n pc c:=by
 intro pc;induction pc with
 |skip =>
  intro c hb base ro nf _ s s' ex a w S β Q he hI hQ;cases c with
  |skip =>
   simp only[qak,zzb,zzc] at he;obtain⟨rfl,rfl⟩:=he;exact wpIn_skip (hQ a w S β hI (Ext.refl _ _ _) (Lb.refl _ _))
  |region id ops d=>simp only[qaz,qaA] at hb; (repeat' split at hb)<;>cases hb
  |rangeFunc f ps x y=>simp only[qaz,qaA] at hb;split at hb<;>cases hb
  |cond x y z=>simp only[qaz,qaA] at hb;split at hb<;>cases hb
  | _=>simp[qaA,qaz] at hb
 |reg ops kill =>
  intro c hb base ro nf hds s s' ex a w S β Q he hI hQ;cases c with
  |region id ops' d =>
   simp only[qaz,qaA] at hb;split at hb
   ·rename_i hd;split at hb
    ·rename_i hok;split at hb
     ·rename_i hlit;simp only[PC.reg.injEq,and_true] at hb;subst hb;subst hd;simp only[qak] at he;split at he
      ·rename_i s1 hs1;simp only[zzb,zzc] at he;obtain⟨rfl,rfl⟩:=he;unfold qdj at hs1;split at hs1
       ·rename_i s2 hs2;cases hs1;have hd2:=qpP (P:=P) (N:=N) (ops:=ops') hds
        have hnof : ∀o∈ops'.toList,qb8 o.op=false:=by
         intro o ho;cases hdf:qb8 o.op with
         |false=>rfl
         |true =>
          exfalso
          have hm:qar P N ops' o∈ops'.toList.map (qar P N ops'):=List.mem_map_of_mem ho
          obtain⟨g3,g4⟩:=qFU hlit _ hm;obtain⟨g1,g2⟩:=qm7 (P:=P) (N:=N) (ops:=ops') hdf;rcases g2 with ⟨g2,-⟩|⟨⟨x,y,g2⟩,-⟩
          ·exact g3 g2
          ·exact g4 x y g2
        refine qxG (base:=base) (nt:=nt) (B:=B) (S:=S) (β:=β) hO hN hng hnof hd2 hok hlit hs2 hI ?_;intro a' w' S' β' hI' e1 e2;refine hQ a' w' S' β' ⟨hI'.swf,hI'.gok,hI'.hB,hI'.hok,?_,hI'.size,hI'.defers.frame (fun t ht=>qo3 kill ht s2.fr),hI'.yok,hI'.base⟩ e1 e2
        intro t;rcases qqt kill t s2.fr with h|h
        ·rw[h];exact hI'.fok t
        ·rw[h];exact .u _
       ·cases hs1
      ·cases he
     ·cases hb
    ·cases hb
   ·rename_i hd;simp only[PC.reg.injEq,and_true] at hb;subst hb;have hd':d=false:=by simpa using hd
    subst hd';simp only[qak] at he;split at he
    ·rename_i s1 hs1;simp only[zzb,zzc] at he;obtain⟨rfl,rfl⟩:=he;unfold qdj at hs1;split at hs1
     ·rename_i s2 hs2;cases hs1;refine wpIn_region ?_;rw[List.range_eq_range'];have hlen:s.H.length≤(s.H++List.replicate (qap (ops'.toList.map (qar P N ops'))) none).length:=by simp
      have hd2:=qpP (P:=P) (N:=N) (ops:=ops') hds
      have hro:ro=none∨∀o∈ops'.toList,qb8 o.op=false:=by
       cases ro with
       |none=>exact .inl rfl
       |some l =>
        refine .inr fun o ho => ?_
        cases hdf:qb8 o.op with
        |false=>rfl
        |true =>
         exfalso
         have hm:qar P N ops' o∈ops'.toList.map (qar P N ops'):=List.mem_map_of_mem ho
         obtain⟨g1,g2⟩:=qm7 (P:=P) (N:=N) (ops:=ops') hdf;rcases g2 with ⟨g2,-⟩|⟨⟨x,y,g2⟩,-⟩
         ·exact qne _ _ _ _ hs2 _ hm g1 g2
         ·have:=List.all_eq_true.1 hds _ hm
          unfold qhS at this;rw[g2] at this;cases this
      obtain⟨yb,hyb,hyok⟩:=hI.yok;refine qxH (base:=base) (nt:=nt) hO hN hng hro hd2 ops'.size 0 s.H.length (s.H.length+qap (ops'.toList.map (qar P N ops'))) ⟨s.fr,s.H++List.replicate (qap (ops'.toList.map (qar P N ops'))) none⟩ s2 a w S β (by omega) (by simpa using hs2) ⟨hI.swf,hI.gok,hI.hB,qkJ hI.hok _,hI.fok,hI.size,hI.defers,⟨yb,hyb,hyok⟩,Nat.le_trans hI.base hlen⟩ ?_ ?_ ?_ hI.base ?_
      ·intro j hj _;exact hI.hok.out j hj
      ·simp
      ·simp
      ·intro a' w' S' β' hI' e1 e2;refine hQ a' w' S' β' ⟨hI'.swf,hI'.gok,hI'.hB,hI'.hok,?_,hI'.size,hI'.defers.frame (fun t ht=>qo3 kill ht s2.fr),hI'.yok,hI'.base⟩ e1 e2
       intro t;rcases qqt kill t s2.fr with h|h
       ·rw[h];exact hI'.fok t
       ·rw[h];exact .u _
     ·cases hs1
    ·cases he
  |cond x y z=>simp only[qaz,qaA] at hb;split at hb<;>cases hb
  |rangeFunc f ps x y=>simp only[qaz,qaA] at hb;split at hb<;>cases hb
  | _=>simp[qaA,qaz] at hb
 |regD ops bf kill =>
  intro c hb base ro nf hds s s' ex a w S β Q he hI hQ;cases c with
  |region id ops' d =>
   simp only[qaz,qaA] at hb;split at hb
   ·rename_i hd;split at hb
    ·rename_i hok;split at hb
     ·cases hb
     simp only[PC.regD.injEq,and_true] at hb;obtain⟨rfl,rfl⟩:=hb;subst hd;simp only[qak] at he;split at he
     ·rename_i s1 hs1;simp only[zzb,zzc] at he;obtain⟨rfl,rfl⟩:=he;unfold qfN at hs1;split at hs1
      ·rename_i s2 hs2;cases hs1;have hd2:=qpP (P:=P) (N:=N) (ops:=ops') hds
       have hnof : ∀o∈ops'.toList,qb8 o.op=false:=by
        intro o ho;cases hdf:qb8 o.op with
        |false=>rfl
        |true =>
         exfalso
         have hm:qar P N ops' o∈ops'.toList.map (qar P N ops'):=List.mem_map_of_mem ho
         obtain⟨g1,g2⟩:=qm7 (P:=P) (N:=N) (ops:=ops') hdf;obtain⟨g3,g4⟩:=qrH _ _ _ _ _ _ hs2 _ hm g1;rcases g2 with ⟨g2,-⟩|⟨⟨x,y,g2⟩,-⟩
         ·exact g3 g2
         ·exact g4 x y g2
       refine qwH (base:=base) (nt:=nt) (B:=B) (S:=S) (β:=β) hO hN hng hnof hd2 hok hs2 hI ?_
       ·intro a' w' S' β' hI' e1 e2;refine hQ a' w' S' β' ⟨hI'.swf,hI'.gok,hI'.hB,hI'.hok,?_,hI'.size,hI'.defers.frame (fun t ht=>qo3 kill ht s2.fr),hI'.yok,hI'.base⟩ e1 e2
        intro t;rcases qqt kill t s2.fr with h|h
        ·rw[h];exact hI'.fok t
        ·rw[h];exact .u _
      ·cases hs1
     ·cases he
    ·cases hb
   ·cases hb
  |cond x y z=>simp only[qaz,qaA] at hb;split at hb<;>cases hb
  |rangeFunc f ps x y=>simp only[qaz,qaA] at hb;split at hb<;>cases hb
  | _=>simp[qaA,qaz] at hb
 |seq x y ihx ihy =>
  intro c hb base ro nf hds s s' ex a w S β Q he hI hQ;simp only[qch,zzf] at hds;cases c with
  |seq c1 c2 =>
   simp only[qaz,qaA,PC.seq.injEq] at hb;simp only[qak] at he;refine wpIn_seq ?_;cases hx:qak E (lpN n) base x s with
   |none=>rw[hx] at he;cases he
   |some v =>
    obtain⟨e1,s1⟩:=v;refine ihx c1 hb.1 base ro nf hds.1 s s1 e1 a w S β _ hx hI ?_;intro a' w' S' β' hI' g1 g2;rw[hx] at he;cases e1 with
    |norm =>
     exact ihy c2 hb.2 base ro nf hds.2 s1 s' ex a' w' S' β' Q he hI' fun a'' w'' S'' β'' hI'' g3 g4=>hQ a'' w'' S'' β'' hI'' (g1.trans g3) (g2.trans g4)
    |exit id =>
     simp only[zzb,zzc] at he;obtain⟨rfl,rfl⟩:=he;exact hQ a' w' S' β' hI' g1 g2
    |ret =>
     simp only[zzb,zzc] at he;obtain⟨rfl,rfl⟩:=he;exact hQ a' w' S' β' hI' g1 g2
  |region id ops d=>simp only[qaz,qaA] at hb; (repeat' split at hb)<;>cases hb
  |rangeFunc f ps x y=>simp only[qaz,qaA] at hb;split at hb<;>cases hb
  |cond x y z=>simp only[qaz,qaA] at hb;split at hb<;>cases hb
  | _=>simp[qaA,qaz] at hb
 |cond c x y ihx ihy =>
  intro cc hb base ro nf hds s s' ex a w S β Q he hI hQ;simp only[qch,zzf] at hds;cases cc with
  |cond c0 c1 c2 =>
   simp only[qaz,qaA] at hb;split at hb
   ·rename_i r hr;simp only[PC.cond.injEq] at hb;obtain⟨rfl,hb1,hb2⟩:=hb;have hrel:=qid hN hI.gok hI.fok hr
    simp only[qak] at he;split at he
    ·rename_i hc;rw[hc] at hrel;exact wpIn_cond_true (qh2 hrel) (ihx c1 hb1 base ro nf hds.1 s s' ex a w S β Q he hI hQ)
    ·rename_i hc;rw[hc] at hrel;exact wpIn_cond_false (qh2 hrel) (ihy c2 hb2 base ro nf hds.2 s s' ex a w S β Q he hI hQ)
    ·cases he
   ·cases hb
  |region id ops d=>simp only[qaz,qaA] at hb; (repeat' split at hb)<;>cases hb
  |rangeFunc f ps x y=>simp only[qaz,qaA] at hb;split at hb<;>cases hb
  | _=>simp[qaA,qaz] at hb
 |block id x ih =>
  intro c hb base ro nf hds s s' ex a w S β Q he hI hQ;simp only[qch] at hds;cases c with
  |block id' c1 =>
   simp only[qaz,qaA,PC.block.injEq] at hb;obtain⟨rfl,hb⟩:=hb;simp only[qak] at he;refine wpIn_block ?_;cases hx:qak E (lpN n) base x s with
   |none=>rw[hx] at he;cases he
   |some v =>
    obtain⟨e1,s1⟩:=v;rw[hx] at he;refine ih c1 hb base ro nf hds s s1 e1 a w S β _ hx hI ?_;intro a' w' S' β' hI' g1 g2;cases e1 with
    |norm =>
     simp only[zzb,zzc] at he;obtain⟨rfl,rfl⟩:=he;exact hQ a' w' S' β' hI' g1 g2
    |exit j =>
     simp only at he;split at he
     ·rename_i hj;simp only[zzb,zzc] at he;obtain⟨rfl,rfl⟩:=he;simp only[beq_iff_eq] at hj;subst hj;simp only[qlY,Exit.inBlock,if_true];exact hQ a' w' S' β' hI' g1 g2
     ·rename_i hj;simp only[zzb,zzc] at he;obtain⟨rfl,rfl⟩:=he;simp only[beq_iff_eq] at hj;simp only[qlY,Exit.inBlock,hj,if_false];exact hQ a' w' S' β' hI' g1 g2
    |ret =>
     simp only[zzb,zzc] at he;obtain⟨rfl,rfl⟩:=he;exact hQ a' w' S' β' hI' g1 g2
  |region id ops d=>simp only[qaz,qaA] at hb; (repeat' split at hb)<;>cases hb
  |rangeFunc f ps x y=>simp only[qaz,qaA] at hb;split at hb<;>cases hb
  |cond x y z=>simp only[qaz,qaA] at hb;split at hb<;>cases hb
  | _=>simp[qaA,qaz] at hb
 |loop live x ih =>
  intro c hb base ro nf hds s s' ex a w S β Q he hI hQ;simp only[qch] at hds;cases c with
  |loop c1 =>
   simp only[qaz,qaA,PC.loop.injEq,true_and] at hb;simp only[qak] at he;refine wpIn_loop_rounds n ?_;have key : ∀(m:Nat) (s:St) (a:Act) (w1:World) (S1:qah) (β1:Pl),lpN m (fun s=>qak E (lpN n) base x (gc live base s)) s=some (ex,s')→Inv P N C E B base nt s a w1 S1 β1→Ext B w S w1 S1→Lb base β β1→Code.roundsIn (FR ro) nf P c1 Q m a w1:=by
    intro m;induction m with
    |zero=>intro s a w1 S1 β1 h;cases h
    |succ m ihm =>
     intro s a w1 S1 β1 h hI1 g1 g2;rw[roundsIn_succ];rw[lpN] at h;obtain⟨β2,hI2,g3⟩:=qAz hI1 live;cases hx:qak E (lpN n) base x (gc live base s) with
     |none=>rw[hx] at h;cases h
     |some v =>
      obtain⟨e1,s1⟩:=v;rw[hx] at h;refine ih c1 hb base ro nf hds _ s1 e1 a w1 S1 β2 _ hx hI2 ?_;intro a' w' S' β' hI' g4 g5;cases e1 with
      |norm=>exact ihm s1 a' w' S' β' h hI' (g1.trans g4) ((g2.trans g3).trans g5)
      |exit id =>
       simp only[zzb,zzc] at h;obtain⟨rfl,rfl⟩:=h;exact hQ a' w' S' β' hI' (g1.trans g4) ((g2.trans g3).trans g5)
      |ret =>
       simp only[zzb,zzc] at h;obtain⟨rfl,rfl⟩:=h;exact hQ a' w' S' β' hI' (g1.trans g4) ((g2.trans g3).trans g5)
   exact key n s a w S β he hI (Ext.refl _ _ _) (Lb.refl _ _)
  |region id ops d=>simp only[qaz,qaA] at hb; (repeat' split at hb)<;>cases hb
  |rangeFunc f ps x y=>simp only[qaz,qaA] at hb;split at hb<;>cases hb
  |cond x y z=>simp only[qaz,qaA] at hb;split at hb<;>cases hb
  | _=>simp[qaA,qaz] at hb
 |rng rf g ps live x y ihx ihy =>
  intro c hb base ro nf hds s s' ex a w S β Q he hI hQ;simp only[qch,zzf,Bool.not_eq_true',Nat.ble_eq] at hds;obtain⟨⟨⟨⟨hro,hg⟩,hps⟩,hdx⟩,hdy⟩:=hds;have hro:ro=none:=by
   cases ro with
   |none=>rfl
   |some l=>cases hro
  subst hro;cases c with
  |rangeFunc f ps' ca cx =>
   simp only[qaz,qaA] at hb;split at hb
   ·rename_i r hr;simp only[PC.rng.injEq,true_and] at hb;obtain⟨rfl,rfl,rfl,hb1,hb2⟩:=hb;refine qDS hO hN hng (ihx ca hb1) (ihy cx hb2) hr ?_ hg hdx hdy he hI hQ;intro p hp
    have:=List.all_eq_true.1 hps p hp
    simpa using this
   ·cases hb
  |region id ops d=>simp only[qaz,qaA] at hb; (repeat' split at hb)<;>cases hb
  |cond x y z=>simp only[qaz,qaA] at hb;split at hb<;>cases hb
  | _=>simp[qaA,qaz] at hb
 |exit id =>
  intro c hb base ro nf _ s s' ex a w S β Q he hI hQ;cases c with
  |exit id' =>
   simp only[qaz,qaA,PC.exit.injEq] at hb;subst hb;simp only[qak,zzb,zzc] at he;obtain⟨rfl,rfl⟩:=he;exact wpIn_exit (hQ a w S β hI (Ext.refl _ _ _) (Lb.refl _ _))
  |region id ops d=>simp only[qaz,qaA] at hb; (repeat' split at hb)<;>cases hb
  |rangeFunc f ps x y=>simp only[qaz,qaA] at hb;split at hb<;>cases hb
  |cond x y z=>simp only[qaz,qaA] at hb;split at hb<;>cases hb
  | _=>simp[qaA,qaz] at hb
 |ret =>
  intro c hb base ro nf _ s s' ex a w S β Q he hI hQ;cases c with
  |ret =>
   simp only[qak,zzb,zzc] at he;obtain⟨rfl,rfl⟩:=he;exact wpIn_ret (hQ a w S β hI (Ext.refl _ _ _) (Lb.refl _ _))
  |region id ops d=>simp only[qaz,qaA] at hb; (repeat' split at hb)<;>cases hb
  |rangeFunc f ps x y=>simp only[qaz,qaA] at hb;split at hb<;>cases hb
  |cond x y z=>simp only[qaz,qaA] at hb;split at hb<;>cases hb
  | _=>simp[qaA,qaz] at hb
 |bad=>intro c hb base ro nf _ s s' ex a w S β Q he;cases he
def qlH (tmps:Array Value):ResultVar→Sem Value
 | .tmp t=>pure (tmps.getD t undef)
 | .cell x t=>do loadVar t (←asAddr (tmps.getD x undef))
theorem qoi {fr:Fr} (hH:HOK C B w S β H) (hf:FOK C w S β fr a) : ∀{rs:List ResultVar} {xs:List RV} {vs:List PV},qhg P rs=some xs→results fr H xs=some vs →
  ∃us:List Value,(rs.mapM (qlH a.tmps)).run P w = .ok us w∧vs.length=us.length∧∀j (h:j<vs.length) (h':j<us.length),RelV C w S β vs[j] us[j]
 | [],xs,vs,h,hr=>by
  cases h;cases hr;exact⟨[],rfl,rfl,fun j h=>absurd h (zzm _)⟩
 |r::rs,xs,vs,h,hr=>by
  unfold qhg at h;obtain⟨x,hx,h⟩:=zza.1 h;obtain⟨xs',hxs,h⟩:=zza.1 h;cases h;cases r with
  |tmp t =>
   simp only[qpG,zzb] at hx;subst hx;simp only[Sim.results] at hr;split at hr
   ·rename_i vs' hvs;cases hr;obtain⟨us,h1,h2,h3⟩:=qoi hH hf hxs hvs;refine⟨a.tmps.getD t undef::us,?_,by simp[h2],?_⟩
    ·simp only[List.mapM_cons,qlH,Sem.run_bind,Sem.run_pure,Result.andThen_ok,h1]
    ·intro j hj hj';cases j with
     |zero=>exact hf t
     |succ j=>exact h3 j (by simpa using hj) (by simpa using hj')
   ·cases hr
  |cell y t =>
   simp only[qpG] at hx;obtain⟨k,hk,hx⟩:=zza.1 hx;cases hx;simp only[Sim.results] at hr;split at hr
   ·rename_i v vs' hv hvs;cases hr;obtain⟨us,h1,h2,h3⟩:=qoi hH hf hxs hvs;obtain⟨u,h4,h5⟩:=qvO hH hk (hf y) hv;have h6:(do loadVar t (←asAddr (a.tmps.getD y undef)):Sem Value).run P w = .ok u w:=by
     generalize a.tmps.getD y undef=z at *
     cases z with
     |pointer p =>
      cases p with
      |some p=>simpa[Instr.loadAt,Instr.sureAddr,asAddr] using h4
      |none=>simp[Instr.loadAt,Instr.sureAddr] at h4
     | _=>simp[Instr.loadAt,Instr.sureAddr] at h4
    refine⟨u::us,?_,by simp[h2],?_⟩
    ·simp only[Sem.run_bind] at h6;simp only[List.mapM_cons,qlH,Sem.run_bind,h6,Result.andThen_ok,h1,Sem.run_pure]
    ·intro j hj hj';cases j with
     |zero=>exact h5
     |succ j=>exact h3 j (by simpa using hj) (by simpa using hj')
   ·cases hr
theorem qBQ {vs:List PV} {us:List Value} (hl:vs.length=us.length) (h : ∀j (h:j<vs.length) (h':j<us.length),RelV C w S β vs[j] us[j]) :
  RelV C w S β (qc1 vs) (if h:us.toArray.size=1 then us.toArray[0] else .tuple us.toArray):=by
 unfold qc1;split
 ·rename_i v;have h1:us.toArray.size=1:=by simpa using hl.symm
  rw[dif_pos h1];have h2:us.length=1:=by simpa using h1
  have:=h 0 (by simp) (by omega)
  simpa using this
 ·rename_i hn;have h1 : ¬us.toArray.size=1:=by
   intro h1;have:vs.length=1:=by simpa[hl] using h1
   cases vs with
   |nil=>simp at this
   |cons v r =>
    cases r with
    |nil=>exact hn v rfl
    |cons _ _=>simp at this
  rw[dif_neg h1];exact .t vs us hl h
def qhz (P:Program) (N:Names) (f:FuncId) (F:PF):Prop :=
 ∃fn c,P.funcs[f]? = some fn∧fn.name ≠ "runtime.NumGoroutine" ∧ fn.body=some c∧qhg P fn.results.toList=some F.results∧qaA F.body=qaz P N c∧qch (F.nargs+(fn.ntmps-F.nargs)) false F.body=true∧F.nargs+(fn.ntmps-F.nargs)≤gh
theorem qqR : ∀fr:Fr,qau fr=[]→∀t,gh≤t→fr.get t = .u
 | [],_,_,_=>rfl
 | (j,x)::r,h,t,ht=>by
  simp only[qau] at h;split at h
  ·cases h
  ·rename_i hj;simp only[Nat.ble_eq] at hj;simp only[Fr.get];rw[if_neg (by omega)]
   exact qqR r h t ht
theorem qsv {v:PV} : ∀fr:Fr,qau fr=[v]→∃t0,gh≤t0∧fr.get t0=v∧∀t,gh≤t→t≠t0→fr.get t = .u
 | [],h=>by cases h
 | (j,x)::r,h=>by
  simp only[qau] at h;split at h
  ·rename_i hj;simp only[Nat.ble_eq] at hj;simp only[List.cons.injEq] at h;obtain⟨rfl,h⟩:=h;refine⟨j,hj,by simp[Fr.get],fun t ht hne => ?_⟩
   simp only[Fr.get];rw[if_neg (fun e=>hne e.symm)]
   exact qqR r h t ht
  ·rename_i hj;simp only[Nat.ble_eq] at hj;obtain⟨t0,h1,h2,h3⟩:=qsv r h;have hg : ∀t,gh≤t→Fr.get ((j,x)::r) t=Fr.get r t:=fun t ht=>by
    simp only[Fr.get];rw[if_neg (by omega)]
   exact⟨t0,h1,(hg t0 h1).trans h2,fun t ht hne=>(hg t ht).trans (h3 t ht hne)⟩
theorem DRel.ne {x:PV} {d:Deferred} (h:DRel C w S β x d):x≠.u:=fun hx=>by subst hx;exact h
theorem qwp {fr:Fr} {ds:List Deferred} (h:DfRel C w S β fr ds) (hg:qau fr=[]):ds=[]:=by
 obtain⟨sl,h1,h2,h3,h4,h5⟩:=h;cases ds with
 |nil=>rfl
 |cons d ds =>
  have h0:=h5 0 (by simp at h4;omega) (by simp)
  exact absurd (qqR fr hg _ (h2 _ (zzs _))) h0.ne
theorem qu3 {fr:Fr} {ds:List Deferred} (h:DfRel C w S β fr ds) {v:PV} (hg:qau fr=[v]) (hv:v≠.u) : ∃d,ds=[d]∧DRel C w S β v d:=by
 obtain⟨sl,h1,h2,h3,h4,h5⟩:=h;obtain⟨t0,g1,g2,g3⟩:=qsv fr hg;have hm:t0∈sl:=h3 t0 g1 (by rw[g2];exact hv)
 have hall : ∀j (hj:j<sl.length),sl[j]=t0:=fun j hj=>by
  have h0:=(h5 j hj (by omega)).ne
  cases Nat.decEq sl[j] t0 with
  |isTrue h=>exact h
  |isFalse h=>exact absurd (g3 _ (h2 _ (zzs hj)) h) h0
 have hlen:sl.length=1:=by
  rcases Nat.lt_trichotomy sl.length 1 with h|h|h
  ·have:sl=[]:=by cases sl with|nil=>rfl|cons _ _=>simp at h
   rw[this] at hm;cases hm
  ·exact h
  ·have hpw:=List.pairwise_iff_getElem.1 h1 0 1 (by omega) h (by omega)
   rw[hall 0 (by omega),hall 1 h] at hpw
   exact absurd rfl hpw
 have hd1:ds.length=1:=by omega
 match ds,hd1 with
 | [d],_ =>
  refine⟨d,rfl,?_⟩;have h0:=h5 0 (by omega) (by simp)
  rw[hall 0 (by omega),g2] at h0
  exact h0
def FnR (C:Cx) (B:Nat) (w:World) (S:qah) (β:Pl) (H:Heap) (v:PV) (H':Heap) (e:Ending) (w':World):Prop :=
 ∃u S' β',e = .returned u∧Ext B w S w' S'∧Swf w' S'∧HOK C B w' S' β' H'∧Lb H.length β β'∧RelV C w' S' β' v u∧H.length≤H'.length
theorem qsP (hO:OrOK P C N E) (hN:NOK P N C E.G) {n:Nat} {F:PF} {fn:Func} {c:Code} (f4:qhg P fn.results.toList=some F.results) (f5:qaA F.body=qaz P N c) (f6:qch (F.nargs+(fn.ntmps-F.nargs)) false F.body=true) (f7:F.nargs+(fn.ntmps-F.nargs)≤gh)
  {args:List PV} {v:PV} {H':Heap} (h:qbU E (lpN n) F args H=some (v,H')) {us:List Value} (hS:Swf w S) (hG:GOK N E.G w S) (hB:B≤w.heap.size) (hH:HOK C B w S β H)
  (hl:args.length=us.length) (hr : ∀j (h:j<args.length) (h':j<us.length),RelV C w S β args[j] us[j]) (hY:YOK P C N E.G E.yld B w S β H.length) (nf:Nat) :
  c.wpIn (FR none) nf P (bodyPostM (FR none) nf P fn (FnR C B w S β H v H')) { tmps:=us.toArray++Array.replicate (fn.ntmps-us.toArray.size) undef,defers:=[] } w:=by
 unfold qbU at h;split at h
 ·rename_i hn;have hsz:us.toArray.size=F.nargs:=by simp;omega
  have hI:Inv P N C E B H.length (F.nargs+(fn.ntmps-F.nargs)) ⟨Fr.ofArgs 0 args,H⟩ { tmps:=us.toArray++Array.replicate (fn.ntmps-us.toArray.size) undef,defers:=[] } w S β:=by
   refine⟨hS,hG,hB,hH,?_,by simp only[Array.size_append,Array.size_replicate,hsz],?_,⟨H.length,zzt _,hY⟩,zzt _⟩
   ·intro t;rw[qrd];simp only[Nat.zero_le,if_true,Nat.sub_zero];by_cases ht:t<args.length
    ·rw[List.getD,zze ht,Option.getD_some];have ht':t<us.length:=by omega
     have:(us.toArray++Array.replicate (fn.ntmps-us.toArray.size) undef).getD t undef=us[t]:=by
      rw[Array.getD_eq_getD_getElem?,Array.getElem?_append_left (by simpa using ht')]
      simp[ht']
     rw[this];exact hr t ht ht'
    ·rw[List.getD,List.getElem?_eq_none (by omega),Option.getD_none]
     exact .u _
   ·refine⟨[],List.nodup_nil,fun t ht=>absurd ht (List.not_mem_nil),fun t ht hne=>absurd ?_ hne,rfl,fun j hj=>absurd hj (zzm _)⟩
    show (Fr.ofArgs 0 args).get t = .u
    rw[qrd];simp only[Nat.zero_le,if_true,Nat.sub_zero];rw[List.getD,List.getElem?_eq_none (by omega),Option.getD_none]
  have last : ∀(fr:Fr) (H2:Heap) (vs:List PV) (tmps:Array Value) (w':World) (S':qah) (β':Pl),Swf w' S'→HOK C B w' S' β' H2→(∀t,RelV C w' S' β' (fr.get t) (tmps.getD t undef))→Ext B w S w' S'→Lb H.length β β'→H.length≤H2.length→Sim.results fr H2 F.results=some vs→qc1 vs=v→H2=H' →
    LeavesInM (FR none) nf P fn tmps (FnR C B w S β H v H') [] .returning w':=by
   rintro fr H2 vs tmps w' S' β' g1 g2 g3 g4 g5 g6 hvs rfl rfl;obtain⟨us',e1,e2,e3⟩:=qoi (a:={ tmps:=tmps,defers:=[] }) g2 g3 f4 hvs;refine⟨(if h:us'.toArray.size=1 then us'.toArray[0] else .tuple us'.toArray),?_,_,S',β',rfl,g4,g1,g2,g5,qBQ e2 e3,g6⟩
   have e4:(fn.results.mapM (qlH tmps)).run P w' = .ok us'.toArray w':=by
    rw[Array.mapM_eq_mapM_toList,Sem.run_map,e1];rfl
   unfold Go.results;rw[Sem.run_bind];show Result.andThen ((fn.results.mapM (qlH tmps)).run P w') _=_
   rw[e4];rfl
  have fin : ∀(s:St) (H2:Heap) (vs:List PV) (a':Act) (w':World) (S':qah) (β':Pl),Inv P N C E B H.length (F.nargs+(fn.ntmps-F.nargs)) s a' w' S' β'→Ext B w S w' S'→Lb H.length β β'→runG E (qau s.fr) s.H=some H2→Sim.results s.fr H2 F.results=some vs→qc1 vs=v→H2=H' →
    LeavesInM (FR none) nf P fn a'.tmps (FnR C B w S β H v H') a'.defers .returning w':=by
   intro s H2 vs a' w' S' β' hI' g1 g2 hg hvs hpk hH2;unfold runG at hg;split at hg
   ·rename_i hgs;simp only[zzb] at hg;rw[qwp hI'.defers hgs];rw[←hg] at hvs hH2;exact last s.fr s.H vs a'.tmps w' S' β' hI'.swf hI'.hok hI'.fok g1 g2 hI'.base hvs hpk hH2
   ·rename_i o hgs;split at hg
    ·rename_i hob;simp only[zzb] at hg;obtain⟨d,hd,hr⟩:=qu3 hI'.defers hgs (by simp)
     obtain⟨r,rfl,hb⟩:=hr;have hb:β' o = .sp r .defer:=by
      rcases hb with hb|hb
      ·exact hb
      ·rw[hI'.hok.dead o hb] at hob;cases hob
     obtain⟨-,y,k1,k2⟩:=hI'.hok.sp o r _ hb;rw[hob] at k1;cases k1;have k2:w'.heap[r]? = some (.deferred (some [])):=k2
     obtain⟨e4,h4,l4⟩:=qt9 hI'.hok hI'.swf hb (.deferred none);rw[hd];refine⟨by simp,.inl ⟨r,_,rfl,run_takeDeferred k2,?_⟩⟩
     rw[←hg] at hvs hH2;refine last s.fr _ vs a'.tmps _ S' _ (hI'.swf.ext e4) h4 (fun t=>(hI'.fok t).ext e4 l4) (g1.trans e4) (g2.trans fun o' ho' => ?_) (by rw[qa0];exact hI'.base) hvs hpk hH2
     refine⟨l4 o',fun hp => ?_⟩
     have hne:o'≠o:=fun hq=>by subst hq;rw[hb] at hp;cases hp
     rw[qaw hne];exact hp
    ·cases hg
   ·rename_i m caps hgs;split at hg;case isFalse=>cases hg
    rename_i hdok;split at hg
    ·rename_i rv H3 href;simp only[zzb] at hg;subst hg;obtain⟨d,hd,hr⟩:=qu3 hI'.defers hgs (by simp)
     obtain⟨us',rfl,q2,q3⟩:=hr;obtain⟨fn',z1,z2,z3⟩:=hO.fn _ _ _ _ href;rw[hd];refine⟨by simp,.inr ⟨(fun h=>by simp[FR,Fence.wide] at h),.func (C.μ m),us'.toArray,C.μ m,us'.toArray,rfl,?_,fun _ _=>trivial,?_⟩⟩
     ·simp only[invoke,Array.empty_append];exact qlc z1 z2 z3 _
     ·refine CallsDIn.mono (hO.dfr _ _ _ _ _ hdok href B w' S' β' us' .returning (nf-1) hI'.hB hI'.swf hI'.gok hI'.hok q2 q3) ?_;rintro e u' w3 ⟨rfl,u,S3,β3,rfl,e3,hS3,hH3,lat3,-,hl3,kp3⟩;refine last s.fr H3 vs a'.tmps w3 S3 β3 hS3 hH3 (fun t=>(hI'.fok t).ext e3 lat3) (g1.trans e3) (g2.trans fun o' ho'=>⟨lat3 o',fun hp=>kp3 o' ?_ ?_ hp⟩) (Nat.le_trans hI'.base hl3) hvs hpk hH2
      ·have:=hI'.base;omega
      ·have:=hI'.base;omega
    ·cases hg
   ·cases hg
  split at h
  ·rename_i s hs;split at h
   ·rename_i H2 hg;split at h
    ·rename_i vs hvs;simp only[zzb,zzc] at h;refine quf hO hN f7 F.body c f5 H.length none nf f6 _ s .norm _ w S β _ hs hI ?_;intro a' w' S' β' hI' g1 g2;exact fin s H2 vs a' w' S' β' hI' g1 g2 hg hvs h.1 h.2
    ·cases h
   ·cases h
  ·rename_i s hs;split at h
   ·rename_i H2 hg;split at h
    ·rename_i vs hvs;simp only[zzb,zzc] at h;refine quf hO hN f7 F.body c f5 H.length none nf f6 _ s .ret _ w S β _ hs hI ?_;intro a' w' S' β' hI' g1 g2;exact fin s H2 vs a' w' S' β' hI' g1 g2 hg hvs h.1 h.2
    ·cases h
   ·cases h
  ·cases h
 ·cases h
theorem qrN (hO:OrOK P C N E) (hN:NOK P N C E.G) {n:Nat} {f:FuncId} {F:PF} (hF:qhz P N f F) {args:List PV} {v:PV} {H':Heap} (h:qbU E (lpN n) F args H=some (v,H')) {us:List Value} (hS:Swf w S) (hG:GOK N E.G w S) (hB:B≤w.heap.size) (hH:HOK C B w S β H)
  (hl:args.length=us.length) (hr : ∀j (h:j<args.length) (h':j<us.length),RelV C w S β args[j] us[j]) (hY:YOK P C N E.G E.yld B w S β H.length):Calls P f us.toArray w (FnR C B w S β H v H'):=by
 obtain⟨fn,c,f1,-,f3,f4,f5,f6,f7⟩:=hF;exact (callsIn_wide (n:=0)).1 (callsIn_of_wp_marks f1 f3 trivial (qsP hO hN f4 f5 f6 f7 h hS hG hB hH hl hr hY 0))
theorem qyC (hO:OrOK P C N E) (hN:NOK P N C E.G) {n:Nat} {f:FuncId} {F:PF} (hF:qhz P N f F) {args:List PV} {v:PV} {H':Heap} (h:qbU E (lpN n) F args H=some (v,H')) {us:List Value} (hS:Swf w S) (hG:GOK N E.G w S) (hB:B≤w.heap.size) (hH:HOK C B w S β H)
  (hl:args.length=us.length) (hr : ∀j (h:j<args.length) (h':j<us.length),RelV C w S β args[j] us[j]) (hY:YOK P C N E.G E.yld B w S β H.length) (u:FrameMode) (nf:Nat):CallsDIn Fence.wide nf P f us.toArray u w fun e u' w'=>u'=u∧FnR C B w S β H v H' e w':=by
 obtain⟨fn,c,f1,-,f3,f4,f5,f6,f7⟩:=hF;exact qwq f1 f3 (qsP hO hN f4 f5 f6 f7 h hS hG hB hH hl hr hY nf)
end
end Go.Sim
end
section
open Go.RowKit
namespace Go.Sim
section
variable {P : Program} {N : Names} {C : Cx} {w : World} {S : qah} {β : Pl} {B : Nat} {H : Heap} {a : Act} {E : Env}
structure TabOK (P:Program) (N:Names) (C:Cx) (T:Tab):Prop where
 names:NOK P N C T.G
 f : ∀f F,T.F f=some F→qhz P N (C.μ f) F
 x : ∀f ds r own,T.F f=none→T.X f ds=some (r,own)→qhX P C N T.G f ds r own
 r : ∀f args H r H',T.F f=none→T.R f args H=some (r,H')→qmS P C N T.G f args H r H'
 rf : ∀f args H r,T.F f=none→T.R f args H=some r→∃fn,P.funcs[C.μ f]? = some fn∧fn.body.isNone=false∧fn.name ≠ "runtime.NumGoroutine"
 xf : ∀f ds r,T.F f=none→T.X f ds=some r→∃fn,P.funcs[C.μ f]? = some fn∧fn.body.isNone=false∧fn.name ≠ "runtime.NumGoroutine"
theorem qy8 {w0:World} {S0:qah} {v r:PV} {own:Bool} {u:Value} (h:purT H v=some (r,own)) (hS:Swf w S) (hH:HOK C w0.heap.size w S β H) (he:Ext w0.heap.size w0 S0 w S) (hv:RelV C w S β v u) :
  ∃S',Ext w0.heap.size w0 S0 w S'∧Swf w S'∧(own=false→RelV C w S' (fun _=>.pend) r u)∧(own=true→∃k es,r = .d (.l k es false)∧qn6 w S' k es u w0.heap.size):=by
 have frozen : ∀os,Ext w0.heap.size w0 S0 w (FSq β H os S)∧Swf w (FSq β H os S):=fun os=>⟨he.trans (qf8 hH os),qhQ hH hS os⟩
 unfold purT at h;split at h
 ·split at h
  ·rename_i xs os hp;cases h;cases hv with
   |t _ us h1 h2 =>
   obtain⟨h3,h4⟩:=qoQ hH hp;refine⟨FSq β H os S,(frozen os).1,(frozen os).2,fun _=>.t _ us (by simp;omega) ?_,fun h=>by cases h⟩
   intro j hj hj';rw[List.getElem_map];exact .d _ _ (h4 us h2 j _ hj')
  ·cases h
 ·rename_i o k off len t;split at h
  ·rename_i k' ro es ho;split at h
   ·rename_i hc;obtain⟨rfl,hle⟩:=hc;simp only[zzb,zzc] at h;obtain⟨rfl,hown⟩:=h;cases hb:own with
    |false =>
     refine⟨FSq β H [o] S,(frozen [o]).1,(frozen [o]).2,fun _ => ?_,fun h=>by cases h⟩
     exact .d _ _ (qpD hH hv (by simp[qbV,ho,hle]))
    |true =>
     rw[hb] at hown;have hro:ro≤off:=by simpa using hown
     refine⟨S,he,hS,(fun h=>by cases h),fun _=>⟨_,_,rfl,?_⟩⟩
     cases hv with
     |r _ _ _ _ _ _ h0 hx =>
     have hlen:((es.drop off).take len).length=len:=by simp;omega
     unfold RelRf at hx;split at hx
     ·exact hx.elim
     ·rename_i hb;rw[hH.dead o hb] at ho;cases ho
     ·obtain⟨rfl,rfl,a,rfl⟩:=hx;exact .inl ⟨by simp,a,rfl⟩
     ·rename_i blk base k3 hb;obtain⟨e1,cap,a,rfl,e2,e3,e4,e',n,e5,e6⟩:=hx;subst e1;rcases Nat.eq_zero_or_pos cap with h0|h0
      ·subst h0;have:len=0:=by omega
       subst this;exact .inl ⟨by simp,some a,rfl⟩
      ·have:=e2 h0
       subst this;obtain⟨hB,x,cells,e0,ho',hs,hw,hc⟩:=hH.live o blk base k3 hb;rw[ho] at ho';cases ho';obtain⟨q0,c,q1,q2,q3⟩:=hc;have hcs:n=cells.size:=by
        unfold World.shape? at e5;rw[hw] at e5;cases e5;rfl
       subst hcs;refine .inr ⟨blk,base+off*k3.size,cap,cells,e0,by rw[hlen],by omega,hB,hw,by rw[Nat.add_assoc,←zzl];exact e6,?_,?_⟩
       ·intro j hj;refine q3 j ?_;have:ro*k3.size≤off*k3.size:=zzh _ hro
        omega
       ·refine⟨?_,fun j=>c (off+j),?_,?_⟩
        ·rw[hlen,List.length_drop,Array.length_toList];have:(off+len)*k3.size≤(off+cap)*k3.size:=zzh _ (by omega)
         rw[zzl] at this;omega
        ·intro j hj m hm
         have:=q1 (off+j) (by omega) m hm
         rw[zzl] at this;rw[List.getElem?_drop];have e7:base+off*k3.size+(j*k3.size+m)=base+(off*k3.size+j*k3.size)+m:=by omega
         rw[e7];simpa using this
        ·intro j hj
         have:=q2 (off+j) (by omega)
         simpa[List.getElem_drop,List.getElem_take] using this
     ·exact hx.elim
   ·cases h
  ·cases h
 ·rename_i k es;simp only[zzb,zzc] at h;obtain⟨rfl,hown⟩:=h;cases hv with
  |d _ _ hv =>
  refine⟨S,he,hS,fun _ => ?_,fun h1=>⟨k,es,rfl,?_⟩⟩
  ·cases hv with
   |l _ _ _ a cap blk off c c1 c2 c3 c4 c5=>exact .d _ _ (.l _ _ false a cap blk off c c1 (fun h=>by cases h) c3 c4 c5)
  ·rw[h1] at hown;have:es=[]:=by simpa using hown
   subst this;cases hv with
   |l _ _ _ a cap blk off c c1 c2 c3 c4 c5 =>
   have:=c2 rfl
   subst this;exact .inl ⟨rfl,a,rfl⟩
 ·split at h
  ·rename_i x os hp;cases h;exact⟨FSq β H os S,(frozen os).1,(frozen os).2,fun _=>.d _ _ (qiL hH hv hp),fun h=>by cases h⟩
  ·cases h
theorem qrf {v r:PV} {H1 H':Heap} {e:Ending} {w':World} (hH:HOK C B w S β H) (h:FnR C B w S β H v H1 e w') (hg:gcV H.length v H1=(r,H')) :
  ∃u S' β',e = .returned u∧Ext B w S w' S'∧Swf w' S'∧HOK C B w' S' β' H'∧Later β β'∧RelV C w' S' β' r u∧H.length≤H'.length∧Kp H.length H.length β β':=by
 obtain⟨u,S',β',rfl,e1,e2,e3,e4,e5,e6⟩:=h;obtain⟨β2,k1,k2,k3,k4⟩:=qsV e3 e5 e6;rw[hg] at k1 k2 k4;have hlb:=e4.trans k3
 exact⟨u,S',β2,rfl,e1,e2,k1,qql hlb (fun o ho=>hH.out o ho),k2,k4,fun o ho _ hp=>(hlb o ho).2 hp⟩
theorem quG {T:Tab} {n:Nat} (h:OrOK P C N (qcr T n)) (Y:Nat→List PV→Heap→Option (PV×Heap)):OrOK P C N (envY T n Y):=⟨h.val,h.ref,h.dfr,h.it,h.fni,h.fnv,h.fn⟩
theorem qAo {T:Tab} (hT:TabOK P N C T) : ∀n,OrOK P C N (qcr T n):=by
 intro n;induction n with
 |zero=>exact⟨fun f ds r own h=>by simp[qcr,envY,qcM] at h,fun f args H r H' h=>by simp[qcr,envY,qgW,itN] at h,fun f args H r H' hd h=>by simp[qcr,envY,qgW,itN] at h,fun Y f args H r H' h=>by simp[qcr,envY,itN] at h,fun Y f args H r h=>by simp[qcr,envY,itN] at h,fun f ds r h=>by simp[qcr,envY,qcM] at h,fun f args H r h=>by simp[qcr,envY,qgW,itN] at h⟩
 |succ n ih =>
  have fni : ∀Y f args H r,itN T (n+1) Y f args H=some r→∃fn,P.funcs[C.μ f]? = some fn∧fn.body.isNone=false∧fn.name ≠ "runtime.NumGoroutine" := by
   intro Y f args H r h;rw[qfL] at h;cases hF:T.F f with
   |none=>rw[hF] at h;exact hT.rf _ _ _ _ hF h
   |some F =>
    obtain⟨fn,c,f1,f2,f3,-⟩:=hT.f f F hF;exact⟨fn,f1,by rw[f3];rfl,f2⟩
  have it : ∀Y f args H r H',itN T (n+1) Y f args H=some (r,H')→qu7 P C N T.G Y f args H r H':=by
   intro Y f args H r H' h;rw[qfL] at h;cases hF:T.F f with
   |none =>
    rw[hF] at h;intro B w S β us hB hS hG hH hl hr hY;exact hT.r _ _ _ _ _ hF h B w S β us hB hS hG hH hl hr
   |some F =>
    rw[hF] at h;simp only at h;split at h
    ·rename_i v H1 he;simp only[zzb] at h;intro B w S β us hB hS hG hH hl hr hY;refine (qrN (quG ih Y) hT.names (hT.f f F hF) he hS hG hB hH hl hr hY).mono ?_;intro e w' hR;exact qrf hH hR h
    ·cases h
  refine⟨?_,fun f args H r H' h B w S β us hB hS hG hH hl hr=>it noY f args H r H' h B w S β us hB hS hG hH hl hr qnX,?_,it,fni,?_,fun f args H r h=>fni noY f args H r h⟩
  ·intro f ds r own h;change qcM T (n+1) f ds=some (r,own) at h
   rw[qhG] at h;cases hF:T.F f with
   |none=>rw[hF] at h;exact hT.x f ds r own hF h
   |some F =>
    rw[hF] at h;simp only at h;split at h
    ·rename_i v H' he;intro w S us hS hG hl hr;have h0:HOK C w.heap.size w S (fun _=>.pend) []:=⟨(fun o blk base k h=>by cases h),(fun o h=>by cases h),(fun o h=>by cases h),(fun o o' blk base k base' k' h=>by cases h),fun _ _=>rfl,(fun o blk x h=>by cases h),(fun o o' blk x x' h=>by cases h)⟩
     have:=qrN ih hT.names (hT.f f F hF) (args:=ds.map .d) (H:=[]) he hS hG (zzt _) h0 (by simpa using hl) (fun j hj hj'=>by
      rw[List.getElem_map];exact .d _ _ (hr j (by simpa using hj) hj')) qnX
     refine this.mono ?_;rintro e w' ⟨u,S',β',rfl,e1,e2,e3,-,e5,-⟩;obtain⟨S2,q1,q2,q3,q4⟩:=qy8 h e2 e3 e1 e5;exact⟨u,S2,rfl,q1,q2,q3,q4⟩
    ·cases h
  ·intro f args H r H' hd h;change itN T (n+1) noY f args H=some (r,H') at h
   rw[qfL] at h;cases hF:T.F f with
   |none=>simp[qcr,envY,Tab.dok,hF] at hd
   |some F =>
    rw[hF] at h;simp only at h;split at h
    ·rename_i v H1 he;simp only[zzb] at h;intro B w S β us u nf hB hS hG hH hl hr;refine CallsDIn.mono (qyC (quG ih noY) hT.names (hT.f f F hF) he hS hG hB hH hl hr qnX u nf) ?_;rintro e u' w' ⟨rfl,hR⟩;exact⟨rfl,qrf hH hR h⟩
    ·cases h
  ·intro f ds r h;change qcM T (n+1) f ds=some r at h
   rw[qhG] at h;cases hF:T.F f with
   |none=>rw[hF] at h;exact hT.xf f ds r hF h
   |some F =>
    obtain⟨fn,c,f1,f2,f3,-⟩:=hT.f f F hF;exact⟨fn,f1,by rw[f3];rfl,f2⟩
theorem qtM {T:Tab} (hT:TabOK P N C T) {f:Nat} {ds:List DV} {r:PV} {own:Bool} (h:T.val f ds=some (r,own)):qhX P C N T.G f ds r own:=by
 obtain⟨n,hn⟩:=(qi7 T f ds (r,own)).1 h;exact (qAo hT n).val f ds r own hn
theorem qAL {T:Tab} (hT:TabOK P N C T) {f:Nat} {ds:List DV} {own:Bool} (h:T.val f ds=some (.d (.b true),own)) {us:List Value} (hS:Swf w S) (hG:GOK N T.G w S) (hl:ds.length=us.length) (hr : ∀j (h:j<ds.length) (h':j<us.length),RelD w S ds[j] us[j]) :
  Calls P (C.μ f) us.toArray w fun e w'=>e = .returned (.bool true)∧Below w.heap.size w w':=by
 refine (qtM hT h w S us hS hG hl hr).mono ?_;rintro e w' ⟨u,S',rfl,e1,-,e3,e4⟩;cases own with
 |false=>exact⟨by rw[qh2 (e3 rfl)],e1.below⟩
 |true=>obtain⟨k,es,h,-⟩:=e4 rfl;cases h
end
end Go.Sim
end
section
open Go.RowKit
namespace Go.Sim
section
variable {P : Program} {N : Names} {C : Cx} {w : World} {S : qah} {β : Pl} {B : Nat} {H : Heap} {a : Act} {E : Env}
end
end Go.Sim
end
section
open Go.RowKit
namespace Go.Sim
def qj2 (l:List (Nat×Nat×Nat)) (f:Nat):Option (Nat×Nat):=match l with
 | []=>none
 | (g,x)::r=>if g=f then some x else qj2 r f
def qm8 (l:List (Nat×Nat×Nat)) (n:Nat):Nat:=match l with
 | []=>0
 | (g,k,_)::r=>if k=n then g else qm8 r n
theorem qtI {f:Nat} {x:Nat×Nat} : ∀{l:List (Nat×Nat×Nat)},qj2 l f=some x→(f,x)∈l
 | [],h=>by cases h
 | (g,y)::r,h=>by
  simp only[qj2] at h;split at h
  ·rename_i hg;subst hg;cases h;exact zzr ..
  ·exact zzi _ (qtI h)
theorem qDd {P:Program} {l:List (Nat×Nat×Nat)} {G:Nat→Option (DV×K)} {g:Nat→Nat} (hm:P.follows .mixedOrders=true) (h:(l.all fun x=>qm8 l x.2.1==x.1)=true):NOK P ⟨qj2 l,g⟩ ⟨qm8 l⟩ G:=by
 refine⟨?_,hm⟩;intro f x hx
 have:=List.all_eq_true.1 h _ (qtI hx)
 simpa using this
def asciiL:List Int:=[0,0,0,0,0,0,0,0,0,1,1,1,1,1,0,0,0,0,0,0,0,0,0,0,0,0,0,0,0,0,0,0,1,0,0,0,0,0,0,0,0,0,0,0,0,0,0,0,0,0,0,0,0,0,0,0,0,0,0,0,0,0,0,0,0,0,0,0,0,0,0,0,0,0,0,0,0,0,0,0,0,0,0,0,0,0,0,0,0,0,0,0,0,0,0,0,0,0,0,0,0,0,0,0,0,0,0,0,0,0,0,0,0,0,0,0,0,0,0,0,0,0,0,0,0,0,0,0,0,0,0,0,0,0,0,0,0,0,0,0,0,0,0,0,0,0,0,0,0,0,0,0,0,0,0,0,0,0,0,0,0,0,0,0,0,0,0,0,0,0,0,0,0,0,0,0,0,0,0,0,0,0,0,0,0,0,0,0,0,0,0,0,0,0,0,0,0,0,0,0,0,0,0,0,0,0,0,0,0,0,0,0,0,0,0,0,0,0,0,0,0,0,0,0,0,0,0,0,0,0,0,0,0,0,0,0,0,0,0,0,0,0,0,0,0,0,0,0,0,0,0,0,0,0,0,0]
end Go.Sim
end
