/- Part 6 of the proof: CbSimIw, CbSimIn, CbSimIt, CbSimRp, CbSimCt, CbSimTx, CbTab2, CbGi. -/
import Derived.Shelf.Spec.SlicesInsertGrow
import Derived.Shelf.SlGeneric
import Derived.Test.YtkijgkjjbanipaaGreatDoorB5
import Derived.Shelf.Strconv.Itoa3
import Derived.Shelf.Strings.Repeat
import Derived.Shelf.Strings.Count
import Derived.Shelf.Strconv.ParseIntPublic10
import Derived.Shelf.Strconv.Atoi
import Derived.Test.YtkijgkjjbanipaaGreatDoorB2
section
namespace Go.Proofs
open Go.Shelf Go.RowKit Go.Lib
variable {P : Program} {ρ : Ren}
structure InsL (P:Program) (f:FuncId) (ρ:Ren) (z:Nat):Prop where
 mixed:P.follows .mixedOrders=true
 bears:Bears P f (Body2.n22 ρ)
 ov : ∃fn,P.funcs[ρ.f 29]? = some fn∧(fn.name == "runtime.NumGoroutine")=false∧fn.body.isNone=true∧Extern.findNext fn=none∧Extern.find fn=some (Extern.SlicesOverlaps.overlaps #[ρ.t 24,ρ.t 24] #[ρ.t 4])
 t3:P.underlying (ρ.t 3)=some (TypeDesc.int IntKind.i64)
 a3 : ∀w,(isAgg (ρ.t 3)).run P w = .ok false w
 z3 : ∀w,(Go.sizeOf (ρ.t 3)).run P w = .ok 1 w
 v3 : ∀w,(zeroValue (ρ.t 3)).run P w = .ok (Value.int IntKind.i64 0) w
 t4:P.underlying (ρ.t 4)=some (TypeDesc.bool)
 a4 : ∀w,(isAgg (ρ.t 4)).run P w = .ok false w
 z4 : ∀w,(Go.sizeOf (ρ.t 4)).run P w = .ok 1 w
 v4 : ∀w,(zeroValue (ρ.t 4)).run P w = .ok (Value.bool false) w
 z9 : ∀w,(Go.sizeOf (ρ.t 9)).run P w = .ok z w
 t24:P.underlying (ρ.t 24)=some (TypeDesc.slice (ρ.t 9))
 a24 : ∀w,(isAgg (ρ.t 24)).run P w = .ok false w
 z24 : ∀w,(Go.sizeOf (ρ.t 24)).run P w = .ok 1 w
 v24 : ∀w,(zeroValue (ρ.t 24)).run P w = .ok (Value.slice none 0 0) w
set_option maxHeartbeats 4000000 in
set_option maxRecDepth 100000 in
theorem ins_shift {f:FuncId} {z:Nat} (L:InsL P f ρ z) (b off n c i vb voff vc:Nat) (w W1 W2:World) (hi:i<n) (hroom:n+1≤c) (hc63:n+1≤9223372036854775807) (hvb:vb≠b)
  (tA tB:TypeId) (kA kB:Nat) (hsa:w.shape? vb=some (tA,kA)) (hsb:w.shape? b=some (tB,kB)) (hkB:kB≠0) (hfa:w.frozen? ⟨vb,voff,none⟩=false) (hfe:w.frozen? ⟨vb,kA,none⟩=false)
  (hcp1 : ∀ty,(Builtin.copy_ #[(ρ.t 24),(ρ.t 24)] ty #[.slice (some ⟨b,off+(i+1)*z,none⟩) (n-i) (c-(i+1)),.slice (some ⟨b,off+i*z,none⟩) (n+1-i) (c-i)]).run P w.drew = .ok (goInt (n-i:Nat)) W1)
  (hcp2 : ∀ty,(Builtin.copy_ #[(ρ.t 24),(ρ.t 24)] ty #[.slice (some ⟨b,off+i*z,none⟩) (n+1-i) (c-i),.slice (some ⟨vb,voff,none⟩) 1 vc]).run P W1 = .ok (goInt (1:Nat)) W2) :
  Calls P f #[.slice (some ⟨b,off,none⟩) n c,.int .i64 i,.slice (some ⟨vb,voff,none⟩) 1 vc] w fun e w'=>e = .returned (.slice (some ⟨b,off,none⟩) (n+1) c)∧w'=W2:=by
 have t3:=L.t3;have a3:=L.a3;have z3:=L.z3;have v3:=L.v3;have t4:=L.t4;have a4:=L.a4;have z4:=L.z4;have v4:=L.v4;have z9:=L.z9;have t24:=L.t24;have a24:=L.a24;have z24:=L.z24;have v24:=L.v24
 have u3:=run_underlying L.t3;have u4:=run_underlying L.t4;have u24:=run_underlying L.t24
 have hz2 : ¬((i:Int)=(n:Int)):=by omega
 have hov : ∀lb cb,(callFunc (ρ.f 29) #[.slice (some ⟨vb,voff,none⟩) 1 vc,.slice (some ⟨b,off+(i+1)*z,none⟩) lb cb]).run P w = .ok (.value (.bool false)) w:=fun lb cb=>by
  obtain⟨fn,o1,o2,o3,o4,o5⟩:=L.ov;rw[run_callFunc_extern o1 o2 o3 o4 o5,Lib.run_overlaps_apart w (ρ.t 24) (ρ.t 4) (ρ.t 9) L.t24 z L.z9 ⟨vb,voff,none⟩ ⟨b,off+(i+1)*z,none⟩ 1 vc lb cb hvb tA tB kA kB hsa hsb hkB hfa hfe];rfl
 have mixed:=L.mixed
 have hw1:IntKind.i64.wrap ((i:Int)+1)=(i:Int)+1:=by rw[IntKind.wrap_i64];omega
 have hb1:(0:Int)≤(i:Int)+1:=by omega
 have hin:i≤n:=by omega
 have htn:((i:Int)+1).toNat=i+1:=by omega
 have hb2 : ¬(c=i+1):=by omega
 have hb3:(i:Int)≤(n:Int)+1:=by omega
 have hb4 : ¬(c=i):=by omega
 obtain⟨_,_,FG⟩:=L.bears;go_enter FG,Body2.n22_ntmps ρ
 go_wp2_with (simp only[hov])
 go_region_law_o (refine step_copy_runI rfl _ _ (ρ.t 24) (ρ.t 24) rfl _ _ (by simp[Act.eval,Act.put]) (by simp[Act.eval,Act.put]) (hcp1 _) ?_)
 go_wp2_with (at_builtin;refine wpList_copy_runI _ rfl _ _ (ρ.t 24) (ρ.t 24) rfl _ _ rfl rfl (hcp2 _) ?_)
 go_ret
 exact⟨rfl,rfl⟩
set_option maxHeartbeats 4000000 in
set_option maxRecDepth 100000 in
theorem ins_end {f:FuncId} {z:Nat} (L:InsL P f ρ z) (base:Option Addr) (n c vc:Nat) (av:Addr) (u:Value) (w W1:World) (_hnc:n≤c)
  (hap : ∀ty,(Builtin.append_ #[(ρ.t 24),(ρ.t 24)] ty #[.slice base n c,.slice (some av) 1 vc]).run P w = .ok u W1) :
  Calls P f #[.slice base n c,.int .i64 n,.slice (some av) 1 vc] w fun e w'=>e = .returned u∧w'=W1:=by
 have t3:=L.t3;have a3:=L.a3;have z3:=L.z3;have v3:=L.v3;have t4:=L.t4;have a4:=L.a4;have z4:=L.z4;have v4:=L.v4;have z9:=L.z9;have t24:=L.t24;have a24:=L.a24;have z24:=L.z24;have v24:=L.v24
 have u3:=run_underlying L.t3;have u4:=run_underlying L.t4;have u24:=run_underlying L.t24
 have mixed:=L.mixed
 obtain⟨_,_,FG⟩:=L.bears;go_enter FG,Body2.n22_ntmps ρ
 obtain⟨ab,ao,asp⟩:=av;cases base with
 |none =>
  go_wp2_with (at_builtin;refine Lib.wpList_append_run _ rfl _ _ _ _ rfl _ _ rfl rfl _ _ (hap _) ?_)
  go_ret
  exact⟨rfl,rfl⟩
 |some a =>
  obtain⟨bb,bo,bs⟩:=a;go_wp2_with (at_builtin;refine Lib.wpList_append_run _ rfl _ _ _ _ rfl _ _ rfl rfl _ _ (hap _) ?_)
  all_goals (go_ret;exact⟨rfl,rfl⟩)
set_option maxHeartbeats 4000000 in
set_option maxRecDepth 100000 in
theorem ins_grow {f:FuncId} {z:Nat} (L:InsL P f ρ z) (b off n c i vc M G:Nat) (av:Addr) (w W1 W2 W3:World) (hi:i<n) (hnc:n≤c) (hroom:c<n+1) (hc63:n+1≤9223372036854775807) (hGn:n+1≤G)
  (hrz : ∀ty,(Builtin.append_ #[(ρ.t 24),(ρ.t 3)] ty #[.slice (some ⟨b,off,none⟩) i c,.int .i64 ((n:Int)+1-(i:Int))]).run P w = .ok (.slice (some ⟨M,0,none⟩) (n+1) G) W1)
  (hcpA : ∀ty,(Builtin.copy_ #[(ρ.t 24),(ρ.t 24)] ty #[.slice (some ⟨M,i*z,none⟩) (n+1-i) (G-i),.slice (some av) 1 vc]).run P W1 = .ok (goInt (1:Nat)) W2)
  (hcpB : ∀ty,(Builtin.copy_ #[(ρ.t 24),(ρ.t 24)] ty #[.slice (some ⟨M,(i+1)*z,none⟩) (n-i) (G-(i+1)),.slice (some ⟨b,off+i*z,none⟩) (n-i) (c-i)]).run P W2.drew = .ok (goInt (n-i:Nat)) W3) :
  Calls P f #[.slice (some ⟨b,off,none⟩) n c,.int .i64 i,.slice (some av) 1 vc] w fun e w'=>e = .returned (.slice (some ⟨M,0,none⟩) (n+1) G)∧w'=W3:=by
 have t3:=L.t3;have a3:=L.a3;have z3:=L.z3;have v3:=L.v3;have t4:=L.t4;have a4:=L.a4;have z4:=L.z4;have v4:=L.v4;have z9:=L.z9;have t24:=L.t24;have a24:=L.a24;have z24:=L.z24;have v24:=L.v24
 have u3:=run_underlying L.t3;have u4:=run_underlying L.t4;have u24:=run_underlying L.t24
 have mixed:=L.mixed
 have hz2 : ¬((i:Int)=(n:Int)):=by omega
 have hz3:(c:Int)<(n:Int)+1:=by omega
 have hGi : ¬(G=i):=by omega
 have hGim : ¬(G=i+1):=by omega
 have hci : ¬(c=i):=by omega
 have hw1:IntKind.i64.wrap ((i:Int)+1)=(i:Int)+1:=by rw[IntKind.wrap_i64];omega
 have hw2:IntKind.i64.wrap ((n:Int)+1)=(n:Int)+1:=by rw[IntKind.wrap_i64];omega
 have hw3:IntKind.i64.wrap ((n:Int)+1-(i:Int))=(n:Int)+1-(i:Int):=by rw[IntKind.wrap_i64];omega
 have hb1:(0:Int)≤(i:Int)+1:=by omega
 have hin:i≤n:=by omega
 have htn:((i:Int)+1).toNat=i+1:=by omega
 have hb3:(i:Int)≤(n:Int):=by omega
 obtain⟨_,_,FG⟩:=L.bears;obtain⟨ab,ao,asp⟩:=av;go_enter FG,Body2.n22_ntmps ρ
 go_wp2_with (first
  | (at_builtin;refine Lib.wpList_append_run _ rfl _ _ _ _ rfl _ _ rfl rfl _ _ (hrz _) ?_)
  | (at_builtin;refine wpList_copy_runI _ rfl _ _ (ρ.t 24) (ρ.t 24) rfl _ _ rfl rfl (hcpA _) ?_))
 go_region_law_o (refine step_copy_runI rfl _ _ (ρ.t 24) (ρ.t 24) rfl _ _ (by simp[Act.eval,Act.put]) (by simp[Act.eval,Act.put]) (hcpB _) ?_)
 go_wp2
 go_ret
 exact⟨rfl,rfl⟩
end Go.Proofs
end
section
open Go.RowKit
namespace Go.Sim
def qiF (k:K) (b:Nat) (args:List PV) (H:Heap):Option (PV×Heap):=match args with
 | [x,.d (.i .i64 i),.r ov kv offv lv tv]=>match qbO H k (.r ov kv offv lv tv) with
  |some [y]=>match x with
   | .r o k' off len _=>match H.obj o with
    |some (.sl k'' ro es) =>
     if K.eq k k'&&K.eq k k''&&decide (off+len≤es.length)&&decide (ro≤off)&&decide (0≤i)&&decide (i≤len)&&decide ((len+1)*b≤2^47) && !(Nat.beq o ov) then
      some (.r H.length k 0 (len+1) false,(H++[none]).put o none |>.put H.length (some (.sl k 0 (((es.drop off).take len).take i.toNat++y::((es.drop off).take len).drop i.toNat))))
     else none
    | _=>none
   | .d (.l _ [] true)=>if i=0&&decide (b≤2^47) then some (.r H.length k 0 1 false,(H++[none]).put H.length (some (.sl k 0 [y]))) else none
   | _=>none
  | _=>none
 | _=>none
section
variable {P : Program} {N : Names} {C : Cx} {w : World} {S : qah} {β : Pl} {B : Nat} {H : Heap} {a : Act} {E : Env} {ρ : Go.Shelf.Ren}
theorem qsh {H:Heap} {k:K} {v:PV} {ys:List DV} (n:Nat) (h:qbO H k v=some ys):qbO (H++List.replicate n none) k v=some ys:=by
 unfold qbO at h⊢;split at h
 ·exact h
 ·rename_i o k' off len t;simp only[qm6];exact h
 ·exact h
 ·cases h
theorem quC {id:Nat} {v:PV} {H':Heap} {u:Value} {w':World} (hid:id=H.length) (h:qgD C B w S β (H++List.replicate 1 none) id v H' u w') :
  ∃S' β',Ext B w S w' S'∧Swf w' S'∧HOK C B w' S' β' H'∧Later β β'∧RelV C w' S' β' v u∧H.length≤H'.length∧Kp H.length H.length β β':=by
 obtain⟨S',β',h1,h2,h3,h4,h5,h6,h7⟩:=h;subst hid;refine⟨S',β',h1,h2,h3,h4,h5,by rw[h6];simp,fun o h8 h9 h10=>h7 o (by simp;omega) h9 h10⟩
theorem qBi {o:Nat} {k:K} {off len:Nat} {t:Bool} {u:Value} (h:RelV C w S β (.r o k off len t) u):RelV C w S β (.r o k off len false) u:=by
 cases h with
 |r _ _ _ _ _ _ h0 hx =>
  refine .r _ _ _ _ _ _ h0 ?_;unfold RelRf at hx⊢;split at hx
  ·exact hx.elim
  ·trivial
  ·exact hx
  ·obtain⟨e1,cap,a,h1,h2,h3,-,h4⟩:=hx;exact⟨e1,cap,a,h1,h2,h3,fun h=>(Bool.noConfusion h),h4⟩
  ·exact hx.elim
theorem qA9 {α:Type} {L:List α} {n:Nat} (h:L.length=n) (y:α):L.take n++y::L.drop n=L++[y]:=by
 rw[List.take_of_length_le (by omega),List.drop_of_length_le (by omega)]
theorem qqO {α:Type} {a b c:List α} {n:Nat} {xs:List α} (hn:n=a.length) (hx:xs.length=b.length):putAt (a++b++c) n xs=a++xs++c:=by
 subst hn;unfold putAt;rw[List.append_assoc a b c,List.take_left,hx,←List.drop_drop,List.drop_left,List.drop_left]
theorem qC8 {L:List DV} {j:Nat} (hj:j<L.length) (y:DV):putAt (L.take (j+1)++L.drop j) j [y]=L.take j++y::L.drop j:=by
 have e1:L.take (j+1)=L.take j++[L[j]]:=by rw[List.take_succ_eq_append_getElem hj]
 rw[e1,qqO (b:=[L[j]]) (xs:=[y]) (by rw[List.length_take];omega) rfl,List.append_assoc];rfl
theorem qGf {L:List DV} {j:Nat} (hj:j≤L.length) (y z:DV):putAt (putAt (L.take j++List.replicate (L.length+1-j) z) j [y]) (j+1) (L.drop j)=L.take j++y::L.drop j:=by
 have e1:List.replicate (L.length+1-j) z=[z]++List.replicate (L.length-j) z:=by
  have:L.length+1-j=(L.length-j)+1:=by omega
  rw[this,List.replicate_succ];rfl
 rw[e1,←List.append_assoc,qqO (b:=[z]) (xs:=[y]) (by rw[List.length_take];omega) rfl]
 have:=qqO (a:=L.take j++[y]) (b:=List.replicate (L.length-j) z) (c:=[]) (n:=j+1) (xs:=L.drop j) (by rw[zzp,List.length_take];simp;omega) (by rw[List.length_drop,List.length_replicate])
 rw[List.append_nil,List.append_nil] at this;rw[this,List.append_assoc];rfl
theorem qxA {G:Nat→Option (DV×K)} {f:Nat} {k:K} {e:TypeId} (hL:Go.Proofs.InsL P (C.μ f) ρ k.size) (he:ρ.t 9=e) (hk:kq P e=some k) {z:DV} (hz:zq P e=some z) (hb0:P.bytesOf e≠0) (hk0:0<k.size) {args:List PV} {H H':Heap} {r:PV} (h:qiF k (P.bytesOf e) args H=some (r,H')) :
  qmS P C N G f args H r H':=by
 intro B w S β us hB hS hG hH hl hr;have ht:=hL.t24
 rw[he] at ht;have hp:β H.length = .pend:=hH.out _ (zzt _)
 have hg:=qkJ hH 1
 have hlt:H.length<(H++List.replicate 1 none).length:=by simp
 unfold qiF at h;split at h;case h_2=>cases h
 rename_i x i ov kv offv lv tv;split at h;case h_2=>cases h
 rename_i y hy;match us,hl with
 | [ux,ui,uv],_ =>
 have hxr:=hr 0 (by simp) (by simp)
 have hir:=hr 1 (by simp) (by simp)
 have hvr:=hr 2 (by simp) (by simp)
 simp only[List.getElem_cons_zero,List.getElem_cons_succ] at hxr hir hvr;have hui:ui = .int .i64 i:=qlG hir
 subst hui;obtain⟨vb,basev,hbv,capv,av,rfl,hav,hcv1⟩ : ∃vb basev,β ov = .at vb basev k∧∃capv av,uv = .slice (some av) 1 capv∧av=⟨vb,basev+offv*k.size,none⟩∧1≤capv:=by
  have hl1:lv=1:=by
   have:=hy
   unfold qbO at this;simp only at this;split at this
   ·split at this
    ·rename_i hc;simp only[zzf,zzq] at hc;simp only[zzb] at this;have h2:=congrArg List.length this
     simp only[List.length_take,List.length_drop,zzn,List.length_nil] at h2;omega
    ·cases this
   ·cases this
  subst hl1;cases hvr with
  |r _ _ _ _ _ _ hfx hv =>
  have hkk:kv=k:=by
   have:=hy
   unfold qbO at this;simp only at this;split at this
   ·split at this
    ·rename_i hc;simp only[zzf,zzq] at hc;exact (K.eq_spec hc.1.1).symm
    ·cases this
   ·cases this
  subst hkk;unfold RelRf at hv;split at hv
  ·exact hv.elim
  ·rename_i hb;unfold qbO at hy;simp only[hH.dead ov hb] at hy;cases hy
  ·obtain⟨-,h1,-⟩:=hv;cases h1
  ·rename_i blk base k3 hb;obtain⟨e1,cap,a,rfl,e2,e3,-⟩:=hv;subst e1;exact⟨blk,base,hb,cap,a,rfl,e2 (by omega),e3⟩
  ·exact hv.elim
 subst hav;have hshape : ∀{b0:Nat} {cs:Array Value} {e0:TypeId},w.heap[b0]? = some (.cells cs e0 (0,0))→w.shape? b0=some (e0,cs.size):=fun h=>by unfold World.shape?;rw[h]
 have hfroz : ∀{b0:Nat} {cs:Array Value} {e0:TypeId} (q:Nat),w.heap[b0]? = some (.cells cs e0 (0,0))→w.frozen? ⟨b0,q,none⟩=false:=fun q h=>by unfold World.frozen?;simp[h]
 split at h
 ·
  rename_i o k' off len tt0 _;replace hxr:=qBi hxr
  split at h;case h_2=>cases h
  rename_i k'' ro es ho;split at h;case isFalse=>cases h
  rename_i hc;simp only[zzf,zzq,Bool.not_eq_true'] at hc;obtain⟨⟨⟨⟨⟨⟨⟨hk1,hk2⟩,hle⟩,hro⟩,hi0⟩,hil⟩,hbig⟩,hne⟩:=hc
  have:=K.eq_spec hk1
  subst this
  have:=K.eq_spec hk2
  subst this;have hoo:o≠ov:=fun hq=>by subst hq;rw[Nat.beq_refl] at hne;cases hne
  simp only[zzb,zzc] at h;obtain⟨rfl,rfl⟩:=h;obtain⟨j,rfl⟩:=Int.eq_ofNat_of_zero_le hi0;have hjl:j≤len:=by omega
  have holt:=qhv ho
  have ho1:Heap.obj (H++List.replicate 1 none) o=some (.sl k ro es):=by rw[qm6];exact ho
  have hov1:Heap.obj (H++List.replicate 1 none) ov=H.obj ov:=qm6 _ _ _
  have hpl:((es.drop off).take len).length=len:=by simp;omega
  have hnp:β o≠.pend:=fun hq=>by
   cases hxr with
   |r _ _ _ _ _ _ _ hx=>unfold RelRf at hx;rw[hq] at hx;exact hx
  have hno:H.length≠o:=by omega
  have hnv:H.length≠ov:=fun hq=>by rw[←hq,hp] at hbv;cases hbv
  rw[Int.toNat_natCast];by_cases hjn:j=len
  ·
   subst hjn;obtain⟨ur,w',e1,e2⟩:=qpL (P:=P) (ts := #[ρ.t 24,ρ.t 24]) (id:=H.length) hg hS hB hp hlt rfl rfl ht hk (.inl ⟨_,ht⟩) hz hb0 (ρ.t 24) (x:=.r o k off j false) (y:=.r ov kv offv lv tv) hxr hvr (v:=.r H.length k 0 (j+1) false) (H':=((H++[none]).put o none).put H.length (some (.sl k (ro-off) ((es.drop off).take j++[y])))) (by
    have hy1:=qsh 1 hy
    unfold qdd;rw[hy1];simp only[ho1,List.length_singleton];have:(K.eq k k&&K.eq k k&&decide (off+j≤es.length)&&decide ((j+1)*P.bytesOf e≤2^47))=true:=by
     simp only[zzf,zzq];exact⟨⟨⟨hk1,hk1⟩,hle⟩,hbig⟩
    rw[if_pos this];have hro':ro≤off+j:=by omega
    simp only[zzg,if_false,hro',if_true];rfl)
   obtain⟨bs,cp,rfl,hcp⟩ : ∃bs cp,ux = .slice bs j cp∧j≤cp:=by
    cases hxr with
    |r _ _ _ _ _ _ _ hx =>
    unfold RelRf at hx;split at hx
    ·exact hx.elim
    ·rename_i hb;rw[hH.dead o hb] at ho;cases ho
    ·obtain⟨-,rfl,a,rfl⟩:=hx;exact⟨_,_,rfl,zzt _⟩
    ·obtain⟨-,cap,a,rfl,-,h3,-⟩:=hx;exact⟨_,_,rfl,h3⟩
    ·exact hx.elim
   refine (Go.Proofs.ins_end hL bs j cp capv _ ur w w' hcp (fun ty=>e1)).mono ?_
   rintro e3 w3 ⟨rfl,rfl⟩;rw[qA9 hpl];have e5:ro-off=0:=by omega
   rw[e5] at e2;obtain⟨S',β',g1,g2,g3,g4,g5,g6,g7⟩:=quC rfl e2;exact⟨ur,S',β',rfl,g1,g2,g3,g4,g5,g6,g7⟩
  ·
   have hjlt:j<len:=by omega
   obtain⟨blk,base,hbo,cap,rfl,hcap,e',hsh⟩ : ∃blk base,β o = .at blk base k∧∃cap,ux = .slice (some ⟨blk,base+off*k.size,none⟩) len cap∧len≤cap∧∃e' ,∃n,w.shape? blk=some (e',n)∧base+(off+cap)*k.size≤n:=by
    cases hxr with
    |r _ _ _ _ _ _ _ hx =>
    unfold RelRf at hx;split at hx
    ·exact hx.elim
    ·rename_i hb;rw[hH.dead o hb] at ho;cases ho
    ·obtain⟨-,rfl,-⟩:=hx;omega
    ·rename_i blk base k3 hb;obtain⟨e1,cap,a,rfl,e2,e3,-,e',n,e5,e6⟩:=hx;subst e1;rw[e2 (by omega)]
     exact⟨blk,base,hb,cap,rfl,e3,e',n,e5,e6⟩
    ·exact hx.elim
   obtain⟨n,hsh,hcapn⟩:=hsh;obtain⟨hBb,x',cells,e0,ho',hs,hw,hc⟩:=hH.live o blk base k hbo;rw[ho] at ho';cases ho';obtain⟨hbs,c,hf,hrr,hnS⟩:=hc;have hcs:n=cells.size:=by rw[hshape hw] at hsh;cases hsh;rfl
   subst hcs;obtain⟨hBv,xv,cellsv,ev,hov',hsv,hwv,-⟩:=hH.live ov vb basev k hbv;have hvb:vb≠blk:=fun hq=>hoo (hH.inj o ov blk base k basev k hbo (hq▸hbv))
   have hcell : ∀t,t<len→∀m,m<k.size→cells[base+off*k.size+t*k.size+m]? = some (c (off+t) m)∧flat (c (off+t) m):=by
    intro t ht m hm
    have:=hf (off+t) (by omega) m hm
    rw[zzl] at this;have e1:base+off*k.size+t*k.size+m=base+(off*k.size+t*k.size)+m:=by omega
    rw[e1];exact this
   have hrel : ∀t (h:t<((es.drop off).take len).length),RelD w S ((es.drop off).take len)[t] (mkV k (c (off+t))):=by
    intro t h;rw[hpl] at h
    have:=hrr (off+t) (by omega)
    simpa[List.getElem_drop,List.getElem_take] using this
   generalize hL0:(es.drop off).take len=L at hpl hrel⊢;have hro3:ro*k.size≤off*k.size:=zzh _ hro
   have hend:(off+cap)*k.size=off*k.size+cap*k.size:=zzl _ _ _
   have hlc:len*k.size≤cap*k.size:=zzh _ hcap
   have hjs:(j+1)*k.size=j*k.size+k.size:=by rw[zzl,Nat.one_mul]
   have hls:(len-j)*k.size+j*k.size=len*k.size:=by rw[←zzl];congr 1;omega
   have hcap47 : ∀q,(q+1)*P.bytesOf e≤2^47→q+1≤140737488355328:=fun q h=>by
    have:(q+1)*1≤(q+1)*P.bytesOf e:=Nat.mul_le_mul_left _ (by omega)
    omega
   have hA1l:((cells.toList.drop (base+off*k.size+j*k.size)).take ((len-j)*k.size)).length=(len-j)*k.size:=by
    rw[List.length_take,List.length_drop,Array.length_toList];omega
   have hA1g : ∀q,q<(len-j)*k.size→((cells.toList.drop (base+off*k.size+j*k.size)).take ((len-j)*k.size))[q]? = cells[base+off*k.size+j*k.size+q]? := by
    intro q hq;rw[List.getElem?_take,if_pos hq,List.getElem?_drop,Array.getElem?_toList]
   have hcellq : ∀q,q<(len-j)*k.size→∃v,cells[base+off*k.size+j*k.size+q]? = some v∧v.oneCell'=true:=by
    intro q hq;have h1:=hcell (j+q/k.size) (by
     have:q/k.size<len-j:=(Nat.div_lt_iff_lt_mul hk0).2 hq
     omega) (q%k.size) (Nat.mod_lt _ hk0)
    have e1:base+off*k.size+(j+q/k.size)*k.size+q%k.size=base+off*k.size+j*k.size+q:=by
     have:q/k.size*k.size+q%k.size=q:=by rw[Nat.mul_comm];exact Nat.div_add_mod q k.size
     rw[zzl];omega
    rw[e1] at h1;exact⟨_,h1.1,h1.2⟩
   generalize hA1:(cells.toList.drop (base+off*k.size+j*k.size)).take ((len-j)*k.size)=A1 at hA1l hA1g;have hA1f : ∀v∈A1,v.oneCell'=true:=by
    intro v hv;obtain⟨q,hq,rfl⟩:=List.mem_iff_getElem.1 hv;rw[hA1l] at hq;obtain⟨v,h1,h2⟩:=hcellq q hq
    have:=hA1g q hq
    rw[h1,zze (by omega),zzb] at this
    rw[this];exact h2
   have hread : ∀(W:World),(∀q,W.cell? ⟨blk,q,none⟩=w.cell? ⟨blk,q,none⟩)→∀ln cp,(Builtin.firstCells k.size (len-j) (.slice (some ⟨blk,base+off*k.size+j*k.size,none⟩) ln cp)).run P W = .ok A1.toArray W:=by
    intro W hW ln cp;refine run_firstCells_some W k.size (len-j) _ ln cp A1 hA1l ?_;intro q v hq;have hql:q<(len-j)*k.size:=by rw[←hA1l];exact (zzk.1 hq).1
    rw[qgQ,hW];rw[hA1g q hql] at hq;simpa[World.cell?,hw] using hq
   by_cases hroom:len+1≤cap
   ·
    have hpos:base+off*k.size+(j+1)*k.size+A1.length≤cells.size:=by
     have h1:(len+1)*k.size≤cap*k.size:=zzh _ hroom
     rw[zzl,Nat.one_mul] at h1;rw[hA1l];omega
    have hsz:(putAt cells.toList (base+off*k.size+(j+1)*k.size) A1).toArray.size=cells.size:=by
     have:=qcH (l:=cells.toList) (c:=base+off*k.size+(j+1)*k.size) (xs:=A1) (by simpa using hpos)
     simpa using this
    have hget : ∀q,(putAt cells.toList (base+off*k.size+(j+1)*k.size) A1).toArray[q]? = if base+off*k.size+(j+1)*k.size≤q∧q<base+off*k.size+(j+1)*k.size+(len-j)*k.size then A1[q-(base+off*k.size+(j+1)*k.size)]? else cells[q]? := by
     intro q
     have:=qfj (l:=cells.toList) (c:=base+off*k.size+(j+1)*k.size) (xs:=A1) (by simpa using hpos) q
     rw[List.getElem?_toArray,this,hA1l];simp
    have hkeep : ∀q,S blk q→(putAt cells.toList (base+off*k.size+(j+1)*k.size) A1).toArray[q]? = cells[q]? := by
     intro q hq;rw[hget,if_neg];intro hc;exact hnS q (by omega) hq
    have hwd:w.drew.heap[blk]? = some (.cells cells e0 (0,0)):=hw
    have hst:(storeCells ⟨blk,base+off*k.size+(j+1)*k.size,none⟩ A1).run P w.drew = .ok () (w.drew.setRow blk (putAt cells.toList (base+off*k.size+(j+1)*k.size) A1).toArray):=by
     have:=run_storeCells_at P blk (base+off*k.size+(j+1)*k.size) e0 A1 0 cells w.drew hwd (by simpa using hpos) hA1f
     simpa[putAt] using this
    have hcp1 : ∀ty,(Builtin.copy_ #[ρ.t 24,ρ.t 24] ty #[.slice (some ⟨blk,base+off*k.size+(j+1)*k.size,none⟩) (len-j) (cap-(j+1)),.slice (some ⟨blk,base+off*k.size+j*k.size,none⟩) (len+1-j) (cap-j)]).run P w.drew = .ok (goInt (len-j:Nat)) (w.drew.setRow blk (putAt cells.toList (base+off*k.size+(j+1)*k.size) A1).toArray):=fun ty =>
     qns (w:=w.drew) (m:=len+1-j) rfl ht hk (by simp[Builtin.lenOf]) (by omega) (hread w.drew (fun _=>rfl) _ _) (by simpa using hst) ty
    have hext0:Ext B w S w.drew S:=drew_ext
    have hmv:=quV (id:=H.length) (base':=base+off*k.size) hg.drew hbo hp hlt hno hwd hsz hkeep (x:=.sl k 0 (L.take (j+1)++L.drop j)) (by
     intro β' _;have hLl:(L.take (j+1)++L.drop j).length=len+1:=by rw[zzp,List.length_take,List.length_drop];omega
     have hext1:=qgH (S:=S) (B:=B) (cells':=(putAt cells.toList (base+off*k.size+(j+1)*k.size) A1).toArray) hBb hwd hsz hkeep
     refine⟨?_,(fun t m=>if t≤j then c (off+t) m else c (off+(t-1)) m),?_,?_,?_⟩
     ·have h1:(len+1)*k.size≤cap*k.size:=zzh _ hroom
      rw[hsz,hLl];omega
     ·intro t ht' m hm;rw[hLl] at ht';rw[hget];by_cases htj:t≤j
      ·simp only[htj,if_true];have h1:(t+1)*k.size≤(j+1)*k.size:=zzh _ (by omega)
       rw[zzl,Nat.one_mul] at h1;rw[if_neg (by omega)]
       exact hcell t (by omega) m hm
      ·simp only[htj,if_false];have h1:t*k.size=(j+1)*k.size+(t-1-j)*k.size:=by rw[←zzl];congr 1;omega
       have h2:(t-1-j+1)*k.size≤(len-j)*k.size:=zzh _ (by omega)
       rw[zzl,Nat.one_mul] at h2;rw[if_pos (by omega)]
       have e1:base+off*k.size+t*k.size+m-(base+off*k.size+(j+1)*k.size)=(t-1-j)*k.size+m:=by omega
       rw[e1,hA1g _ (by omega)]
       have h3:=hcell (t-1) (by omega) m hm
       have h4:(t-1)*k.size=j*k.size+(t-1-j)*k.size:=by rw[←zzl];congr 1;omega
       have e2:base+off*k.size+(t-1)*k.size+m=base+off*k.size+j*k.size+((t-1-j)*k.size+m):=by omega
       rw[e2] at h3;exact h3
     ·intro t ht';have htl:=ht'
      rw[hLl] at htl;by_cases htj:t≤j
      ·simp only[htj,if_true];have e1:(L.take (j+1)++L.drop j)[t]=L[t]'(by omega):=by
        rw[List.getElem_append_left (by rw[List.length_take];omega),List.getElem_take]
       rw[e1];exact ((hrel t (by omega)).ext hext0).ext hext1
      ·simp only[htj,if_false];have e1:(L.take (j+1)++L.drop j)[t]=L[t-1]'(by omega):=by
        have e2:(L.take (j+1)).length=j+1:=by rw[List.length_take];omega
        rw[List.getElem_append_right (by omega),List.getElem_drop]
        simp only[e2];congr 1;omega
       rw[e1];exact ((hrel (t-1) (by omega)).ext hext0).ext hext1
     ·intro q hq;exact hnS q (by omega))
    obtain⟨hH1,hlat⟩:=hmv;have hext1:=qgH (S:=S) (B:=B) (cells':=(putAt cells.toList (base+off*k.size+(j+1)*k.size) A1).toArray) hBb hwd hsz hkeep
    have hext:=hext0.trans hext1
    have hS1:Swf (w.drew.setRow blk (putAt cells.toList (base+off*k.size+(j+1)*k.size) A1).toArray) S:=hS.ext hext
    generalize hW1:w.drew.setRow blk (putAt cells.toList (base+off*k.size+(j+1)*k.size) A1).toArray=W1 at hcp1 hH1 hext hS1;generalize hβ1:upd (upd β o BO.dead) H.length (BO.at blk (base+off*k.size) (Obj.sl k 0 (L.take (j+1)++L.drop j)).shape)=β1 at hH1 hlat;have hβid:β1 H.length = .at blk (base+off*k.size) k:=by rw[←hβ1,qba];rfl
    have hsh1:W1.shape? blk=some (e',cells.size):=hext.shape _ _ _ hsh
    have hx1:RelV C W1 S β1 (.r H.length k j (len+1-j) false) (.slice (some ⟨blk,base+off*k.size+j*k.size,none⟩) (len+1-j) (cap-j)):=by
     refine .r _ _ _ _ _ _ rfl ?_;unfold RelRf;rw[hβid];refine⟨rfl,cap-j,_,rfl,fun _=>rfl,by omega,(fun h=>by cases h),e',cells.size,hsh1,?_⟩
     have:j+(cap-j)=cap:=by omega
     rw[this];omega
    have hv1:=hvr.ext hext hlat
    have hobj1:Heap.obj (((H++List.replicate 1 none).put o none).put H.length (some (.sl k 0 (L.take (j+1)++L.drop j)))) ov=H.obj ov:=by
     rw[qbb (fun h=>hnv h),qbb hoo,hov1]
    have hy1:qbO (((H++List.replicate 1 none).put o none).put H.length (some (.sl k 0 (L.take (j+1)++L.drop j)))) k (.r ov kv offv lv tv)=some [y]:=by
     unfold qbO at hy⊢;simp only[hobj1];exact hy
    have hob1:Heap.obj (((H++List.replicate 1 none).put o none).put H.length (some (.sl k 0 (L.take (j+1)++L.drop j)))) H.length=some (.sl k 0 (L.take (j+1)++L.drop j)):=qdT (by rw[qa0];exact hlt)
    have hLl:(L.take (j+1)++L.drop j).length=len+1:=by rw[zzp,List.length_take,List.length_drop];omega
    obtain⟨W2,c1,c2,c3,c4⟩:=qlR (P:=P) (ts := #[ρ.t 24,ρ.t 24]) hH1 hS1 rfl ht hk hx1 hob1 (by rw[hLl];omega) (Nat.zero_le _) hv1 hy1 (ρ.t 24)
    have e1:min [y].length (len+1-j)=1:=by simp;omega
    rw[e1] at c1 c4;have e2:[y].take 1=[y]:=rfl
    rw[e2,qC8 (by omega)] at c4
    have hc47:=hcap47 len hbig
    refine (Go.Proofs.ins_shift hL blk (base+off*k.size) len cap j vb (basev+offv*k.size) capv w W1 W2 hjlt hroom (by omega) hvb ev e0 cellsv.size cells.size (hshape hwv) (hshape hw) (by omega) (hfroz _ hwv) (hfroz _ hwv) hcp1 (fun ty=>c1)).mono ?_
    rintro e3 w3 ⟨rfl,rfl⟩;refine⟨_,S,β1,rfl,hext.trans c2,c3,?_,hlat,?_,by simp[qa0],?_⟩
    ·have e5:((H++List.replicate 1 none).put o none).put H.length (some (Obj.sl k 0 (L.take (j+1)++L.drop j)))=((H++[none]).put o none).put H.length (some (Obj.sl k 0 (L.take (j+1)++L.drop j))):=rfl
     have e6 : ∀(X:Heap) (p:Nat) (a b:Option Obj),(X.put p a).put p b=X.put p b:=by intro X p a b;simp[Heap.put]
     rw[e6] at c4;exact c4
    ·refine .r _ _ _ _ _ _ rfl ?_;unfold RelRf;rw[hβid];refine⟨rfl,cap,_,rfl,fun _=>by simp,hroom,(fun h=>by cases h),e',cells.size,c2.shape _ _ _ hsh1,?_⟩
     rw[Nat.zero_add];omega
    ·intro p h1 h2 h3;rw[←hβ1,qaw (by omega),qaw (fun hq=>by subst hq;exact hnp h3)];exact h3
   ·
    have hcl:cap=len:=by omega
    obtain⟨kz,zv,hkz,hzv,hfz,hrz⟩:=qgy hz;rw[hk] at hkz;cases hkz
    have hzs:zv.cells.size=k.size:=(qi3 (C:=C) (w:=w) (S:=S) (β:=β) hfz hrz).2
    obtain⟨i0,hi0,hz0⟩:=zza.1 hzv;have hbi:P.bytesOf e=i0.bytes:=by simp[Program.bytesOf,hi0]
    have hki:i0.size=k.size:=by rw[←qif hk];simp[Program.cellsOf,hi0]
    have hxj:RelV C w S β (.r o k off j false) (.slice (some ⟨blk,base+off*k.size,none⟩) j cap):=by
     refine .r _ _ _ _ _ _ rfl ?_;unfold RelRf;rw[hbo];exact⟨rfl,cap,_,rfl,fun _=>rfl,by omega,(fun h=>by cases h),e',cells.size,hsh,hcapn⟩
    obtain⟨A,hrA⟩:=qjb (P:=P) hH (k:=k) (ys:=L.take j) hxj (by
     have e1:L.take j=(es.drop off).take j:=by rw[←hL0,List.take_take,Nat.min_eq_left hjl]
     rw[e1];have e2:(K.eq k k&&K.eq k k&&decide (off+j≤es.length))=true:=by
      simp only[zzf,zzq];exact⟨⟨hk1,hk1⟩,by omega⟩
     simp only[qbO,ho,e2,if_true])
    have hLj:(L.take j).length=j:=by rw[List.length_take];omega
    have hold:=hrA.drew
    rw[hLj] at hold;have hAl:A.length=j*k.size:=by have:=hrA.size;rw[hLj] at this;exact this
    have hjk:j+(len+1-j)=len+1:=by omega
    have hfit:=growslice_fits (need:=len+1) (old:=cap) (bytes:=i0.bytes) (by omega) (by rw[←hbi];exact Nat.le_trans hbig (by decide))
    have hrz1 : ∀ty,(Builtin.append_ #[ρ.t 24,ρ.t 3] ty #[.slice (some ⟨blk,base+off*k.size,none⟩) j cap,.int .i64 ((len:Int)+1-(j:Int))]).run P w =
      .ok (.slice (some ⟨w.heap.size,0,none⟩) (len+1) (grownCap w (len+1) cap e)) (w.drew.alloc (.cells (A.toArray++Builtin.zeroCells zv.cells (len+1-j)++Builtin.zeroCells zv.cells (grownCap w (len+1) cap e-(len+1))) e)):=by
     intro ty;have hkk:(len:Int)+1-(j:Int)=((len+1-j:Nat):Int):=by omega
     have h48:(len+1-j)*i0.bytes≤281474976710656:=by
      have:(len+1-j)*i0.bytes≤(len+1)*i0.bytes:=zzh _ (by omega)
      rw[hbi] at hbig;omega
     have h:=Lib.run_append_grow_zeros w (ρ.t 24) (ρ.t 3) ty e i0 zv .i64 .i64 ht hL.t3 hi0 hz0 (some ⟨blk,base+off*k.size,none⟩) j cap A (by rw[hki];exact hold) (len+1-j) (by omega) (by omega) (by omega) (by have:=hcap47 len hbig;omega) h48 (by rw[hjk];exact hfit)
     rw[hjk] at h;rw[hkk];exact h
    have hGn:len+1≤grownCap w (len+1) cap e:=grownCap_ge w _ _ _
    generalize hG0:grownCap w (len+1) cap e=GC at hrz1 hGn;have hzr:=qmU (w:=w) (S:=S) (n:=len+1-j) hfz hrz zv.cells (fun _=>rfl)
    have hzc:((Array.range ((len+1-j)*k.size)).map (zv.cells[· % zv.cells.size]!)).toList=(Builtin.zeroCells zv.cells (len+1-j)).toList:=by
     unfold Builtin.zeroCells;rw[hzs]
    rw[hzc] at hzr;have hzl:(Builtin.zeroCells zv.cells (len+1-j)).toList.length=(List.replicate (len+1-j) z).length*k.size:=by
     rw[Array.length_toList,qlU,hzs,List.length_replicate]
    have hrow:=((hrA.rel.append hrA.size (hzr)).ext (drew_ext (B:=B))).pad (A':=(Builtin.zeroCells zv.cells (GC-(len+1))).toList)
    have hSd:Swf w.drew S:=hS.ext (drew_ext (B:=B))
    obtain⟨a1,a2,a3,a4⟩:=qlT hg.drew hSd hB hp hlt hrow e 0 (len:=len+1) (cap:=GC) (tt:=false) (by
     have h1:=qlU zv.cells (GC-(len+1))
     rw[hzs] at h1;simp only[zzp,h1,hAl,hzl,List.length_replicate,Array.length_toList];rw[←zzl,←zzl];exact zzh _ (by omega)) hGn (fun h=>by cases h)
    have e1:(A++(Builtin.zeroCells zv.cells (len+1-j)).toList++(Builtin.zeroCells zv.cells (GC-(len+1))).toList).toArray=A.toArray++Builtin.zeroCells zv.cells (len+1-j)++Builtin.zeroCells zv.cells (GC-(len+1)):=by
     apply Array.ext';simp
    rw[e1] at a1 a2 a4;have hext:Ext B w S _ S:=(drew_ext (B:=B)).trans a1
    have hS1:=hSd.ext a1
    have hM:w.drew.heap.size=w.heap.size:=rfl
    rw[hM] at a2 a3 a4;generalize hW1:w.drew.alloc (.cells (A.toArray++Builtin.zeroCells zv.cells (len+1-j)++Builtin.zeroCells zv.cells (GC-(len+1))) e)=W1 at hrz1 a1 a2 a4 hext hS1;generalize hβ1:upd β H.length (BO.at w.heap.size 0 k)=β1 at a2 a3 a4;have hβid:β1 H.length = .at w.heap.size 0 k:=by rw[←hβ1,qba]
    have hβo:β1 o = .at blk base k:=by rw[←hβ1,qaw (fun h=>hno h.symm)];exact hbo
    obtain⟨ee,nn,hshM,hshN⟩ : ∃ee nn,W1.shape? w.heap.size=some (ee,nn)∧GC*k.size≤nn:=by
     cases a4 with
     |r _ _ _ _ _ _ _ hx =>
     unfold RelRf at hx;rw[hβid] at hx;obtain⟨-,cap1,a,h1,-,-,-,e5,n5,h5,h6⟩:=hx;cases h1;refine⟨e5,n5,h5,?_⟩;simpa using h6
    generalize hes1:L.take j++List.replicate (len+1-j) z=es1 at a2;have hel:es1.length=len+1:=by rw[←hes1,zzp,hLj,List.length_replicate];omega
    have hob1:Heap.obj ((H++List.replicate 1 none).put H.length (some (.sl k 0 es1))) H.length=some (.sl k 0 es1):=qdT hlt
    have hoo1 : ∀q,q≠H.length→Heap.obj ((H++List.replicate 1 none).put H.length (some (.sl k 0 es1))) q=H.obj q:=fun q hq=>by rw[qbb (fun h=>hq h.symm),qm6]
    have hv1:=hvr.ext hext a3
    have hy1:qbO ((H++List.replicate 1 none).put H.length (some (.sl k 0 es1))) k (.r ov kv offv lv tv)=some [y]:=by
     unfold qbO at hy⊢;simp only[hoo1 ov (fun h=>hnv h.symm)]
     exact hy
    have hgk : ∀q,q≤GC→q*k.size+(GC-q)*k.size=GC*k.size:=fun q hq=>by rw[←zzl];congr 1;omega
    have hx1:RelV C W1 S β1 (.r H.length k j (len+1-j) false) (.slice (some ⟨w.heap.size,j*k.size,none⟩) (len+1-j) (GC-j)):=by
     refine .r _ _ _ _ _ _ rfl ?_;unfold RelRf;rw[hβid];refine⟨rfl,GC-j,_,rfl,fun _=>by rw[Nat.zero_add],by omega,(fun h=>by cases h),ee,nn,hshM,?_⟩
     rw[zzl,Nat.zero_add,hgk j (by omega)];exact hshN
    obtain⟨W2,c1,c2,c3,c4⟩:=qlR (P:=P) (ts := #[ρ.t 24,ρ.t 24]) a2 hS1 rfl ht hk hx1 hob1 (by rw[hel];omega) (Nat.zero_le _) hv1 hy1 (ρ.t 24)
    have e2:min [y].length (len+1-j)=1:=by simp;omega
    rw[e2] at c1 c4;have e3:[y].take 1=[y]:=rfl
    rw[e3] at c4;have hpp : ∀(X:Heap) (p:Nat) (a b:Option Obj),(X.put p a).put p b=X.put p b:=by intro X p a b;simp[Heap.put]
    rw[hpp] at c4;have hel2:(putAt es1 j [y]).length=len+1:=by rw[qcH (by rw[hel];simp;omega),hel]
    have hext2:Ext B w S W2.drew S:=(hext.trans c2).trans drew_ext
    have hext12:Ext B W1 S W2.drew S:=c2.trans drew_ext
    have hx2:RelV C W2.drew S β1 (.r H.length k (j+1) (len-j) false) (.slice (some ⟨w.heap.size,(j+1)*k.size,none⟩) (len-j) (GC-(j+1))):=by
     refine .r _ _ _ _ _ _ rfl ?_;unfold RelRf;rw[hβid];refine⟨rfl,GC-(j+1),_,rfl,fun _=>by rw[Nat.zero_add],by omega,(fun h=>by cases h),ee,nn,hext12.shape _ _ _ hshM,?_⟩
     rw[zzl,Nat.zero_add,hgk (j+1) (by omega)];exact hshN
    have hs2:RelV C W2.drew S β1 (.r o k (off+j) (len-j) false) (.slice (some ⟨blk,base+off*k.size+j*k.size,none⟩) (len-j) (cap-j)):=by
     refine .r _ _ _ _ _ _ rfl ?_;unfold RelRf;rw[hβo];refine⟨rfl,cap-j,_,rfl,fun _=>by rw[zzl,Nat.add_assoc],by omega,(fun h=>by cases h),e',cells.size,hext2.shape _ _ _ hsh,?_⟩
     have:off+j+(cap-j)=off+cap:=by omega
     rw[this];exact hcapn
    have hob2:Heap.obj ((H++List.replicate 1 none).put H.length (some (.sl k 0 (putAt es1 j [y])))) H.length=some (.sl k 0 (putAt es1 j [y])):=qdT hlt
    have hy2:qbO ((H++List.replicate 1 none).put H.length (some (.sl k 0 (putAt es1 j [y])))) k (.r o k (off+j) (len-j) false)=some (L.drop j):=by
     have h1:Heap.obj ((H++List.replicate 1 none).put H.length (some (.sl k 0 (putAt es1 j [y])))) o=some (.sl k ro es):=by rw[qbb hno,ho1]
     have h2:(K.eq k k&&K.eq k k&&decide (off+j+(len-j)≤es.length))=true:=by
      simp only[zzf,zzq];exact⟨⟨hk1,hk1⟩,by omega⟩
     simp only[qbO,h1,h2,if_true,←hL0];rw[List.drop_take,List.drop_drop]
    obtain⟨W3,d1,d2,d3,d4⟩:=qlR (P:=P) (ts := #[ρ.t 24,ρ.t 24]) c4.drew (c3.ext (drew_ext (B:=B))) rfl ht hk hx2 hob2 (by rw[hel2];omega) (Nat.zero_le _) hs2 hy2 (ρ.t 24)
    have hdl:(L.drop j).length=len-j:=by rw[List.length_drop];omega
    have e4:min (L.drop j).length (len-j)=len-j:=by omega
    rw[e4] at d1 d4;have e5:(L.drop j).take (len-j)=L.drop j:=List.take_of_length_le (by omega)
    rw[e5,hpp,←hes1] at d4;have e6:len+1-j=L.length+1-j:=by rw[hpl]
    rw[e6,qGf (by omega)] at d4
    have hc47:=hcap47 len hbig
    refine (Go.Proofs.ins_grow hL blk (base+off*k.size) len cap j capv w.heap.size GC ⟨vb,basev+offv*k.size,none⟩ w W1 W2 W3 hjlt hcap (by omega) (by omega) hGn hrz1 (fun ty=>c1) (fun ty=>d1)).mono ?_
    rintro e7 w3 ⟨rfl,rfl⟩;have holt2:o<((H++List.replicate 1 none).put H.length (some (.sl k 0 (L.take j++y::L.drop j)))).length:=by rw[qa0,zzp];omega
    obtain⟨k1,k2⟩:=qpB d4 o holt2;have hlat2:=a3.trans (k2 (by rw[hβo];simp))
    refine⟨_,S,upd β1 o .dead,rfl,(hext2.trans d2),d3,?_,hlat2,?_,by simp[qa0],?_⟩
    ·have e8:((H++List.replicate 1 none).put H.length (some (Obj.sl k 0 (L.take j++y::L.drop j)))).put o none=((H++[none]).put o none).put H.length (some (Obj.sl k 0 (L.take j++y::L.drop j))):=by
      show List.set (List.set (H++[none]) _ _) _ _=List.set (List.set (H++[none]) _ _) _ _
      exact (List.set_comm _ _ hno).symm▸rfl
     rw[←e8];exact k1
    ·refine .r _ _ _ _ _ _ rfl ?_;unfold RelRf;rw[qaw hno,hβid];refine⟨rfl,GC,_,rfl,fun _=>by simp,hGn,(fun h=>by cases h),ee,nn,d2.shape _ _ _ (hext12.shape _ _ _ hshM),?_⟩
     simpa using hshN
    ·intro p h1 h2 h3;rw[qaw (fun hq=>by subst hq;exact hnp h3),←hβ1,qaw (by omega)];exact h3
 ·
  split at h;case isFalse=>cases h
  rename_i hc;simp only[zzf,zzq] at hc;obtain⟨rfl,hb⟩:=hc;simp only[zzb,zzc] at h;obtain⟨rfl,rfl⟩:=h;rename_i k0 _;obtain⟨a,rfl⟩ : ∃a,ux = .slice a 0 0:=by
   cases hxr with
   |d _ _ hx =>
   cases hx with
   |l _ _ _ a cap blk off c c1 c2 c3 c4 c5=>have:=c2 rfl;simp at this;subst this;exact⟨a,rfl⟩
  obtain⟨ur,w',e1,e2⟩:=qpL (P:=P) (ts := #[ρ.t 24,ρ.t 24]) (id:=H.length) hg hS hB hp hlt rfl rfl ht hk (.inl ⟨_,ht⟩) hz hb0 (ρ.t 24) (y:=.r ov kv offv lv tv) hxr hvr (v:=.r H.length k 0 1 false) (H':=(H++[none]).put H.length (some (.sl k 0 [y]))) (by
   have hy1:=qsh 1 hy
   unfold qdd;rw[hy1];have:(([]:List DV).length+[y].length)*P.bytesOf e≤2^47:=by simpa using hb
   simp only[if_true,this];rfl)
  refine (Go.Proofs.ins_end hL a 0 0 capv _ ur w w' (zzt _) (fun ty=>e1)).mono ?_
  rintro e3 w3 ⟨rfl,rfl⟩;obtain⟨S',β',g1,g2,g3,g4,g5,g6,g7⟩:=quC rfl e2;exact⟨ur,S',β',rfl,g1,g2,g3,g4,g5,g6,g7⟩
 ·cases h
end
end Go.Sim
end
section
open Go.RowKit Go.Sort
namespace Go.Sim
section
variable {P : Program} {N : Names} {C : Cx} {w : World} {S : qah} {β : Pl} {B : Nat} {H : Heap} {a : Act} {E : Env} {ρ : Go.Shelf.Ren}
end
end Go.Sim
end
section
open Go.RowKit Go.Sort
namespace Go.Sim
section
variable {P : Program} {N : Names} {C : Cx} {w : World} {S : qah} {β : Pl} {B : Nat} {H : Heap} {a : Act} {E : Env} {ρ : Go.Shelf.Ren}
theorem qlS (hS:Swf w S) {w':World} (h:Below w.heap.size w w'):Ext w.heap.size w S w' S:=by
 refine⟨h,fun _ _ h=>h,?_,fun _ _ h=>.inl h,?_⟩
 ·intro b j hs;have hlt:=hS.lt hs
  simp only[World.cell?,h.block b hlt]
 ·intro b e n hs;have hlt:b<w.heap.size:=by
   unfold World.shape? at hs;split at hs
   ·rename_i hw;exact (Array.getElem?_eq_some_iff.1 hw).1
   ·cases hs
  simp only[World.shape?,h.block b hlt] at hs⊢;exact hs
end
end Go.Sim
end
section
open Go.RowKit Go.Sort
namespace Go.Sim
section
variable {P : Program} {N : Names} {C : Cx} {ρ : Go.Shelf.Ren}
def qhN (l:List UInt8) (c:UInt8):Nat:=match l with
 | []=>0
 |x::r=>if x==c then qhN r c+1 else qhN r c
def qni (ds:List DV):Option (PV×Bool):=match ds with
 | [.s l,.s [c]]=>some (.d (.i .i64 (qhN l c)),false)
 | _=>none
theorem qEr (l:List UInt8) (c:UInt8):qhN l c=Lib.countByte l c:=by
 induction l with
 |nil=>rfl
 |cons x r ih =>
  simp only[qhN,ih,Lib.countByte,List.count_cons];split<;>rfl
theorem qxd {G:Nat→Option (DV×K)} {f:Nat} (L:Go.Proofs.Lays.n138 P ρ) (hf:C.μ f=ρ.f 138) {ds:List DV} {r:PV} {own:Bool} (h:qni ds=some (r,own)):qhX P C N G f ds r own:=by
 unfold qni at h;split at h;case h_2=>cases h
 rename_i l c;simp only[zzb,zzc] at h;obtain⟨rfl,rfl⟩:=h;intro w S us hS hG hl hr;match us,hl with
 | [u,v],_ =>
 have k0:=hr 0 (by simp) (by simp)
 have k1:=hr 1 (by simp) (by simp)
 simp only[List.getElem_cons_zero,List.getElem_cons_succ] at k0 k1;obtain⟨s,rfl,hs⟩ : ∃s:ByteArray,u = .string s∧s.data.toList=l:=by
  cases k0 with
  |s _ x hx=>exact⟨x,rfl,hx⟩
 obtain⟨t,rfl,ht⟩ : ∃s:ByteArray,v = .string s∧s.data.toList=[c]:=by
  cases k1 with
  |s _ x hx=>exact⟨x,rfl,hx⟩
 have ht':t=⟨#[c]⟩:=by
  obtain⟨⟨t⟩⟩:=t;simp only at ht;subst ht;rfl
 subst ht' hs;rw[hf];refine (Go.Proofs.Any.strings_Count_one L s c w).mono ?_;rintro e w' ⟨rfl,rfl⟩;refine⟨_,S,rfl,Ext.refl _ _ _,hS,fun _ => ?_,fun h=>by cases h⟩
 rw[qEr];exact .d _ _ (.i _ _)
end
end Go.Sim
end
section
open Go.RowKit Go.Sort
namespace Go.Sim
section
variable {P : Program} {N : Names} {C : Cx} {ρ : Go.Shelf.Ren} {w : World} {S : qah}
theorem qtd {G:Nat→Option (DV×K)} (hG:GOK N G w S) {g n:Nat} (h:G (N.g g)=some (.tok n,none)) : ∃t v,w.cell? ⟨g,0,none⟩=some (.iface t v):=by
 obtain⟨-,f,h1,h2⟩:=hG g _ _ h;have h3:=(h1 0 (by simp[K.size])).1
 change RelD w S _ (f 0) at h2
 generalize f 0=u at h2 h3;cases h2 with
 |tok _ t v=>exact⟨t,v,h3⟩
def qls (ds:List DV):Option (PV×Bool):=match ds with
 | [.s l,.i .i64 b,.i .i64 m]=>if b=10∧m=64∧l.length≤281474976710656 then match Lib.parseIntB 64 l with
   | .ok v=>some (.t [.d (.i .i64 v),.d .ni],false)
   | .range=>some (.t [.d (.i .i64 (Lib.intSat 64 l)),.d (.tok 0)],false)
   | _ => some (.t [.d (.i .i64 0),.d (.tok 0)],false)
  else none
 | _=>none
theorem qmy {w':World} {x:Int} {d:DV} {u:Value} (h:RelD w' S d u):RelV C w' S (fun _=>.pend) (.t [.d (.i .i64 x),.d d]) (.tuple #[.int .i64 x,u]):=by
 refine .t _ [.int .i64 x,u] rfl fun j hj hj' => ?_
 match j,hj with
 | 0,_=>exact .d _ _ (.i _ _)
 | 1,_=>exact .d _ _ h
theorem qDO {G:Nat→Option (DV×K)} {f:Nat} (L:Go.Proofs.LaysC.n174 P ρ) (hf:C.μ f=ρ.f 174) (h15:G (N.g (ρ.g 15))=some (.tok 0,none)) (h16:G (N.g (ρ.g 16))=some (.tok 1,none)) {ds:List DV} {r:PV} {own:Bool} (h:qls ds=some (r,own)):qhX P C N G f ds r own:=by
 unfold qls at h;split at h;case h_2=>cases h
 rename_i l b m;split at h;case isFalse=>cases h
 rename_i hc;obtain⟨rfl,rfl,hlen⟩:=hc;intro w S us hS hG hl hr;match us,hl with
 | [u,v,x],_ =>
 have k0:=hr 0 (by simp) (by simp)
 have k1:=hr 1 (by simp) (by simp)
 have k2:=hr 2 (by simp) (by simp)
 simp only[List.getElem_cons_zero,List.getElem_cons_succ] at k0 k1 k2;obtain⟨s,rfl,hs⟩ : ∃s:ByteArray,u = .string s∧s.data.toList=l:=by
  cases k0 with
  |s _ x hx=>exact⟨x,rfl,hx⟩
 have hv:v = .int .i64 10:=by cases k1;rfl
 have hx:x = .int .i64 64:=by cases k2;rfl
 subst hv hx hs;have hsz:s.size≤281474976710656:=by simpa using hlen
 rw[hf];cases hn:Lib.parseIntB 64 s.data.toList<;>rw[hn]at h
 ·rename_i n;simp only[zzb,zzc] at h;obtain⟨rfl,rfl⟩:=h;refine (Go.Proofs.Any.strconv_ParseInt_10_at64_ok L s (by omega) n hn w).mono ?_
  rintro e w' ⟨rfl,hw⟩;have hb:Below w.heap.size w w':=by
   rcases hw with rfl|⟨t,rfl⟩
   ·exact Below.refl _ _
   ·exact Lib.bytesWorld_below _ _ _
  have e1:=qlS hS hb
  exact⟨_,S,rfl,e1,hS.ext e1,fun _=>qmy .ni,fun h=>by cases h⟩
 ·simp only[zzb,zzc] at h;obtain⟨rfl,rfl⟩:=h;obtain⟨t,v,hv⟩:=qtd hG h15;refine (Go.Proofs.Any.strconv_ParseInt_10_at64_syntax L s hsz hn _ w hv (.inr ⟨t,v,rfl⟩)).mono ?_;rintro e w' ⟨n,rfl,-,-,hb⟩;have e1:=qlS hS hb
  exact⟨_,S,rfl,e1,hS.ext e1,fun _=>qmy (.tok _ _ _),fun h=>by cases h⟩
 ·simp only[zzb,zzc] at h;obtain⟨rfl,rfl⟩:=h;obtain⟨t,v,hv⟩:=qtd hG h16;refine (Go.Proofs.Any.strconv_ParseInt_10_at64_range L s hsz hn _ w hv (.inr ⟨t,v,rfl⟩)).mono ?_;rintro e w' ⟨n,rfl,-,-,hb⟩;have e1:=qlS hS hb
  exact⟨_,S,rfl,e1,hS.ext e1,fun _=>qmy (.tok _ _ _),fun h=>by cases h⟩
def qj6 (ds:List DV):Option (PV×Bool):=match ds with
 | [.s l]=>if l.length≤18 then match Lib.atoi l with
   |some v=>some (.t [.d (.i .i64 v),.d .ni],false)
   |none=>none
  else none
 | _=>none
theorem qCB {G:Nat→Option (DV×K)} {f:Nat} (L:Go.Proofs.Lays.n172 P ρ) (hf:C.μ f=ρ.f 172) {ds:List DV} {r:PV} {own:Bool} (h:qj6 ds=some (r,own)):qhX P C N G f ds r own:=by
 unfold qj6 at h;split at h;case h_2=>cases h
 rename_i l;split at h;case isFalse=>cases h
 rename_i hc;split at h;case h_2=>cases h
 rename_i n hn;simp only[zzb,zzc] at h;obtain⟨rfl,rfl⟩:=h;intro w S us hS hG hl hr;match us,hl with
 | [u],_ =>
 have k0:=hr 0 (by simp) (by simp)
 simp only[List.getElem_cons_zero] at k0;obtain⟨s,rfl,hs⟩ : ∃s:ByteArray,u = .string s∧s.data.toList=l:=by
  cases k0 with
  |s _ x hx=>exact⟨x,rfl,hx⟩
 subst hs;rw[hf];refine (Go.Proofs.Any.strconv_Atoi L s n (by simpa using hc) hn w).mono ?_
 rintro e w' ⟨rfl,t,rfl⟩;have e1:=qlS hS (Lib.bytesWorld_below w (ρ.t 5) t)
 exact⟨_,S,rfl,e1,hS.ext e1,fun _=>qmy .ni,fun h=>by cases h⟩
end
end Go.Sim
end
section
open Go.RowKit
namespace Go.Sim
inductive PT where
 |nil
 |bin (k:Nat) (F:PF) (l r:PT)
noncomputable def PT.get (t:PT):Nat→Option PF := @PT.rec (fun _=>Nat→Option PF) (fun _=>none) (fun k F _ _ gl gr n => @Bool.rec (fun _=>Option PF) (@Bool.rec (fun _=>Option PF) (gr n) (gl n) (Nat.ble (Nat.succ n) k)) (some F) (Nat.beq n k)) t
def PT.All (p:Nat→PF→Prop):PT→Prop
 | .nil=>True
 | .bin k F l r=>p k F∧l.All p∧r.All p
theorem PT.get_all {p:Nat→PF→Prop} : ∀{t:PT} {n:Nat} {F:PF},t.get n=some F→t.All p→p n F
 | .nil,n,F,h,_=>by cases h
 | .bin k G l r,n,F,h,ha=>by
  change @Bool.rec (fun _=>Option PF) (@Bool.rec (fun _=>Option PF) (r.get n) (l.get n) (Nat.ble (Nat.succ n) k)) (some G) (Nat.beq n k)=some F at h
  cases hb:Nat.beq n k with
  |true =>
   rw[hb] at h;have:n=k:=Nat.eq_of_beq_eq_true hb
   subst this;cases h;exact ha.1
  |false =>
   rw[hb] at h;change @Bool.rec (fun _=>Option PF) (r.get n) (l.get n) (Nat.ble (Nat.succ n) k)=some F at h
   cases hc:Nat.ble (Nat.succ n) k with
   |true=>rw[hc] at h;exact PT.get_all (t:=l) h ha.2.1
   |false=>rw[hc] at h;exact PT.get_all (t:=r) h ha.2.2
inductive XK where
 |cnt
 |par
 |ato
def XK.run:XK→List DV→Option (PV×Bool)
 | .cnt,ds=>qni ds
 | .par,ds=>qls ds
 | .ato,ds=>qj6 ds
inductive RK where
 |ins (k:K) (b:Nat)
def RK.run:RK→List PV→Heap→Option (PV×Heap)
 | .ins k b,args,H=>qiF k b args H
noncomputable def qb5 {α β:Type} (f:α→β) (z:β) (l:List (Nat×α)) (n:Nat):β := @List.rec (Nat×α) (fun _=>β) z (fun p _ ih => @Prod.rec Nat α (fun _=>β) (fun m x => @Bool.rec (fun _=>β) ih (f x) (Nat.beq n m)) p) l
theorem qhA {α β:Type} {f:α→β} {z:β} : ∀{l:List (Nat×α)} {n:Nat},qb5 f z l n=z∨∃x,(n,x)∈l∧qb5 f z l n=f x
 | [],n=>.inl rfl
 | (m,x)::r,n=>by
  change (@Bool.rec (fun _=>β) (qb5 f z r n) (f x) (Nat.beq n m))=z∨∃y,(n,y)∈(m,x)::r∧(@Bool.rec (fun _=>β) (qb5 f z r n) (f x) (Nat.beq n m))=f y
  cases hb:Nat.beq n m with
  |true =>
   have:n=m:=Nat.eq_of_beq_eq_true hb
   subst this;exact .inr ⟨x,zzr ..,rfl⟩
  |false =>
   rcases qhA (f:=f) (z:=z) (l:=r) (n:=n) with h|⟨y,h1,h2⟩
   ·exact .inl h
   ·exact .inr ⟨y,zzi _ h1,h2⟩
noncomputable def qjN (t:PT) (xs:List (Nat×XK)) (rs:List (Nat×RK)) (gs:List (Nat×DV×K)):Tab where
 F:=t.get
 X:=qb5 XK.run (fun _=>none) xs
 R:=qb5 RK.run (fun _ _=>none) rs
 G:=qb5 (fun x=>some x) none gs
section
variable {P : Program} {N : Names} {C : Cx}
def XOK (P:Program) (N:Names) (C:Cx) (G:Nat→Option (DV×K)) (f:Nat):XK→Prop
 | .cnt=>∃ρ,Go.Proofs.Lays.n138 P ρ∧C.μ f=ρ.f 138
 | .par=>∃ρ,Go.Proofs.LaysC.n174 P ρ∧C.μ f=ρ.f 174∧G (N.g (ρ.g 15))=some (.tok 0,none)∧G (N.g (ρ.g 16))=some (.tok 1,none)
 | .ato=>∃ρ,Go.Proofs.Lays.n172 P ρ∧C.μ f=ρ.f 172
def ROK (P:Program) (_N:Names) (C:Cx) (_G:Nat→Option (DV×K)) (f:Nat):RK→Prop
 | .ins k b=>∃ρ z,Go.Proofs.InsL P (C.μ f) ρ k.size∧kq P (ρ.t 9)=some k∧zq P (ρ.t 9)=some z∧P.bytesOf (ρ.t 9)=b∧b≠0∧0<k.size
theorem qzJ {G:Nat→Option (DV×K)} (_hN:NOK P N C G) {f:Nat} {x:XK} (h:XOK P N C G f x) {ds:List DV} {r:PV} {own:Bool} (hr:x.run ds=some (r,own)):qhX P C N G f ds r own:=by
 cases x with
 |cnt=>obtain⟨ρ,h1,h2⟩:=h;exact qxd h1 h2 hr
 |par=>obtain⟨ρ,h1,h2,h3,h4⟩:=h;exact qDO h1 h2 h3 h4 hr
 |ato=>obtain⟨ρ,h1,h2⟩:=h;exact qCB h1 h2 hr
theorem qF9 {G:Nat→Option (DV×K)} {f:Nat} {x:XK} (h:XOK P N C G f x) : ∃fn,P.funcs[C.μ f]? = some fn∧fn.body.isNone=false∧fn.name ≠ "runtime.NumGoroutine" := by
 cases x with
 |cnt=>obtain⟨ρ,h1,h2⟩:=h;exact⟨_,by rw[h2];exact h1.f138,rfl,of_decide_eq_true rfl⟩
 |par=>obtain⟨ρ,h1,h2,-⟩:=h;exact⟨_,by rw[h2];exact h1.f174,rfl,of_decide_eq_true rfl⟩
 |ato=>obtain⟨ρ,h1,h2⟩:=h;exact⟨_,by rw[h2];exact h1.f172,rfl,of_decide_eq_true rfl⟩
theorem qyJ {G:Nat→Option (DV×K)} {f:Nat} {x:RK} (h:ROK P N C G f x) {args:List PV} {H H':Heap} {r:PV} (hr:x.run args H=some (r,H')):qmS P C N G f args H r H':=by
 cases x with
 |ins k b=>obtain⟨ρ,z,h1,h2,h3,h4,h5,h6⟩:=h;subst h4;exact qxA h1 rfl h2 h3 h5 h6 hr
theorem qwX {G:Nat→Option (DV×K)} {f:Nat} {x:RK} (h:ROK P N C G f x) : ∃fn,P.funcs[C.μ f]? = some fn∧fn.body.isNone=false∧fn.name ≠ "runtime.NumGoroutine" := by
 cases x with
 |ins k b =>
  obtain⟨ρ,z,h1,-⟩:=h;obtain⟨nm,hn,hf⟩:=h1.bears;exact⟨_,hf,rfl,by simpa using hn⟩
theorem qBX {t:PT} {xs:List (Nat×XK)} {rs:List (Nat×RK)} {gs:List (Nat×DV×K)} (hN:NOK P N C (qjN t xs rs gs).G) (hF:t.All fun n F=>qhz P N (C.μ n) F) (hX : ∀x∈xs,XOK P N C (qjN t xs rs gs).G x.1 x.2) (hR : ∀x∈rs,ROK P N C (qjN t xs rs gs).G x.1 x.2):TabOK P N C (qjN t xs rs gs):=by
 refine⟨hN,fun f F h=>PT.get_all (p:=fun n F=>qhz P N (C.μ n) F) (t:=t) (n:=f) h hF,?_,?_,?_,?_⟩
 ·intro f ds r own _ h;change qb5 XK.run (fun _=>none) xs f ds=_ at h
  rcases qhA (f:=XK.run) (z:=fun _=>none) (l:=xs) (n:=f) with h1|⟨x,h1,h2⟩
  ·rw[h1] at h;cases h
  ·rw[h2] at h;exact qzJ hN (hX _ h1) h
 ·intro f args H r H' _ h;change qb5 RK.run (fun _ _=>none) rs f args H=_ at h
  rcases qhA (f:=RK.run) (z:=fun _ _=>none) (l:=rs) (n:=f) with h1|⟨x,h1,h2⟩
  ·rw[h1] at h;cases h
  ·rw[h2] at h;exact qyJ (hR _ h1) h
 ·intro f args H r _ h;change qb5 RK.run (fun _ _=>none) rs f args H=_ at h
  rcases qhA (f:=RK.run) (z:=fun _ _=>none) (l:=rs) (n:=f) with h1|⟨x,h1,h2⟩
  ·rw[h1] at h;cases h
  ·exact qwX (hR _ h1)
 ·intro f ds r _ h;change qb5 XK.run (fun _=>none) xs f ds=_ at h
  rcases qhA (f:=XK.run) (z:=fun _=>none) (l:=xs) (n:=f) with h1|⟨x,h1,h2⟩
  ·rw[h1] at h;cases h
  ·exact qF9 (hX _ h1)
end
end Go.Sim
end
section
namespace Go.Sim
def qhV (q:K):PC :=
 sq (.reg [
 O 9 (.bin .lss (.t 8) (.t 7))] []) (
 sq (.cond (.t 9) (.skip)
 (.exit 0)) (
 sq (.block 1 (
 sq (.reg [
 mM 10 8,
 mM 5 10] [10]) (
 sq (.reg [
 mM 11 1,
 mM 12 0,
 mM 13 5,
 O 14 (.iaddr q (.t 12) (.t 13)),
 O 15 (.load q (.t 14)),
 O 16 (.callv (.t 11) [.t 15])] [15,14,13,12,11]) (
 .cond (.t 16) (sq (.reg [
 mM 17 5,
 mM 4 17] [5,17]) (
 .ret))
 (.skip))))) (
 .reg [
 O 18 (.bin .add (.t 8) (.c (I 1))),
 mM 8 18] [18])))
def qhb (q:K):PF:=⟨2,[.t 4],
 sq (.reg [
 mI 4 0] [4]) (
 sq (sq (.reg [
 mM 6 0,
 O 7 (.len false (.t 6)),
 mI 8 0] [6]) (
 .block 0 (
 .loop [0,1,7,8] (qhV q)))) (
 sq (.reg [
 O 4 (.mov (.c (I (-1))))] []) (
 .ret)))⟩
end Go.Sim
end
