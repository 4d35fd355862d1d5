/- Part 4 of the proof. -/
import Derived.Shelf.Spec.SlicesInsertGrow
import Derived.Shelf.SlGeneric
import Derived.Test.YtpfeklkomlghlaaGreatDoorB2
import Derived.Test.YtpfeklkomlghlaaGreatDoorB3
set_option linter.all false
section
namespace Go.Proofs
open Go.Shelf Go.RowKit Go.Lib
variable {P:Program}{ρ:Ren}
structure InsL (P:Program) (f:FuncId) (ρ:Ren) (z:Nat):Prop where
 mixed:P.follows .mixedOrders=true
 bears:Bears P f (Body2.n22 ρ)
 ov:∃fn,P.funcs[ρ.f 29]? = some fn/\(fn.name == "runtime.NumGoroutine")=false/\fn.body.isNone=true/\Extern.findNext fn=none/\Extern.find fn=some (Extern.SlicesOverlaps.overlaps #[ρ.t 24,ρ.t 24] #[ρ.t 4])
 t3:P.underlying (ρ.t 3)=some (TypeDesc.int IntKind.i64)
 a3:∀w,(isAgg (ρ.t 3)).run P w=.ok false w
 z3:∀w,(Go.sizeOf (ρ.t 3)).run P w=.ok 1 w
 v3:∀w,(zeroValue (ρ.t 3)).run P w=.ok (Value.int IntKind.i64 0) w
 t4:P.underlying (ρ.t 4)=some (TypeDesc.bool)
 a4:∀w,(isAgg (ρ.t 4)).run P w=.ok false w
 z4:∀w,(Go.sizeOf (ρ.t 4)).run P w=.ok 1 w
 v4:∀w,(zeroValue (ρ.t 4)).run P w=.ok (Value.bool false) w
 z9:∀w,(Go.sizeOf (ρ.t 9)).run P w=.ok z w
 t24:P.underlying (ρ.t 24)=some (TypeDesc.slice (ρ.t 9))
 a24:∀w,(isAgg (ρ.t 24)).run P w=.ok false w
 z24:∀w,(Go.sizeOf (ρ.t 24)).run P w=.ok 1 w
 v24:∀w,(zeroValue (ρ.t 24)).run P w=.ok (Value.slice none 0 0) w
set_option maxHeartbeats 4000000 in
set_option maxRecDepth 100000 in
def ins_shift{f:FuncId}{z:Nat}(L:InsL P f ρ z)(b off n c i vb voff vc:Nat)(w W1 W2:World)(hi:i<n)(hroom:n+1<=c)(hc63:n+1<=9223372036854775807)(hvb:vb≠b)
  (tA tB:TypeId) (kA kB:Nat) (hsa:w.shape? vb=some (tA,kA)) (hsb:w.shape? b=some (tB,kB)) (hkB:kB≠0) (hfa:w.frozen? ⟨vb,voff,none⟩=false) (hfe:w.frozen? ⟨vb,kA,none⟩=false)
  (hcp1:∀ty,(Builtin.copy_ #[(ρ.t 24),(ρ.t 24)] ty #[.slice (some ⟨b,off+(i+1)*z,none⟩) (n-i) (c-(i+1)),.slice (some ⟨b,off+i*z,none⟩) (n+1-i) (c-i)]).run P w.drew=.ok (goInt (n-i:Nat)) W1)
  (hcp2:∀ty,(Builtin.copy_ #[(ρ.t 24),(ρ.t 24)] ty #[.slice (some ⟨b,off+i*z,none⟩) (n+1-i) (c-i),.slice (some ⟨vb,voff,none⟩) 1 vc]).run P W1=.ok (goInt (1:Nat)) W2) :
  Calls P f #[.slice (some ⟨b,off,none⟩) n c,.int .i64 i,.slice (some ⟨vb,voff,none⟩) 1 vc] w λe w'=>e=.returned (.slice (some ⟨b,off,none⟩) (n+1) c)/\w'=W2:=by
 have t3:=L.t3;have a3:=L.a3;have z3:=L.z3;have v3:=L.v3;have t4:=L.t4;have a4:=L.a4;have z4:=L.z4;have v4:=L.v4;have z9:=L.z9;have t24:=L.t24;have a24:=L.a24;have z24:=L.z24;have v24:=L.v24;have u3:=run_underlying L.t3;have u4:=run_underlying L.t4;have u24:=run_underlying L.t24;have hz2:¬((i:Int)=(n:Int)):=by omega
 have hov:∀lb cb,(callFunc (ρ.f 29) #[.slice (some ⟨vb,voff,none⟩) 1 vc,.slice (some ⟨b,off+(i+1)*z,none⟩) lb cb]).run P w=.ok (.value (.bool false)) w:=λlb cb=>by obtain⟨fn,o1,o2,o3,o4,o5⟩:=L.ov;rw[run_callFunc_extern o1 o2 o3 o4 o5,Lib.run_overlaps_apart w (ρ.t 24) (ρ.t 4) (ρ.t 9) L.t24 z L.z9 ⟨vb,voff,none⟩ ⟨b,off+(i+1)*z,none⟩ 1 vc lb cb hvb tA tB kA kB hsa hsb hkB hfa hfe];rfl
 have mixed:=L.mixed;have hw1:IntKind.i64.wrap ((i:Int)+1)=(i:Int)+1:=by rw[IntKind.wrap_i64];omega
 have hb1:(0:Int)<=(i:Int)+1:=by omega
 have hin:i<=n:=by omega
 have htn:((i:Int)+1).toNat=i+1:=by omega
 have hb2:¬(c=i+1):=by omega
 have hb3:(i:Int)<=(n:Int)+1:=by omega
 have hb4:¬(c=i):=by omega
 obtain⟨_,_,FG⟩:=L.bears;go_enter FG,Body2.n22_ntmps ρ
 go_wp2_with (simp only[hov])
 go_region_law_o (refine step_copy_runI rfl _ _ (ρ.t 24) (ρ.t 24) rfl _ _ (by simp[Act.eval,Act.put]) (by simp[Act.eval,Act.put]) (hcp1 _) ?_)
 go_wp2_with (at_builtin;refine wpList_copy_runI _ rfl _ _ (ρ.t 24) (ρ.t 24) rfl _ _ rfl rfl (hcp2 _) ?_)
 go_ret
 exact⟨rfl,rfl⟩
set_option maxHeartbeats 4000000 in
set_option maxRecDepth 100000 in
def ins_end{f:FuncId}{z:Nat}(L:InsL P f ρ z)(base:Option Addr)(n c vc:Nat)(av:Addr)(u:Value)(w W1:World)(_hnc:n<=c)
  (hap:∀ty,(Builtin.append_ #[(ρ.t 24),(ρ.t 24)] ty #[.slice base n c,.slice (some av) 1 vc]).run P w=.ok u W1) :
  Calls P f #[.slice base n c,.int .i64 n,.slice (some av) 1 vc] w λe w'=>e=.returned u/\w'=W1:=by
 have t3:=L.t3;have a3:=L.a3;have z3:=L.z3;have v3:=L.v3;have t4:=L.t4;have a4:=L.a4;have z4:=L.z4;have v4:=L.v4;have z9:=L.z9;have t24:=L.t24;have a24:=L.a24;have z24:=L.z24;have v24:=L.v24;have u3:=run_underlying L.t3;have u4:=run_underlying L.t4;have u24:=run_underlying L.t24;have mixed:=L.mixed;obtain⟨_,_,FG⟩:=L.bears;go_enter FG,Body2.n22_ntmps ρ
 obtain⟨ab,ao,asp⟩:=av;cases base with
 |none=>
  go_wp2_with (at_builtin;refine Lib.wpList_append_run _ rfl _ _ _ _ rfl _ _ rfl rfl _ _ (hap _) ?_)
  go_ret
  exact⟨rfl,rfl⟩
 |some a=>
  obtain⟨bb,bo,bs⟩:=a;go_wp2_with (at_builtin;refine Lib.wpList_append_run _ rfl _ _ _ _ rfl _ _ rfl rfl _ _ (hap _) ?_)
  all_goals (go_ret;exact⟨rfl,rfl⟩)
set_option maxHeartbeats 4000000 in
set_option maxRecDepth 100000 in
def ins_grow{f:FuncId}{z:Nat}(L:InsL P f ρ z)(b off n c i vc M G:Nat)(av:Addr)(w W1 W2 W3:World)(hi:i<n)(hnc:n<=c)(hroom:c<n+1)(hc63:n+1<=9223372036854775807)(hGn:n+1<=G)
  (hrz:∀ty,(Builtin.append_ #[(ρ.t 24),(ρ.t 3)] ty #[.slice (some ⟨b,off,none⟩) i c,.int .i64 ((n:Int)+1-(i:Int))]).run P w=.ok (.slice (some ⟨M,0,none⟩) (n+1) G) W1)
  (hcpA:∀ty,(Builtin.copy_ #[(ρ.t 24),(ρ.t 24)] ty #[.slice (some ⟨M,i*z,none⟩) (n+1-i) (G-i),.slice (some av) 1 vc]).run P W1=.ok (goInt (1:Nat)) W2)
  (hcpB:∀ty,(Builtin.copy_ #[(ρ.t 24),(ρ.t 24)] ty #[.slice (some ⟨M,(i+1)*z,none⟩) (n-i) (G-(i+1)),.slice (some ⟨b,off+i*z,none⟩) (n-i) (c-i)]).run P W2.drew=.ok (goInt (n-i:Nat)) W3) :
  Calls P f #[.slice (some ⟨b,off,none⟩) n c,.int .i64 i,.slice (some av) 1 vc] w λe w'=>e=.returned (.slice (some ⟨M,0,none⟩) (n+1) G)/\w'=W3:=by
 have t3:=L.t3;have a3:=L.a3;have z3:=L.z3;have v3:=L.v3;have t4:=L.t4;have a4:=L.a4;have z4:=L.z4;have v4:=L.v4;have z9:=L.z9;have t24:=L.t24;have a24:=L.a24;have z24:=L.z24;have v24:=L.v24;have u3:=run_underlying L.t3;have u4:=run_underlying L.t4;have u24:=run_underlying L.t24;have mixed:=L.mixed;have hz2:¬((i:Int)=(n:Int)):=by omega
 have hz3:(c:Int)<(n:Int)+1:=by omega
 have hGi:¬(G=i):=by omega
 have hGim:¬(G=i+1):=by omega
 have hci:¬(c=i):=by omega
 have hw1:IntKind.i64.wrap ((i:Int)+1)=(i:Int)+1:=by rw[IntKind.wrap_i64];omega
 have hw2:IntKind.i64.wrap ((n:Int)+1)=(n:Int)+1:=by rw[IntKind.wrap_i64];omega
 have hw3:IntKind.i64.wrap ((n:Int)+1-(i:Int))=(n:Int)+1-(i:Int):=by rw[IntKind.wrap_i64];omega
 have hb1:(0:Int)<=(i:Int)+1:=by omega
 have hin:i<=n:=by omega
 have htn:((i:Int)+1).toNat=i+1:=by omega
 have hb3:(i:Int)<=(n:Int):=by omega
 obtain⟨_,_,FG⟩:=L.bears;obtain⟨ab,ao,asp⟩:=av;go_enter FG,Body2.n22_ntmps ρ
 go_wp2_with (first
  | (at_builtin;refine Lib.wpList_append_run _ rfl _ _ _ _ rfl _ _ rfl rfl _ _ (hrz _) ?_)
  | (at_builtin;refine wpList_copy_runI _ rfl _ _ (ρ.t 24) (ρ.t 24) rfl _ _ rfl rfl (hcpA _) ?_))
 go_region_law_o (refine step_copy_runI rfl _ _ (ρ.t 24) (ρ.t 24) rfl _ _ (by simp[Act.eval,Act.put]) (by simp[Act.eval,Act.put]) (hcpB _) ?_)
 go_wp2
 go_ret
 exact⟨rfl,rfl⟩
end Go.Proofs
end
namespace Go.Sim
set_option maxRecDepth 100000
set_option maxHeartbeats 8000000
def qzx{x y:DV}{e:CO}(h:qdb x y=some e):qdb y x=some e:=by
 unfold qdb at h⊢;split at h
 ·rename_i k a k' b;split at h
  ·rename_i hk;subst hk;simp only[if_true];rw[<-h];simp only[zzb];rw[Bool.eq_iff_iff];simp only[beq_iff_eq];exact eq_comm
  ·cases h
 ·rw[<-h];simp only[zzb];rw[Bool.eq_iff_iff];simp only[beq_iff_eq];exact eq_comm
 ·rw[<-h];simp only[zzb];rw[Bool.eq_iff_iff];simp only[beq_iff_eq];exact eq_comm
 ·cases h
def qzu:∀{xs ys:Cy} {e:CO},qdI xs ys=some e->qdI ys xs=some e
 |[],[],_,h=>h
 |x::xs,y::ys,e,h=>by
  simp only[qdI]at h⊢;split at h
  ·rename_i a b h1 h2;rw[qzx h1,qzu h2];exact h
  ·cases h
 |[],_::_,_,h=>by cases h
 |_::_,[],_,h=>by cases h
def qs0{x y:DV}{e:CO}(h:qbS x y=some e):qbS y x=some e:=by
 unfold qbS at h;split at h
 ·exact qzu h
 ·rename_i h0;have:=qzx h;unfold qbS;split
  ·exact absurd rfl (h0 _ _ rfl)
  ·exact this
def qzw{x y:DV}(h:qdb x y=some true):x=y:=by
 unfold qdb at h;split at h
 ·split at h
  ·rename_i hk;subst hk;simp at h;rw[h]
  ·cases h
 ·simp at h;rw[h]
 ·simp at h;rw[h]
 ·cases h
def qzt:∀{xs ys:Cy},qdI xs ys=some true->xs=ys
 |[],[],_=>rfl
 |x::xs,y::ys,h=>by
  simp only[qdI]at h;split at h
  ·rename_i a b h1 h2;simp only[zzb,zzf]at h;obtain⟨rfl,rfl⟩:=h;rw[qzw h1,qzt h2]
  ·cases h
 |[],_::_,h=>by cases h
 |_::_,[],h=>by cases h
def qzy{x y:DV}(h:qbS x y=some true):x=y:=by
 unfold qbS at h;split at h
 ·rw[qzt h]
 ·exact qzw h
def NdK(es:CL (DV×DV)):Prop:=es.Pairwise λa b=>qbS a.1 b.1=some false
def NoK(k:DV)(es:CL (DV×DV)):Prop:=∀e∈es,qbS k e.1=some false
def qtZ{k x:DV}:∀{es:CL (DV×DV)},NoK k es->qdx k x es=some (es++[(k,x)])
 |[],_=>rfl
 | (a,v)::r,h=>by rw[qdx,h (a,v) (by simp)];simp only;rw[qtZ (λe he=>h e (by simp[he]))];rfl
def qBw{k x v:DV}(hk:qbS k k=some true):∀{l1 l2:CL (DV×DV)},NoK k l1->qdx k x (l1++(k,v)::l2)=some (l1++(k,x)::l2)
 |[],l2,_=>by rw[List.nil_append,qdx,hk];rfl
 | (a,w)::r,l2,h=>by rw[List.cons_append,qdx,h (a,w) (by simp)];simp only;rw[qBw hk (λe he=>h e (by simp[he]))];rfl
def qBy{k x:DV}:∀{es es':CL (DV×DV)},qdx k x es=some es'->(NoK k es/\es'=es++[(k,x)])\/∃l1 v l2,es=l1++(k,v)::l2/\es'=l1++(k,x)::l2/\qbS k k=some true/\NoK k l1
 |[],es',h=>by cases h;exact .inl ⟨(λe he=>by cases he),rfl⟩
 | (a,v)::r,es',h=>by
  simp only[qdx]at h;split at h
  ·rename_i he;cases h;have:=qzy he;subst this;exact .inr ⟨[],v,r,rfl,rfl,he,(λe he=>by cases he)⟩
  ·rename_i he;split at h
   ·rename_i r' hr;cases h;rcases qBy hr with ⟨h1,rfl⟩|⟨l1,w,l2,rfl,rfl,h3,h4⟩
    ·refine .inl ⟨λe hm=>?_,rfl⟩;rcases List.mem_cons.1 hm with rfl|hm
     ·exact he
     ·exact h1 e hm
    ·refine .inr ⟨(a,v)::l1,w,l2,rfl,rfl,h3,λe hm=>?_⟩;rcases List.mem_cons.1 hm with rfl|hm
     ·exact he
     ·exact h4 e hm
   ·cases h
  ·cases h
def qyj{k:DV}:∀{es:CL (DV×DV)},NoK k es->qcG k es=some none
 |[],_=>rfl
 | (a,v)::r,h=>by rw[qcG,h (a,v) (by simp)];exact qyj λe he=>h e (by simp[he])
def qyi{k v:DV}(hk:qbS k k=some true):∀{l1 l2:CL (DV×DV)},NoK k l1->qcG k (l1++(k,v)::l2)=some (some v)
 |[],l2,_=>by rw[List.nil_append,qcG,hk]
 | (a,w)::r,l2,h=>by rw[List.cons_append,qcG,h (a,w) (by simp)];exact qyi hk λe he=>h e (by simp[he])
def qyl{k:DV}:∀{es:CL (DV×DV)} {r:CK DV},qcG k es=some r->(NoK k es/\r=none)\/∃l1 v l2,es=l1++(k,v)::l2/\r=some v/\qbS k k=some true/\NoK k l1
 |[],r,h=>by cases h;exact .inl ⟨(λe he=>by cases he),rfl⟩
 | (a,v)::l,r,h=>by
  simp only[qcG]at h;split at h
  ·rename_i he;cases h;have:=qzy he;subst this;exact .inr ⟨[],v,l,rfl,rfl,he,(λe he=>by cases he)⟩
  ·rename_i he;rcases qyl h with ⟨h1,rfl⟩|⟨l1,w,l2,rfl,rfl,h3,h4⟩
   ·refine .inl ⟨λe hm=>?_,rfl⟩;rcases List.mem_cons.1 hm with rfl|hm
    ·exact he
    ·exact h1 e hm
   ·refine .inr ⟨(a,v)::l1,w,l2,rfl,rfl,h3,λe hm=>?_⟩;rcases List.mem_cons.1 hm with rfl|hm
    ·exact he
    ·exact h4 e hm
  ·cases h
def qAH{k v:DV}{es0 l1 l2:CL (DV×DV)}(nd:NdK es0)(hp:es0.Perm (l1++(k,v)::l2)):∃m1 m2,es0=m1++(k,v)::m2/\NoK k m1/\(m1++m2).Perm (l1++l2):=by
 have hm:(k,v)∈es0:=hp.mem_iff.2 (by simp);obtain⟨m1,m2,rfl⟩:=List.append_of_mem hm;refine⟨m1,m2,rfl,λe he=>?_,?_⟩
 ·have:=(List.pairwise_append.1 nd).2.2 e he (k,v) (by simp);exact qs0 this
 ·have h1:((k,v)::(m1++m2)).Perm ((k,v)::(l1++l2)):=(List.perm_middle.symm.trans hp).trans List.perm_middle;exact h1.cons_inv
def qGo{k:DV}{es0 es:CL (DV×DV)}{r:CK DV}(nd:NdK es0)(hp:es0.Perm es)(h:qcG k es=some r):qcG k es0=some r:=by
 rcases qyl h with ⟨h1,rfl⟩|⟨l1,v,l2,rfl,rfl,h3,h4⟩
 ·exact qyj λe he=>h1 e (hp.mem_iff.1 he)
 ·obtain⟨m1,m2,rfl,h5,-⟩:=qAH nd hp;exact qyi h3 h5
def qOT{k x:DV}{es0 es es':CL (DV×DV)}(nd:NdK es0)(hp:es0.Perm es)(h:qdx k x es=some es'):∃es0',qdx k x es0=some es0'/\es0'.Perm es'/\NdK es0':=by
 rcases qBy h with ⟨h1,rfl⟩|⟨l1,v,l2,rfl,rfl,h3,h4⟩
 ·have h2:NoK k es0:=λe he=>h1 e (hp.mem_iff.1 he);refine⟨_,qtZ h2,hp.append_right _,?_⟩;refine List.pairwise_append.2 ⟨nd,List.pairwise_singleton ..,λa ha b hb=>?_⟩;rw[zzH.1 hb];exact qs0 (h2 a ha)
 ·obtain⟨m1,m2,rfl,h5,h6⟩:=qAH nd hp;refine⟨_,qBw h3 h5,?_,?_⟩
  ·exact (List.perm_middle.trans (h6.cons _)).trans List.perm_middle.symm
  ·obtain⟨n1,n2,n3⟩:=List.pairwise_append.1 nd;obtain⟨n4,n5⟩:=List.pairwise_cons.1 n2;refine List.pairwise_append.2 ⟨n1,List.pairwise_cons.2 ⟨λb hb=>n4 b hb,n5⟩,λa ha b hb=>?_⟩;rcases List.mem_cons.1 hb with rfl|hb
   ·exact n3 a ha (k,v) (by simp)
   ·exact n3 a ha b (by simp[hb])
def qon(q:K):PC:=
 sq (.reg [
 O 9 (.bin .lss (.t 8) (.t 7))] []) (
 sq (.cond (.t 9) (.skip)
 (.exit 0)) (
 sq (.block 1 (
 sq (.reg [
 mM 10 8,
 mM 5 10] [10]) (
 sq (.reg [
 mM 11 1,
 mM 12 0,
 mM 13 5,
 O 14 (.AJ q (.t 12) (.t 13)),
 O 15 (.load q (.t 14)),
 O 16 (.BI (.t 11) [.t 15])] [15,14,13,12,11]) (
 .cond (.t 16) (sq (.reg [
 mM 17 5,
 mM 4 17] [5,17]) (
 .ret))
 (.skip))))) (
 .reg [
 O 18 (.bin .add (.t 8) (.c (I 1))),
 mM 8 18] [18])))
def qj4(q:K):PF:=⟨2,[.t 4],
 sq (.reg [
 mI 4 0] [4]) (
 sq (sq (.reg [
 mM 6 0,
 O 7 (.len false (.t 6)),
 mI 8 0] [6]) (
 .block 0 (
 .loop [0,1,7,8] (qon q)))) (
 sq (.reg [
 O 4 (.mov (.c (I (-1))))] []) (
 .ret)))⟩
def qcm:PC->CL (CF)->PC×CL (CF)
 |.seq a b,l=>(.seq (qcm a l).1 (qcm b (qcm a l).2).1,(qcm b (qcm a l).2).2)
 |.cond c x y,l=>(.cond c (qcm x l).1 (qcm y (qcm x l).2).1,(qcm y (qcm x l).2).2)
 |.block id x,l=>(.block id (qcm x l).1,(qcm x l).2)
 |.loop _ x,m::l=>(.loop m (qcm x l).1,(qcm x l).2)
 |.rng f g ps _ a x,m::l=>(.rng f g ps m (qcm a l).1 (qcm x (qcm a l).2).1,(qcm x (qcm a l).2).2)
 |c,l=>(c,l)
def qoy(F:PF)(l:CL (CF)):PF:=⟨F.Bn,F.results,(qcm F.body l).1⟩
def cv{α:Type}{a x:α}(_:a=x):α:=x
@[simp] def qSt{α:Type}{a x:α}(h:a=x):cv h=x:=rfl
def qFq(m n:Nat):CO:=Nat.beq (m >>> n &&& 1) 1
def qoN(m n:Nat):Nat:=m |||1 <<< n
def qxe(m n:Nat):Nat:=m ^^^ (m &&& 1 <<< n)
def qgg(m:Nat):CF->Nat
 |[]=>m
 |x::l=>qgg (qoN m x) l
def qr0(k m:Nat):CF:=if h:m=0 then []else bif Nat.beq (m%2) 1 then k::qr0 (k+1) (m/2)else qr0 (k+1) (m/2)
termination_by m
decreasing_by all_goals omega
def qhV(out:Nat):CL Ap->Nat
 |[]=>out
 |⟨some d,x,some (t,_)⟩::r=>qoN (qgg (qxe (qhV out r) d) x.uses) t
 |⟨some d,x,none⟩::r=>qgg (qxe (qhV out r) d) x.uses
 |⟨none,x,some (t,_)⟩::r=>qoN (qgg (qhV out r) x.uses) t
 |⟨none,x,none⟩::r=>qgg (qhV out r) x.uses
def qoO(s:Nat)(acc:CF):CF->Nat×CF
 |[]=>(s,acc)
 |a::r=>bif qFq s a then qoO s acc r else qoO (qoN s a) (a::acc) r
def qoP(s:Nat)(acc:CF):CL Ap->CF
 |[]=>acc
 |⟨some d,x,_⟩::r=>match qoO s acc (d::x.uses)with|(s',acc')=>qoP s' acc' r
 |⟨none,x,_⟩::r=>match qoO s acc x.uses with|(s',acc')=>qoP s' acc' r
def qrZ(id:Nat):CL (Nat×Nat)->Nat
 |[]=>0
 |e::r=>bif Nat.beq e.1 id then e.2 else qrZ id r
def qgh(exits:CL (Nat×Nat))(ret:Nat):PC->Nat->Nat
 |.reg ops _,out=>qhV out ops
 |.Ba ops _ _,out=>qhV out ops
 |.seq a b,out=>qgh exits ret a (qgh exits ret b out)
 |.cond c x y,out=>qgg (qgh exits ret x out |||qgh exits ret y out) c.uses
 |.block id x,out=>qgh ((id,out)::exits) ret x out
 |.loop _ x,_=>qgh exits ret x (qgh exits ret x 0)
 |.exit id,_=>qrZ id exits
 |.ret,_=>ret
 |.skip,out=>out
 |.rng _ _ _ _ _ _,out=>out
 |.bad,out=>out
def qiY(exits:CL (Nat×Nat))(ret:Nat):PC->Nat->PC×Nat
 |.reg ops _,out=>(.reg ops (qoP out [] ops),qhV out ops)
 |.Ba ops bf _,out=>(.Ba ops bf (qoP out [] ops),qhV out ops)
 |.seq a b,out=>
  match qiY exits ret b out with
  | (b',m)=>match qiY exits ret a m with
   | (a',l)=>(.seq a' b',l)
 |.cond c x y,out=>
  match qiY exits ret x out with
  | (x',l)=>match qiY exits ret y out with
   | (y',m)=>(.cond c x' y',qgg (l |||m) c.uses)
 |.block id x,out=>match qiY ((id,out)::exits) ret x out with
  | (x',l)=>(.block id x',l)
 |.loop _ x,_=>
  match qiY exits ret x (qgh exits ret x (qgh exits ret x 0))with
  | (x',L)=>(.loop (qr0 0 L) x',L)
 |.exit id,_=>(.exit id,qrZ id exits)
 |.ret,_=>(.ret,ret)
 |.skip,out=>(.skip,out)
 |.rng f g ps n a x,out=>(.rng f g ps n a x,out)
 |.bad,out=>(.bad,out)
def qoQ:CL RV->CF
 |[]=>[]
 |.t n::r=>n::qoQ r
 |.c n _::r=>n::qoQ r
def qAO(F:PF):PF:=⟨F.Bn,F.results,(qiY [] (qgg 0 (qoQ F.results)) F.body (qgg 0 (qoQ F.results))).1⟩
def qkz:PC->CL PC
 |.seq a b=>qkz a++qkz b
 |.cond _ x y=>qkz x++qkz y
 |.block _ x=>qkz x
 |.loop _ x=>[x]
 |_=>[]
def lq(c:PC)(i:Nat):PC:=((qkz c)[i]?).getD .skip
@[simp] abbrev cL(c:PC)(i:Nat){x:PC}(_:lq c i=x:=by conv=>lhs;cbv):PC:=x
section
open Go.RowKit
abbrev qad:=Nat->Nat->Prop
def flat(v:CP):Prop:=v.oneCell'=true
def mkV(k:K)(c:Nat->CP):CP:=match k with
  |none=>c 0
  |some n=>.agg ((List.range n).map c).toArray
def At(w:CU)(S:qad)(blk off n:Nat)(c:Nat->CP):Prop:=
  ∀m,m<n->w.cell? ⟨blk,off+m,none⟩=some (c m)/\S blk (off+m)/\flat (c m)
inductive Al (w:World) (S:qad):DV->Value->Prop
  |b (x:Bool):Al w S (.b x) (.bool x)
  |i (k:IntKind) (n:Int):Al w S (.i k n) (.int k n)
  |s (l:List UInt8) (x:ByteArray):x.data.toList=l->Al w S (.s l) (.string x)
  |np:Al w S .np (.pointer none)
  |nf:Al w S .nf .nilFunc
  |ni:Al w S .ni .nilIface
  |nm:Al w S .nm (.map none)
  |tok (n:Nat) (t:Nat) (v:Value):Al w S (.tok n) (.iface t v)
  |ifc (t:Nat) (x:DV) (v:Value):Al w S x v->Al w S (.ifc t x) (.iface t v)
  |a (cs:List DV) (vs:List Value):cs.length=vs.length->(∀v∈vs,flat v)->(∀j (h:j<cs.length) (h':j<vs.length),Al w S cs[j] vs[j])->Al w S (.a cs) (.agg vs.toArray)
  |l (k:K) (es:List DV) (t:Bool) (a:Option Addr) (cap:Nat) (blk off:Nat) (c:Nat->Nat->Value) :
      es.length<=cap->(t=true->cap=es.length)->(0<es.length->a=some ⟨blk,off,none⟩)->
      (∀j,j<es.length->At w S blk (off+j*k.size) k.size (c j))->
      (∀j (h:j<es.length),Al w S es[j] (mkV k (c j)))->Al w S (.l k es t) (.slice a es.length cap)
inductive Sp where
  |map
  |iter
  |loop (r:Loop)
  |defer
inductive BO where
  |sp (blk:Nat) (x:Sp)
  |pend
  |dead
  |Bq
  |at (blk off:Nat) (k:K)
abbrev Pl:=Nat->BO
def RelRf(w:CU)(β:Pl)(o:Nat)(k:K)(off len:Nat)(t:CO)(v:CP):Prop:=match β o with
  |.pend=>False
  |.dead=>True
  |.Bq=>off=0/\len=0/\∃a,v=.slice a 0 0
  |.at blk base k'=>k'=k/\∃cap a,v=.slice (some a) len cap/\(0<cap->a=⟨blk,base+off*k.size,none⟩)/\len<=cap/\(t=true->cap=len)/\
      ∃e n,w.shape? blk=some (e,n)/\base+(off+cap)*k.size<=n
  |.sp _ _=>False
def RelPt(β:Pl)(o i c:Nat)(v:CP):Prop:=match β o with
  |.pend=>False
  |.dead=>∃blk off,v=.pointer (some ⟨blk,off,none⟩)
  |.Bq=>False
  |.at blk base k=>v=.pointer (some ⟨blk,base+i*k.size+c,none⟩)
  |.sp _ _=>False
def RelH(β:Pl)(o:Nat)(v:CP):Prop:=match β o with
  |.dead=>(∃b,v=.map (some b))\/(∃l,v=.func (.yield l) #[] #[])\/∃b,v=.pointer (some ⟨b,0,none⟩)
  |.sp blk .map=>v=.map (some blk)
  |.sp blk .iter=>v=.pointer (some ⟨blk,0,none⟩)
  |.sp blk (.loop _)=>v=.func (.yield blk) #[] #[]
  |_=>False
structure Cx where
  μ:Nat->FuncId
inductive Ac (C:Cx) (w:World) (S:qad) (β:Pl):PV->Value->Prop
  |u (v:Value):Ac C w S β .u v
  |d (x:DV) (v:Value):Al w S x v->Ac C w S β (.d x) v
  |a (cs:List PV) (vs:List Value):cs.length=vs.length->(∀v∈vs,flat v)->(∀j (h:j<cs.length) (h':j<vs.length),Ac C w S β cs[j] vs[j])->Ac C w S β (.a cs) (.agg vs.toArray)
  |t (cs:List PV) (vs:List Value):cs.length=vs.length->(∀j (h:j<cs.length) (h':j<vs.length),Ac C w S β cs[j] vs[j])->Ac C w S β (.t cs) (.tuple vs.toArray)
  |r (o:Nat) (k:K) (off len:Nat) (t:Bool) (v:Value):flat v->RelRf w β o k off len t v->Ac C w S β (.r o k off len t) v
  |p (o i c:Nat) (v:Value):flat v->RelPt β o i c v->Ac C w S β (.p o i c) v
  |q (x:DV) (k:K) (c blk off:Nat) (f:Nat->Value):At w S blk off k.size f->Al w S x (mkV k f)->Ac C w S β (.q x k c) (.pointer (some ⟨blk,off+c,none⟩))
  |f (n:Nat) (cs:List PV) (vs:List Value):cs.length=vs.length->(∀j (h:j<cs.length) (h':j<vs.length),Ac C w S β cs[j] vs[j])->Ac C w S β (.f n cs) (.func (.func (C.μ n)) #[] vs.toArray)
  |h (o:Nat) (v:Value):flat v->RelH β o v->Ac C w S β (.h o) v
  |g (x:PV) (v:Value):Ac C w S β (.g x) v
  |m (n:Nat) (cs:List PV) (vs:List Value):cs.length=vs.length->(∀j (h:j<cs.length) (h':j<vs.length),Ac C w S β cs[j] vs[j])->Ac C w S β (.m n cs) (.func (.func (C.μ n)) vs.toArray #[])
  |w (t:Nat) (x:PV) (v:Value):Ac C w S β x v->Ac C w S β (.w t x) (.iface t v)
def Al.flat_of{w:CU}{S:qad}{x:DV}{v:CP}(h:Al w S x v)(hx:∀cs,x≠.a cs):flat v:=by cases h<;>first|rfl|exact absurd rfl (hx _)
structure Ext (B:Nat) (w:World) (S:qad) (w':World) (S':qad):Prop where
  below:Below B w w'
  stab:∀b o,S b o->S' b o
  cell:∀b o,S b o->w'.cell? ⟨b,o,none⟩=w.cell? ⟨b,o,none⟩
  new:∀b o,S' b o->S b o\/B<=b
  shape:∀b e n,w.shape? b=some (e,n)->w'.shape? b=some (e,n)
def Ext.refl(B:Nat)(w:CU)(S:qad):Ext B w S w S:=
  ⟨Below.refl _ _,λ_ _ h=>h,λ_ _ _=>rfl,λ_ _ h=>.inl h,λ_ _ _ h=>h⟩
def Ext.trans{B:Nat}{w w' w'':CU}{S S' S'':qad}(h:Ext B w S w' S')(k:Ext B w' S' w'' S''):Ext B w S w'' S'':=
  ⟨h.below.trans k.below,λb o x=>k.stab b o (h.stab b o x),λb o x=>(k.cell b o (h.stab b o x)).trans (h.cell b o x),
   λb o x=>(k.new b o x).elim (h.new b o) .inr,λb e n x=>k.shape b e n (h.shape b e n x)⟩
def At.ext{w w':CU}{S S':qad}{B blk off n:Nat}{c:Nat->CP}(e:Ext B w S w' S')(h:At w S blk off n c):At w' S' blk off n c:=
  λm hm=>⟨(e.cell _ _ (h m hm).2.1).trans (h m hm).1,e.stab _ _ (h m hm).2.1,(h m hm).2.2⟩
def Al.ext{w w':CU}{S S':qad}{B:Nat}(e:Ext B w S w' S'){x:DV}{v:CP}(h:Al w S x v):Al w' S' x v:=by
  induction h with
  |b x=>exact .b x
  |i k n=>exact .i k n
  |s l x h=>exact .s l x h
  |np=>exact .np
  |nf=>exact .nf
  |ni=>exact .ni
  |nm=>exact .nm
  |tok n t v=>exact .tok n t v
  |ifc t x v _ ih=>exact .ifc t x v ih
  |a cs vs h1 h2 _ ih=>exact .a cs vs h1 h2 ih
  |l k es t a cap blk off c h1 h2 h3 h4 _ ih=>exact .l k es t a cap blk off c h1 h2 h3 (λj hj=>(h4 j hj).ext e) ih
def At.more{w:CU}{S S':qad}{blk off n:Nat}{c:Nat->CP}(e:∀b o,S b o->S' b o)(h:At w S blk off n c):At w S' blk off n c:=
  λm hm=>⟨(h m hm).1,e _ _ (h m hm).2.1,(h m hm).2.2⟩
def Al.more{w:CU}{S S':qad}(e:∀b o,S b o->S' b o){x:DV}{v:CP}(h:Al w S x v):Al w S' x v:=by
  induction h with
  |b x=>exact .b x
  |i k n=>exact .i k n
  |s l x h=>exact .s l x h
  |np=>exact .np
  |nf=>exact .nf
  |ni=>exact .ni
  |nm=>exact .nm
  |tok n t v=>exact .tok n t v
  |ifc t x v _ ih=>exact .ifc t x v ih
  |a cs vs h1 h2 _ ih=>exact .a cs vs h1 h2 ih
  |l k es t a cap blk off c h1 h2 h3 h4 _ ih=>exact .l k es t a cap blk off c h1 h2 h3 (λj hj=>(h4 j hj).more e) ih
def Later(β β':Pl):Prop:=∀o,β' o=β o\/β' o=.dead\/β o=.pend
def Later.refl(β:Pl):Later β β:=λ_=>.inl rfl
def Later.trans{β β' β'':Pl}(h:Later β β')(k:Later β' β''):Later β β'':=λo=>by
  rcases h o with h1|h1|h1
  · rcases k o with k1|k1|k1
    · exact .inl (k1.trans h1)
    · exact .inr (.inl k1)
    · exact .inr (.inr (h1.symm.trans k1))
  · rcases k o with k1|k1|k1
    · exact .inr (.inl (k1.trans h1))
    · exact .inr (.inl k1)
    · rw[h1]at k1;cases k1
  · exact .inr (.inr h1)
def RelRf.ext{w w':CU}{S S':qad}{B:Nat}(e:Ext B w S w' S'){β β':Pl}(hb:Later β β'){o:Nat}{k:K}{off len:Nat}{t:CO}{v:CP}
    (h:RelRf w β o k off len t v):RelRf w' β' o k off len t v:=by
  unfold RelRf at *
  rcases hb o with h1|h1|h1
  · rw[h1];cases hc:β o with
    |pend=>rw[hc]at h;exact h
    |dead=>trivial
    |Bq=>rw[hc]at h;exact h
    |sp _ _=>rw[hc]at h;exact h
    |_=>rename_i blk base k';rw[hc]at h;obtain⟨h2,cap,a,h3,h3',h4,h5,e',n,h6,h7⟩:=h;exact⟨h2,cap,a,h3,h3',h4,h5,e',n,e.shape _ _ _ h6,h7⟩
  · rw[h1];trivial
  · rw[h1]at h;exact h.elim
def RelPt.ext{β β':Pl}(hb:Later β β'){o i c:Nat}{v:CP}(h:RelPt β o i c v):RelPt β' o i c v:=by
  unfold RelPt at *
  rcases hb o with h1|h1|h1
  · rw[h1];exact h
  · rw[h1];cases hc:β o with
    |pend=>rw[hc]at h;exact h.elim
    |dead=>rw[hc]at h;exact h
    |Bq=>rw[hc]at h;exact h.elim
    |sp _ _=>rw[hc]at h;exact h.elim
    |_=>rename_i blk base k;rw[hc]at h;exact⟨_,_,h⟩
  · rw[h1]at h;exact h.elim
def RelH.ext{β β':Pl}(hb:Later β β'){o:Nat}{v:CP}(h:RelH β o v):RelH β' o v:=by
  unfold RelH at *
  rcases hb o with h1|h1|h1
  · rw[h1];exact h
  · rw[h1];simp only;split at h
    · exact h
    · exact .inl ⟨_,h⟩
    · exact .inr (.inr ⟨_,h⟩)
    · exact .inr (.inl ⟨_,h⟩)
    · exact h.elim
  · rw[h1]at h;exact h.elim
def Ac.ext{C:Cx}{w w':CU}{S S':qad}{B:Nat}(e:Ext B w S w' S'){β β':Pl}(hb:Later β β'){x:PV}{v:CP}
    (h:Ac C w S β x v):Ac C w' S' β' x v:=by
  induction h with
  |u v=>exact .u v
  |d x v h=>exact .d x v (h.ext e)
  |a cs vs h1 h2 _ ih=>exact .a cs vs h1 h2 ih
  |t cs vs h1 _ ih=>exact .t cs vs h1 ih
  |r o k off len t v h0 h=>exact .r o k off len t v h0 (h.ext e hb)
  |p o i c v h0 h=>exact .p o i c v h0 (h.ext hb)
  |q x k c blk off f h1 h2=>exact .q x k c blk off f (h1.ext e) (h2.ext e)
  |f n cs vs h1 _ ih=>exact .f n cs vs h1 ih
  |h o v h0 h=>exact .h o v h0 (h.ext hb)
  |g x v=>exact .g x v
  |m n cs vs h1 _ ih=>exact .m n cs vs h1 ih
  |w t x v _ ih=>exact .w t x v ih
def Obj.shape:Obj->K
  |.box k _=>k
  |.sl k _ _=>k
  |_=>none
def OCells(C:Cx)(w:CU)(S:qad)(β:Pl)(cells:Array CP)(blk base:Nat):Obj->Prop
  |.box k v=>base+k.size<=cells.size/\∃f:Nat->CP,(∀m,m<k.size->cells[base+m]? = some (f m)/\flat (f m))/\Ac C w S β v (mkV k f)/\∀o,¬S blk o
  |.sl k ro es=>base+es.length*k.size<=cells.size/\∃c:Nat->Nat->CP,(∀j,j<es.length->∀m,m<k.size->cells[base+j*k.size+m]? = some (c j m)/\flat (c j m))/\
      (∀j (h:j<es.length),Al w S es[j] (mkV k (c j)))/\∀o,base+ro*k.size<=o->¬S blk o
  |_=>False
def qnN:Nat->LoopState
  |0=>.ready
  |1=>.done
  |_=>.busy
def exC:Ex->Code
  |.norm=>.skip
  |.exit id=>.exit id
  |.ret=>.ret
def MR0(w:CU)(S:qad)(es:CL (DV×DV))(ms:Array MapEntry):Prop:=
  es.length=ms.size/\∀j (h:j<es.length) (h':j<ms.size),Al w S es[j].1 ms[j].key/\Al w S es[j].2 ms[j].val
def MRel(w:CU)(S:qad)(es:CL (DV×DV))(ms:Array MapEntry):Prop:=∃es0:CL (DV×DV),es0.Perm es/\NdK es0/\MR0 w S es0 ms
def MRel.perm{w:CU}{S:qad}{es es':CL (DV×DV)}{ms:Array MapEntry}(h:MRel w S es ms)(hp:es.Perm es'):MRel w S es' ms:=by obtain⟨es0,h1,h2⟩:=h;exact⟨es0,h1.trans hp,h2⟩
def SpOK(w:CU)(S:qad)(blk:Nat):Sp->Obj->Prop
  |.map,.mp es=>∃ms clock,w.heap[blk]? = some (.map ms clock)/\MRel w S es ms
  |.iter,.si l pos=>∃s:ByteArray,s.data.toList=l/\w.heap[blk]? = some (.stringIter s pos)
  |.loop r,.lp st j=>w.heap[blk]? = some (.loop { r with state:=qnN st,pending:=j.map exC })
  |.defer,.df=>w.heap[blk]? = some (.deferred (some []))
  |_,_=>False
structure HOK (C:Cx) (B:Nat) (w:World) (S:qad) (β:Pl) (H:Heap):Prop where
  live:∀o blk base k,β o=.at blk base k->B<=blk/\∃x cells e,H.obj o=some x/\x.shape=k/\w.heap[blk]? = some (.cells cells e (0,0))/\OCells C w S β cells blk base x
  dead:∀o,β o=.dead->H.obj o=none
  Bq:∀o,β o=.Bq->∃k ro,H.obj o=some (.sl k ro [])
  inj:∀o o' blk base k base' k',β o=.at blk base k->β o'=.at blk base' k'->o=o'
  out:∀o,H.length<=o->β o=.pend
  sp:∀o blk x,β o=.sp blk x->B<=blk/\∃y,H.obj o=some y/\SpOK w S blk x y
  spi:∀o o' blk x x',β o=.sp blk x->β o'=.sp blk x'->o=o'
def MR0.ext{w w':CU}{S S':qad}{B:Nat}(e:Ext B w S w' S'){es:CL (DV×DV)}{ms:Array MapEntry}(h:MR0 w S es ms):MR0 w' S' es ms:=
  ⟨h.1,λj hj hj'=>⟨(h.2 j hj hj').1.ext e,(h.2 j hj hj').2.ext e⟩⟩
def MRel.ext{w w':CU}{S S':qad}{B:Nat}(e:Ext B w S w' S'){es:CL (DV×DV)}{ms:Array MapEntry}(h:MRel w S es ms):MRel w' S' es ms:=by obtain⟨es0,h1,h2,h3⟩:=h;exact⟨es0,h1,h2,h3.ext e⟩
def SpOK.ext{w w':CU}{S S':qad}{B blk:Nat}(e:Ext B w S w' S'){x:Sp}{y:Obj}(hb:w'.heap[blk]? = w.heap[blk]?)(h:SpOK w S blk x y):SpOK w' S' blk x y:=by
  unfold SpOK at *
  split at h
  · obtain⟨ms,clock,h1,h2⟩:=h;exact⟨ms,clock,hb.trans h1,h2.ext e⟩
  · obtain⟨s,h1,h2⟩:=h;exact⟨s,h1,hb.trans h2⟩
  · exact hb.trans h
  · exact hb.trans h
  · exact h.elim
def SpOK.nocells{w:CU}{S:qad}{blk:Nat}{x:Sp}{y:Obj}(h:SpOK w S blk x y){c:Array CP}{t:CQ}{fz:Nat×Nat}(hw:w.heap[blk]? = some (.cells c t fz)):False:=by
  unfold SpOK at h;split at h
  · obtain⟨ms,clock,h1,-⟩:=h;rw[hw]at h1;cases h1
  · obtain⟨s,-,h1⟩:=h;rw[hw]at h1;cases h1
  · rw[hw]at h;cases h
  · rw[hw]at h;cases h
  · exact h
def HOK.spne{C:Cx}{B:Nat}{w:CU}{S:qad}{β:Pl}{H:CW}(hH:HOK C B w S β H){o blk:Nat}{x:Sp}(h:β o=.sp blk x){c:Array CP}{t:CQ}{fz:Nat×Nat}{blk':Nat}(hw:w.heap[blk']? = some (.cells c t fz)):blk≠blk':=by rintro rfl;obtain⟨-,y,-,h2⟩:=hH.sp o blk x h;exact h2.nocells hw
def Swf(w:CU)(S:qad):Prop:=∀b o,S b o->∃v,w.cell? ⟨b,o,none⟩=some v
section
variable {P:CV}{N:Names}{C:Cx}{w:CU}{S:qad}{β:Pl}{a:Act}
def Al.nilSlice(k:K)(t:CO):Al w S (.l k [] t) (.slice none 0 0):=
 .l k [] t none 0 0 0 (λ_ _=>undef) (zzt _) (λ_=>rfl) (λh=>absurd h (Nat.lt_irrefl _)) (λ_ hj=>absurd hj (zzm _)) (λ_ hj=>absurd hj (zzm _))
def qw5{z:DV}{v:CP}{d:DV}(h:qmL z v=some d):Al w S d v/\flat v:=by
 unfold qmL at h;split at h<;>first
  | (cases h;exact⟨.b _,rfl⟩)|(cases h;exact⟨.i _ _,rfl⟩)|(cases h;exact⟨.s _ _ rfl,rfl⟩)|(cases h;exact⟨Al.nilSlice _ _,rfl⟩)
  | (cases h;exact⟨.np,rfl⟩)|(cases h;exact⟨.nf,rfl⟩)|(cases h;exact⟨.ni,rfl⟩)|(cases h;exact⟨.nm,rfl⟩)|(cases h)
def qw7:∀{zs:Cy} {vs:CL CP} {ds:Cy},qmM zs vs=some ds->ds.length=vs.length/\(∀v∈vs,flat v)/\∀j (h:j<ds.length) (h':j<vs.length),Al w S ds[j] vs[j]
 |[],[],ds,h=>by cases h;exact⟨rfl,λv hv=>(zzC hv).elim,λj h=>absurd h (zzm _)⟩
 |[],_::_,ds,h=>by cases h
 |_::_,[],ds,h=>by cases h
 |z::zs,v::vs,ds,h=>by
  unfold qmM at h;split at h
  ·rename_i x xs hx hxs;cases h;obtain⟨h1,h2,h3⟩:=qw7 hxs;obtain⟨h4,h5⟩:=qw5 (w:=w) (S:=S) hx;refine⟨by simp[h1],?_,?_⟩
   ·intro u hu;rcases List.mem_cons.1 hu with rfl|hu
    ·exact h5
    ·exact h2 u hu
   ·intro j hj hj';cases j with
    |zero=>exact h4
    |succ j=>exact h3 j (by simpa using hj) (by simpa using hj')
  ·cases h
def qw6{t:CK CQ}{v:CP}{d:DV}(h:qkx P t v=some d):Al w S d v:=by
 unfold qkx at h;split at h
 ·rename_i cs;split at h
  ·cases hc:qmM (qlj P 12 _) cs.toList with
   |none=>rw[hc]at h;cases h
   |some ds=>rw[hc]at h;cases h;obtain⟨h1,h2,h3⟩:=qw7 (w:=w) (S:=S) hc;have:=Al.a ds cs.toList h1 h2 h3;simpa using this
  ·cases h
 ·exact (qw5 h).1
structure NOK (P:Program) (N:Names) (C:Cx) (G:Nat->Option (DV×K)):Prop where
 f:∀f x,N.f f=some x->C.μ x.1=f
 mixed:P.follows .mixedOrders=true
def GOK(N:Names)(G:Nat->CK (DV×K))(w:CU)(S:qad):Prop:=
 ∀g v k,G (N.g g)=some (v,k)->(∃e,w.shape? g=some (e,k.size))/\∃f,At w S g 0 k.size f/\Al w S v (mkV k f)
def GOK.ext{G:Nat->CK (DV×K)}{w':CU}{S':qad}{B:Nat}(e:Ext B w S w' S')(h:GOK N G w S):GOK N G w' S':=
 λg v k hg=>let ⟨⟨t,h0⟩,f,h1,h2⟩:=h g v k hg; ⟨⟨t,e.shape _ _ _ h0⟩,f,h1.ext e,h2.ext e⟩
def FOK(C:Cx)(w:CU)(S:qad)(β:Pl)(fr:Fr)(a:Act):Prop:=∀t,Ac C w S β (fr.get t) (a.tmps.getD t undef)
def qjB{E:Env}(hN:NOK P N C E.G)(hG:GOK N E.G w S){fr:Fr}(hf:FOK C w S β fr a){t:CK CQ}{x:Operand}{r:Ab}
  (h:qbU P N t x=some r):Ac C w S β (rd E fr r) (a.eval x):=by
 unfold qbU at h;split at h
 ·cases h;exact hf _
 ·rename_i v;cases hc:qkx P t v with
  |none=>rw[hc]at h;cases h
  |some d=>rw[hc]at h;cases h;exact .d _ _ (qw6 hc)
 ·rename_i g;cases h;simp only[rd,Act.eval];split
  ·rename_i v k hg;obtain⟨-,f,h1,h2⟩:=hG g v k hg;exact .q v k 0 g 0 f h1 h2
  ·exact .u _
 ·rename_i f;cases hc:N.f f with
  |none=>rw[hc]at h;cases h
  |some x=>rw[hc]at h;cases h;have:=Ac.f (C:=C) (w:=w) (S:=S) (β:=β) x.1 [] [] rfl (λj h=>absurd h (zzm _));simpa[rd,Act.eval,hN.f f x hc]using this
end
section
variable {P:CV}{w:CU}
def qGX{t:CQ}{d:TypeDesc}(h:P.underlying t=some d):∃i,P.info? t=some i:=by
 unfold Program.underlying at h;split at h
 ·exact⟨_,‹_›⟩
 ·exact⟨_,‹_›⟩
 ·cases h
def qaK{t:CQ}{d:TypeDesc}(h:P.underlying t=some d)(w:CU):(underlying t).run P w=.ok d w:=by simp[underlying,h]
def qPI{t:CQ}{d:TypeDesc}(h:P.underlying t=some d)(w:CU):(sizeOf t).run P w=.ok (P.cellsOf t) w:=by obtain⟨i,hi⟩:=qGX h;simp[sizeOf,typeInfo,hi,Program.cellsOf]
def qIY{t:CQ}{k:K}(h:kq P t=some k):∃d,P.underlying t=some d:=by unfold kq at h;split at h<;>first|exact⟨_,‹_›⟩|cases h
def qjj{t:CQ}{k:K}(h:kq P t=some k):P.cellsOf t=k.size:=by
 unfold kq at h;split at h
 ·cases h;rfl
 ·cases h;rfl
 ·split at h
  ·cases h;assumption
  ·cases h
 ·cases h
def qdQ{t:CQ}{k:K}(h:kq P t=some k)(w:CU):(sizeOf t).run P w=.ok k.size w:=by obtain⟨d,hd⟩:=qIY h;rw[qPI hd,qjj h]
def qBR{t:CQ}{k:K}(h:kq P t=some k)(w:CU):(isAgg t).run P w=.ok k.isSome w:=by
 unfold kq at h;split at h
 ·rename_i hu;cases h;simp[isAgg,underlying,hu]
 ·rename_i hu;cases h;simp[isAgg,underlying,hu]
 ·rename_i d h1 h2 hu;split at h
  ·cases h;cases d<;>simp[isAgg,underlying,hu]<;>simp_all
  ·cases h
 ·cases h
def qfk(blk off m:Nat):(⟨blk,off,none⟩:Addr).add m=⟨blk,off+m,none⟩:=by unfold Addr.add;split<;>simp_all
def qun{t:CQ}{k:K}(h:kq P t=some k){blk off:Nat}{c:Nat->CP}(hc:∀m,m<k.size->w.cell? ⟨blk,off+m,none⟩=some (c m)) :
  (loadVar t ⟨blk,off,none⟩).run P w=.ok (mkV k c) w:=by
 simp only[loadVar,Sem.run_bind,qBR h,Result.andThen_ok];cases k with
 |none=>have:=hc 0 (by simp[K.size]);simp only[Nat.add_zero]at this;simp[this,mkV]
 |some n=>have:=run_loadCells (P:=P) w ⟨blk,off,none⟩ n c (λj hj=>by rw[qfk];exact hc j hj);simp[qdQ h,K.size,this,mkV]
end
section
variable {P:CV}{N:Names}{C:Cx}{w:CU}{S:qad}{β:Pl}
def qjp(n:Nat)(c:Nat->CP):mkV (some n) c=.agg ((List.range n).map c).toArray:=rfl
def Al.cells{k:K}{f:Nat->CP}(hf:∀m,m<k.size->flat (f m)){x:DV}(h:Al w S x (mkV k f))(m:Nat)(y:DV)(hy:x.cells[m]? = some y)(hm:m<k.size):Al w S y (f m):=by
 cases k with
 |none=>
  have h0:m=0:=by simp[K.size]at hm;exact hm
  subst h0;have hfl:=hf 0 (by simp[K.size]);simp only[mkV]at h;generalize f 0=u at *
  cases h<;>first
   | (simp[flat,Value.oneCell']at hfl;done)
   | (simp[DV.cells]at hy;subst hy;constructor<;>assumption)
 |some n=>
  simp only[qjp]at h;generalize hv:((List.range n).map f).toArray=vs at h;cases h with
  |a cs l h1 h2 h3=>
   have hl:l=(List.range n).map f:=by have:=congrArg Array.toList hv;simpa using this.symm
   subst hl;simp only[DV.cells]at hy;obtain⟨hj,rfl⟩:=zzk.1 hy;have:=h3 m hj (by rw[<-h1];exact hj);simpa using this
def qk6:∀{cs:Cz} {vs:Cy},qac cs=some vs->cs=vs.map .d
 |[],vs,h=>by cases h;rfl
 |v::r,vs,h=>by
  cases v with
  |d x=>
   simp only[qac]at h;split at h
   ·rename_i xs hx;cases h;simp[qk6 hx]
   ·cases h
  |_=>simp[qac]at h
def Ac.cells{k:K}{f:Nat->CP}(hf:∀m,m<k.size->flat (f m)){x:PV}(h:Ac C w S β x (mkV k f))(m:Nat)(y:PV)(hy:x.cells[m]? = some y)(hm:m<k.size):Ac C w S β y (f m):=by
 cases k with
 |none=>
  have h0:m=0:=by simp[K.size]at hm;exact hm
  subst h0;have hfl:=hf 0 (by simp[K.size]);simp only[mkV]at h;generalize f 0=u at *
  cases h with
  |u v=>simp[PV.cells]at hy;subst hy;exact .u _
  |d x v h=>
   have hx:∀cs,x≠.a cs:=by rintro cs rfl;cases h;simp[flat,Value.oneCell']at hfl
   have:(PV.d x).cells=[.d x]:=by
    unfold PV.cells;split
    ·rename_i heq;cases heq
    ·rename_i heq;cases heq;exact absurd rfl (hx _)
    ·rfl
   rw[this]at hy;simp at hy;subst hy;exact .d _ _ h
  |a cs l h1 h2 h3=>simp[flat,Value.oneCell']at hfl
  |t cs l h1 h3=>simp[flat,Value.oneCell']at hfl
  |r o k off len t v h0 h=>simp[PV.cells]at hy;subst hy;exact .r _ _ _ _ _ _ h0 h
  |p o i c v h0 h=>simp[PV.cells]at hy;subst hy;exact .p _ _ _ _ h0 h
  |q x k c blk off f h1 h2=>simp[PV.cells]at hy;subst hy;exact .q _ _ _ _ _ _ h1 h2
  |f n cs l h1 h2=>simp[PV.cells]at hy;subst hy;exact .f _ _ _ h1 h2
  |h o v h0 h=>simp[PV.cells]at hy;subst hy;exact .h _ _ h0 h
  |g x v=>simp[PV.cells]at hy;subst hy;exact .g _ _
  |m n cs l h1 h2=>simp[PV.cells]at hy;subst hy;exact .m _ _ _ h1 h2
  |w t x v h1=>simp[PV.cells]at hy;subst hy;exact .w _ _ _ h1
 |some n=>
  simp only[qjp]at h;generalize hv:((List.range n).map f).toArray=vs at h;have hl:∀l:CL CP,l.toArray=vs->l=(List.range n).map f:=by intro l hl;subst hv;simpa using congrArg Array.toList hl
  cases h with
  |u v=>
   simp only[PV.cells]at hy;cases m with
   |zero=>simp at hy;subst hy;exact .u _
   |succ m=>simp at hy
  |d x v h=>
   cases x with
   |a cs=>
    simp only[PV.cells,zzj]at hy;cases hc:cs[m]? with
    |none=>rw[hc]at hy;cases hy
    |some z=>rw[hc]at hy;cases hy;subst hv;exact .d _ _ (Al.cells (k:=some n) hf h m z (by simpa[DV.cells]using hc) hm)
   |_=>cases h
  |a cs l h1 h2 h3=>have:=hl l rfl;subst this;simp only[PV.cells]at hy;obtain⟨hj,rfl⟩:=zzk.1 hy;have:=h3 m hj (by rw[<-h1];exact hj);simpa using this
  |r o k off len t v h0 h=>simp[flat,Value.oneCell']at h0
  |p o i c v h0 h=>simp[flat,Value.oneCell']at h0
  |h o v h0 h=>simp[flat,Value.oneCell']at h0
  |g x v=>
   simp only[PV.cells]at hy;cases m with
   |zero=>simp at hy;subst hy;exact .g _ _
   |succ m=>simp at hy
def qtt{k:K}{cs:Cy}{x:DV}{g:Nat->CP}(h:mkD k cs=some x)(hr:∀m y,cs[m]? = some y->m<k.size->Al w S y (g m))(hf:∀m,m<k.size->flat (g m)):Al w S x (mkV k g):=by
 cases k with
 |none=>
  simp only[mkD]at h;split at h
  ·cases h;exact hr 0 _ rfl (by simp[K.size])
  ·cases h
 |some n=>
  simp only[mkD]at h;split at h
  ·rename_i hl;cases h;rw[qjp];refine .a cs _ (by simp[hl]) ?_ ?_
   ·intro v hv;obtain⟨m,hm,rfl⟩:=zzN.1 hv;exact hf m (by simpa[K.size]using hm)
   ·intro j hj hj';have:=hr j cs[j] (zze hj) (by simp[K.size];omega);simpa using this
  ·cases h
def qtx{k:K}{cs:Cz}{x:PV}{g:Nat->CP}(h:mkP k cs=some x)(hr:∀m y,cs[m]? = some y->m<k.size->Ac C w S β y (g m))(hf:∀m,m<k.size->flat (g m)):Ac C w S β x (mkV k g):=by
 cases k with
 |none=>
  simp only[mkP]at h;split at h
  ·cases h;exact hr 0 _ rfl (by simp[K.size])
  ·cases h
 |some n=>
  simp only[mkP]at h;split at h
  ·rename_i hl;cases h;have hfl:∀v∈(List.range n).map g,flat v:=by intro v hv;obtain⟨m,hm,rfl⟩:=zzN.1 hv;exact hf m (by simpa[K.size]using hm)
   have hall:∀j (h:j<cs.length) (h':j<((List.range n).map g).length),Ac C w S β cs[j] ((List.range n).map g)[j]:=by intro j hj hj';have:=hr j cs[j] (zze hj) (by simp[K.size];omega);simpa using this
   rw[qjp];unfold mkA;split
   ·rename_i vs hp;have:=qk6 hp;subst this;refine .d _ _ (.a vs _ (by simpa using hl) hfl ?_);intro j hj hj';have h1:=hall j (by simpa using hj) hj';simp only[List.getElem_map]at h1;cases h1 with
    |d _ _ h=>simpa using h
   ·exact .a cs _ (by simp[hl]) hfl hall
  ·cases h
def K.eq_spec{k k':K}(h:K.eq k k'=true):k=k':=by cases k<;>cases k'<;>simp_all[K.eq]
def getElem?_drop_take{α:Type}{l:CL α}{c n m:Nat}{y:α}(h:((l.drop c).take n)[m]? = some y):l[c+m]? = some y/\m<n:=by
 rw[List.getElem?_take]at h;split at h
 ·rw[List.getElem?_drop]at h;exact⟨h,by assumption⟩
 ·cases h
def qCo{kv k:K}{v x:DV}{c:Nat}{f:Nat->CP}(h:qcI kv v c k=some x)(hf:∀m,m<kv.size->flat (f m))(hv:Al w S v (mkV kv f)) :
  Al w S x (mkV k (λm=>f (c+m)))/\c+k.size<=kv.size:=by
 unfold qcI at h;split at h
 ·rename_i hc;simp only[zzf,beq_iff_eq]at hc;obtain⟨rfl,hk⟩:=hc;have:=K.eq_spec hk;subst this;cases h;simpa using hv
 ·split at h
  ·rename_i hle;refine⟨qtt h ?_ λm hm=>hf _ (by omega),hle⟩;intro m y hy hm;obtain⟨h1,h2⟩:=getElem?_drop_take hy;exact hv.cells hf (c+m) y h1 (by omega)
  ·cases h
def qP8{kv k:K}{v x:PV}{c:Nat}{f:Nat->CP}(h:qdi kv v c k=some x)(hf:∀m,m<kv.size->flat (f m))(hv:Ac C w S β v (mkV kv f)) :
  Ac C w S β x (mkV k (λm=>f (c+m)))/\c+k.size<=kv.size:=by
 unfold qdi at h;split at h
 ·rename_i hc;simp only[zzf,beq_iff_eq]at hc;obtain⟨rfl,hk⟩:=hc;have:=K.eq_spec hk;subst this;cases h;simpa using hv
 ·split at h
  ·rename_i hle;refine⟨qtx h ?_ λm hm=>hf _ (by omega),hle⟩;intro m y hy hm;obtain⟨h1,h2⟩:=getElem?_drop_take hy;exact hv.cells hf (c+m) y h1 (by omega)
  ·cases h
def qiU{w:CU}{blk j:Nat}{cells:Array CP}{e:CQ}{fz:Nat×Nat}{v:CP}(h:w.heap[blk]? = some (.cells cells e fz))(hj:cells[j]? = some v):w.cell? ⟨blk,j,none⟩=some v:=by simp[World.cell?,h,hj]
def qz5{B:Nat}{H:CW}(hH:HOK C B w S β H){t:CQ}{k:K}(hk:kq P t=some k){x v:PV}{u:CP}(hx:Ac C w S β x u)(h:qbT H k x=some v) :
  ∃u',(Instr.loadAt t u).run P w=.ok u' w/\Ac C w S β v u':=by
 unfold qbT at h;split at h
 ·rename_i o i c;cases hx with
  |p _ _ _ _ h0 hp=>
  unfold RelPt at hp;split at hp
  ·exact hp.elim
  ·rename_i hb;rw[hH.dead o hb]at h;cases h
  ·exact hp.elim
  ·rename_i blk base k' hb;subst hp;obtain⟨hB,x',cells,e,ho,hs,hw,hc⟩:=hH.live o blk base k' hb;rw[ho]at h;cases x' with
   |box kb y=>
    simp only at h;simp only[Obj.shape]at hs;subst hs;split at h
    ·rename_i hi;simp only[beq_iff_eq]at hi;subst hi;obtain⟨-,f,hf,hr,-⟩:=hc;obtain⟨h1,h2⟩:=qP8 h (λm hm=>(hf m hm).2) hr;refine⟨_,?_,h1⟩;simp only[Instr.loadAt,Instr.sureAddr,Sem.run_bind,Sem.run_pure,Result.andThen_ok];refine qun hk ?_;intro m hm;have:=(hf (c+m) (by omega)).1;exact qiU hw (by simpa[Nat.add_assoc]using this)
    ·cases h
   |sl kb ro es=>
    simp only at h;simp only[Obj.shape]at hs;subst hs;split at h
    ·rename_i ee he;obtain⟨hj,rfl⟩:=zzk.1 he;split at h
     ·rename_i xx hx;cases h;obtain⟨-,cf,hf,hr,-⟩:=hc;obtain⟨h1,h2⟩:=qCo hx (λm hm=>(hf i hj m hm).2) (hr i hj);refine⟨_,?_,.d _ _ h1⟩;simp only[Instr.loadAt,Instr.sureAddr,Sem.run_bind,Sem.run_pure,Result.andThen_ok];refine qun hk ?_;intro m hm;have:=(hf i hj (c+m) (by omega)).1;exact qiU hw (by simpa[Nat.add_assoc]using this)
     ·cases h
    ·cases h
   |_=>simp at h
  ·exact hp.elim
 ·rename_i v0 kv c;split at h
  ·rename_i xx hxx;cases h;cases hx with
   |q _ _ _ blk off f h1 h2=>
   obtain⟨h3,h4⟩:=qCo hxx (λm hm=>(h1 m hm).2.2) h2;refine⟨_,?_,.d _ _ h3⟩;simp only[Instr.loadAt,Instr.sureAddr,Sem.run_bind,Sem.run_pure,Result.andThen_ok];refine qun hk ?_;intro m hm;have:=(h1 (c+m) (by omega)).1;simpa[Nat.add_assoc]using this
  ·cases h
 ·cases h
end
section
variable {P:CV}{N:Names}{C:Cx}{w:CU}{S:qad}{β:Pl}{B:Nat}{H:CW}
def qhT{x:PV}{u:CP}{n:Int}(h:Ac C w S β x u)(hx:asI x=some n):∃k,u=.int k n:=by
  unfold asI at hx;split at hx
  · cases hx;cases h with
    |d _ _ h=>cases h;exact⟨_,rfl⟩
  · cases hx
def qAw{x y:PV}{u:CP}{off:Nat}(h:Ac C w S β x u)(hx:qdJ off x=some y) :
    ∃blk o,u=.pointer (some ⟨blk,o,none⟩)/\Ac C w S β y (.pointer (some ⟨blk,o+off,none⟩)):=by
  unfold qdJ at hx;split at hx
  · cases hx;cases h with
    |p o i c _ h0 h=>
    unfold RelPt at h;split at h
    · exact h.elim
    · rename_i hb;obtain⟨blk,o',rfl⟩:=h;exact⟨blk,o',rfl,.p _ _ _ _ rfl (by unfold RelPt;rw[hb];exact⟨_,_,rfl⟩)⟩
    · exact h.elim
    · rename_i blk base k hb;subst h;exact⟨_,_,rfl,.p _ _ _ _ rfl (by unfold RelPt;rw[hb];simp[Nat.add_assoc])⟩
    · exact h.elim
  · cases hx;cases h with
    |q x k c blk o f h1 h2=>
    refine⟨_,_,rfl,?_⟩;rename_i c;have:=Ac.q (C:=C) (β:=β) _ _ (c+off) blk o f h1 h2;simpa[Nat.add_assoc]using this
  · cases hx
def qPD{s f:Nat}{fd:Field}{k:K}(hs:fieldAt P s f=some fd)(hk:kq P fd.type=some k)(hz:k.size≠0)(blk off:Nat)(w:CU) :
    (Instr.fieldAt s (.pointer (some ⟨blk,off,none⟩)) f).run P w=.ok (.pointer (some ⟨blk,off+fd.offset,none⟩)) w:=by
  unfold fieldAt at hs;split at hs
  · rename_i fs hu;simp[Instr.fieldAt,qaK hu,hs,Instr.sureAddr,fieldPlace,qdQ hk,hz,qfk]
  · cases hs
def qup{t:CQ}{k:K}(hk:kq P t=some k){vs:CL CP}{off:Nat}(hle:off+k.size<=vs.length)(w:CU) :
    (part t vs.toArray off).run P w=.ok (mkV k (λm=>vs.getD (off+m) undef)) w:=by
  simp only[part,Sem.run_bind,qBR hk,Result.andThen_ok];cases k with
  |none=>
    have:off<vs.length:=by simp[K.size]at hle;omega
    simp[mkV,List.getD,zze this]
  |some n=>
    simp only[Option.isSome_some,if_true,Sem.run_bind,qdQ hk,Result.andThen_ok,K.size,Sem.run_pure,mkV];congr 2;apply Array.ext';simp only[Array.toList_extract];apply List.ext_getElem?;intro j;simp only[K.size]at hle;rw[List.extract_eq_take_drop];simp only[List.getElem?_take,List.getElem?_drop,zzj];by_cases hj:j<n
    · have:off+j<vs.length:=by omega
      simp[hj,List.getD,zze this]
    · simp[hj]
def qpn{n:Int}{len j:Nat}(h:inR n len=some j):0<=n/\n<len/\j=n.toNat/\j<len:=by
  unfold inR at h;split at h
  · cases h;omega
  · cases h
def qPE{t e:CQ}{n:Nat}{k:K}(hu:P.underlying t=some (.array n e))(hk:kq P e=some k){i:Int}{j:Nat}(hj:inR i n=some j)(ki:IntKind)(blk off:Nat)(w:CU) :
    (Instr.indexAt t (.pointer (some ⟨blk,off,none⟩)) (.int ki i)).run P w=.ok (.pointer (some ⟨blk,off+j*k.size,none⟩)) w:=by
  obtain⟨h1,h2,h3,h4⟩:=qpn hj;subst h3;simp[Instr.indexAt,asIntOf,qaK hu,Instr.sureAddr,h1,h2,qdQ hk,qfk]
def qBQ{t e:CQ}{k:K}(hu:P.underlying t=some (.slice e))(hk:kq P e=some k){i:Int}{len j cap:Nat}(hj:inR i len=some j)(ki:IntKind)(blk off:Nat)(w:CU) :
    (Instr.indexAt t (.slice (some ⟨blk,off,none⟩) len cap) (.int ki i)).run P w=.ok (.pointer (some ⟨blk,off+j*k.size,none⟩)) w:=by
  obtain⟨h1,h2,h3,h4⟩:=qpn hj;subst h3;simp[Instr.indexAt,asIntOf,qaK hu,h1,h2,qdQ hk,qfk]
def qGS(hH:HOK C B w S β H){t e:CQ}{k:K}(hu:P.underlying t=some (.slice e))(hk:kq P e=some k){x i v:PV}{ux ui:CP}
    (hx:Ac C w S β x ux) (hi:Ac C w S β i ui) (h:AJ H k x i=some v) :
    ∃u,(Instr.indexAt t ux ui).run P w=.ok u w/\Ac C w S β v u:=by
  unfold AJ at h;split at h
  · cases h
  · rename_i n hn;obtain⟨ki,rfl⟩:=qhT hi hn;split at h
    · rename_i k' es tt;split at h
      · rename_i j hj;split at h
        · rename_i e' he;split at h
          · rename_i hke;have:=K.eq_spec hke;subst this;cases h;obtain⟨hjl,rfl⟩:=zzk.1 he;cases hx with
            |d _ _ hx=>
            cases hx with
            |l _ _ _ a cap blk off c h1 h2 h3 h4 h5=>
            have:=h3 (by omega);subst this;refine⟨_,qBQ hu hk hj ki blk off w,?_⟩;exact .q _ _ 0 blk (off+j*k.size) (c j) (h4 j hjl) (h5 j hjl)
          · cases h
        · cases h
      · cases h
    · rename_i o k' off len tt;split at h
      · rename_i j k'' ro es hj ho;split at h
        · rename_i hc;simp only[zzf,zzq]at hc;obtain⟨⟨hk1,hk2⟩,hle⟩:=hc;have:=K.eq_spec hk1;subst this;cases h;obtain⟨-,-,-,hjl⟩:=qpn hj;cases hx with
          |r _ _ _ _ _ _ h0 hx=>
          unfold RelRf at hx;split at hx
          · exact hx.elim
          · rename_i hb;rw[hH.dead o hb]at ho;cases ho
          · omega
          · rename_i blk base k3 hb;obtain⟨h1,cap,a,h2,h2',h3,h4,h5⟩:=hx;subst h1;subst h2;have:=h2' (by omega);subst this;refine⟨_,qBQ hu hk hj ki blk _ w,.p _ _ _ _ rfl ?_⟩;unfold RelPt;rw[hb];simp only[zzl,Nat.add_assoc,Nat.add_zero]
          · exact hx.elim
        · cases h
      · cases h
    · cases h
def qfi(C:Cx)(w:CU)(S:qad)(β:Pl):CK PV->CK CP->Prop
  |none,none=>True
  |some x,some u=>Ac C w S β x u
  |_,_=>False
def qlb{x:PV}{u:CP}(hx:Ac C w S β x u){d top m:Nat}(h:bnd d top (some x)=some m){y:Nat}(hy:top<=y)(code:BoundsCode) :
    (Instr.sliceBound u y code).run P w=.ok m w/\m<=top:=by
  simp only[bnd]at h;split at h
  · rename_i n hn;obtain⟨k,rfl⟩:=qhT hx hn;split at h
    · rename_i hc;cases h;have:0<=n/\n<=(y:Int):=by omega
      refine⟨by simp[Instr.sliceBound,asIntOf,this],by omega⟩
    · cases h
  · cases h
def qql{isS:CO}{lo hi mx:CK PV}{ulo uhi umx:CK CP}(h1:qfi C w S β lo ulo)(h2:qfi C w S β hi uhi)(h3:qfi C w S β mx umx)(hmh:(mx.isSome&&hi.isNone)=false)
    {len cap m h l:Nat} (hlc:len<=cap) (hm:bnd len len mx=some m) (hh:bnd m m hi=some h) (hl:bnd 0 h lo=some l) :
    ∃m',(Instr.sliceBounds isS len cap ulo uhi umx).run P w=.ok (l,h,m') w/\l<=h/\h<=len/\h<=m'/\m'<=cap/\(mx.isSome=true->m'=m)/\(mx.isSome=false->m'=cap/\m=len):=by
  cases mx with
  |none=>
    cases umx with
    |some _=>exact h3.elim
    |none=>
    simp only[bnd,zzb]at hm;subst hm;cases hi with
    |none=>
      cases uhi with
      |some _=>exact h2.elim
      |none=>
      simp only[bnd,zzb]at hh;subst hh;cases lo with
      |none=>
        cases ulo with
        |some _=>exact h1.elim
        |none=>
        simp only[bnd,zzb]at hl;subst hl;exact⟨cap,by simp[Instr.sliceBounds],by simp;omega⟩
      |some x=>
        cases ulo with
        |none=>exact h1.elim
        |some u=>
        obtain⟨e,he⟩:=qlb (P:=P) h1 hl (zzt len) .sliceB;exact⟨cap,by simp[Instr.sliceBounds,e],by simp;omega⟩
    |some y=>
      cases uhi with
      |none=>exact h2.elim
      |some uy=>
      obtain⟨e1,he1⟩:=qlb (P:=P) h2 hh hlc (if isS then .sliceAcap else .sliceAlen);cases lo with
      |none=>
        cases ulo with
        |some _=>exact h1.elim
        |none=>
        simp only[bnd,zzb]at hl;subst hl;exact⟨cap,by simp[Instr.sliceBounds,e1],by simp;omega⟩
      |some x=>
        cases ulo with
        |none=>exact h1.elim
        |some u=>
        obtain⟨e,he⟩:=qlb (P:=P) h1 hl (zzt h) .sliceB;exact⟨cap,by simp[Instr.sliceBounds,e,e1],by simp;omega⟩
  |some z=>
    cases umx with
    |none=>exact h3.elim
    |some uz=>
    obtain⟨e0,he0⟩:=qlb (P:=P) h3 hm hlc (if isS then .slice3Acap else .slice3Alen);cases hi with
    |none=>simp at hmh
    |some y=>
      cases uhi with
      |none=>exact h2.elim
      |some uy=>
      obtain⟨e1,he1⟩:=qlb (P:=P) h2 hh (zzt m) .slice3B;cases lo with
      |none=>
        cases ulo with
        |some _=>exact h1.elim
        |none=>
        simp only[bnd,zzb]at hl;subst hl;exact⟨m,by simp[Instr.sliceBounds,e0,e1],by simp;omega⟩
      |some x=>
        cases ulo with
        |none=>exact h1.elim
        |some u=>
        obtain⟨e,he⟩:=qlb (P:=P) h1 hl (zzt h) .slice3C;exact⟨m,by simp[Instr.sliceBounds,e0,e,e1],by simp;omega⟩
def qPZ(hH:HOK C B w S β H){t e:CQ}{k:K}(hu:P.underlying t=some (.slice e))(hk:kq P e=some k){x v:PV}{ux:CP}{lo hi mx:CK PV}{ulo uhi umx:CK CP}
    (hx:Ac C w S β x ux) (h1:qfi C w S β lo ulo) (h2:qfi C w S β hi uhi) (h3:qfi C w S β mx umx) (hmh:(mx.isSome&&hi.isNone)=false) (h:slA H k x lo hi mx=some v) :
    ∃u,(Instr.sliceAt t ux ulo uhi umx).run P w=.ok u w/\Ac C w S β v u:=by
  have hs:∀(a:CK Addr) (len cap l h m':Nat),(Instr.sliceBounds true len cap ulo uhi umx).run P w=.ok (l,h,m') w->
      (Instr.sliceAt t (.slice a len cap) ulo uhi umx).run P w=.ok (.slice (if m'=l then a else a.map (·.add (l*k.size))) (h-l) (m'-l)) w:=by
    intro a len cap l h m' hb;simp[Instr.sliceAt,qaK hu,Instr.slice,hb,qdQ hk]
  unfold slA at h;split at h
  · rename_i k' es tt;split at h
    · rename_i hke;split at h
      · rename_i m hm;split at h
        · rename_i hh hhh;split at h
          · rename_i l hl;cases h;cases hx with
            |d _ _ hx=>
            cases hx with
            |l _ _ _ a cap blk off c c1 c2 c3 c4 c5=>
            obtain⟨m',hb,b1,b2,b3,b4,b5,b6⟩:=qql (P:=P) (isS:=true) h1 h2 h3 hmh c1 hm hhh hl;refine⟨_,hs a es.length cap l hh m' hb,.d _ _ ?_⟩;have hlen:((es.take hh).drop l).length=hh-l:=by simp;omega
            rw[<-hlen];have hkk:0<((es.take hh).drop l).length->k'=k:=by
              intro h0;rcases Bool.or_eq_true _ _▸hke with hq|hq
              · exact (K.eq_spec hq).symm
              · simp at hq;subst hq;simp at h0
            refine .l k _ _ _ _ blk (off+l*k.size) (λj=>c (l+j)) (by omega) ?_ ?_ ?_ ?_
            · intro ht;cases hmx:mx.isSome with
              |true=>simp[hmx]at ht;have:=b5 hmx;omega
              |false=>simp[hmx]at ht;obtain⟨b7,b8⟩:=b6 hmx;have:=c2 ht.1;omega
            · intro h0;have:¬m'=l:=by omega
              rw[if_neg this,c3 (by omega)];simp[qfk]
            · intro j hj;have hk':=hkk (by omega);subst hk';have:=c4 (l+j) (by omega);have e:off+l*k'.size+j*k'.size=off+(l+j)*k'.size:=by rw[zzl];omega
              rw[e];exact this
            · intro j hj;have hk':=hkk (by omega);subst hk';have:=c5 (l+j) (by omega);simpa[List.getElem_drop,List.getElem_take]using this
          · cases h
        · cases h
      · cases h
    · cases h
  · rename_i o k' off len tt;split at h
    · rename_i k'' ro es ho;split at h
      · rename_i hc;simp only[zzf,zzq]at hc;obtain⟨hk1,hle⟩:=hc;have:=K.eq_spec hk1;subst this;split at h
        · rename_i m hm;split at h
          · rename_i hh hhh;split at h
            · rename_i l hl;cases h;cases hx with
              |r _ _ _ _ _ _ h0 hx=>
              unfold RelRf at hx;split at hx
              · exact hx.elim
              · rename_i hb;rw[hH.dead o hb]at ho;cases ho
              · rename_i hb;obtain⟨z1,z2,a,rfl⟩:=hx;subst z1 z2;obtain⟨m',hbb,b1,b2,b3,b4,b5,b6⟩:=qql (P:=P) (isS:=true) h1 h2 h3 hmh (zzt 0) hm hhh hl;refine⟨_,hs a 0 0 l hh m' hbb,.r _ _ _ _ _ _ rfl ?_⟩;unfold RelRf;rw[hb];have e1:l=0:=by omega
                have e2:hh=0:=by omega
                have e3:m'=0:=by omega
                subst e1 e2 e3;exact⟨rfl,rfl,a,by simp⟩
              · rename_i blk base k3 hb;obtain⟨e1,cap,a,rfl,e2,e3,e4,e',n,e5,e6⟩:=hx;subst e1;obtain⟨m',hbb,b1,b2,b3,b4,b5,b6⟩:=qql (P:=P) (isS:=true) h1 h2 h3 hmh e3 hm hhh hl;refine⟨_,hs (some a) len cap l hh m' hbb,?_⟩;have hval:(.slice (if m'=l then some a else (some a).map (·.add (l*k3.size))) (hh-l) (m'-l):CP)=.slice (some (if m'=l then a else a.add (l*k3.size))) (hh-l) (m'-l):=by split<;>rfl
                rw[hval];refine .r _ _ _ _ _ _ rfl ?_;unfold RelRf;rw[hb];refine⟨rfl,m'-l,_,rfl,?_,by omega,?_,e',n,e5,?_⟩
                · intro h0;have:¬m'=l:=by omega
                  rw[if_neg this,e2 (by omega),qfk,zzl,Nat.add_assoc]
                · intro ht;cases hmx:mx.isSome with
                  |true=>simp[hmx]at ht;have:=b5 hmx;omega
                  |false=>simp[hmx]at ht;obtain⟨b7,b8⟩:=b6 hmx;have:=e4 ht.1;omega
                · refine zzL (Nat.add_le_add_left (zzh _ ?_) _) e6;omega
              · exact hx.elim
            · cases h
          · cases h
        · cases h
      · cases h
    · cases h
  · cases h
def qJc(hH:HOK C B w S β H){str:CO}{x:PV}{u:CP}{n:Nat}(hx:Ac C w S β x u)(h:qbZ H str x=some n) :
    (str=false/\∃a cap,u=.slice a n cap)\/(str=true/\∃s:ByteArray,u=.string s/\s.size=n):=by
  unfold qbZ at h;split at h
  · split at h
    · cases h
    · cases h;cases hx with
      |d _ _ hx=>
      cases hx with
      |l=>exact .inl ⟨by cases str<;>simp_all,_,_,rfl⟩
  · rename_i o k off len t;split at h
    · cases h
    · rename_i hst;split at h
      · rename_i ho;split at h
        · cases h;cases hx with
          |r _ _ _ _ _ _ h0 hx=>
          refine .inl ⟨by simpa using hst,?_⟩;unfold RelRf at hx;split at hx
          · exact hx.elim
          · rename_i hb;rw[hH.dead o hb]at ho;cases ho
          · obtain⟨-,rfl,a,rfl⟩:=hx;exact⟨_,_,rfl⟩
          · obtain⟨-,cap,a,rfl,-⟩:=hx;exact⟨_,_,rfl⟩
          · exact hx.elim
        · cases h
      · cases h
  · split at h
    · cases h;cases hx with
      |d _ _ hx=>
      cases hx with
      |s _ x hx=>exact .inr ⟨by assumption,x,rfl,by rw[<-hx];simp⟩
    · cases h
  · cases h
def qEB{op:BinOp}{t:CQ}{x y:PV}{ux uy:CP}{d:DV}(hx:Ac C w S β x ux)(hy:Ac C w S β y uy)(h:qaL op x y=some d)(ox oy:Operand) :
    ∃u,(eqGuard op t ox oy ux uy).run P w=.ok () w/\(binOp op t ux uy).run P w=.ok u w/\Al w S d u:=by
  have hg:∀(a b:CP),((∃k n,a=.int k n)\/∃s,a=.string s)->(eqGuard op t ox oy a b).run P w=.ok () w:=by
    intro a b h1;rcases h1 with ⟨k,n,rfl⟩|⟨s,rfl⟩
    · cases op<;>simp[eqGuard]
    · cases op<;>simp[eqGuard]
  unfold qaL at h;split at h
  · rename_i k a k' b;cases hx with
    |d _ _ hx=>
    cases hx;cases hy with
    |d _ _ hy=>
    cases hy;refine Exists.elim (?_:∃u,(binOp op t (.int k a) (.int k' b)).run P w=.ok u w/\Al w S d u) λu hu=>⟨u,hg _ _ (.inl ⟨_,_,rfl⟩),hu⟩;have hshift:∀op,(op=.shl\/op=.shr)->qjE op k a b=some d->∃u,(binOp op t (.int k a) (.int k' b)).run P w=.ok u w/\Al w S d u:=by
      intro op hop h;unfold qjE at h;split at h
      · cases h
      · rename_i hb;rcases hop with rfl|rfl
        · simp only[zzb]at h;subst h;exact⟨_,by simp[binOp,Op.shift,hb],.i _ _⟩
        · simp only[zzb]at h;subst h;exact⟨_,by simp[binOp,Op.shift,hb],.i _ _⟩
    split at h
    · exact hshift _ (.inl rfl) h
    · exact hshift _ (.inr rfl) h
    · split at h
      · rename_i hk;subst hk;unfold qch at h;split at h<;>first
          | (cases h;refine⟨_,?_,.i _ _⟩;simp[binOp,Op.intArith,Op.intBits];done)
          | (cases h;refine⟨_,?_,.b _⟩;simp[binOp,Op.intCmp];done)
          | (split at h
             · cases h
             · rename_i hz;cases h;refine⟨_,?_,.i _ _⟩;simp[binOp,Op.intDiv,hz])
          |cases h
      · cases h
  · rename_i a b;cases hx with
    |d _ _ hx=>
    cases hx with
    |s _ sa hsa=>
    cases hy with
    |d _ _ hy=>
    cases hy with
    |s _ sb hsb=>
    refine Exists.elim (?_:∃u,(binOp op t (.string sa) (.string sb)).run P w=.ok u w/\Al w S d u) λu hu=>⟨u,hg _ _ (.inr ⟨_,rfl⟩),hu⟩;subst hsa hsb;unfold qks at h;split at h<;>first
      | (cases h;refine⟨_,?_,.b _⟩;simp[binOp,Op.stringOp,ByteArray.toList_eq];done)
      |skip
    · split at h
      · rename_i hle;cases h;refine⟨.string (sa++sb),?_,.s _ _ (by simp[ByteArray.data_append])⟩;have:¬(((sa.size+sb.size:Nat):Int)>IntKind.i64.max):=by
          have e1:sa.size=sa.data.toList.length:=by simp
          have e2:sb.size=sb.data.toList.length:=by simp
          have:IntKind.i64.max=9223372036854775807:=by decide
          rw[this,e1,e2];omega
        simp only[binOp,Op.stringOp,Sem.run_ite];rw[if_neg this];rfl
      · cases h
    · cases h
  · cases h
def qQw{op:UnOp}{x:PV}{ux:CP}{d:DV}(hx:Ac C w S β x ux)(h:unA op x=some d) :
    ∃u,(Op.unary op ux).run P w=.ok u w/\Al w S d u:=by
  unfold unA at h;split at h
  · cases hx with
    |d _ _ hx=>
    cases hx;split at h
    · cases h;exact⟨_,by simp[Op.unary,Op.intArith],.i _ _⟩
    · cases h;exact⟨_,by simp[Op.unary,Op.intBits],.i _ _⟩
    · cases h
  · cases hx with
    |d _ _ hx=>
    cases hx;split at h
    · cases h;exact⟨_,by simp[Op.unary],.b _⟩
    · cases h
  · cases h
def qGT{t:CQ}(hu:P.underlying t=some .string){x i:PV}{ux ui:CP}{s:CB}{n:Int}{b:UInt8}(hx:Ac C w S β x ux)(hi:Ac C w S β i ui)
    (hs:x=.d (.s s)) (hn:asI i=some n) (h0:0<=n) (hb:s[n.toNat]? = some b):(Instr.index t ux ui).run P w=.ok (.int .u8 b.toNat) w:=by
  subst hs;obtain⟨k,rfl⟩:=qhT hi hn;cases hx with
  |d _ _ hx=>
  cases hx with
  |s _ x hx=>
  subst hx;have:x[n.toNat]? = some b:=by
    obtain⟨hj,e⟩:=zzk.1 hb;have hj':n.toNat<x.size:=by simpa using hj
    rw[getElem?_pos x n.toNat hj'];rw[<-e];simp[ByteArray.getElem_eq_getElem_data]
  simp[Instr.index,asIntOf,qaK hu,h0,this]
def qPY{t:CQ}(hu:P.underlying t=some .string){s:CB}{ux:CP}{lo hi:CK PV}{ulo uhi:CK CP}{h l:Nat}
    (hx:Ac C w S β (.d (.s s)) ux) (h1:qfi C w S β lo ulo) (h2:qfi C w S β hi uhi) (hh:bnd s.length s.length hi=some h) (hl:bnd 0 h lo=some l) :
    ∃u,(Instr.sliceAt t ux ulo uhi none).run P w=.ok u w/\Al w S (.s ((s.take h).drop l)) u:=by
  cases hx with
  |d _ _ hx=>
  cases hx with
  |s _ x hx=>
  subst hx;have hsz:x.size=x.data.toList.length:=by simp
  obtain⟨m',hb,b1,b2,b3,b4,b5,b6⟩:=qql (P:=P) (isS:=false) (mx:=none) (umx:=none) (len:=x.data.toList.length) (cap:=x.data.toList.length) h1 h2 trivial (by simp) (zzt _) rfl hh hl;rw[<-hsz]at hb;refine⟨.string (x.extract l h),by simp[Instr.sliceAt,qaK hu,Instr.slice,hb],.s _ _ ?_⟩;rw[ByteArray.data_extract,Array.toList_extract,List.extract_eq_take_drop,List.drop_take]
def qKl{mx:CO}{x y z:PV}{ux uy:CP}(hx:Ac C w S β x ux)(hy:Ac C w S β y uy)(h:mm2 mx x y=some z) :
    ∃u,((if mx then Builtin.max2 ux uy else Builtin.min2 ux uy)).run P w=.ok u w/\Ac C w S β z u:=by
  unfold mm2 at h;split at h
  · split at h
    · rename_i hk;subst hk;cases h;cases hx with
      |d _ _ hx=>
      cases hx;cases hy with
      |d _ _ hy=>
      cases hy;cases mx
      · exact⟨_,by simp[Builtin.min2],.d _ _ (.i _ _)⟩
      · exact⟨_,by simp[Builtin.max2],.d _ _ (.i _ _)⟩
    · cases h
  · cases h
def qxC:∀{a b:CF} {xs ys:Cy} {e:CO},eqL (a++b) xs ys=some e->∃x1 x2 y1 y2 e1 e2,xs=x1++x2/\ys=y1++y2/\eqL a x1 y1=some e1/\eqL b x2 y2=some e2/\e=(e1&&e2)
  |[],b,xs,ys,e,h=>⟨[],xs,[],ys,true,e,rfl,rfl,rfl,h,by simp⟩
  |k::a,b,[],ys,e,h=>by simp[eqL]at h
  |k::a,b,x::xs,[],e,h=>by simp[eqL]at h
  |k::a,b,x::xs,y::ys,e,h=>by
    simp only[List.cons_append,eqL]at h;split at h
    · rename_i e0 r h1 h2;obtain⟨x1,x2,y1,y2,e1,e2,rfl,rfl,q1,q2,q3⟩:=qxC h2;cases h;exact⟨x::x1,x2,y::y1,y2,e0&&e1,e2,rfl,rfl,by simp[eqL,h1,q1],q2,by rw[q3,Bool.and_assoc]⟩
    · cases h
def qmP:∀{ks:CF} {xs ys:Cy} {e:CO},eqL ks xs ys=some e->xs.length=ks.length/\ys.length=ks.length
  |[],[],[],_,_=>⟨rfl,rfl⟩
  |[],[],_::_,_,h=>by simp[eqL]at h
  |[],_::_,_,_,h=>by simp[eqL]at h
  |_::_,[],_,_,h=>by simp[eqL]at h
  |_::_,_::_,[],_,h=>by simp[eqL]at h
  |k::ks,x::xs,y::ys,e,h=>by
    simp only[eqL]at h;split at h
    · rename_i h2;have:=qmP h2;simp[this.1,this.2]
    · cases h
def qsb{rec:CQ->CK (CF)}(hr:∀t ks,rec t=some ks->ks.length=P.cellsOf t):∀{fs:CL Field} {off n:Nat} {ks:CF},qhY P rec fs off n=some ks->off+ks.length=n
  |[],off,n,ks,h=>by
    simp only[qhY]at h;split at h
    · cases h;simpa using ‹off=n›
    · cases h
  |f::fs,off,n,ks,h=>by
    simp only[qhY]at h;split at h
    · cases h
    · obtain⟨a,ha,h⟩:=zza.1 h;obtain⟨b,hb,h⟩:=zza.1 h;cases h;have h1:=hr _ _ ha;have h2:=qsb hr hb;simp only[zzp];omega
def qkC:∀{d:Nat} {t:CQ} {ks:CF},qcV P d t=some ks->ks.length=P.cellsOf t
  |0,t,ks,h=>by cases h
  |d+1,t,ks,h=>by
    simp only[qcV]at h;split at h
    · split at h
      · cases h;simp[*]
      · cases h
    · split at h
      · cases h;simp[*]
      · cases h
    · split at h
      · cases h;simp[*]
      · cases h
    · split at h
      · cases h
      · have:=qsb (rec:=qcV P d) (λt ks h=>qkC h) h;omega
    · cases h
def qFS{d:Nat}{t:CQ}{ks:CF}(h:qcV P d t=some ks):∃k,kq P t=some k:=by
  cases d with
  |zero=>cases h
  |succ d=>
    simp only[qcV]at h;split at h
    · rename_i hu;split at h
      · rename_i hc;exact⟨none,by simp[kq,hu,hc]⟩
      · cases h
    · rename_i hu;split at h
      · rename_i hc;exact⟨none,by simp[kq,hu,hc]⟩
      · cases h
    · rename_i hu;split at h
      · rename_i hc;exact⟨none,by simp[kq,hu,hc]⟩
      · cases h
    · rename_i hu;exact⟨some (P.cellsOf t),by simp only[kq,hu]⟩
    · cases h
def qxB{d m n:Nat}(ih:∀(t:CQ) (ks:CF),qcV P d t=some ks->∀(k:K),kq P t=some k->∀(c c':Nat->CP) (xs ys:Cy) (e:CO),eqL ks xs ys=some e->(∀j (h:j<xs.length),Al w S xs[j] (c j))->(∀j (h:j<ys.length),Al w S ys[j] (c' j))->
      (Op.equalIn m t (mkV k c) (mkV k c')).run P w=.ok e w) (c c':Nat->CP):∀(fs:CL Field) (off:Nat) (ks:CF),qhY P (qcV P d) fs off n=some ks->∀(xs ys:Cy) (e:CO),eqL ks xs ys=some e->(∀j (h:j<xs.length),Al w S xs[j] (c (off+j)))->(∀j (h:j<ys.length),Al w S ys[j] (c' (off+j)))->
    (Op.eqFields m ((List.range n).map c).toArray ((List.range n).map c').toArray fs).run P w=.ok e w
  |[],off,ks,ht,xs,ys,e,he,hx,hy=>by
    simp only[qhY]at ht;split at ht
    · cases ht;cases xs with
      |nil=>
        cases ys with
        |nil=>simp only[eqL,zzb]at he;subst he;simp[Op.eqFields]
        |cons _ _=>simp[eqL]at he
      |cons _ _=>simp[eqL]at he
    · cases ht
  |f::fs,off,ks,ht,xs,ys,e,he,hx,hy=>by
    have hall:=qsb (rec:=qcV P d) (λt ks h=>qkC h) ht;simp only[qhY]at ht;split at ht
    · cases ht
    · rename_i hn;obtain⟨a,ha,ht⟩:=zza.1 ht;obtain⟨b,hb,ht⟩:=zza.1 ht;cases ht;have hn1:f.name ≠ "_" :=λh=>hn (.inl h)
      have hn2:f.offset=off:=Classical.byContradiction λh=>hn (.inr h);obtain⟨x1,x2,y1,y2,e1,e2,rfl,rfl,q1,q2,rfl⟩:=qxC he;obtain⟨k,hk⟩:=qFS ha;have hal:=qkC ha;have hks:=qjj hk;have hlx:=qmP q1;have hle:f.offset+k.size<=n:=by simp only[zzp]at hall;omega
      simp only[zzp]at hall;simp only[Op.eqFields,hn1,ne_eq,not_false_eq_true,if_true,Sem.run_bind,qup hk (vs:=(List.range n).map c) (by simpa using hle),qup hk (vs:=(List.range n).map c') (by simpa using hle),Result.andThen_ok];have hg:∀(c:Nat->CP) j,j<a.length->((List.range n).map c).getD (f.offset+j) undef=c (off+j):=by intro c j hj;rw[List.getD,zzj,List.getElem?_range (by omega),hn2];rfl
      have h1:=ih f.type a ha k hk (λm=>((List.range n).map c).getD (f.offset+m) undef) (λm=>((List.range n).map c').getD (f.offset+m) undef) x1 y1 e1 q1 (λj hj=>by
        rw[hg c j (by omega)];have:=hx j (by simp;omega)
        rwa [List.getElem_append_left hj]at this) (λj hj=>by
        rw[hg c' j (by omega)];have:=hy j (by simp;omega)
        rwa [List.getElem_append_left hj]at this)
      rw[h1];simp only[Result.andThen_ok];cases e1 with
      |false=>simp
      |true=>
        simp only[Bool.not_true,zzg,if_false,Bool.true_and];refine qxB ih c c' fs _ b hb x2 y2 e2 q2 ?_ ?_
        · intro j hj;have:=hx (x1.length+j) (by simp;omega);rw[List.getElem_append_right (by omega)]at this;have e3:off+P.cellsOf f.type+j=off+(x1.length+j):=by omega
          rw[e3];simpa using this
        · intro j hj;have:=hy (y1.length+j) (by simp;omega);rw[List.getElem_append_right (by omega)]at this;have e3:off+P.cellsOf f.type+j=off+(y1.length+j):=by omega
          rw[e3];simpa using this
def qsc:∀(d m:Nat),d<=m->∀(t:CQ) (ks:CF),qcV P d t=some ks->∀(k:K),kq P t=some k->∀(c c':Nat->CP) (xs ys:Cy) (e:CO),eqL ks xs ys=some e->(∀j (h:j<xs.length),Al w S xs[j] (c j))->(∀j (h:j<ys.length),Al w S ys[j] (c' j))->
      (Op.equalIn m t (mkV k c) (mkV k c')).run P w=.ok e w
  |0,m,_,t,ks,h=>by cases h
  |d+1,0,hm,_,_,_=>absurd hm (Nat.not_succ_le_zero _)
  |d+1,m+1,hm,t,ks,h=>by
    intro k hk c c' xs ys e he hx hy;have hall:=qkC h;have hleaf:∀n,ks=[n]->∃x y,xs=[x]/\ys=[y]/\eqK n x y=some e:=by
      rintro n rfl;obtain⟨l1,l2⟩:=qmP he;match xs,ys,l1,l2 with
      |[x],[y],_,_=>
        refine⟨x,y,rfl,rfl,?_⟩;simp only[eqL]at he;split at he
        · rename_i e0 r h1 h2;cases h2;simp only[Bool.and_true]at he;rw[<-he];exact h1
        · cases he
    simp only[qcV]at h;split at h
    · rename_i hu;split at h
      · rename_i hc;cases h;obtain⟨x,y,rfl,rfl,hxy⟩:=hleaf _ rfl;have hkn:k=none:=by simp[kq,hu,hc]at hk;exact hk.symm
        subst hkn;have h1:=hx 0 (by simp);have h2:=hy 0 (by simp);simp only[List.getElem_cons_zero]at h1 h2;simp only[mkV];unfold eqK at hxy;split at hxy
        · rename_i h0;cases h0
        · generalize c 0=u at *
          generalize c' 0=u' at *
          cases h1;cases h2;simp only[zzb]at hxy;subst hxy;exact run_equalIn_bool' w _ _ _ _ hu
        · rename_i h0;cases h0
        · cases hxy
      · cases h
    · rename_i hu;split at h
      · rename_i hc;cases h;obtain⟨x,y,rfl,rfl,hxy⟩:=hleaf _ rfl;have hkn:k=none:=by simp[kq,hu,hc]at hk;exact hk.symm
        subst hkn;have h1:=hx 0 (by simp);have h2:=hy 0 (by simp);simp only[List.getElem_cons_zero]at h1 h2;simp only[mkV];unfold eqK at hxy;split at hxy
        · generalize c 0=u at *
          generalize c' 0=u' at *
          cases h1;cases h2;split at hxy
          · rename_i hkk;subst hkk;simp only[zzb]at hxy;subst hxy;exact run_equalIn_int w _ _ _ _ _ _ hu
          · cases hxy
        · rename_i h0;cases h0
        · rename_i h0;cases h0
        · cases hxy
      · cases h
    · rename_i hu;split at h
      · rename_i hc;cases h;obtain⟨x,y,rfl,rfl,hxy⟩:=hleaf _ rfl;have hkn:k=none:=by simp[kq,hu,hc]at hk;exact hk.symm
        subst hkn;have h1:=hx 0 (by simp);have h2:=hy 0 (by simp);simp only[List.getElem_cons_zero]at h1 h2;simp only[mkV];unfold eqK at hxy;split at hxy
        · rename_i h0;cases h0
        · rename_i h0;cases h0
        · generalize c 0=u at *
          generalize c' 0=u' at *
          cases h1 with
          |s _ b hb=>
          cases h2 with
          |s _ b' hb'=>
          simp only[zzb]at hxy;subst hxy;rw[run_equalIn_string w _ _ _ _ hu,ByteArray.toList_eq,ByteArray.toList_eq,hb,hb']
        · cases hxy
      · cases h
    · rename_i fs hu;split at h
      · cases h
      · rename_i hst;have hst':P.stoodInHeld t=false:=by simpa using hst
        have hfo:P.fieldsOf t=fs:=by simp[Program.fieldsOf,hu]
        have hkn:k=some (P.cellsOf t):=by simp[kq,hu]at hk;exact hk.symm
        subst hkn;simp only[mkV];rw[run_equalIn_agg w m t _ _ (by rw[hfo];exact hu) hst',hfo];refine qxB (d:=d) (λt ks h=>qsc d m (by omega) t ks h) c c' fs.toList 0 ks h xs ys e he ?_ ?_
        · intro j hj;rw[Nat.zero_add];exact hx j hj
        · intro j hj;rw[Nat.zero_add];exact hy j hj
    · cases h
def qFR{t:CQ}{fs:Array Field}(hu:P.underlying t=some (.struct fs)){ks:CF}(hks:qcV P 8 t=some ks)(hm:P.eqGuardType P.depth t=false){x y:PV}{ux uy:CP}(hx:Ac C w S β x ux)(hy:Ac C w S β y uy){e:CO}(h:eqA ks x y=some e)(ox oy:Operand)(op:BinOp)(hop:op=.eql\/op=.neq) :
    (eqGuard op t ox oy ux uy).run P w=.ok () w/\(binOp op t ux uy).run P w=.ok (.bool (if op==.neq then !e else e)) w:=by
  unfold eqA at h;split at h
  · rename_i xs ys;cases hx with
    |d _ _ hx=>
    cases hy with
    |d _ _ hy=>
    cases hx with
    |a _ vs l1 _ r1=>
    cases hy with
    |a _ us l2 _ r2=>
    obtain⟨g1,g2⟩:=qmP h;have hall:=qkC hks;have hk:kq P t=some (some (P.cellsOf t)):=by simp[kq,hu]
    have hmk:∀(vs:CL CP),vs.length=P.cellsOf t->mkV (some (P.cellsOf t)) (λj=>vs.getD j undef)=.agg vs.toArray:=by
      intro vs hv;simp only[mkV];congr 2;apply List.ext_getElem
      · simp[hv]
      · intro j h1 h2;simp[List.getD,zze h2]
    have heq:=qsc (P:=P) (w:=w) (S:=S) 8 10000 (by omega) t ks hks _ hk (λj=>vs.getD j undef) (λj=>us.getD j undef) xs ys e h (λj hj=>by
      simp only[List.getD,zze (show j<vs.length by omega),zzA];exact r1 j hj (by omega)) (λj hj=>by
      simp only[List.getD,zze (show j<us.length by omega),zzA];exact r2 j hj (by omega))
    rw[hmk vs (by omega),hmk us (by omega)]at heq;refine⟨run_eqGuard_agg w op t ox oy _ _ hm,?_⟩;rcases hop with rfl|rfl
    · rw[run_eql_struct,heq];rfl
    · rw[run_neq_struct,heq];rfl
  · cases h
end
section
variable {P:CV}{N:Names}{C:Cx}{w:CU}{S:qad}{β:Pl}{B:Nat}{H:CW}
def qdv{H:CW}{o:Nat}{x:CK Obj}(h:o<H.length):(H.put o x).obj o=x:=by simp[Heap.obj,Heap.put,h]
def qa7{H:CW}{o o':Nat}{x:CK Obj}(h:o≠o'):(H.put o x).obj o'=H.obj o':=by simp[Heap.obj,Heap.put,h]
def qic{H:CW}{o:Nat}{x:Obj}(h:H.obj o=some x):o<H.length:=by
 unfold Heap.obj at h;split at h
 ·rename_i hx;exact (zzk.1 hx).1
 ·cases h
def qa2(H:CW)(o:Nat)(x:CK Obj):(H.put o x).length=H.length:=by simp[Heap.put]
def qGe(H:CW)(o:Nat):(qc9 H o).length=H.length:=by unfold qc9;split<;>simp[qa2]
def qGg{H:CW}{o:Nat}{k:K}{ro:Nat}{es:Cy}(h:H.obj o=some (.sl k ro es)):(qc9 H o).obj o=some (.sl k (max es.length ro) es):=by unfold qc9;rw[h];exact qdv (qic h)
def qx9{H:CW}{o:Nat}(h:∀k ro es,H.obj o≠some (.sl k ro es)):qc9 H o=H:=by
 unfold qc9;split
 ·exact absurd ‹_› (h _ _ _)
 ·rfl
def qGf{H:CW}{o p:Nat}(h:o≠p):(qc9 H p).obj o=H.obj o:=by
 unfold qc9;split
 ·exact qa7 (λe=>h e.symm)
 ·rfl
def qdt:∀(os:CF) (H:CW),(frz H os).length=H.length
 |[],_=>rfl
 |o::r,H=>by unfold frz;rw[qdt r,qGe]
def qgt(os:CF)(o:Nat):CK Obj->CK Obj
 |some (.sl k ro es)=>some (.sl k (if o∈os then max es.length ro else ro) es)
 |x=>x
def qea:∀(os:CF) (H:CW) (o:Nat),(frz H os).obj o=qgt os o (H.obj o)
 |[],H,o=>by
  unfold frz qgt;split
  ·rename_i h;rw[h];simp
  ·rfl
 |p::r,H,o=>by
  unfold frz;rw[qea r];by_cases hp:o=p
  ·subst hp;cases ho:H.obj o with
   |none=>rw[qx9 (by rw[ho];simp),ho];rfl
   |some x=>
    cases x with
    |sl k ro es=>rw[qGg ho];simp only[qgt,List.mem_cons,true_or,if_true];congr 2;split<;>omega
    |_=>rw[qx9 (by rw[ho];simp),ho];rfl
  ·rw[qGf hp];unfold qgt;split
   ·simp[hp]
   ·rfl
def FSq(β:Pl)(H:CW)(os:CF)(S:qad):qad:=λb j=>S b j\/∃o,o∈os/\∃base k ro es,β o=.at b base k/\H.obj o=some (.sl k ro es)/\base<=j/\j<base+es.length*k.size
def FSq.mono{os os':CF}(h:∀o,o∈os->o∈os')(b j:Nat)(hs:FSq β H os S b j):FSq β H os' S b j:=
 hs.elim .inl λ⟨o,ho,r⟩=>.inr ⟨o,h o ho,r⟩
def qey(hH:HOK C B w S β H)(os:CF):Ext B w S w (FSq β H os S):=by
 refine⟨Below.refl _ _,λb j h=>.inl h,λ_ _ _=>rfl,?_,λ_ _ _ h=>h⟩;rintro b j (h|⟨o,-,base,k,ro,es,h1,-⟩)
 ·exact .inl h
 ·exact .inr (hH.live o b base k h1).1
def qi7(hH:HOK C B w S β H)(hS:Swf w S)(os:CF):Swf w (FSq β H os S):=by
 rintro b j (h|⟨o,-,base,k,ro,es,h1,h2,h3,h4⟩)
 ·exact hS b j h
 ·obtain⟨-,x,cells,e,ho,hs,hw,hc⟩:=hH.live o b base k h1;rw[h2]at ho;cases ho;obtain⟨-,c,hf,-,-⟩:=hc;have hk:0<k.size:=by
   rcases Nat.eq_zero_or_pos k.size with h0|h0
   ·rw[h0]at h4;omega
   ·exact h0
  have hj:(j-base)/k.size<es.length:=by rw[Nat.div_lt_iff_lt_mul hk];omega
  have hm:=Nat.mod_lt (j-base) hk;have e1:=Nat.div_add_mod (j-base) k.size;have:=(hf _ hj _ hm).1;have e2:base+(j-base)/k.size*k.size+(j-base)%k.size=j:=by rw[Nat.mul_comm]at e1;omega
  rw[e2]at this;exact⟨_,qiU hw this⟩
def qkD(hH:HOK C B w S β H)(os:CF):HOK C B w (FSq β H os S) β (frz H os):=by
 have hx:=qey hH os;refine⟨?_,?_,?_,hH.inj,?_,?_,hH.spi⟩
 ·intro o blk base k hb;obtain⟨h1,x,cells,e,ho,hs,hw,hc⟩:=hH.live o blk base k hb;cases x with
  |box kb v=>
   refine⟨h1,.box kb v,cells,e,by rw[qea,ho];rfl,hs,hw,?_⟩;obtain⟨hle,f,hf,hr,hn⟩:=hc;refine⟨hle,f,hf,hr.ext hx (Later.refl _),?_⟩;rintro j (h|⟨o',-,base',k',ro',es',h2,h3,-⟩)
   ·exact hn j h
   ·have:=hH.inj o o' blk base k base' k' hb h2;subst this;rw[ho]at h3;cases h3
  |sl kb ro es=>
   refine⟨h1,.sl kb (if o∈os then max es.length ro else ro) es,cells,e,by rw[qea,ho];rfl,hs,hw,?_⟩;obtain⟨hle,c,hf,hr,hn⟩:=hc;refine⟨hle,c,hf,λj hj=>(hr j hj).ext hx,?_⟩;simp only[Obj.shape]at hs;subst hs;rintro j hj (h|⟨o',h5,base',k',ro',es',h2,h3,h4,h6⟩)
   ·refine hn j (zzL (Nat.add_le_add_left (zzh _ ?_) _) hj) h;split<;>omega
   ·have:=hH.inj o o' blk base kb base' k' hb h2;subst this;rw[ho]at h3;cases h3;rw[hb]at h2;cases h2;rw[if_pos h5]at hj;have:=zzh kb.size (Nat.le_max_left es.length ro);omega
  |_=>exact hc.elim
 ·intro o ho;rw[qea,hH.dead o ho];rfl
 ·intro o ho;obtain⟨k,ro,h⟩:=hH.Bq o ho;exact⟨k,_,by rw[qea,h];rfl⟩
 ·intro o ho;rw[qdt]at ho;exact hH.out o ho
 ·intro o blk x h;obtain⟨h1,y,h2,h3⟩:=hH.sp o blk x h;refine⟨h1,y,?_,h3.ext hx rfl⟩;rw[qea,h2];unfold SpOK at h3;split at h3<;>first|rfl|exact h3.elim
def qtS(hH:HOK C B w S β H){v:PV}{x:DV}{os:CF}{u:CP}(hv:Ac C w S β v u)(h:qaW H v=some (x,os)):Al w (FSq β H os S) x u:=by
 unfold qaW at h;split at h
 ·cases h;cases hv with
  |d _ _ hv=>exact hv.more (λ_ _ h=>.inl h)
 ·rename_i o k off len t;split at h
  ·rename_i k' ro es ho;split at h
   ·rename_i hc;obtain⟨rfl,hle⟩:=hc;cases h;cases hv with
    |r _ _ _ _ _ _ h0 hx=>
    unfold RelRf at hx;have hlen:((es.drop off).take len).length=len:=by simp;omega
    split at hx
    ·exact hx.elim
    ·rename_i hb;rw[hH.dead o hb]at ho;cases ho
    ·obtain⟨rfl,rfl,a,rfl⟩:=hx;have:=Al.l (w:=w) (S:=FSq β H [o] S) k' [] false a 0 0 0 (λ_ _=>undef) (zzt _) (λh=>by cases h) (λh=>absurd h (Nat.lt_irrefl _)) (λ_ hj=>absurd hj (zzm _)) (λ_ hj=>absurd hj (zzm _));simpa using this
    ·rename_i blk base k3 hb;obtain⟨e1,cap,a,rfl,e2,e3,e4,e',n,e5,e6⟩:=hx;subst e1;obtain⟨-,x,cells,e0,ho',hs,hw,hc⟩:=hH.live o blk base k3 hb;rw[ho]at ho';cases ho';obtain⟨-,c,hf,hr,-⟩:=hc;have hfin:Al w (FSq β H [o] S) (.l k3 ((es.drop off).take len) false) (.slice (some a) ((es.drop off).take len).length cap):=by
      refine .l _ _ _ _ _ blk (base+off*k3.size) (λj=>c (off+j)) (by omega) (λh=>by cases h) ?_ ?_ ?_
      ·intro h;rw[e2 (by omega)]
      ·intro j hj m hm;have hj':off+j<es.length:=by omega
       have e7:base+off*k3.size+j*k3.size+m=base+(off+j)*k3.size+m:=by rw[zzl];omega
       refine⟨?_,.inr ⟨o,by simp,base,k3,ro,es,hb,ho,by omega,?_⟩,(hf _ hj' m hm).2⟩
       ·rw[e7];exact qiU hw (hf _ hj' m hm).1
       ·rw[e7];have:(off+j+1)*k3.size<=es.length*k3.size:=zzh _ hj';rw[zzl,Nat.one_mul]at this;omega
      ·intro j hj;have hj':off+j<es.length:=by omega
       have:=(hr _ hj').more (S':=FSq β H [o] S) (λ_ _ h=>.inl h);simpa[List.getElem_drop,List.getElem_take]using this
     rw[hlen]at hfin;exact hfin
    ·exact hx.elim
   ·cases h
  ·cases h
 ·cases h
def Al.mono{S S':qad}(e:∀b o,S b o->S' b o){x:DV}{v:CP}(h:Al w S x v):Al w S' x v:=h.more e
def qBq(hH:HOK C B w S β H):∀{vs:Cz} {xs:Cy} {os:CF},qcd H vs=some (xs,os)->xs.length=vs.length/\
  ∀(us:CL CP),(∀j (h:j<vs.length) (h':j<us.length),Ac C w S β vs[j] us[j])->∀j (h:j<xs.length) (h':j<us.length),Al w (FSq β H os S) xs[j] us[j]
 |[],xs,os,h=>by cases h;exact⟨rfl,λus _ j h=>absurd h (zzm _)⟩
 |v::r,xs,os,h=>by
  unfold qcd at h;split at h
  ·rename_i x os1 xs1 ps h1 h2;cases h;obtain⟨e1,e2⟩:=qBq hH h2;refine⟨by simp[e1],?_⟩;intro us hus j hj hj';cases us with
   |nil=>exact absurd hj' (zzm _)
   |cons u us=>
    cases j with
    |zero=>exact (qtS hH (hus 0 (by simp) (by simp)) h1).more (FSq.mono (by simp;intro o h;exact .inl h))
    |succ j=>have:=e2 us (λi hi hi'=>by have:=hus (i+1) (by simpa using hi) (by simpa using hi');simpa using this) j (by simpa using hj) (by simpa using hj');exact this.more (FSq.mono (by simp;intro o h;exact .inr h))
  ·cases h
def qk7(hH:HOK C B w S β H){v:PV}{x:DV}{os:CF}{u:CP}(hv:Ac C w S β v u)(h:pur H v=some (x,os)):Al w (FSq β H os S) x u:=by
 unfold pur at h;split at h
 ·split at h
  ·rename_i xs os1 h1;cases h;cases hv with
   |a _ vs e1 e2 e3=>
   obtain⟨h2,h3⟩:=qBq hH h1;exact .a xs vs (by omega) e2 (h3 vs e3)
  ·cases h
 ·exact qtS hH hv h
def qtX(hH:HOK C B w S β H):∀{vs:Cz} {xs:Cy} {os:CF},qaN H vs=some (xs,os)->xs.length=vs.length/\
  ∀(us:CL CP),(∀j (h:j<vs.length) (h':j<us.length),Ac C w S β vs[j] us[j])->∀j (h:j<xs.length) (h':j<us.length),Al w (FSq β H os S) xs[j] us[j]
 |[],xs,os,h=>by cases h;exact⟨rfl,λus _ j h=>absurd h (zzm _)⟩
 |v::r,xs,os,h=>by
  unfold qaN at h;split at h
  ·rename_i x os1 xs1 ps h1 h2;cases h;obtain⟨e1,e2⟩:=qtX hH h2;refine⟨by simp[e1],?_⟩;intro us hus j hj hj';cases us with
   |nil=>exact absurd hj' (zzm _)
   |cons u us=>
    cases j with
    |zero=>exact (qk7 hH (hus 0 (by simp) (by simp)) h1).more (FSq.mono (by simp;intro o h;exact .inl h))
    |succ j=>have:=e2 us (λi hi hi'=>by have:=hus (i+1) (by simpa using hi) (by simpa using hi');simpa using this) j (by simpa using hj) (by simpa using hj');exact this.more (FSq.mono (by simp;intro o h;exact .inr h))
  ·cases h
end
section
variable {P:CV}{N:Names}{C:Cx}{w:CU}{S:qad}{β:Pl}{B:Nat}{H:CW}
def OCells.ext{w':CU}{S':qad}{β':Pl}(e:Ext B w S w' S')(hb:Later β β'){cells:Array CP}{blk base:Nat}(hn:∀j,S' blk j->S blk j){x:Obj}(h:OCells C w S β cells blk base x):OCells C w' S' β' cells blk base x:=by
 cases x with
 |box k v=>obtain⟨h0,f,h1,h2,h3⟩:=h;exact⟨h0,f,h1,h2.ext e hb,λj hj=>h3 j (hn j hj)⟩
 |sl k ro es=>obtain⟨h0,c,h1,h2,h3⟩:=h;exact⟨h0,c,h1,λj hj=>(h2 j hj).ext e,λj hj hs=>h3 j hj (hn j hs)⟩
 |_=>exact h.elim
def HOK.splt(hH:HOK C B w S β H){o blk:Nat}{x:Sp}(h:β o=.sp blk x):blk<w.heap.size:=by
 obtain⟨-,y,-,h4⟩:=hH.sp o blk x h;have key:∀z,w.heap[blk]? = some z->blk<w.heap.size:=λz hz=>(Array.getElem?_eq_some_iff.1 hz).1;unfold SpOK at h4;split at h4
 ·obtain⟨ms,clock,h1,-⟩:=h4;exact key _ h1
 ·obtain⟨s,-,h1⟩:=h4;exact key _ h1
 ·exact key _ h4
 ·exact key _ h4
 ·exact h4.elim
def spf(hH:HOK C B w S β H){w':CU}{S':qad}{β':Pl}{H':CW}{B':Nat}(e:Ext B' w S w' S')(h1:∀o blk x,β' o=.sp blk x->β o=.sp blk x)(h2:∀o blk x,β' o=.sp blk x->H'.obj o=H.obj o)
  (h3:∀o blk x,β o=.sp blk x->w'.heap[blk]? = w.heap[blk]?) :
  (∀o blk x,β' o=.sp blk x->B<=blk/\∃y,H'.obj o=some y/\SpOK w' S' blk x y)/\(∀o o' blk x x',β' o=.sp blk x->β' o'=.sp blk x'->o=o'):=by
 refine⟨λo blk x h=>?_,λo o' blk x x' h h'=>hH.spi o o' blk x x' (h1 _ _ _ h) (h1 _ _ _ h')⟩;obtain⟨g1,y,g2,g3⟩:=hH.sp o blk x (h1 _ _ _ h);exact⟨g1,y,(h2 _ _ _ h).trans g2,g3.ext e (h3 _ _ _ (h1 _ _ _ h))⟩
def Swf.ext{w':CU}(hS:Swf w S)(e:Ext B w S w' S):Swf w' S:=λb j h=>by obtain⟨v,hv⟩:=hS b j h;exact⟨v,(e.cell b j h).trans hv⟩
def qit{blk:Nat}{cells cells':Array CP}{e:CQ}(hB:B<=blk)(hw:w.heap[blk]? = some (.cells cells e (0,0)))(hsz:cells'.size=cells.size)
  (hS:∀j,S blk j->cells'[j]? = cells[j]?):Ext B w S (w.setRow blk cells') S:=by
 have hw':=setRow_heap w blk cells cells' e (0,0) hw;refine⟨⟨rfl,rfl,rfl,by simp,λk hk=>setRow_other w blk k cells' (by omega)⟩,λ_ _ h=>h,?_,λ_ _ h=>.inl h,?_⟩
 ·intro b j hs;by_cases hb:b=blk
  ·subst hb;simp only[World.cell?,hw,hw'];simpa using hS j hs
  ·simp only[World.cell?,setRow_other w blk b cells' hb]
 ·intro b e' n h;by_cases hb:b=blk
  ·subst hb;simp only[World.shape?,hw,hw',hsz]at h⊢;exact h
  ·simp only[World.shape?,setRow_other w blk b cells' hb]at h⊢;exact h
def qvB(hH:HOK C B w S β H){o blk base:Nat}{k:K}(hb:β o=.at blk base k){cells cells':Array CP}{e:CQ}(hw:w.heap[blk]? = some (.cells cells e (0,0)))(hsz:cells'.size=cells.size)
  (hS:∀j,S blk j->cells'[j]? = cells[j]?) {x:Obj} (hx:x.shape=k) (hc:OCells C (w.setRow blk cells') S β cells' blk base x):HOK C B (w.setRow blk cells') S β (H.put o (some x)):=by
 have hB:=(hH.live o blk base k hb).1;have hext:=qit (S:=S) hB hw hsz hS;have hlt:o<H.length:=by obtain⟨-,x0,-,-,ho,-⟩:=hH.live o blk base k hb;exact qic ho
 have hsp:=spf hH (β':=β) (H':=H.put o (some x)) hext (λ_ _ _ h=>h) (λo' _ _ h=>qa7 (λh'=>by subst h';rw[hb]at h;cases h)) (λo' blk' _ h=>setRow_other w blk blk' cells' (hH.spne h hw));refine⟨?_,?_,?_,hH.inj,?_,hsp.1,hsp.2⟩
 ·intro o' blk' base' k' hb';by_cases ho:o=o'
  ·subst ho;rw[hb]at hb';cases hb';exact⟨hB,x,cells',e,qdv hlt,hx,setRow_heap w blk cells cells' e (0,0) hw,hc⟩
  ·have hne:blk'≠blk:=λh=>ho (hH.inj o o' blk base k base' k' hb (h▸hb'));obtain⟨h1,x0,c0,e0,h2,h3,h4,h5⟩:=hH.live o' blk' base' k' hb';exact⟨h1,x0,c0,e0,by rw[qa7 ho];exact h2,h3,by rw[setRow_other w blk blk' cells' hne];exact h4,h5.ext hext (Later.refl _) (λ_ h=>h)⟩
 ·intro o' ho';have:o≠o':=λh=>by subst h;rw[hb]at ho';cases ho'
  rw[qa7 this];exact hH.dead o' ho'
 ·intro o' ho';have:o≠o':=λh=>by subst h;rw[hb]at ho';cases ho'
  rw[qa7 this];exact hH.Bq o' ho'
 ·intro o' ho';rw[qa2]at ho';exact hH.out o' ho'
def upd(β:Pl)(o:Nat)(x:BO):Pl:=λp=>if p=o then x else β p
def qa5(β:Pl)(o:Nat)(x:BO):upd β o x o=x:=by simp[upd]
def qaC{β:Pl}{o p:Nat}{x:BO}(h:p≠o):upd β o x p=β p:=by simp[upd,h]
def qne{β:Pl}{o:Nat}{x:BO}(h:β o=.pend):Later β (upd β o x):=λp=>by
 by_cases hp:p=o
 ·subst hp;exact .inr (.inr h)
 ·exact .inl (qaC hp)
def Swf.lt(hS:Swf w S){b j:Nat}(h:S b j):b<w.heap.size:=by obtain⟨v,hv⟩:=hS b j h;exact World.block_lt_of_cell? w _ hv
def qhR(hS:Swf w S)(hB:B<=w.heap.size)(o:Go.Obj):Ext B w S (w.alloc o) S:=by
 refine⟨(Below.refl _ _).alloc hB o,λ_ _ h=>h,?_,λ_ _ h=>.inl h,?_⟩
 ·intro b j h;have hlt:=hS.lt h;simp only[World.cell?,Below.heap_alloc w o b hlt]
 ·intro b e n h;have hlt:b<w.heap.size:=by
   unfold World.shape? at h;split at h
   ·rename_i hx;exact (Array.getElem?_eq_some_iff.1 hx).1
   ·cases h
  unfold World.shape? at *
  rw[Below.heap_alloc w o b hlt];exact h
def qb4:Ext B w S w.drew S:=
 ⟨(Below.refl _ _).drew,λ_ _ h=>h,λ_ _ _=>rfl,λ_ _ h=>.inl h,λ_ _ _ h=>h⟩
def HOK.ext(hH:HOK C B w S β H){w':CU}{S':qad}(e:Ext B w S w' S')(hb:∀o blk base k,β o=.at blk base k->w'.heap[blk]? = w.heap[blk]?)
  (hn:∀o blk base k,β o=.at blk base k->∀j,S' blk j->S blk j) (hsp:∀o blk x,β o=.sp blk x->w'.heap[blk]? = w.heap[blk]?):HOK C B w' S' β H:=by
 have hs:=spf hH (β':=β) (H':=H) e (λ_ _ _ h=>h) (λ_ _ _ _=>rfl) hsp;refine⟨?_,hH.dead,hH.Bq,hH.inj,hH.out,hs.1,hs.2⟩;intro o blk base k ho;obtain⟨h1,x,cells,t,h2,h3,h4,h5⟩:=hH.live o blk base k ho;exact⟨h1,x,cells,t,h2,h3,by rw[hb o blk base k ho];exact h4,h5.ext e (Later.refl _) (hn o blk base k ho)⟩
def HOK.lt(hH:HOK C B w S β H){o blk base:Nat}{k:K}(h:β o=.at blk base k):blk<w.heap.size:=by obtain⟨-,x,cells,t,-,-,h4,-⟩:=hH.live o blk base k h;exact (Array.getElem?_eq_some_iff.1 h4).1
def HOK.alloc(hH:HOK C B w S β H)(hS:Swf w S)(hB:B<=w.heap.size)(o:Go.Obj):HOK C B (w.alloc o) S β H:=
 hH.ext (qhR hS hB o) (λ_ blk _ _ h=>Below.heap_alloc w o blk (hH.lt h)) (λ_ _ _ _ _ _ h=>h) (λ_ blk _ h=>Below.heap_alloc w o blk (hH.splt h))
def HOK.drew(hH:HOK C B w S β H):HOK C B w.drew S β H:=
 hH.ext qb4 (λ_ _ _ _ _=>rfl) (λ_ _ _ _ _ _ h=>h) (λ_ _ _ _=>rfl)
def Kp(n id:Nat)(β β':Pl):Prop:=∀o,o<n->o≠id->β o=.pend->β' o=.pend
def Kp.refl(n id:Nat)(β:Pl):Kp n id β β:=λ_ _ _ h=>h
def Kp.trans{n id:Nat}{β β' β'':Pl}(h:Kp n id β β')(k:Kp n id β' β''):Kp n id β β'':=λo h1 h2 h3=>k o h1 h2 (h o h1 h2 h3)
def qeV(n id:Nat)(β:Pl)(x:BO):Kp n id β (upd β id x):=λ_ _ h2 h3=>by rw[qaC h2];exact h3
def qzM(n id:Nat){β:Pl}{o:Nat}(h:β o≠.pend)(x:BO):Kp n id β (upd β o x):=λp _ _ h3=>by have:p≠o:=λhp=>h (hp▸h3);rw[qaC this];exact h3
def qeF{β:Pl}{id:Nat}{y:BO}(hy:∀blk x,y≠.sp blk x){o blk:Nat}{x:Sp}(h:upd β id y o=.sp blk x):o≠id/\β o=.sp blk x:=by
 by_cases ho:o=id
 ·subst ho;rw[qa5]at h;exact absurd h (hy _ _)
 ·rw[qaC ho]at h;exact⟨ho,h⟩
def qyy(hH:HOK C B w S β H)(hS:Swf w S)(hB:B<=w.heap.size){id:Nat}(hp:β id=.pend)(hlt:id<H.length){cells:Array CP}{e:CQ}{x:Obj}
  (hc:OCells C w S β cells w.heap.size 0 x) :
  HOK C B (w.alloc (.cells cells e)) S (upd β id (.at w.heap.size 0 x.shape)) (H.put id (some x))/\Later β (upd β id (.at w.heap.size 0 x.shape))/\
   (∀blk base k,upd β id (.at w.heap.size 0 x.shape) id=.at blk base k->blk=w.heap.size/\base=0/\k=x.shape):=by
 have hl:=qne (x:=.at w.heap.size 0 x.shape) hp;have hext:=qhR hS hB (.cells cells e);have hnew:∀j,¬S w.heap.size j:=λj h=>absurd (hS.lt h) (Nat.lt_irrefl _);have hne:∀o blk x',upd β id (.at w.heap.size 0 x.shape) o=.sp blk x'->o≠id:=λo blk x' h h'=>by subst h';rw[qa5]at h;cases h
 have hsp:=spf hH (β':=upd β id (.at w.heap.size 0 x.shape)) (H':=H.put id (some x)) hext (λo blk x' h=>by rw[qaC (hne _ _ _ h)]at h;exact h) (λo blk x' h=>qa7 (λh'=>hne _ _ _ h h'.symm)) (λo blk x' h=>Below.heap_alloc w _ blk (hH.splt h));refine⟨⟨?_,?_,?_,?_,?_,hsp.1,hsp.2⟩,hl,?_⟩
 ·intro o blk base k ho;by_cases h:o=id
  ·subst h;rw[qa5]at ho;cases ho;refine⟨hB,x,cells,e,qdv hlt,rfl,?_,hc.ext hext hl (λ_ h=>h)⟩;show (w.heap.push _)[w.heap.size]? = _;simp
  ·rw[qaC h]at ho;obtain⟨h1,x0,c0,e0,h2,h3,h4,h5⟩:=hH.live o blk base k ho;refine⟨h1,x0,c0,e0,by rw[qa7 (λh'=>h h'.symm)];exact h2,h3,?_,h5.ext hext hl (λ_ h=>h)⟩;rw[Below.heap_alloc w _ blk (hH.lt ho)];exact h4
 ·intro o ho;have h:o≠id:=λh=>by subst h;rw[qa5]at ho;cases ho
  rw[qaC h]at ho;rw[qa7 (λh'=>h h'.symm)];exact hH.dead o ho
 ·intro o ho;have h:o≠id:=λh=>by subst h;rw[qa5]at ho;cases ho
  rw[qaC h]at ho;rw[qa7 (λh'=>h h'.symm)];exact hH.Bq o ho
 ·intro o o' blk base k base' k' h1 h2;by_cases ha:o=id
  ·by_cases hb:o'=id
   ·rw[ha,hb]
   ·subst ha;rw[qa5]at h1;cases h1;rw[qaC hb]at h2;exact absurd (hH.lt h2) (Nat.lt_irrefl _)
  ·by_cases hb:o'=id
   ·subst hb;rw[qa5]at h2;cases h2;rw[qaC ha]at h1;exact absurd (hH.lt h1) (Nat.lt_irrefl _)
   ·rw[qaC ha]at h1;rw[qaC hb]at h2;exact hH.inj o o' blk base k base' k' h1 h2
 ·intro o ho;rw[qa2]at ho;have h:o≠id:=by omega
  rw[qaC h];exact hH.out o ho
 ·intro blk base k h;rw[qa5]at h;cases h;exact⟨rfl,rfl,rfl⟩
def qjo{k:K}{f:Nat->CP}(hf:∀m,m<k.size->flat (f m)):(mkV k f).cells=((List.range k.size).map f).toArray:=by
 cases k with
 |none=>
  have:=hf 0 (by simp[K.size]);have hl:(List.range (K.size none)).map f=[f 0]:=rfl;rw[hl];simp only[mkV];generalize f 0=u at *
  cases u<;>first|rfl|(simp[flat,Value.oneCell']at this)
 |some n=>rfl
def qmT{k:K}{v:PV}{u:CP}(h:fits k v=true)(hv:Ac C w S β v u):∃f:Nat->CP,u=mkV k f/\∀m,m<k.size->flat (f m):=by
 have key:∀(n:Nat) (vs:CL CP),vs.length=n->(∀v∈vs,flat v)->∃f:Nat->CP,(.agg vs.toArray:CP)=mkV (some n) f/\∀m,m<n->flat (f m):=by
  intro n vs hl hf;refine⟨λm=>vs.getD m undef,?_,?_⟩
  ·rw[qjp];congr 2;apply List.ext_getElem
   ·simp[hl]
   ·intro i h1 h2;simp[List.getD,zze h1]
  ·intro m hm;have:m<vs.length:=by omega
   simp only[List.getD,zze this,zzA];exact hf _ (zzs this)
 unfold fits at h;split at h
 ·refine⟨λ_=>u,rfl,λm _=>?_⟩;cases hv with
  |u=>simp at h
  |d x _ hx=>refine hx.flat_of ?_;rintro cs rfl;simp at h
  |a=>simp at h
  |t=>simp at h
  |r _ _ _ _ _ _ h0=>exact h0
  |p _ _ _ _ h0=>exact h0
  |q=>rfl
  |f=>rfl
  |h _ _ h0=>exact h0
  |g=>simp at h
  |m=>rfl
  |w=>rfl
 ·rename_i n;split at h
  ·simp only[beq_iff_eq]at h;cases hv with
   |a _ vs h1 h2 h3=>exact key n vs (by omega) h2
  ·simp only[beq_iff_eq]at h;cases hv with
   |d _ _ hx=>
   cases hx with
   |a _ vs h1 h2 h3=>exact key n vs (by omega) h2
  ·cases h
def qhC{t:CQ}{z:DV}(h:zq P t=some z):∃k v,kq P t=some k/\(P.info? t).bind (·.zero)=some v/\fits k (.d z)=true/\∀(w:CU) (S:qad),Al w S z v:=by
 unfold zq at h;obtain⟨k,hk,h⟩:=zza.1 h;obtain⟨v,hv,h⟩:=zza.1 h;obtain⟨z',hz,h⟩:=zza.1 h;split at h
 ·cases h;exact⟨k,v,hk,hv,by assumption,λw S=>qw6 hz⟩
 ·cases h
def qhq{t:CQ}{v:CP}(h:(P.info? t).bind (·.zero)=some v)(w:CU):(zeroValue t).run P w=.ok v w:=by obtain⟨i,hi,hz⟩:=zza.1 h;simp[zeroValue,typeInfo,hi,hz]
def qAJ(hH:HOK C B w S β H)(hS:Swf w S)(hB:B<=w.heap.size){id:Nat}(hp:β id=.pend)(hlt:id<H.length){k:K}{v:PV}{u:CP}(hf:fits k v=true)(hv:Ac C w S β v u)(t:CQ) :
  ∃w' β',(newVar t u).run P w=.ok ⟨w.heap.size,0,none⟩ w'/\Ext B w S w' S/\HOK C B w' S β' (H.put id (some (.box k v)))/\Later β β'/\Ac C w' S β' (.p id 0 0) (.pointer (some ⟨w.heap.size,0,none⟩))/\Kp H.length id β β':=by
 obtain⟨f,rfl,hfl⟩:=qmT hf hv;have hc:OCells C w S β (mkV k f).cells w.heap.size 0 (.box k v):=by refine⟨by rw[qjo hfl];simp,f,?_,hv,λj h=>absurd (hS.lt h) (Nat.lt_irrefl _)⟩;intro m hm;rw[qjo hfl];exact⟨by simp[hm],hfl m hm⟩
 obtain⟨h1,h2,h3⟩:=qyy hH hS hB hp hlt (e:=t) hc;refine⟨w.alloc (.cells (mkV k f).cells t),_,?_,qhR hS hB _,h1,h2,.p _ _ _ _ rfl ?_,qeV _ _ _ _⟩
 ·simp[newVar,newRow]
 ·unfold RelPt;rw[qa5];simp
def qeE{α:Type}{l:CL α}{c:Nat}{xs:CL α}(h:c+xs.length<=l.length)(m:Nat) :
  (putAt l c xs)[m]? = if c<=m/\m<c+xs.length then xs[m-c]? else l[m]? :=by
 unfold putAt;by_cases h1:m<c
 ·have h2:¬(c<=m/\m<c+xs.length):=by omega
  rw[if_neg h2,zzM,List.getElem?_append_left (by simp;omega),List.getElem?_take,if_pos h1]
 ·by_cases h3:m<c+xs.length
  ·rw[if_pos ⟨by omega,h3⟩,List.getElem?_append_left (by simp;omega),List.getElem?_append_right (by simp;omega)];simp;congr 1;omega
  ·rw[if_neg (by omega),List.getElem?_append_right (by simp;omega),List.getElem?_drop];simp;congr 1;omega
def qdw{α:Type}{l:CL α}{c:Nat}{xs:CL α}(h:c+xs.length<=l.length):(putAt l c xs).length=l.length:=by simp[putAt];omega
def qpQ{n m:Nat}(g:Nat->CP)(h:m<n):((List.range n).map g)[m]? = some (g m):=by rw[zzj,List.getElem?_range h];rfl
def qBU{t:CQ}{k:K}(hk:kq P t=some k){g:Nat->CP}(hg:∀m,m<k.size->flat (g m)){blk o:Nat}{cells:Array CP}{e:CQ}
  (hw:w.heap[blk]? = some (.cells cells e (0,0))) (ho:o+k.size<=cells.size) :
  (Instr.storeAt t (.pointer (some ⟨blk,o,none⟩)) (mkV k g)).run P w=.ok () (w.setRow blk (putAt cells.toList o ((List.range k.size).map g)).toArray):=by
 have hcs:=qjo hg;have hlen:((List.range k.size).map g).length=k.size:=by simp
 have:=run_storeCells_at P blk o e ((List.range k.size).map g) 0 cells w hw (by simpa using ho) (by
  intro v hv;obtain⟨m,hm,rfl⟩:=zzN.1 hv;exact hg m (by simpa using hm))
 simp only[Instr.storeAt,Instr.sureAddr,Sem.run_bind,Sem.run_pure,Result.andThen_ok,storeVar,qdQ hk,hcs];simp only[List.size_toArray,hlen,ne_eq,not_true_eq_false,if_false,this,Nat.add_zero,putAt]
def qo3{k:K}{v:PV}(h:fits k v=true):v.cells.length=k.size:=by
 unfold fits at h;split at h
 ·split at h<;>first
   | (simp at h;done)
   |skip
  rename_i h1 h2 h3 h4 h5;have:v.cells=[v]:=by
   unfold PV.cells;split
   ·exact absurd rfl (h1 _)
   ·exact absurd rfl (h2 _)
   ·rfl
  rw[this];rfl
 ·split at h
  ·simpa[PV.cells,K.size]using h
  ·simpa[PV.cells,K.size]using h
  ·cases h
def qAt{k:K}{f g:Nat->CP}(h:∀m,m<k.size->f m=g m):mkV k f=mkV k g:=by
 cases k with
 |none=>exact h 0 (by simp[K.size])
 |some n=>rw[qjp,qjp];congr 2;apply List.map_congr_left;intro m hm;exact h m (by simpa[K.size]using hm)
def qOP{v:PV}{x:DV}{os:CF}{k:K}(hf:fits k v=true)(h:pur H v=some (x,os)):fits k (.d x)=true:=by
 unfold pur at h;have hl:∀{cs:Cz} {xs:Cy} {os:CF},qcd H cs=some (xs,os)->xs.length=cs.length:=by
  intro cs;induction cs with
  |nil=>intro xs os h;cases h;rfl
  |cons v r ih=>
   intro xs os h;unfold qcd at h;split at h
   ·rename_i h2;cases h;simp[ih h2]
   ·cases h
 split at h
 ·split at h
  ·rename_i h1;cases h;unfold fits at hf⊢;cases k with
   |none=>simp at hf
   |some n=>simpa[hl h1]using hf
  ·cases h
 ·unfold qaW at h;split at h
  ·cases h;exact hf
  ·split at h
   ·split at h
    ·cases h;cases k<;>simp_all[fits]
    ·cases h
   ·cases h
  ·cases h
def DV.cells_map(x:DV):(PV.d x).cells=x.cells.map .d:=by cases x<;>simp[PV.cells,DV.cells]
def qKh{k:K}{cs:Cz}{x:PV}(h:mkP k cs=some x):cs.length=k.size:=by
 unfold mkP at h;split at h
 ·split at h
  ·rfl
  ·cases h
 ·split at h
  ·assumption
  ·cases h
def qKe{k:K}{cs:Cy}{x:DV}(h:mkD k cs=some x):cs.length=k.size:=by
 unfold mkD at h;split at h
 ·split at h
  ·rfl
  ·cases h
 ·split at h
  ·assumption
  ·cases h
def qF9{k:K}{v:DV}(h:fits k (.d v)=true):v.cells.length=k.size:=by
 have:=qo3 h
 rwa [DV.cells_map,zzo]at this
def qP6(hH:HOK C B w S β H)(hS:Swf w S){t:CQ}{k:K}(hk:kq P t=some k){x v:PV}{ux uv:CP}(hx:Ac C w S β x ux)(hv:Ac C w S β v uv){H':CW}(h:qbY H k x v=some H') :
  ∃w' S',(Instr.storeAt t ux uv).run P w=.ok () w'/\Ext B w S w' S'/\Swf w' S'/\HOK C B w' S' β H'/\H'.length=H.length:=by
 unfold qbY at h;split at h
 ·rename_i o i c;split at h
  ·rename_i hfit;obtain⟨g,rfl,hg⟩:=qmT hfit hv;have hvl:=qo3 hfit;have hrl:((List.range k.size).map g).length=k.size:=by simp
   cases hx with
   |p _ _ _ _ h0 hp=>
   split at h
   ·rename_i kb y ho;unfold RelPt at hp;split at hp
    ·exact hp.elim
    ·rename_i hb;rw[hH.dead o hb]at ho;cases ho
    ·exact hp.elim
    ·rename_i blk base k' hb;subst hp;obtain⟨hB,x',cells,e,ho',hs,hw,hc⟩:=hH.live o blk base k' hb;rw[ho]at ho';cases ho';obtain⟨hbs,f,hf,hr,hn⟩:=hc;simp only[Obj.shape]at hs;subst hs;split at h
     ·rename_i hi;simp only[beq_iff_eq]at hi;subst hi;have main:∀y',c+k.size<=kb.size->Ac C w S β y' (mkV kb (λm=>if c<=m/\m<c+k.size then g (m-c)else f m))->
        ∃w',(Instr.storeAt t (.pointer (some ⟨blk,base+0*kb.size+c,none⟩)) (mkV k g)).run P w=.ok () w'/\Ext B w S w' S/\Swf w' S/\HOK C B w' S β (H.put o (some (.box kb y'))):=by
       intro y' hle hry;have hsz:base+0*kb.size+c+k.size<=cells.size:=by omega
       have hcl:(putAt cells.toList (base+0*kb.size+c) ((List.range k.size).map g)).length=cells.toList.length:=qdw (by simpa using hsz);have hext:=qit (S:=S) (cells':=(putAt cells.toList (base+0*kb.size+c) ((List.range k.size).map g)).toArray) hB hw (by simpa using hcl) (λj hj=>absurd hj (hn j));refine⟨_,qBU hk hg hw hsz,hext,hS.ext hext,?_⟩;refine qvB hH hb hw (by simpa using hcl) (λj hj=>absurd hj (hn j)) rfl ?_;have hcl':(putAt cells.toList (base+0*kb.size+c) ((List.range k.size).map g)).toArray.size=cells.size:=by simpa using hcl
       refine⟨by rw[hcl'];exact hbs,_,?_,hry.ext hext (Later.refl _),hn⟩;intro m hm;have hget:=qeE (l:=cells.toList) (c:=base+0*kb.size+c) (xs:=(List.range k.size).map g) (by simpa using hsz) (base+m);rw[hrl]at hget;rw[List.getElem?_toArray,hget];by_cases hmc:c<=m/\m<c+k.size
       ·have hc2:base+0*kb.size+c<=base+m/\base+m<base+0*kb.size+c+k.size:=by omega
        simp only[hmc,hc2,and_self,if_true];have:base+m-(base+0*kb.size+c)=m-c:=by omega
        rw[this];exact⟨qpQ g (by omega),hg _ (by omega)⟩
       ·have hc2:¬(base+0*kb.size+c<=base+m/\base+m<base+0*kb.size+c+k.size):=by omega
        simp only[hmc,hc2,if_false];simpa using hf m hm
      split at h
      ·rename_i hck;simp only[zzf,beq_iff_eq]at hck;obtain⟨rfl,hkk⟩:=hck;have:=K.eq_spec hkk;subst this;cases h;obtain⟨w',h1,h2,h3,h4⟩:=main v (by omega) (by
        rw[qAt (g:=g)]
        ·exact hv
        ·intro m hm;rw[if_pos (by omega)];simp)
       exact⟨w',S,h1,h2,h3,h4,qa2 _ _ _⟩
      ·split at h
       ·rename_i hle;split at h
        ·rename_i y' hy';cases h;have hle2:c+k.size<=kb.size:=by have h1:=qKh hy';rw[qdw (by omega)]at h1;omega
         obtain⟨w',h1,h2,h3,h4⟩:=main y' hle2 (by
          refine qtx hy' ?_ ?_
          ·intro m z hz hm;rw[qeE (by omega)]at hz;rw[hvl]at hz;split at hz
           ·rename_i hc1;simp only[hc1,and_self,if_true];exact hv.cells hg (m-c) z hz (by omega)
           ·rename_i hc1;simp only[hc1,if_false];exact hr.cells (λm hm=>(hf m hm).2) m z hz hm
          ·intro m hm;split
           ·exact hg _ (by omega)
           ·exact (hf m hm).2)
         exact⟨w',S,h1,h2,h3,h4,qa2 _ _ _⟩
        ·cases h
       ·cases h
     ·cases h
    ·exact hp.elim
   ·rename_i kb ro es ho;split at h
    ·rename_i ee hee;obtain⟨hil,rfl⟩:=zzk.1 hee;split at h
     ·rename_i hro;split at h
      ·rename_i x os hpur;split at h
       ·cases h
       ·rename_i hno;have hno':o∉os:=by simpa using hno
        have hfx:=qOP hfit hpur;have hxl:=qF9 hfx;unfold RelPt at hp;split at hp
        ·exact hp.elim
        ·rename_i hb;rw[hH.dead o hb]at ho;cases ho
        ·exact hp.elim
        ·rename_i blk base k' hb;subst hp;have hH1:=qkD hH os;have hext1:=qey hH os;have hS1:=qi7 hH hS os;have hvx:=qk7 hH hv hpur;generalize hS1d:FSq β H os S=S1 at *
         have hob:(frz H os).obj o=some (.sl kb ro es):=by rw[qea,ho];simp[qgt,hno']
         obtain⟨hB,x',cells,e,ho',hs,hw,hc⟩:=hH1.live o blk base k' hb;rw[hob]at ho';cases ho';obtain⟨hbs,cf,hf,hr,hn⟩:=hc;simp only[Obj.shape]at hs;subst hs;have hi1:(i+1)*kb.size<=es.length*kb.size:=zzh _ hil;rw[zzl,Nat.one_mul]at hi1;have hi2:ro*kb.size<=i*kb.size:=zzh _ hro;have main:∀y',c+k.size<=kb.size->Al w S1 y' (mkV kb (λm=>if c<=m/\m<c+k.size then g (m-c)else cf i m))->
           ∃w',(Instr.storeAt t (.pointer (some ⟨blk,base+i*kb.size+c,none⟩)) (mkV k g)).run P w=.ok () w'/\Ext B w S1 w' S1/\Swf w' S1/\HOK C B w' S1 β ((frz H os).put o (some (.sl kb ro (es.set i y')))):=by
          intro y' hle hry;have hsz:base+i*kb.size+c+k.size<=cells.size:=by omega
          have hcl:(putAt cells.toList (base+i*kb.size+c) ((List.range k.size).map g)).length=cells.toList.length:=qdw (by simpa using hsz);have hget:∀j,(putAt cells.toList (base+i*kb.size+c) ((List.range k.size).map g)).toArray[j]? = if base+i*kb.size+c<=j/\j<base+i*kb.size+c+k.size then ((List.range k.size).map g)[j-(base+i*kb.size+c)]? else cells[j]? :=by intro j;have:=qeE (l:=cells.toList) (c:=base+i*kb.size+c) (xs:=(List.range k.size).map g) (by simpa using hsz) j;rw[hrl]at this;rw[List.getElem?_toArray,this];simp
          have hkeep:∀j,S1 blk j->(putAt cells.toList (base+i*kb.size+c) ((List.range k.size).map g)).toArray[j]? = cells[j]? :=by intro j hj;rw[hget,if_neg];intro hc;exact hn j (by omega) hj
          have hext:=qit (S:=S1) (cells':=(putAt cells.toList (base+i*kb.size+c) ((List.range k.size).map g)).toArray) hB hw (by simpa using hcl) hkeep;refine⟨_,qBU hk hg hw hsz,hext,hS1.ext hext,?_⟩;refine qvB hH1 hb hw (by simpa using hcl) hkeep rfl ?_;have hcl':(putAt cells.toList (base+i*kb.size+c) ((List.range k.size).map g)).toArray.size=cells.size:=by simpa using hcl
          refine⟨by rw[hcl',List.length_set];exact hbs,(λj m=>if j=i then (if c<=m/\m<c+k.size then g (m-c)else cf i m)else cf j m),?_,?_,hn⟩
          ·intro j hj m hm;rw[List.length_set]at hj;rw[hget];by_cases hji:j=i
           ·subst hji;simp only[if_true];by_cases hmc:c<=m/\m<c+k.size
            ·have hc2:base+j*kb.size+c<=base+j*kb.size+m/\base+j*kb.size+m<base+j*kb.size+c+k.size:=by omega
             simp only[hmc,hc2,and_self,if_true];have:base+j*kb.size+m-(base+j*kb.size+c)=m-c:=by omega
             rw[this];exact⟨qpQ g (by omega),hg _ (by omega)⟩
            ·have hc2:¬(base+j*kb.size+c<=base+j*kb.size+m/\base+j*kb.size+m<base+j*kb.size+c+k.size):=by omega
             simp only[hmc,hc2,if_false];exact hf j hj m hm
           ·simp only[hji,if_false];have hc2:¬(base+i*kb.size+c<=base+j*kb.size+m/\base+j*kb.size+m<base+i*kb.size+c+k.size):=by
             rcases Nat.lt_or_gt_of_ne hji with h1|h1
             ·have:(j+1)*kb.size<=i*kb.size:=zzh _ h1;rw[zzl,Nat.one_mul]at this;omega
             ·have:(i+1)*kb.size<=j*kb.size:=zzh _ h1;rw[zzl,Nat.one_mul]at this;omega
            simp only[hc2,if_false];exact hf j hj m hm
          ·intro j hj;rw[List.length_set]at hj;rw[List.getElem_set];by_cases hji:i=j
           ·subst hji;simp only[if_true];exact hry.ext hext
           ·have:¬j=i:=λh=>hji h.symm;simp only[hji,this,if_false];exact (hr j hj).ext hext
         have fin:∀y',c+k.size<=kb.size->Al w S1 y' (mkV kb (λm=>if c<=m/\m<c+k.size then g (m-c)else cf i m))->
           ∃w' S',(Instr.storeAt t (.pointer (some ⟨blk,base+i*kb.size+c,none⟩)) (mkV k g)).run P w=.ok () w'/\Ext B w S w' S'/\Swf w' S'/\HOK C B w' S' β ((frz H os).put o (some (.sl kb ro (es.set i y'))))/\((frz H os).put o (some (.sl kb ro (es.set i y')))).length=H.length:=by
          intro y' h1 h2;obtain⟨w',a1,a2,a3,a4⟩:=main y' h1 h2;exact⟨w',S1,a1,hext1.trans a2,a3,a4,by rw[qa2,qdt]⟩
         split at h
         ·rename_i hck;simp only[zzf,beq_iff_eq]at hck;obtain⟨rfl,hkk⟩:=hck;have:=K.eq_spec hkk;subst this;cases h;refine fin x (by omega) ?_;rw[qAt (g:=g)]
          ·exact hvx
          ·intro m hm;rw[if_pos (by omega)];simp
         ·split at h
          ·rename_i hle;split at h
           ·rename_i y' hy';cases h;have hle2:c+k.size<=kb.size:=by have h1:=qKe hy';rw[qdw (by omega)]at h1;omega
            refine fin y' hle2 (qtt hy' ?_ ?_)
            ·intro m z hz hm;rw[qeE (by omega)]at hz;rw[hxl]at hz;split at hz
             ·rename_i hc1;simp only[hc1,and_self,if_true];exact hvx.cells hg (m-c) z hz (by omega)
             ·rename_i hc1;simp only[hc1,if_false];exact (hr i hil).cells (λm hm=>(hf i hil m hm).2) m z hz hm
            ·intro m hm;split
             ·exact hg _ (by omega)
             ·exact (hf i hil m hm).2
           ·cases h
          ·cases h
        ·exact hp.elim
      ·cases h
     ·cases h
    ·cases h
   ·cases h
  ·cases h
 ·cases h
end
section
variable {P:CV}{N:Names}{C:Cx}{w:CU}{S:qad}{β:Pl}{B:Nat}{H:CW}
def qx4(off:Nat):∀(l:CL CP) (k:Nat) (A:Array CP),off+k+l.length<=A.size->
  (l.zipIdx k).foldl (λcs p=>cs.setIfInBounds (off+p.2) p.1) A=(putAt A.toList (off+k) l).toArray
 |[],k,A,_=>by simp[putAt]
 |v::r,k,A,h=>by simp only[zzn]at h;rw[List.zipIdx_cons,List.foldl_cons,qx4 off r (k+1) _ (by simp;omega)];have:=list_seg_step A.toList (off+k) v r (by simpa using (by omega:off+k+(r.length+1)<=A.size));congr 1;unfold putAt;simp only[Array.toList_setIfInBounds,zzn];rw[show off+(k+1)=off+k+1 by omega];exact this
def qxN{qaJ:Nat->CK (Nat×Nat)}{i off size:Nat}{v:CP}{rest:CL (Nat×CP)}{A:Array CP}(hp:qaJ i=some (off,size))(hs:v.cells.size=size)(hle:off+size<=A.size) :
  Instr.fill qaJ A ((i,v)::rest)=Instr.fill qaJ (putAt A.toList off v.cells.toList).toArray rest:=by
 have h1:¬(v.cells.size≠size||off+v.cells.size>A.size)=true:=by simp[hs];omega
 simp only[Instr.fill,hp];rw[if_neg (by simpa using h1)];congr 1;have:=qx4 off v.cells.toList 0 A (by simp[hs];omega);rw[<-Array.foldl_toList,Array.toList_zipIdx];simpa using this
def CRel(C:Cx)(w:CU)(S:qad)(β:Pl)(z:Cz)(A:CL CP):Prop:=
 z.length=A.length/\(∀v∈A,flat v)/\∀j (h:j<z.length) (h':j<A.length),Ac C w S β z[j] A[j]
def CRel.putAt{z:Cz}{A:CL CP}(h:CRel C w S β z A){off:Nat}{xs:Cz}{us:CL CP}(hx:CRel C w S β xs us)(hle:off+xs.length<=z.length):CRel C w S β (putAt z off xs) (putAt A off us):=by
 obtain⟨h1,h2,h3⟩:=h;obtain⟨x1,x2,x3⟩:=hx;have hle':off+us.length<=A.length:=by omega
 refine⟨by rw[qdw hle,qdw hle'];exact h1,?_,?_⟩
 ·intro v hv;unfold Sim.putAt at hv;rcases zzB.1 hv with hv|hv
  ·rcases zzB.1 hv with hv|hv
   ·exact h2 v (List.mem_of_mem_take hv)
   ·exact x2 v hv
  ·exact h2 v (List.mem_of_mem_drop hv)
 ·intro j hj hj';have e1:=qeE hle j;have e2:=qeE hle' j;rw[zze hj]at e1;rw[zze hj']at e2;rw[x1]at e1;split at e1
  ·rename_i hc;rw[if_pos hc]at e2;rw[zze (by omega),zzb]at e1 e2;rw[e1,e2];exact x3 _ _ _
  ·rename_i hc;rw[if_neg hc]at e2;rw[qdw hle]at hj;rw[zze (by omega),zzb]at e1 e2;rw[e1,e2];exact h3 _ _ _
def qwU{k:K}{v:PV}{u:CP}(hf:fits k v=true)(hv:Ac C w S β v u):CRel C w S β v.cells u.cells.toList/\u.cells.size=k.size:=by
 obtain⟨f,rfl,hfl⟩:=qmT hf hv;have hl:=qo3 hf;rw[qjo hfl];refine⟨⟨by simp[hl],?_,?_⟩,by simp⟩
 ·intro x hx;simp only[zzN,List.mem_range]at hx;obtain⟨m,hm,rfl⟩:=hx;exact hfl m hm
 ·intro j hj hj';have:=hv.cells hfl j v.cells[j] (zze hj) (by omega);simpa using this
def qAq{z:Cz}{A:CL CP}(h:CRel C w S β z A):Ac C w S β (mkA z) (.agg A.toArray):=by
 obtain⟨h1,h2,h3⟩:=h;unfold mkA;split
 ·rename_i vs hp;have:=qk6 hp;subst this;refine .d _ _ (.a vs A (by simpa using h1) h2 ?_);intro j hj hj';have:=h3 j (by simpa using hj) hj';simp only[List.getElem_map]at this;cases this with
  |d _ _ h=>exact h
 ·exact .a z A h1 h2 h3
def qiF(C:Cx)(w:CU)(S:qad)(β:Pl)(qaJ:Nat->CK (Nat×Nat)):CL (Nat×K×PV)->CL (Nat×CP)->Prop
 |[],[]=>True
 | (off,k,v)::r,(i,u)::s=>qaJ i=some (off,k.size)/\Ac C w S β v u/\qiF C w S β qaJ r s
 |_,_=>False
def qru{qaJ:Nat->CK (Nat×Nat)}:∀{parts:CL (Nat×K×PV)} {us:CL (Nat×CP)} {z cs:Cz} {A:CL CP},CRel C w S β z A->qiF C w S β qaJ parts us->qcl z parts=some cs->
  ∃A',Instr.fill qaJ A.toArray us=some A'.toArray/\CRel C w S β cs A'
 |[],[],z,cs,A,h,_,ha=>by cases ha;exact⟨A,rfl,h⟩
 |[],_::_,_,_,_,_,hp,_=>hp.elim
 |_::_,[],_,_,_,_,hp,_=>by unfold qiF at hp;exact hp.elim
 | (off,k,v)::r,(i,u)::s,z,cs,A,h,hp,ha=>by
  obtain⟨p1,p2,p3⟩:=hp;unfold qcl at ha;split at ha
  ·rename_i hc;simp only[zzf,zzq]at hc;obtain⟨c1,c2⟩:=qwU hc.1 p2;have hl:=qo3 hc.1;have h':=h.putAt c1 (by rw[hl];exact hc.2);obtain⟨A',e1,e2⟩:=qru h' p3 ha;refine⟨A',?_,e2⟩;rw[qxN p1 c2 (by simp only[List.size_toArray];rw[<-h.1];exact hc.2)];exact e1
  ·cases ha
def qnw(f:Field):Sem (Nat×Nat):=do pure (f.offset,<-sizeOf f.type)
def qPG{f:Field}(h:(P.info? f.type).isSome=true)(w:CU):(qnw f).run P w=.ok (f.offset,P.cellsOf f.type) w:=by obtain⟨i,hi⟩:=Option.isSome_iff_exists.1 h;simp[qnw,sizeOf,typeInfo,hi,Program.cellsOf]
def qPH{fs:CL Field}(h:fs.all (λf=>(P.info? f.type).isSome)=true)(w:CU) :
  (fs.mapM qnw).run P w=.ok (fs.map λf=>(f.offset,P.cellsOf f.type)) w:=by
 induction fs with
 |nil=>rfl
 |cons f r ih=>simp only[List.all_cons,zzf]at h;simp only[List.mapM_cons,Sem.run_bind,qPG h.1,Result.andThen_ok,ih h.2,Sem.run_pure,zzu]
def qnY{k:K}{z:DV}{v:CP}(hf:fits k (.d z)=true)(hz:∀(w:CU) (S:qad),Al w S z v):CRel C w S β (z.cells.map .d) v.cells.toList/\v.cells.size=k.size:=by
 have:=qwU (C:=C) (β:=β) hf (.d _ _ (hz w S))
 rwa [DV.cells_map]at this
def qEH{t:CQ}{z:DV}(hz:zq P t=some z){fs:Array Field}(hu:P.underlying t=some (.struct fs))(hall:fs.toList.all (λf=>(P.info? f.type).isSome)=true)
  {parts:CL (Nat×K×PV)} {us:CL (Nat×CP)} (hp:qiF C w S β (λi=>(fs[i]?).map λf=>(f.offset,P.cellsOf f.type)) parts us) {cs:Cz} (h:qcl (z.cells.map .d) parts=some cs) :
  ∃u,(Instr.build t us.toArray).run P w=.ok u w/\Ac C w S β (mkA cs) u:=by
 obtain⟨k,v,hk,hv,hf,hr⟩:=qhC hz;obtain⟨h1,h2⟩:=qnY (C:=C) (w:=w) (S:=S) (β:=β) hf hr;obtain⟨A',e1,e2⟩:=qru h1 hp h;refine⟨.agg A'.toArray,?_,qAq e2⟩;have hplaces:(fs.mapM qnw).run P w=.ok (fs.map λf=>(f.offset,P.cellsOf f.type)) w:=by rw[Array.mapM_eq_mapM_toList,Sem.run_map,qPH hall];simp only[Result.andThen_ok];congr 1;apply Array.ext';simp
 have hfill:Instr.fill ((fs.map λf=>(f.offset,P.cellsOf f.type))[·]?) v.cells us=some A'.toArray:=by rw[<-Array.toArray_toList (xs:=v.cells),<-e1];congr 1;funext i;simp
 simp only[Instr.build,Sem.run_bind,qhq hv,Result.andThen_ok,qaK hu];show Result.andThen ((fs.mapM qnw).run P w) _=_;rw[hplaces];simp only[Result.andThen_ok,hfill,Sem.run_pure]
def qEG{t e:CQ}{n:Nat}{z:DV}(hz:zq P t=some z)(hu:P.underlying t=some (.array n e)){k:K}(hke:kq P e=some k)
  {parts:CL (Nat×K×PV)} {us:CL (Nat×CP)} (hp:qiF C w S β (λi=>some (i*P.cellsOf e,P.cellsOf e)) parts us) {cs:Cz} (h:qcl (z.cells.map .d) parts=some cs) :
  ∃u,(Instr.build t us.toArray).run P w=.ok u w/\Ac C w S β (mkA cs) u:=by
 obtain⟨k',v,hk,hv,hf,hr⟩:=qhC hz;obtain⟨h1,h2⟩:=qnY (C:=C) (w:=w) (S:=S) (β:=β) hf hr;obtain⟨A',e1,e2⟩:=qru h1 hp h;refine⟨.agg A'.toArray,?_,qAq e2⟩;have hfill:Instr.fill (λi=>some (i*k.size,k.size)) v.cells us=some A'.toArray:=by rw[<-Array.toArray_toList (xs:=v.cells),<-e1];congr 1;funext i;rw[qjj hke]
 simp[Instr.build,qhq hv,qaK hu,qdQ hke,hfill]
def ERel(w:CU)(S:qad)(k:K)(es:Cy)(A:CL CP):Prop:=
 es.length*k.size<=A.length/\∃c:Nat->Nat->CP,(∀j,j<es.length->∀m,m<k.size->A[j*k.size+m]? = some (c j m)/\flat (c j m))/\∀j (h:j<es.length),Al w S es[j] (mkV k (c j))
def qKw{i j s m:Nat}(h:j≠i)(hm:m<s)(c1:i*s<=j*s+m)(c2:j*s+m<i*s+s):False:=by
 rcases Nat.lt_or_gt_of_ne h with h1|h1
 ·have:(j+1)*s<=i*s:=zzh _ h1;rw[zzl,Nat.one_mul]at this;omega
 ·have:(i+1)*s<=j*s:=zzh _ h1;rw[zzl,Nat.one_mul]at this;omega
def ERel.set{k:K}{es:Cy}{A:CL CP}(h:ERel w S k es A){i:Nat}(hi:i<es.length){x:DV}{g:Nat->CP}(hg:∀m,m<k.size->flat (g m))(hx:Al w S x (mkV k g)) :
  ERel w S k (es.set i x) (putAt A (i*k.size) ((List.range k.size).map g)):=by
 obtain⟨hle,c,hf,hr⟩:=h;have hi1:(i+1)*k.size<=es.length*k.size:=zzh _ hi;rw[zzl,Nat.one_mul]at hi1;have hrl:((List.range k.size).map g).length=k.size:=by simp
 have hget:=qeE (l:=A) (c:=i*k.size) (xs:=(List.range k.size).map g) (by rw[hrl];omega);rw[hrl]at hget;refine⟨by rw[qdw (by rw[hrl];omega),List.length_set];exact hle,(λj m=>if j=i then g m else c j m),?_,?_⟩
 ·intro j hj m hm;rw[List.length_set]at hj;rw[hget];by_cases hji:j=i
  ·subst hji;have hc2:j*k.size<=j*k.size+m/\j*k.size+m<j*k.size+k.size:=by omega
   simp only[hc2,and_self,if_true];have:j*k.size+m-j*k.size=m:=by omega
   rw[this];exact⟨qpQ g hm,hg _ hm⟩
  ·have hc2:¬(i*k.size<=j*k.size+m/\j*k.size+m<i*k.size+k.size):=λhc=>qKw hji hm hc.1 hc.2;simp only[hji,hc2,if_false];exact hf j hj m hm
 ·intro j hj;rw[List.length_set]at hj;rw[List.getElem_set];by_cases hji:i=j
  ·subst hji;simp only[if_true];exact hx
  ·have:¬j=i:=λh=>hji h.symm;simp only[hji,this,if_false];exact hr j hj
def ERel.mono{S':qad}{k:K}{es:Cy}{A:CL CP}(h:ERel w S k es A)(e:∀b o,S b o->S' b o):ERel w S' k es A:=by obtain⟨h0,c,h1,h2⟩:=h;exact⟨h0,c,h1,λj hj=>(h2 j hj).more e⟩
def qos(C:Cx)(w:CU)(S:qad)(β:Pl):CL (Nat×PV)->CL (Nat×CP)->Prop
 |[],[]=>True
 | (j,v)::r,(i,u)::s=>i=j/\Ac C w S β v u/\qos C w S β r s
 |_,_=>False
def qwS(hH:HOK C B w S β H){k:K}:∀{parts:CL (Nat×PV)} {us:CL (Nat×CP)} {es es':Cy} {os:CF} {A:CL CP} (S':qad),(∀b j,S b j->S' b j)->(∀b j,FSq β H os S b j->S' b j)->
  ERel w S' k es A->qos C w S β parts us->qbN H k es parts=some (es',os)->∃A',Instr.fill (λi=>some (i*k.size,k.size)) A.toArray us=some A'.toArray/\ERel w S' k es' A'/\es'.length=es.length/\A'.length=A.length
 |[],[],es,es',os,A,S',hs,hs',h,_,hb=>by cases hb;exact⟨A,rfl,h,rfl,rfl⟩
 |[],_::_,_,_,_,_,_,_,_,_,hp,_=>hp.elim
 |_::_,[],_,_,_,_,_,_,_,_,hp,_=>by unfold qos at hp;exact hp.elim
 | (j,v)::r,(i,u)::s,es,es',os,A,S',hs,hs',h,hp,hb=>by
  obtain⟨rfl,p2,p3⟩:=hp;unfold qbN at hb;split at hb
  ·rename_i hc;simp only[zzf,zzq]at hc;split at hb
   ·rename_i x os1 hpur;split at hb
    ·rename_i es1 ps hb';cases hb;obtain⟨g,rfl,hg⟩:=qmT hc.1 p2;have hx:=(qk7 hH p2 hpur).more (S':=S') (λb j hj=>hs' b j (FSq.mono (λo ho=>List.mem_append_left _ ho) b j hj));have h':=h.set hc.2 hg hx;obtain⟨A',e1,e2,e3,e4⟩:=qwS hH S' hs (λb j hj=>hs' b j (FSq.mono (λo ho=>List.mem_append_right _ ho) b j hj)) h' p3 hb';have hi1:(i+1)*k.size<=es.length*k.size:=zzh _ hc.2;rw[zzl,Nat.one_mul]at hi1;refine⟨A',?_,e2,by rw[e3,List.length_set],by rw[e4,qdw (by have:=h.1;simp;omega)]⟩;rw[qxN (off:=i*k.size) (size:=k.size) rfl (by rw[qjo hg];simp) (by have:=h.1;simp only[List.size_toArray];omega)];rw[qjo hg];exact e1
    ·cases hb
   ·cases hb
  ·cases hb
def qvG{n:Nat}{k:K}{z:DV}{v:CP}(hf:fits k (.d z)=true)(hz:∀(w:CU) (S:qad),Al w S z v)(zs:Array CP)(hzs:n*k.size≠0->zs=v.cells) :
  ERel w S k (List.replicate n z) ((Array.range (n*k.size)).map (zs[· % zs.size]!)).toList:=by
 obtain⟨f,rfl,hfl⟩:=qmT (C:=⟨λ_=>0⟩) (β:=λ_=>.pend) hf (.d _ _ (hz w S));refine⟨by simp,(λ_ m=>f m),?_,?_⟩
 ·intro j hj m hm;rw[List.length_replicate]at hj;have hjm:j*k.size+m<n*k.size:=by have:(j+1)*k.size<=n*k.size:=zzh _ hj;rw[zzl,Nat.one_mul]at this;omega
  have:=hzs (by omega);subst this;refine⟨?_,hfl m hm⟩;rw[qjo hfl];have e1:(j*k.size+m)%k.size=m:=by rw[Nat.add_comm,Nat.add_mul_mod_self_right,Nat.mod_eq_of_lt hm]
  simp only[Array.toList_map,Array.toList_range,zzj,List.getElem?_range hjm,Option.map_some,List.size_toArray,zzo,List.length_range,e1];simp[hm]
 ·intro j hj;rw[List.getElem_replicate];exact hz w S
def qpW(hH:HOK C B w S β H)(hS:Swf w S)(hB:B<=w.heap.size){id:Nat}(hp:β id=.pend)(hlt:id<H.length){k:K}{es:Cy}{A:CL CP}(h:ERel w S k es A)(t:CQ)(ro:Nat){len cap:Nat}{tt:CO}(hcap:cap*k.size<=A.length)(hlc:len<=cap)(htt:tt=true->cap=len) :
  Ext B w S (w.alloc (.cells A.toArray t)) S/\HOK C B (w.alloc (.cells A.toArray t)) S (upd β id (.at w.heap.size 0 k)) (H.put id (some (.sl k ro es)))/\Later β (upd β id (.at w.heap.size 0 k))/\
   Ac C (w.alloc (.cells A.toArray t)) S (upd β id (.at w.heap.size 0 k)) (.r id k 0 len tt) (.slice (some ⟨w.heap.size,0,none⟩) len cap):=by
 obtain⟨h0,c,h1,h2⟩:=h;have hc:OCells C w S β A.toArray w.heap.size 0 (.sl k ro es):=by refine⟨by simpa using h0,c,?_,h2,λj _ h=>absurd (hS.lt h) (Nat.lt_irrefl _)⟩;intro j hj m hm;simpa using h1 j hj m hm
 obtain⟨e1,e2,e3⟩:=qyy hH hS hB hp hlt (e:=t) hc;refine⟨qhR hS hB _,e1,e2,.r _ _ _ _ _ _ rfl ?_⟩;unfold RelRf;rw[qa5];refine⟨rfl,cap,_,rfl,λ_=>by simp,hlc,htt,t,A.length,?_,by simpa using hcap⟩;show (match (w.heap.push _)[w.heap.size]? with|some (.cells c elem _)=>some (elem,c.size)|_=>none)=_;simp
end
section
variable {P:CV}{N:Names}{C:Cx}{w:CU}{S:qad}{β:Pl}{B:Nat}{H:CW}
structure Reads (P:Program) (w:World) (S:qad) (k:K) (ys:List DV) (u:Value) (A:List Value):Prop where
 len:(Builtin.lenOf u).run P w=.ok ys.length w
 cells:∀n,n<=ys.length->∀w':World,w'.heap=w.heap->(Builtin.firstCells k.size n u).run P w'=.ok (A.take (n*k.size)).toArray w'
 size:A.length=ys.length*k.size
 rel:ERel w S k ys A
def qBG{k:K}{ys:Cy}{u:CP}{c:Nat->Nat->CP}{blk off len cap:Nat}(hu:u=.slice (some ⟨blk,off,none⟩) len cap)(hl:len=ys.length)
  (hc:∀j,j<ys.length->∀m,m<k.size->w.cell? ⟨blk,off+j*k.size+m,none⟩=some (c j m)/\flat (c j m)) (hr:∀j (h:j<ys.length),Al w S ys[j] (mkV k (c j))):∃A,Reads P w S k ys u A:=by
 subst hu hl;have hA:∀x,x<ys.length*k.size->x/k.size<ys.length/\x%k.size<k.size/\x/k.size*k.size+x%k.size=x:=by
  intro x hx;have hk:0<k.size:=by
   rcases Nat.eq_zero_or_pos k.size with h0|h0
   ·rw[h0]at hx;omega
   ·exact h0
  refine⟨(Nat.div_lt_iff_lt_mul hk).2 hx,Nat.mod_lt _ hk,?_⟩;rw[Nat.mul_comm];exact Nat.div_add_mod x k.size
 refine⟨(List.range (ys.length*k.size)).map λx=>c (x/k.size) (x%k.size),?_,?_,by simp,?_⟩
 ·simp[Builtin.lenOf]
 ·intro n hn w' hw';have hnk:n*k.size<=ys.length*k.size:=zzh _ hn;have:=run_loadCells (P:=P) w' ⟨blk,off,none⟩ (n*k.size) (λx=>c (x/k.size) (x%k.size)) (λj hj=>by
   obtain⟨h1,h2,h3⟩:=hA j (by omega);rw[qfk];have:=(hc _ h1 _ h2).1;have e:off+j/k.size*k.size+j%k.size=off+j:=by omega
   rw[e]at this;rw[<-this];simp only[World.cell?,hw'])
  simp only[Builtin.firstCells,this];congr 2;rw[<-List.map_take,List.take_range,Nat.min_eq_left hnk]
 ·refine⟨by simp,c,?_,hr⟩;intro j hj m hm;have hjm:j*k.size+m<ys.length*k.size:=by have:(j+1)*k.size<=ys.length*k.size:=zzh _ hj;rw[zzl,Nat.one_mul]at this;omega
  refine⟨?_,(hc j hj m hm).2⟩;rw[qpQ _ hjm];have e1:(j*k.size+m)%k.size=m:=by rw[Nat.add_comm,Nat.add_mul_mod_self_right,Nat.mod_eq_of_lt hm]
  have e2:(j*k.size+m)/k.size=j:=by rw[Nat.add_comm,Nat.add_mul_div_right _ _ (by omega),Nat.div_eq_of_lt hm,Nat.zero_add]
  rw[e1,e2]
def qqh{k:K}(a:CK Addr)(cap:Nat)(_t:CO):Reads P w S k ([]:Cy) (.slice a 0 cap) []:=by
 refine⟨by simp[Builtin.lenOf],?_,by simp,⟨by simp,λ_ _=>undef,λj hj=>absurd hj (zzm _),λj hj=>absurd hj (zzm _)⟩⟩;intro n hn w' _;have:n=0:=by simpa using hn
 subst this;cases a<;>simp[Builtin.firstCells,loadCells,loadCellsFrom]
def qmO(hH:HOK C B w S β H){k:K}{y:PV}{u:CP}{ys:Cy}(hy:Ac C w S β y u)(h:qbb H k y=some ys):∃A,Reads P w S k ys u A:=by
 unfold qbb at h;split at h
 ·rename_i k' es t;split at h
  ·rename_i hke;cases h;cases hy with
   |d _ _ hy=>
   cases hy with
   |l _ _ _ a cap blk off c c1 c2 c3 c4 c5=>
   cases hes:ys with
   |nil=>subst hes;exact⟨_,qqh a cap true⟩
   |cons e r=>
    rw[<-hes];have h0:0<ys.length:=by rw[hes];simp
    have hk:k=k':=by
     rcases Bool.or_eq_true _ _▸hke with hq|hq
     ·exact K.eq_spec hq
     ·rw[hes]at hq;simp at hq
    subst hk;exact qBG (c:=c) (by rw[c3 h0]) rfl (λj hj m hm=>⟨(c4 j hj m hm).1,(c4 j hj m hm).2.2⟩) c5
  ·cases h
 ·rename_i o k' off len t;split at h
  ·rename_i k'' ro es ho;split at h
   ·rename_i hc;simp only[zzf,zzq]at hc;obtain⟨⟨hk1,hk2⟩,hle⟩:=hc;have:=K.eq_spec hk1;subst this;have:=K.eq_spec hk2;subst this;cases h;cases hy with
    |r _ _ _ _ _ _ h0 hx=>
    have hlen:((es.drop off).take len).length=len:=by simp;omega
    unfold RelRf at hx;split at hx
    ·exact hx.elim
    ·rename_i hb;rw[hH.dead o hb]at ho;cases ho
    ·obtain⟨rfl,rfl,a,rfl⟩:=hx;exact⟨_,by simpa using qqh (P:=P) (w:=w) (S:=S) (k:=k) a 0 true⟩
    ·rename_i blk base k3 hb;obtain⟨e1,cap,a,rfl,e2,e3,e4,e',n,e5,e6⟩:=hx;subst e1;obtain⟨-,x,cells,e0,ho',hs,hw,hc⟩:=hH.live o blk base k3 hb;rw[ho]at ho';cases ho';obtain⟨-,c,hf,hr,-⟩:=hc;rcases Nat.eq_zero_or_pos len with h0|h0
     ·subst h0;have:(es.drop off).take 0=[]:=by simp
      rw[this];exact⟨_,qqh (some a) cap true⟩
     ·refine qBG (c:=λj=>c (off+j)) (by rw[e2 (by omega)]) hlen.symm ?_ ?_
      ·intro j hj m hm;have hj':off+j<es.length:=by omega
       have e7:base+off*k3.size+j*k3.size+m=base+(off+j)*k3.size+m:=by rw[zzl];omega
       rw[e7];exact⟨qiU hw (hf _ hj' m hm).1,(hf _ hj' m hm).2⟩
      ·intro j hj;have:=hr (off+j) (by omega);simpa[List.getElem_drop,List.getElem_take]using this
    ·exact hx.elim
   ·cases h
  ·cases h
 ·rename_i x;split at h
  ·rename_i hk;have:=K.eq_spec hk;subst this;cases h;cases hy with
   |d _ _ hy=>
   cases hy with
   |s _ s hs=>
   subst hs;refine⟨s.data.toList.map λb=>.int .u8 b.toNat,?_,?_,by simp[bytesOf,K.size],?_⟩
   ·simp[Builtin.lenOf,bytesOf]
   ·intro n hn w' _;simp only[Builtin.firstCells,K.size,Nat.mul_one,Sem.run_pure];congr 1;apply Array.ext';rw[Array.toList_map,ByteArray.data_extract,Array.toList_extract,List.extract_eq_take_drop];simp
   ·refine⟨by simp[bytesOf,K.size],λj _=>.int .u8 ((s.data.toList.getD j 0).toNat),?_,?_⟩
    ·intro j hj m hm;have:m=0:=by simp[K.size]at hm;exact hm
     subst this;have hj':j<s.data.toList.length:=by simpa[bytesOf]using hj
     simp only[K.size,Nat.mul_one,Nat.add_zero];refine⟨?_,rfl⟩;rw[zzj,zze hj'];simp[List.getD,zze hj']
    ·intro j hj;have hj':j<s.data.toList.length:=by simpa[bytesOf]using hj
     simp only[bytesOf,List.getElem_map,mkV,List.getD,zze hj',zzA];exact .i _ _
  ·cases h
 ·cases h
def ERel.append{k:K}{es ys:Cy}{A A':CL CP}(h:ERel w S k es A)(hl:A.length=es.length*k.size)(h':ERel w S k ys A'):ERel w S k (es++ys) (A++A'):=by
 obtain⟨h0,c,h1,h2⟩:=h;obtain⟨g0,c',g1,g2⟩:=h';refine⟨by simp[zzl];omega,(λj m=>if j<es.length then c j m else c' (j-es.length) m),?_,?_⟩
 ·intro j hj m hm;by_cases hje:j<es.length
  ·simp only[hje,if_true];have:j*k.size+m<A.length:=by have:(j+1)*k.size<=es.length*k.size:=zzh _ hje;rw[zzl,Nat.one_mul]at this;omega
   rw[List.getElem?_append_left this];exact h1 j hje m hm
  ·simp only[hje,if_false];have e:j*k.size+m=A.length+((j-es.length)*k.size+m):=by rw[hl,Nat.sub_mul];have:es.length*k.size<=j*k.size:=zzh _ (by omega);omega
   rw[e,List.getElem?_append_right (by omega),Nat.add_sub_cancel_left];refine g1 _ ?_ m hm;rw[zzp]at hj;omega
 ·intro j hj;by_cases hje:j<es.length
  ·simp only[hje,if_true];rw[List.getElem_append_left hje];exact h2 j hje
  ·simp only[hje,if_false];rw[List.getElem_append_right (by omega)];exact g2 _ _
def ERel.pad{k:K}{es:Cy}{A A':CL CP}(h:ERel w S k es A):ERel w S k es (A++A'):=by
 obtain⟨h0,c,h1,h2⟩:=h;refine⟨by rw[zzp];omega,c,?_,h2⟩;intro j hj m hm;have:=h1 j hj m hm;rw[List.getElem?_append_left]
 ·exact this
 ·exact (zzk.1 this.1).1
def ERel.ext{w':CU}{S':qad}{k:K}{es:Cy}{A:CL CP}(h:ERel w S k es A)(e:Ext B w S w' S'):ERel w' S' k es A:=by obtain⟨h0,c,h1,h2⟩:=h;exact⟨h0,c,h1,λj hj=>(h2 j hj).ext e⟩
def qvF(z:Array CP)(n:Nat):(Builtin.zeroCells z n).size=n*z.size:=by simp[Builtin.zeroCells]
def qum{ts:Array CQ}{t u e:CQ}{k:K}(h0:ts[0]? = some t)(h1:ts[1]? = some u)(ht:P.underlying t=some (.slice e))(hk:kq P e=some k)(hu:(∃e',P.underlying u=some (.slice e'))\/P.underlying u=some .string)
  {zv:CP} (hz:(P.info? e).bind (·.zero)=some zv) {base:CK Addr} {sLen sCap n:Nat} {uy:CP} {olds news:Array CP}
  (hlen:(Builtin.lenOf uy).run P w=.ok n w) (hold:(Builtin.firstCells k.size sLen (.slice base sLen sCap)).run P w.drew=.ok olds w.drew) (hnew:(Builtin.firstCells k.size n uy).run P w.drew=.ok news w.drew)
  (hg:sCap<sLen+n) (hb:(sLen+n)*P.bytesOf e<=140737488355328) (hb0:P.bytesOf e≠0) (ty:CQ) :
  ∃newCap,sLen+n<=newCap/\(Builtin.append_ ts ty #[.slice base sLen sCap,uy]).run P w=.ok (.slice (some ⟨w.heap.size,0,none⟩) (sLen+n) newCap) (w.drew.alloc (.cells (olds++news++Builtin.zeroCells zv.cells (newCap-(sLen+n))) e)):=by
 obtain⟨i,hi,hz'⟩:=zza.1 hz;have hbi:P.bytesOf e=i.bytes:=by simp[Program.bytesOf,hi]
 have hki:i.size=k.size:=by rw[<-qjj hk];simp[Program.cellsOf,hi]
 rw[hbi]at hb hb0;have hn:¬(sLen+n<=sCap):=by omega
 have h48:=growslice_fits hg hb;have h48':¬(281474976710656<Builtin.nextslicecap (sLen+n) sCap*i.bytes):=by omega
 refine⟨grownCap w (sLen+n) sCap e,?_,?_⟩
 ·simp only[grownCap,Question.cut];omega
 ·rcases hu with ⟨e',hu⟩|hu
  ·simp[Builtin.append_,h0,h1,qaK ht,qaK hu,sizeOf,typeInfo,zeroValue,hi,hz',hki,hlen,hn,hb0,h48',Question.forced,hold,hnew,newRow,grownCap]
  ·simp[Builtin.append_,h0,h1,qaK ht,qaK hu,sizeOf,typeInfo,zeroValue,hi,hz',hki,hlen,hn,hb0,h48',Question.forced,hold,hnew,newRow,grownCap]
def qnG{ts:Array CQ}{t u e:CQ}{k:K}(h0:ts[0]? = some t)(h1:ts[1]? = some u)(ht:P.underlying t=some (.slice e))(hk:kq P e=some k)(hu:(∃e',P.underlying u=some (.slice e'))\/P.underlying u=some .string)
  {base:CK Addr} {sLen sCap n:Nat} {uy:CP} {news:Array CP} {w':CU}
  (hlen:(Builtin.lenOf uy).run P w=.ok n w) (hnew:(Builtin.firstCells k.size n uy).run P w=.ok news w) (hst:(match base with|some a=>storeCells (a.add (sLen*k.size)) news.toList|none=>pure ()).run P w=.ok () w')
  (hg:sLen+n<=sCap) (ty:CQ) :
  (Builtin.append_ ts ty #[.slice base sLen sCap,uy]).run P w=.ok (.slice base (sLen+n) sCap) w':=by
 have hki:=qdQ hk;rcases hu with ⟨e',hu⟩|hu
 ·cases base with
  |none=>simp at hst;subst hst;simp[Builtin.append_,h0,h1,qaK ht,qaK hu,hki,hlen,hg,hnew]
  |some a=>simp at hst;simp[Builtin.append_,h0,h1,qaK ht,qaK hu,hki,hlen,hg,hnew,hst]
 ·cases base with
  |none=>simp at hst;subst hst;simp[Builtin.append_,h0,h1,qaK ht,qaK hu,hki,hlen,hg,hnew]
  |some a=>simp at hst;simp[Builtin.append_,h0,h1,qaK ht,qaK hu,hki,hlen,hg,hnew,hst]
def qsF(hH:HOK C B w S β H)(o:Nat)(hlt:o<H.length):HOK C B w S (upd β o .dead) (H.put o none)/\(β o≠.pend->Later β (upd β o .dead)):=by
 have hl:∀p,upd β o .dead p=β p\/upd β o .dead p=.dead:=λp=>by
  by_cases h:p=o
  ·subst h;exact .inr (qa5 _ _ _)
  ·exact .inl (qaC h)
 have hat:∀p blk base k,upd β o .dead p=.at blk base k->p≠o/\β p=.at blk base k:=λp blk base k h=>by
  by_cases hp:p=o
  ·subst hp;rw[qa5]at h;cases h
  ·rw[qaC hp]at h;exact⟨hp,h⟩
 have hlat:Later β (upd β o .dead):=λp=>(hl p).elim .inl (λh=>.inr (.inl h));have hsp:=spf hH (β':=upd β o .dead) (H':=H.put o none) (Ext.refl B w S) (λ_ _ _ h=>(qeF (by simp) h).2) (λ_ _ _ h=>qa7 (λh'=>(qeF (by simp) h).1 h'.symm)) (λ_ _ _ _=>rfl);refine⟨⟨?_,?_,?_,?_,?_,hsp.1,hsp.2⟩,λ_=>hlat⟩
 ·intro p blk base k h;obtain⟨h1,h2⟩:=hat p blk base k h;obtain⟨a1,x,cells,e,a2,a3,a4,a5⟩:=hH.live p blk base k h2;exact⟨a1,x,cells,e,by rw[qa7 (λh=>h1 h.symm)];exact a2,a3,a4,a5.ext (Ext.refl B w S) hlat (λ_ h=>h)⟩
 ·intro p h;by_cases hp:p=o
  ·subst hp;exact qdv hlt
  ·rw[qaC hp]at h;rw[qa7 (λh=>hp h.symm)];exact hH.dead p h
 ·intro p h;have hp:p≠o:=λhp=>by subst hp;rw[qa5]at h;cases h
  rw[qaC hp]at h;rw[qa7 (λh=>hp h.symm)];exact hH.Bq p h
 ·intro p p' blk base k base' k' h1 h2;exact hH.inj p p' blk base k base' k' (hat _ _ _ _ h1).2 (hat _ _ _ _ h2).2
 ·intro p h;rw[qa2]at h;rw[qaC (by omega)];exact hH.out p h
def qsH(hH:HOK C B w S β H){id:Nat}(hp:β id=.pend)(hlt:id<H.length)(k:K)(ro:Nat):HOK C B w S (upd β id .Bq) (H.put id (some (.sl k ro [])))/\Later β (upd β id .Bq):=by
 have hlat:=qne (x:=BO.Bq) hp;have hat:∀p blk base k,upd β id .Bq p=.at blk base k->p≠id/\β p=.at blk base k:=λp blk base k h=>by
  by_cases hp:p=id
  ·subst hp;rw[qa5]at h;cases h
  ·rw[qaC hp]at h;exact⟨hp,h⟩
 have hsp:=spf hH (β':=upd β id .Bq) (H':=H.put id (some (.sl k ro []))) (Ext.refl B w S) (λ_ _ _ h=>(qeF (by simp) h).2) (λ_ _ _ h=>qa7 (λh'=>(qeF (by simp) h).1 h'.symm)) (λ_ _ _ _=>rfl);refine⟨⟨?_,?_,?_,?_,?_,hsp.1,hsp.2⟩,hlat⟩
 ·intro p blk base k h;obtain⟨h1,h2⟩:=hat p blk base k h;obtain⟨a1,x,cells,e,a2,a3,a4,a5⟩:=hH.live p blk base k h2;exact⟨a1,x,cells,e,by rw[qa7 (λh=>h1 h.symm)];exact a2,a3,a4,a5.ext (Ext.refl B w S) hlat (λ_ h=>h)⟩
 ·intro p h;have hp:p≠id:=λhp=>by subst hp;rw[qa5]at h;cases h
  rw[qaC hp]at h;rw[qa7 (λh=>hp h.symm)];exact hH.dead p h
 ·intro p h;by_cases hp:p=id
  ·subst hp;exact⟨k,ro,qdv hlt⟩
  ·rw[qaC hp]at h;rw[qa7 (λh=>hp h.symm)];exact hH.Bq p h
 ·intro p p' blk base k base' k' h1 h2;exact hH.inj p p' blk base k base' k' (hat _ _ _ _ h1).2 (hat _ _ _ _ h2).2
 ·intro p h;rw[qa2]at h;rw[qaC (by omega)];exact hH.out p h
def qyx(hH:HOK C B w S β H){o id blk base base':Nat}{k:K}(hb:β o=.at blk base k)(hp:β id=.pend)(hlt:id<H.length)(hne:id≠o){cells cells':Array CP}{e:CQ}(hw:w.heap[blk]? = some (.cells cells e (0,0)))(hsz:cells'.size=cells.size)
  (hS:∀j,S blk j->cells'[j]? = cells[j]?) {x:Obj} (hc:∀β',Later β β'->OCells C (w.setRow blk cells') S β' cells' blk base' x) :
  HOK C B (w.setRow blk cells') S (upd (upd β o .dead) id (.at blk base' x.shape)) ((H.put o none).put id (some x))/\Later β (upd (upd β o .dead) id (.at blk base' x.shape)):=by
 have hB:=(hH.live o blk base k hb).1;have hext:=qit (S:=S) hB hw hsz hS;have holt:o<H.length:=by obtain⟨-,x0,-,-,ho,-⟩:=hH.live o blk base k hb;exact qic ho
 have hl1:Later β (upd β o .dead):=λp=>by
  by_cases h:p=o
  ·subst h;exact .inr (.inl (qa5 _ _ _))
  ·exact .inl (qaC h)
 have hlat:Later β (upd (upd β o .dead) id (.at blk base' x.shape)):=hl1.trans (qne (by rw[qaC hne];exact hp));have hat:∀p blk1 base1 k1,upd (upd β o .dead) id (.at blk base' x.shape) p=.at blk1 base1 k1->(p=id/\blk1=blk/\base1=base'/\k1=x.shape)\/(p≠id/\p≠o/\β p=.at blk1 base1 k1):=by
  intro p blk1 base1 k1 h;by_cases h1:p=id
  ·subst h1;rw[qa5]at h;cases h;exact .inl ⟨rfl,rfl,rfl,rfl⟩
  ·rw[qaC h1]at h;by_cases h2:p=o
   ·subst h2;rw[qa5]at h;cases h
   ·rw[qaC h2]at h;exact .inr ⟨h1,h2,h⟩
 have hsp:=spf hH (β':=upd (upd β o .dead) id (.at blk base' x.shape)) (H':=(H.put o none).put id (some x)) hext (λ_ _ _ h=>(qeF (by simp) (qeF (by simp) h).2).2)
  (λ_ _ _ h=>by rw[qa7 (λh'=>(qeF (by simp) h).1 h'.symm),qa7 (λh'=>(qeF (by simp) (qeF (by simp) h).2).1 h'.symm)]) (λo' blk' _ h=>setRow_other w blk blk' cells' (hH.spne h hw))
 refine⟨⟨?_,?_,?_,?_,?_,hsp.1,hsp.2⟩,hlat⟩
 ·intro p blk1 base1 k1 h;rcases hat p blk1 base1 k1 h with ⟨rfl,rfl,rfl,rfl⟩|⟨h1,h2,h3⟩
  ·exact⟨hB,x,cells',e,qdv (by rw[qa2];exact hlt),rfl,setRow_heap w _ cells cells' e (0,0) hw,hc _ hlat⟩
  ·have hnb:blk1≠blk:=λhq=>h2 (hH.inj p o blk1 base1 k1 base k h3 (hq▸hb));obtain⟨a1,x0,c0,e0,a2,a3,a4,a5⟩:=hH.live p blk1 base1 k1 h3;exact⟨a1,x0,c0,e0,by rw[qa7 (λh=>h1 h.symm),qa7 (λh=>h2 h.symm)];exact a2,a3,by rw[setRow_other w blk blk1 cells' hnb];exact a4,a5.ext hext hlat (λ_ h=>h)⟩
 ·intro p h;have h1:p≠id:=λh1=>by subst h1;rw[qa5]at h;cases h
  rw[qaC h1]at h;rw[qa7 (λh=>h1 h.symm)];by_cases h2:p=o
  ·subst h2;exact qdv holt
  ·rw[qaC h2]at h;rw[qa7 (λh=>h2 h.symm)];exact hH.dead p h
 ·intro p h;have h1:p≠id:=λh1=>by subst h1;rw[qa5]at h;cases h
  rw[qaC h1]at h;have h2:p≠o:=λh2=>by subst h2;rw[qa5]at h;cases h
  rw[qaC h2]at h;rw[qa7 (λh=>h1 h.symm),qa7 (λh=>h2 h.symm)];exact hH.Bq p h
 ·intro p p' blk1 base1 k1 base2 k2 h1 h2;rcases hat _ _ _ _ h1 with ⟨rfl,rfl,rfl,rfl⟩|⟨a1,a2,a3⟩
  ·rcases hat _ _ _ _ h2 with ⟨rfl,-,-,-⟩|⟨b1,b2,b3⟩
   ·rfl
   ·exact absurd (hH.inj p' o _ _ _ _ _ b3 hb) b2
  ·rcases hat _ _ _ _ h2 with ⟨rfl,rfl,rfl,rfl⟩|⟨b1,b2,b3⟩
   ·exact absurd (hH.inj p o _ _ _ _ _ a3 hb) a2
   ·exact hH.inj p p' blk1 base1 k1 base2 k2 a3 b3
 ·intro p h;rw[qa2,qa2]at h;have h1:p≠id:=by omega
  have h2:p≠o:=by omega
  rw[qaC h1,qaC h2];exact hH.out p h
def qeJ(C:Cx)(B:Nat)(w:CU)(S:qad)(β:Pl)(H:CW)(id:Nat)(v:PV)(H':CW)(u:CP)(w':CU):Prop:=
 ∃S' β',Ext B w S w' S'/\Swf w' S'/\HOK C B w' S' β' H'/\Later β β'/\Ac C w' S' β' v u/\H'.length=H.length/\Kp H.length id β β'
def qsC(hH:HOK C B w S β H)(hS:Swf w S)(hB:B<=w.heap.size){id:Nat}(hp:β id=.pend)(hlt:id<H.length){k:K}{es ys:Cy}{A A':CL CP}{e:CQ}{zv:CP}(hzs:zv.cells.size=k.size)
  (h1:ERel w S k es A) (hl1:A.length=es.length*k.size) (h2:ERel w S k ys A') (hl2:A'.length=ys.length*k.size) {newCap:Nat} (hc:es.length+ys.length<=newCap) (ro:Nat) :
  qeJ C B w S β H id (.r id k 0 (es.length+ys.length) false) (H.put id (some (.sl k ro (es++ys)))) (.slice (some ⟨w.heap.size,0,none⟩) (es.length+ys.length) newCap)
   (w.drew.alloc (.cells (A.toArray++A'.toArray++Builtin.zeroCells zv.cells (newCap-(es.length+ys.length))) e)):=by
 have hr:=((h1.append hl1 h2).ext (qb4 (B:=B))).pad (A':=(Builtin.zeroCells zv.cells (newCap-(es.length+ys.length))).toList);have hS':Swf w.drew S:=hS.ext (qb4 (B:=B));obtain⟨a1,a2,a3,a4⟩:=qpW hH.drew hS' hB hp hlt hr e ro (len:=es.length+ys.length) (cap:=newCap) (tt:=false) (by
  have:=qvF zv.cells (newCap-(es.length+ys.length));rw[hzs]at this;simp only[zzp,Array.length_toList,this,hl1,hl2];rw[<-zzl,<-zzl];exact zzh _ (by omega)) hc (λh=>by cases h)
 have e1:(A++A'++(Builtin.zeroCells zv.cells (newCap-(es.length+ys.length))).toList).toArray=A.toArray++A'.toArray++Builtin.zeroCells zv.cells (newCap-(es.length+ys.length)):=by apply Array.ext';simp
 rw[e1]at a1 a2 a4;exact⟨S,_,(qb4 (B:=B)).trans a1,hS'.ext a1,a2,a3,a4,qa2 _ _ _,qeV _ _ _ _⟩
def Reads.drew{k:K}{ys:Cy}{u:CP}{A:CL CP}(h:Reads P w S k ys u A):(Builtin.firstCells k.size ys.length u).run P w.drew=.ok A.toArray w.drew:=by have:=h.cells ys.length (zzt _) w.drew rfl;rw[<-h.size,List.take_length]at this;exact this
def Reads.here{k:K}{ys:Cy}{u:CP}{A:CL CP}(h:Reads P w S k ys u A):(Builtin.firstCells k.size ys.length u).run P w=.ok A.toArray w:=by have:=h.cells ys.length (zzt _) w rfl;rw[<-h.size,List.take_length]at this;exact this
def qrv(hH:HOK C B w S β H)(hS:Swf w S)(hB:B<=w.heap.size){id:Nat}(hp:β id=.pend)(hlt:id<H.length)
  {ts:Array CQ} {t u e:CQ} {k:K} (h0:ts[0]? = some t) (h1:ts[1]? = some u) (ht:P.underlying t=some (.slice e)) (hk:kq P e=some k) (hu:(∃e',P.underlying u=some (.slice e'))\/P.underlying u=some .string)
  {z:DV} (hz:zq P e=some z) (hb0:P.bytesOf e≠0) (ty:CQ) {x y v:PV} {ux uy:CP} (hx:Ac C w S β x ux) (hy:Ac C w S β y uy) {H':CW} (h:qcb H id k (P.bytesOf e) x y=some (v,H')) :
  ∃ur w',(Builtin.append_ ts ty #[ux,uy]).run P w=.ok ur w'/\qeJ C B w S β H id v H' ur w':=by
 obtain⟨kz,zv,hkz,hzv,hfz,hrz⟩:=qhC hz;have hzs:zv.cells.size=k.size:=by have:=(qnY (C:=C) (w:=w) (S:=S) (β:=β) hfz hrz).2;rw[hk]at hkz;cases hkz;exact this
 have stays:Ac C w S β x ux->qeJ C B w S β H id x H ux w:=λhx=>⟨S,β,Ext.refl _ _ _,hS,hH,Later.refl _,hx,rfl,Kp.refl _ _ _⟩;unfold qcb at h;split at h
 ·cases h
 ·rename_i ys hys;obtain⟨Ay,hry⟩:=qmO (P:=P) hH hy hys;split at h
  ·rename_i k' es tt;split at h
   ·rename_i htt;split at h
    ·rename_i hbound;have hxx:=hx;cases hxx with
     |d _ _ hx'=>
     cases hx' with
     |l _ _ _ a cap blk off c c1 c2 c3 c4 c5=>
     have hcap:=c2 htt;subst hcap;have grow:∀Ax,Reads P w S k es (.slice a es.length es.length) Ax->0<ys.length->∃ur w',(Builtin.append_ ts ty #[.slice a es.length es.length,uy]).run P w=.ok ur w'/\
       qeJ C B w S β H id (.r id k 0 (es.length+ys.length) false) (H.put id (some (.sl k 0 (es++ys)))) ur w':=by
      intro Ax hrx hpos;obtain⟨nc,g1,g2⟩:=qum h0 h1 ht hk hu hzv hry.len hrx.drew hry.drew (by omega) (by simpa using hbound) hb0 ty;exact⟨_,_,g2,qsC hH hS hB hp hlt hzs hrx.rel hrx.size hry.rel hry.size g1 0⟩
     split at h
     ·cases h;have hrx:=qqh (P:=P) (w:=w) (S:=S) (k:=k) a 0 true;cases hyl:ys with
      |nil=>
       subst hyl;have hr:=qnG (w':=w) h0 h1 ht hk hu (base:=a) (sLen:=0) (sCap:=0) hry.len hry.here (by
        have hA:Ay=[]:=by have:=hry.size;simpa using this
        subst hA;cases a<;>simp[storeCells]) (by simp) ty
       simp only[List.length_nil,Nat.add_zero]at hr⊢;obtain⟨v1,v2⟩:=qsH hH hp hlt k 0;refine⟨_,_,hr,S,_,Ext.refl _ _ _,hS,v1,v2,.r _ _ _ _ _ _ rfl ?_,qa2 _ _ _,qeV _ _ _ _⟩;unfold RelRf;rw[qa5];exact⟨rfl,rfl,a,rfl⟩
      |cons y0 yr=>rw[<-hyl];have:=grow [] hrx (by rw[hyl];simp);simpa using this
     ·rename_i e0 er;split at h
      ·rename_i hke;have:=K.eq_spec hke;subst this;split at h
       ·cases h;have hr:=qnG (w':=w) h0 h1 ht hk hu (base:=a) (sLen:=(e0::er).length) (sCap:=(e0::er).length) hry.len hry.here (by
         have hA:Ay=[]:=by have:=hry.size;simpa using this
         subst hA;cases a<;>simp[storeCells]) (by simp) ty
        exact⟨_,_,by simpa using hr,stays hx⟩
       ·cases h;obtain⟨Ax,hrx⟩:=qmO (P:=P) hH (k:=k) (y:=.d (.l k (e0::er) tt)) (ys:=e0::er) hx (by simp[qbb,show K.eq k k=true from hke]);exact grow Ax hrx (by simp)
      ·cases h
    ·cases h
   ·cases h
  ·rename_i o k' off len tt;split at h
   ·rename_i k'' ro es ho;split at h
    ·rename_i hcnd;simp only[zzf,zzq]at hcnd;obtain⟨⟨⟨hk1,hk2⟩,hle⟩,hbound⟩:=hcnd;have:=K.eq_spec hk1;subst this;have:=K.eq_spec hk2;subst this;have hpl:((es.drop off).take len).length=len:=by simp;omega
     obtain⟨Ax,hrx⟩:=qmO (P:=P) hH (k:=k) (y:=.r o k off len tt) (ys:=(es.drop off).take len) hx (by simp[qbb,ho,hle,show K.eq k k=true from hk1]);have holt:=qic ho;cases hx with
     |r _ _ _ _ _ _ hfx hxr=>
     split at h
     ·
      rename_i htt;split at h
      ·cases h;have hsl:∃a cap,ux=.slice a len cap/\len<=cap:=by
        unfold RelRf at hxr;split at hxr
        ·exact hxr.elim
        ·rename_i hb;rw[hH.dead o hb]at ho;cases ho
        ·obtain⟨-,rfl,a,rfl⟩:=hxr;exact⟨_,_,rfl,zzt _⟩
        ·obtain⟨-,cap,a,rfl,-,h3,-⟩:=hxr;exact⟨_,_,rfl,h3⟩
        ·exact hxr.elim
       obtain⟨a,cap,rfl,hlc⟩:=hsl;have hr:=qnG (w':=w) h0 h1 ht hk hu (base:=a) (sLen:=len) (sCap:=cap) hry.len hry.here (by
        have hA:Ay=[]:=by have:=hry.size;simpa using this
        subst hA;cases a<;>simp[storeCells]) (by simpa using hlc) ty
       exact⟨_,_,by simpa using hr,stays (.r _ _ _ _ _ _ hfx hxr)⟩
      ·cases h;have hsl:∃a,ux=.slice a len len:=by
        unfold RelRf at hxr;split at hxr
        ·exact hxr.elim
        ·rename_i hb;rw[hH.dead o hb]at ho;cases ho
        ·obtain⟨-,rfl,a,rfl⟩:=hxr;exact⟨_,rfl⟩
        ·obtain⟨-,cap,a,rfl,-,h3,h4,-⟩:=hxr;have:=h4 htt;subst this;exact⟨_,rfl⟩
        ·exact hxr.elim
       obtain⟨a,rfl⟩:=hsl;have hd:=hrx.drew;rw[hpl]at hd;obtain⟨nc,g1,g2⟩:=qum h0 h1 ht hk hu hzv hry.len hd hry.drew (by simp) (by simpa using hbound) hb0 ty;have:=qsC (e:=e) hH hS hB hp hlt hzs hrx.rel hrx.size hry.rel hry.size (newCap:=nc) (by rw[hpl];exact g1) 0;rw[hpl]at this;exact⟨_,_,g2,this⟩
     ·split at h
      ·rename_i htt hro;cases h;have hne:id≠o:=λhq=>by subst hq;unfold RelRf at hxr;rw[hp]at hxr;exact hxr
       obtain⟨hH1,hl1⟩:=qsF hH o holt;have hnp:β o≠.pend:=λhq=>by unfold RelRf at hxr;rw[hq]at hxr;exact hxr
       have hl1:=hl1 hnp;have hp1:upd β o .dead id=.pend:=by rw[qaC hne];exact hp
       have hlt1:id<(H.put o none).length:=by rw[qa2];exact hlt
       have fin:∀{v:PV} {H2:CW} {ur:CP} {w':CU},qeJ C B w S (upd β o .dead) (H.put o none) id v H2 ur w'->qeJ C B w S β H id v H2 ur w':=by rintro v H2 ur w' ⟨S',β',a1,a2,a3,a4,a5,a6,a7⟩;rw[qa2]at a7;exact⟨S',β',a1,a2,a3,hl1.trans a4,a5,by rw[a6,qa2],(qzM _ _ hnp _).trans a7⟩
       have grow:∀(a:CK Addr) (cap:Nat),ux=.slice a len cap->cap<len+ys.length->∃ur w',(Builtin.append_ ts ty #[ux,uy]).run P w=.ok ur w'/\
         qeJ C B w S β H id (.r id k 0 (len+ys.length) false) ((H.put o none).put id (some (.sl k (ro-off) ((es.drop off).take len++ys)))) ur w':=by
        rintro a cap rfl hg;have hd:=hrx.drew;rw[hpl]at hd;obtain⟨nc,g1,g2⟩:=qum h0 h1 ht hk hu hzv hry.len hd hry.drew hg (by simpa using hbound) hb0 ty;have:=qsC (e:=e) hH1 hS hB hp1 hlt1 hzs hrx.rel hrx.size hry.rel hry.size (newCap:=nc) (by rw[hpl];exact g1) (ro-off);rw[hpl]at this;exact⟨_,_,g2,fin this⟩
       have hxr':=hxr;unfold RelRf at hxr';split at hxr'
       ·exact hxr'.elim
       ·rename_i hb;rw[hH.dead o hb]at ho;cases ho
       ·rename_i hb;obtain⟨rfl,rfl,a,rfl⟩:=hxr';cases hyl:ys with
        |nil=>
         subst hyl;have hr:=qnG (w':=w) h0 h1 ht hk hu (base:=a) (sLen:=0) (sCap:=0) hry.len hry.here (by
          have hA:Ay=[]:=by have:=hry.size;simpa using this
          subst hA;cases a<;>simp[storeCells]) (by simp) ty
         obtain⟨k0,ro0,hv⟩:=hH.Bq o hb;rw[ho]at hv;cases hv;obtain⟨v1,v2⟩:=qsH hH1 hp1 hlt1 k (ro-0);refine⟨_,_,hr,fin ⟨S,_,Ext.refl _ _ _,hS,by simpa using v1,v2,.r _ _ _ _ _ _ rfl ?_,qa2 _ _ _,qeV _ _ _ _⟩⟩;unfold RelRf;rw[qa5];exact⟨rfl,rfl,a,rfl⟩
        |cons y0 yr=>rw[<-hyl];exact grow a 0 rfl (by rw[hyl];simp)
       ·rename_i blk base k3 hb;obtain⟨e1,cap,a,rfl,e2,e3,-,e',n,e5,e6⟩:=hxr';subst e1;rcases Nat.lt_or_ge cap (len+ys.length)with hg|hg
        ·exact grow (some a) cap rfl hg
        ·obtain⟨hBb,x',cells,e0,ho',hs,hw,hc⟩:=hH.live o blk base k3 hb;rw[ho]at ho';cases ho';obtain⟨hbs,c,hf,hr,hn⟩:=hc;have hcs:n=cells.size:=by unfold World.shape? at e5;rw[hw]at e5;cases e5;rfl
         subst hcs;have hAl:Ay.length=ys.length*k3.size:=hry.size;have hT:base+off*k3.size+len*k3.size+Ay.length<=cells.size:=by rw[hAl];have h3:(off+len+ys.length)*k3.size<=(off+cap)*k3.size:=zzh _ (by omega);rw[zzl,zzl]at h3;omega
         have hsz:(putAt cells.toList (base+off*k3.size+len*k3.size) Ay).toArray.size=cells.size:=by have:=qdw (l:=cells.toList) (c:=base+off*k3.size+len*k3.size) (xs:=Ay) (by simpa using hT);simpa using this
         have hget:∀j,(putAt cells.toList (base+off*k3.size+len*k3.size) Ay).toArray[j]? = if base+off*k3.size+len*k3.size<=j/\j<base+off*k3.size+len*k3.size+Ay.length then Ay[j-(base+off*k3.size+len*k3.size)]? else cells[j]? :=by intro j;have:=qeE (l:=cells.toList) (c:=base+off*k3.size+len*k3.size) (xs:=Ay) (by simpa using hT) j;rw[List.getElem?_toArray,this];simp
         have hro3:ro*k3.size<=(off+len)*k3.size:=zzh _ hro;rw[zzl]at hro3;have hkeep:∀j,S blk j->(putAt cells.toList (base+off*k3.size+len*k3.size) Ay).toArray[j]? = cells[j]? :=by intro j hj;rw[hget,if_neg];intro hc;exact hn j (by omega) hj
         have hfl:∀v∈Ay,v.oneCell'=true:=by
          intro v hv;obtain⟨x,hx,rfl⟩:=List.mem_iff_getElem.1 hv;obtain⟨-,cy,hcy,-⟩:=hry.rel;rw[hAl]at hx;have hk0:0<k3.size:=by
           rcases Nat.eq_zero_or_pos k3.size with h0|h0
           ·rw[h0]at hx;omega
           ·exact h0
          have:=hcy (x/k3.size) ((Nat.div_lt_iff_lt_mul hk0).2 hx) (x%k3.size) (Nat.mod_lt _ hk0);have e1:x/k3.size*k3.size+x%k3.size=x:=by rw[Nat.mul_comm];exact Nat.div_add_mod x k3.size
          rw[e1,zze (by omega),zzb]at this;rw[this.1];exact this.2
         have hst:(storeCells (a.add (len*k3.size)) Ay).run P w=.ok () (w.setRow blk (putAt cells.toList (base+off*k3.size+len*k3.size) Ay).toArray):=by
          rcases Nat.eq_zero_or_pos ys.length with h0|h0
          ·have hA:Ay=[]:=by
            have:Ay.length=0:=by rw[hAl,h0,Nat.zero_mul]
            exact List.eq_nil_of_length_eq_zero this
           subst hA;have e1:(putAt cells.toList (base+off*k3.size+len*k3.size) ([]:CL CP)).toArray=cells:=by apply Array.ext';simp[putAt]
           rw[e1,setRow_self w blk cells e0 (0,0) hw];simp[storeCells]
          ·rw[e2 (by omega),qfk];have:=run_storeCells_at P blk (base+off*k3.size+len*k3.size) e0 Ay 0 cells w hw (by simpa using hT) hfl;simpa[putAt]using this
         have hrun:=qnG (w':=w.setRow blk (putAt cells.toList (base+off*k3.size+len*k3.size) Ay).toArray) h0 h1 ht hk hu (base:=some a) (sLen:=len) (sCap:=cap) hry.len hry.here (by simpa using hst) hg ty;have hext:=qit (S:=S) (cells':=(putAt cells.toList (base+off*k3.size+len*k3.size) Ay).toArray) hBb hw hsz hkeep;have hmv:=qyx (id:=id) (base':=base+off*k3.size) hH hb hp hlt hne hw hsz hkeep (x:=.sl k3 (ro-off) ((es.drop off).take len++ys)) (by
          intro β' hβ';obtain⟨-,cy,hcy,hry'⟩:=hry.rel;refine⟨?_,(λj m=>if j<len then c (off+j) m else cy (j-len) m),?_,?_,?_⟩
          ·rw[hsz,zzp,hpl,zzl];omega
          ·intro j hj m hm;rw[zzp,hpl]at hj;rw[hget];by_cases hjl:j<len
           ·simp only[hjl,if_true];have h3:(j+1)*k3.size<=len*k3.size:=zzh _ hjl;rw[zzl,Nat.one_mul]at h3;rw[if_neg (by omega)];have:=hf (off+j) (by omega) m hm;rw[zzl]at this;have e1:base+off*k3.size+j*k3.size+m=base+(off*k3.size+j*k3.size)+m:=by omega
            rw[e1];exact this
           ·simp only[hjl,if_false];have e1:j*k3.size=len*k3.size+(j-len)*k3.size:=by rw[<-zzl];congr 1;omega
            have h3:(j-len+1)*k3.size<=ys.length*k3.size:=zzh _ (by omega);rw[zzl,Nat.one_mul]at h3;rw[if_pos (by omega)];have:=hcy (j-len) (by omega) m hm;have e3:base+off*k3.size+j*k3.size+m-(base+off*k3.size+len*k3.size)=(j-len)*k3.size+m:=by omega
            rw[e3];exact this
          ·intro j hj;rw[zzp,hpl]at hj;by_cases hjl:j<len
           ·simp only[hjl,if_true];rw[List.getElem_append_left (by rw[hpl];exact hjl)];have:=(hr (off+j) (by omega)).ext hext;simpa[List.getElem_drop,List.getElem_take]using this
           ·simp only[hjl,if_false];rw[List.getElem_append_right (by rw[hpl];omega)];simp only[hpl];exact (hry' (j-len) (by omega)).ext hext
          ·intro j hj;refine hn j ?_;have h3:ro*k3.size<=off*k3.size+(ro-off)*k3.size:=by rw[<-zzl];exact zzh _ (by omega)
           omega)
         refine⟨_,_,hrun,S,_,hext,hS.ext hext,hmv.1,hmv.2,.r _ _ _ _ _ _ rfl ?_,by rw[qa2,qa2],(qzM _ _ hnp _).trans (qeV _ _ _ _)⟩;unfold RelRf;rw[qa5];refine⟨rfl,cap,a,rfl,λh=>by rw[e2 h];simp,hg,(λh=>by cases h),e',cells.size,hext.shape _ _ _ e5,?_⟩;rw[zzl]at e6;simp only[Nat.zero_add];omega
       ·exact hxr'.elim
      ·cases h
    ·cases h
   ·cases h
  ·cases h
def qKk(hH:HOK C B w S β H)(hS:Swf w S)(hB:B<=w.heap.size){id:Nat}(hp:β id=.pend)(hlt:id<H.length){t e:CQ}{k:K}(ht:P.underlying t=some (.slice e))(hk:kq P e=some k)
  {z:DV} (hz:zq P e=some z) (hb0:P.bytesOf e≠0) {x y:PV} {ux uy:CP} (hx:Ac C w S β x ux) (hy:Ac C w S β y uy) {n c:Int} (hn:asI x=some n) (hc:asI y=some c) (hcnd:0<=n/\n<=c/\c*P.bytesOf e<=2^47) :
  ∃ur w',(Instr.makeSlice t ux uy).run P w=.ok ur w'/\qeJ C B w S β H id (.r id k 0 n.toNat false) (H.put id (some (.sl k 0 (List.replicate n.toNat z)))) ur w':=by
 obtain⟨kz,zv,hkz,hzv,hfz,hrz⟩:=qhC hz;rw[hk]at hkz;cases hkz;obtain⟨i,hi,hz'⟩:=zza.1 hzv;have hbi:P.bytesOf e=i.bytes:=by simp[Program.bytesOf,hi]
 obtain⟨h1,h2,h3⟩:=hcnd;rw[hbi]at h3 hb0;obtain⟨k1,rfl⟩:=qhT hx hn;obtain⟨k2,rfl⟩:=qhT hy hc;have hb1:(1:Int)<=i.bytes:=by omega
 have hc47:c<=2^47:=by have:c*1<=c*i.bytes:=Int.mul_le_mul_of_nonneg_left hb1 (by omega);omega
 have hwrap:∀m:Int,0<=m->m<=2^47->IntKind.i64.wrap m=m:=by intro m hm1 hm2;have e1:m%(2^64:Int)=m:=Int.emod_eq_of_lt hm1 (by omega);simp only[IntKind.wrap,IntKind.bits,e1];rw[if_neg];simp;intro _;omega
 have hzc:=(qnY (C:=C) (w:=w) (S:=S) (β:=β) hfz hrz).2;have hrow:=qvG (w:=w) (S:=S) (n:=c.toNat) hfz hrz (if c.toNat*k.size=0 then #[]else zv.cells) (λh=>by rw[if_neg h]);obtain⟨q0,cf,q1,q2⟩:=hrow;have hrow':ERel w S k (List.replicate n.toNat z) ((Array.range (c.toNat*k.size)).map ((if c.toNat*k.size=0 then #[]else zv.cells)[· % (if c.toNat*k.size=0 then #[]else zv.cells).size]!)).toList:=by
  refine⟨?_,cf,?_,?_⟩
  ·simp only[List.length_replicate,Array.toList_map,Array.toList_range,zzo,List.length_range];exact zzh _ (by omega)
  ·intro j hj m hm;rw[List.length_replicate]at hj;exact q1 j (by rw[List.length_replicate];omega) m hm
  ·intro j hj;rw[List.length_replicate]at hj;have:=q2 j (by rw[List.length_replicate];omega);rw[List.getElem_replicate]at this⊢;exact this
 obtain⟨a1,a2,a3,a4⟩:=qpW hH hS hB hp hlt hrow' e 0 (len:=n.toNat) (cap:=c.toNat) (tt:=false) (by simp) (by omega) (λh=>by cases h);refine⟨_,_,?_,S,_,a1,hS.ext a1,a2,a3,a4,qa2 _ _ _,qeV _ _ _ _⟩;have hbc:¬(i.bytes*c>(2:Int)^48):=by rw[Int.mul_comm];omega
 have hki:i.size=k.size:=by rw[<-qjj hk];simp[Program.cellsOf,hi]
 have w1:=hwrap n h1 (by omega);have w2:=hwrap c (by omega) hc47;by_cases h0:c.toNat*k.size=0
 ·simp[Instr.makeSlice,qaK ht,asInt,asIntOf,typeInfo,hi,w1,w2,sizeOf,hki,h0,newRow];rw[if_neg (by omega)];congr 3;apply Array.ext';simp
 ·simp[Instr.makeSlice,qaK ht,asInt,asIntOf,typeInfo,hi,w1,w2,sizeOf,hki,h0,newRow,zeroValue,hz'];rw[if_neg (by omega)];congr 3;apply Array.ext';simp
end
section
variable {P:CV}{N:Names}{C:Cx}{w:CU}{S:qad}{β:Pl}{B:Nat}{H:CW}
def qBz{o:Nat}{x:Obj}(h:H.obj o=some x):H.put o (some x)=H:=by
 have hlt:=qic h;unfold Heap.obj at h;unfold Heap.put;have:H[o]? = some (some x):=by
  split at h
  ·rename_i y hy;subst h;exact hy
  ·cases h
 obtain⟨h1,h2⟩:=zzk.1 this;rw[<-h2];exact List.set_getElem_self h1
def qO0{k:K}{ys:Cy}{u:CP}{A:CL CP}(h:Reads P w S k ys u A):∀v∈A,v.oneCell'=true:=by
 intro v hv;obtain⟨x,hx,rfl⟩:=List.mem_iff_getElem.1 hv;obtain⟨-,cy,hcy,-⟩:=h.rel;have hAl:=h.size;rw[hAl]at hx;have hk0:0<k.size:=by
  rcases Nat.eq_zero_or_pos k.size with h0|h0
  ·rw[h0]at hx;omega
  ·exact h0
 have:=hcy (x/k.size) ((Nat.div_lt_iff_lt_mul hk0).2 hx) (x%k.size) (Nat.mod_lt _ hk0);have e1:x/k.size*k.size+x%k.size=x:=by rw[Nat.mul_comm];exact Nat.div_add_mod x k.size
 rw[e1,zze (by omega),zzb]at this;rw[this.1];exact this.2
def qoL{ts:Array CQ}{t e:CQ}{k:K}(h0:ts[0]? = some t)(ht:P.underlying t=some (.slice e))(hk:kq P e=some k){base:CK Addr}{dl cap n m:Nat}{uy:CP}{news:Array CP}{w':CU}
  (hlen:(Builtin.lenOf uy).run P w=.ok m w) (hn:n=min m dl) (hnew:(Builtin.firstCells k.size n uy).run P w=.ok news w) (hst:(match base with|some a=>storeCells a news.toList|none=>pure ()).run P w=.ok () w') (ty:CQ) :
  (Builtin.copy_ ts ty #[.slice base dl cap,uy]).run P w=.ok (.int .i64 n) w':=by
 have hki:=qdQ hk;have hn':Nat.min m dl=n:=hn.symm;cases base with
 |none=>simp at hst;subst hst;simp[Builtin.copy_,h0,qaK ht,hki,hlen,hn',hnew,goInt]
 |some a=>simp at hst;simp[Builtin.copy_,h0,qaK ht,hki,hlen,hn',hnew,hst,goInt]
def qrV(hH:HOK C B w S β H)(hS:Swf w S){ts:Array CQ}{t e:CQ}{k:K}(h0:ts[0]? = some t)(ht:P.underlying t=some (.slice e))(hk:kq P e=some k){o off len ro:Nat}{tt:CO}{es ys:Cy}{y:PV}{ux uy:CP}
  (hx:Ac C w S β (.r o k off len tt) ux) (ho:H.obj o=some (.sl k ro es)) (hle:off+len<=es.length) (hro:ro<=off) (hy:Ac C w S β y uy) (hys:qbb H k y=some ys) (ty:CQ) :
  ∃w',(Builtin.copy_ ts ty #[ux,uy]).run P w=.ok (.int .i64 ((min ys.length len:Nat):Int)) w'/\Ext B w S w' S/\Swf w' S/\HOK C B w' S β (H.put o (some (.sl k ro (putAt es off (ys.take (min ys.length len)))))):=by
 obtain⟨A,hA⟩:=qmO (P:=P) hH hy hys;generalize hn:min ys.length len=n;have hny:n<=ys.length:=by omega
 have hnl:n<=len:=by omega
 have hnew:=hA.cells n hny w rfl;cases hx with
 |r _ _ _ _ _ _ hfx hxr=>
 have hxr':=hxr;unfold RelRf at hxr';split at hxr'
 ·exact hxr'.elim
 ·rename_i hb;rw[hH.dead o hb]at ho;cases ho
 ·rename_i hb;obtain⟨rfl,rfl,a,rfl⟩:=hxr';have hn0:n=0:=by omega
  subst hn0;refine⟨w,qoL h0 ht hk hA.len (by omega) hnew (by cases a<;>simp[storeCells]) ty,Ext.refl _ _ _,hS,?_⟩;have:putAt es 0 (ys.take 0)=es:=by simp[putAt]
  rw[this,qBz ho];exact hH
 ·rename_i blk base k3 hb;obtain⟨e1,cap,a,rfl,e2,e3,-,e',m,e5,e6⟩:=hxr';subst e1;obtain⟨hBb,x',cells,e0,ho',hs,hw,hc⟩:=hH.live o blk base k3 hb;rw[ho]at ho';cases ho';obtain⟨hbs,c,hf,hr,hnS⟩:=hc;rcases Nat.eq_zero_or_pos n with h0n|h0n
  ·rw[h0n];rw[h0n]at hnew hn;refine⟨w,qoL h0 ht hk hA.len hn.symm hnew (by simp[storeCells]) ty,Ext.refl _ _ _,hS,?_⟩;have:putAt es off (ys.take 0)=es:=by simp[putAt]
   rw[this,qBz ho];exact hH
  ·have hcs:m=cells.size:=by unfold World.shape? at e5;rw[hw]at e5;cases e5;rfl
   subst hcs;have haddr:=e2 (by omega);have hAl:(A.take (n*k3.size)).length=n*k3.size:=by rw[zzI,hA.size];have:=zzh k3.size hny;omega
   have h3:(off+n)*k3.size<=es.length*k3.size:=zzh _ (by omega);rw[zzl]at h3;have hT:base+off*k3.size+(A.take (n*k3.size)).length<=cells.size:=by rw[hAl];omega
   have hsz:(putAt cells.toList (base+off*k3.size) (A.take (n*k3.size))).toArray.size=cells.size:=by have:=qdw (l:=cells.toList) (c:=base+off*k3.size) (xs:=A.take (n*k3.size)) (by simpa using hT);simpa using this
   have hget:∀j,(putAt cells.toList (base+off*k3.size) (A.take (n*k3.size))).toArray[j]? = if base+off*k3.size<=j/\j<base+off*k3.size+n*k3.size then A[j-(base+off*k3.size)]? else cells[j]? :=by
    intro j;have:=qeE (l:=cells.toList) (c:=base+off*k3.size) (xs:=A.take (n*k3.size)) (by simpa using hT) j;rw[List.getElem?_toArray,this,hAl];split
    ·rw[List.getElem?_take,if_pos (by omega)]
    ·simp
   have hro3:ro*k3.size<=off*k3.size:=zzh _ hro;have hkeep:∀j,S blk j->(putAt cells.toList (base+off*k3.size) (A.take (n*k3.size))).toArray[j]? = cells[j]? :=by intro j hj;rw[hget,if_neg];intro hc;exact hnS j (by omega) hj
   have hfl:∀v∈A.take (n*k3.size),v.oneCell'=true:=λv hv=>qO0 hA v (List.mem_of_mem_take hv);have hst:(storeCells a (A.take (n*k3.size))).run P w=.ok () (w.setRow blk (putAt cells.toList (base+off*k3.size) (A.take (n*k3.size))).toArray):=by rw[haddr];have:=run_storeCells_at P blk (base+off*k3.size) e0 (A.take (n*k3.size)) 0 cells w hw (by simpa using hT) hfl;simpa[putAt]using this
   have hext:=qit (S:=S) (cells':=(putAt cells.toList (base+off*k3.size) (A.take (n*k3.size))).toArray) hBb hw hsz hkeep;refine⟨_,qoL h0 ht hk hA.len hn.symm hnew (by simpa using hst) ty,hext,hS.ext hext,?_⟩;obtain⟨-,cy,hcy,hry'⟩:=hA.rel;have hyl:(ys.take n).length=n:=by rw[zzI];omega
   have hel:(putAt es off (ys.take n)).length=es.length:=qdw (by omega);refine qvB hH hb hw hsz hkeep rfl ?_;refine⟨by rw[hsz,hel];exact hbs,(λj m=>if off<=j/\j<off+n then cy (j-off) m else c j m),?_,?_,hnS⟩
   ·intro j hj m hm;rw[hel]at hj;rw[hget];by_cases hjl:off<=j/\j<off+n
    ·simp only[hjl,and_self,if_true];have e4:j*k3.size=off*k3.size+(j-off)*k3.size:=by rw[<-zzl];congr 1;omega
     have h5:(j-off+1)*k3.size<=n*k3.size:=zzh _ (by omega);rw[zzl,Nat.one_mul]at h5;rw[if_pos (by omega)];have:=hcy (j-off) (by omega) m hm;have e7:base+j*k3.size+m-(base+off*k3.size)=(j-off)*k3.size+m:=by omega
     rw[e7];exact this
    ·simp only[hjl,if_false];rw[if_neg ?_]
     ·exact hf j hj m hm
     ·intro hc;rcases Nat.lt_or_ge j off with h7|h7
      ·have:(j+1)*k3.size<=off*k3.size:=zzh _ h7;rw[zzl,Nat.one_mul]at this;omega
      ·have h8:off+n<=j:=by omega
       have:(off+n)*k3.size<=j*k3.size:=zzh _ h8;rw[zzl]at this;omega
   ·intro j hj;rw[hel]at hj;have hg:=qeE (l:=es) (c:=off) (xs:=ys.take n) (by omega) j;rw[hyl]at hg;by_cases hjl:off<=j/\j<off+n
    ·simp only[hjl,and_self,if_true]at hg⊢;have e8:(putAt es off (ys.take n))[j]=ys[j-off]:=by have h9:=zze (l:=putAt es off (ys.take n)) (by rw[hel];exact hj);rw[hg,List.getElem?_take,if_pos (by omega),zze (by omega),zzb]at h9;exact h9.symm
     rw[e8];exact (hry' (j-off) (by omega)).ext hext
    ·simp only[hjl,if_false]at hg⊢;have e8:(putAt es off (ys.take n))[j]=es[j]:=by have h9:=zze (l:=putAt es off (ys.take n)) (by rw[hel];exact hj);rw[hg,zze hj,zzb]at h9;exact h9.symm
     rw[e8];exact (hr j hj).ext hext
 ·exact hxr'.elim
