/- Part 19 of the proof: CbAnG, CbAnH, CbAnI, CbAnJ, CbAnK, CbAo0, CbAo1. -/
import Derived.Test.YtcihddahcplehaaGreatDoorB18
import Derived.Test.YtcihddahcplehaaGreatDoorB2
section
namespace Go.Sim
section
variable {d : Nat} {ρ ρ' : Nat → DV} {V : Nat → List DV → Option (PV × Bool)} {σ σ' : AS} {E : Env} {S : List (Nat × Sg)}
theorem qwH {r r':Rand→PV} {H:Heap} {id:Nat} {op:IOp} (hok:op.rands.all Rand.okR=true) (h : ∀x∈op.rands,r x=r' x):qaa E r H id op=qaa E r' H id op:=by
 have ho : ∀o:Option Rand,(∀x∈o.toList,r x=r' x)→o.map r=o.map r':=by
  intro o ho;cases o with
  |none=>rfl
  |some x=>exact congrArg some (ho x (List.mem_singleton.2 rfl))
 cases op with
 |alloc=>rfl
 |mov x=>simp only[qaa];rw[h x (List.mem_singleton.2 rfl)]
 |box k x=>simp only[qaa];rw[h x (List.mem_singleton.2 rfl)]
 |load k x=>simp only[qaa];rw[h x (List.mem_singleton.2 rfl)]
 |faddr k x=>simp only[qaa];rw[h x (List.mem_singleton.2 rfl)]
 |field k j x=>simp only[qaa];rw[h x (List.mem_singleton.2 rfl)]
 |ext x k=>simp only[qaa];rw[h x (List.mem_singleton.2 rfl)]
 |len k x=>simp only[qaa];rw[h x (List.mem_singleton.2 rfl)]
 |un k x=>simp only[qaa];rw[h x (List.mem_singleton.2 rfl)]
 |conv k x=>simp only[qaa];rw[h x (List.mem_singleton.2 rfl)]
 |pick c a b=>simp only[qaa];rw[h c (by simp[IOp.rands]),h a (by simp[IOp.rands]),h b (by simp[IOp.rands])]
 |store k x y=>simp only[qaa];rw[h x (by simp[IOp.rands]),h y (by simp[IOp.rands])]
 |iaddr k x y=>simp only[qaa];rw[h x (by simp[IOp.rands]),h y (by simp[IOp.rands])]
 |bin k x y=>simp only[qaa];rw[h x (by simp[IOp.rands]),h y (by simp[IOp.rands])]
 |eqb k x y=>simp only[qaa];rw[h x (by simp[IOp.rands]),h y (by simp[IOp.rands])]
 |eqv k j x y=>simp only[qaa];rw[h x (by simp[IOp.rands]),h y (by simp[IOp.rands])]
 |idxS x y=>simp only[qaa];rw[h x (by simp[IOp.rands]),h y (by simp[IOp.rands])]
 |agg z ps =>
  have e:(ps.map fun x=>(x.1,x.2.1,r x.2.2))=ps.map fun x=>(x.1,x.2.1,r' x.2.2):=List.map_congr_left fun x hx=>by rw[h x.2.2 (List.mem_map.2 ⟨x,hx,rfl⟩)]
  simp only[qaa];rw[e]
 |bsl k z n ps =>
  have e:(ps.map fun x=>(x.1,r x.2))=ps.map fun x=>(x.1,r' x.2):=List.map_congr_left fun x hx=>by rw[h x.2 (List.mem_map.2 ⟨x,hx,rfl⟩)]
  simp only[qaa];rw[e]
 |call m f as0 =>
  have e:as0.map r=as0.map r':=List.map_congr_left h
  match m with
  | 0=>simp only[qaa];rw[e]
  | 1=>simp only[qaa];rw[e]
  | _+2=>simp only[qaa];rw[e]
 |minmax m as0 =>
  have e:as0.map r=as0.map r':=List.map_congr_left h
  simp only[qaa];rw[e]
 |sl k x a b c =>
  simp only[qaa];rw[h x (by simp[IOp.rands]),ho a fun y hy=>h y (by simp[IOp.rands] at hy⊢;simp[hy]),ho b fun y hy=>h y (by simp[IOp.rands] at hy⊢;simp[hy]),ho c fun y hy=>h y (by simp[IOp.rands] at hy⊢;simp[hy])]
 | _=>simp[IOp.rands,Rand.okR] at hok
theorem qJ1 {r:Rand→PV} {H:Heap} {id:Nat} {op:IOp} (hp:op.par=true) (E:Env):qaa qcT r H id op=qaa E r H id op:=by
 cases op<;>first|rfl|(simp[IOp.par] at hp;done)
theorem qm1 {x:Rand} (h:x.okR=true) (fr:Fr) (ρ:Nat→DV):rd E (fr.ins ρ) x=(rdA fr x).ins ρ:=by
 cases x with
 |t n=>exact qhh ρ n fr
 |c v=>exact (qhx h).symm
 |g n=>cases h
 |f n=>rfl
theorem qyX (hW:σ.wf) {ρ1 ρ2:Nat→DV} (s1:Sc ρ1) (s2:Sc ρ2) (a:Agr σ.G.length ρ1 ρ2) {x:Rand} (h:x.okR=true):(rdA σ.fr x).ins ρ2=(rdA σ.fr x).ins ρ1:=by
 have e:σ.fr.ins ρ2=σ.fr.ins ρ1:=congrArg St.fr (hW.st ρ1 ρ2 s1 s2 a)
 rw[←qm1 (E:=qcT) h,←qm1 (E:=qcT) h,e]
theorem quf {l:List (PV×AS)} {ev:Option (PV×Heap)} (h:qbk d V σ ρ l ev):qbk d V σ ρ (qn1 l) ev:=by
 obtain⟨x,hx,ρ',hg,he⟩:=h;by_cases hb : ∃n,x.1 = .d (.tok n)∧x.2.G[n]? = some .b
 ·obtain⟨n,e1,e2⟩:=hb;obtain⟨c,hc⟩:=hg.m.ty n _ e2;refine⟨(.d (.b c),x.2),List.mem_flatMap.2 ⟨x,hx,?_⟩,ρ',⟨hg.ag,hg.m,hg.wf,hg.fr,hg.le,fun _ _ _ _ _=>rfl⟩,?_⟩
  ·simp only[e1,e2];cases c<;>simp
  ·rw[he,e1];show some (PV.d (ρ' n),_)=some (PV.d (.b c),_)
   rw[hc]
 ·refine⟨x,List.mem_flatMap.2 ⟨x,hx,?_⟩,ρ',hg,he⟩;split
  ·rename_i n e1;split
   ·rename_i e2;exact absurd ⟨n,e1,e2⟩ hb
   ·exact List.mem_singleton.2 rfl
  ·exact List.mem_singleton.2 rfl
theorem qEM (hM:Mod d V σ ρ) (hW:σ.wf) (hS:qcU d V S) (hE:E.val=V) {id:Nat} {op:IOp} {l:List (PV×AS)} (h:qmN S id op σ=some l):op.rands.all Rand.okR=true∧qbk d V σ ρ l (qaa E (rd E (σ.fr.ins ρ)) (σ.H.ins ρ) id op):=by
 unfold qmN at h;split at h
 ·rename_i hok;have hk:=List.all_eq_true.1 hok
  refine⟨hok,?_⟩;rw[qwH hok fun x hx=>qm1 (hk x hx) σ.fr ρ]
  split at h
  ·rename_i v H' e;cases h;split at e
   ·rename_i hp;have h1:=fun (ρ:Nat→DV) (s:Sc ρ)=>qCx s qcT (rdA σ.fr) hp e
    have h2 : ∀ρ1 ρ2,Sc ρ1→Sc ρ2→Agr σ.G.length ρ1 ρ2→v.ins ρ2=v.ins ρ1∧H'.ins ρ2=H'.ins ρ1:=by
     intro ρ1 ρ2 s1 s2 a;have e1:=h1 ρ1 s1
     have e2:=h1 ρ2 s2
     have e3:σ.H.ins ρ2=σ.H.ins ρ1:=congrArg St.H (hW.st ρ1 ρ2 s1 s2 a)
     rw[qwH hok fun x hx=>qyX hW s1 s2 a (hk x hx),e3,e1] at e2
     have:=Option.some.inj e2
     exact⟨(congrArg Prod.fst this).symm,(congrArg Prod.snd this).symm⟩
    refine quf ⟨_,List.mem_singleton.2 rfl,ρ,⟨Agr.rfl',⟨hM.sc,hM.ty,hM.fx,hM.z,hM.cs⟩,⟨fun ρ1 ρ2 s1 s2 a => ?_,hW.cs,hW.fx,hW.z⟩,rfl,zzt _,fun ρ1 ρ2 s1 s2 a=>(h2 ρ1 ρ2 s1 s2 a).1⟩,?_⟩
    ·show St.mk (σ.fr.ins ρ2) (H'.ins ρ2)=St.mk (σ.fr.ins ρ1) (H'.ins ρ1)
     rw[(h2 ρ1 ρ2 s1 s2 a).2,show σ.fr.ins ρ2=σ.fr.ins ρ1 from congrArg St.fr (hW.st ρ1 ρ2 s1 s2 a)]
    ·rw[←qJ1 hp E];exact h1 ρ hM.sc
   ·cases e
  ·split at h
   ·rename_i l' e2;cases h;exact quf (qA2 hM hW hS hE (fun ρ1 ρ2 s1 s2 a x hx=>qyX hW s1 s2 a (hk x hx)) e2)
   ·cases h
 ·cases h
structure Nx (d:Nat) (V:Nat→List DV→Option (PV×Bool)) (σ:AS) (ρ:Nat→DV) (σ':AS) (ρ':Nat→DV):Prop where
 ag:Agr σ.G.length ρ ρ'
 m:Mod d V σ' ρ'
 wf:σ'.wf
 le:σ.G.length≤σ'.G.length
theorem Nx.trans {σ1 σ2:AS} {ρ1 ρ2:Nat→DV} (a:Nx d V σ ρ σ1 ρ1) (b:Nx d V σ1 ρ1 σ2 ρ2):Nx d V σ ρ σ2 ρ2:=⟨a.ag.trans (b.ag.le a.le),b.m,b.wf,Nat.le_trans a.le b.le⟩
def qiS (E:Env) (o:IOper) (id:Nat) (s:St):Option St :=
 let go:Option St:=match qaa E (rd E s.fr) s.H id o.op with
  |some (v,H)=>some ⟨match o.dst with|some t=>s.fr.set t v|none=>s.fr,H⟩
  |none=>none
 let no:Option St:=some ⟨match o.dst with|some t=>s.fr.set t (.t [])|none=>s.fr,s.H⟩
 match o.g with
 |none=>go
 |some (t,want)=>match s.fr.get t with
  | .d (.b b)=>if b==want then go else no
  | .t []=>no
  | _=>none
theorem qFw (o:IOper) (r:List IOper) (id:Nat) (s s':St) (h:qiS E o id s=some s'):qay E (o::r) id s=qay E r (if o.op.adds then id+1 else id) s':=by
 have hgo : ∀{s':St},(match qaa E (rd E s.fr) s.H id o.op with
  |some (v,H)=>some (⟨match o.dst with|some t=>s.fr.set t v|none=>s.fr,H⟩:St)
  |none=>none)=some s'→(match qaa E (rd E s.fr) s.H id o.op with
   |some (v,H)=>qay E r (if o.op.adds then id+1 else id) ⟨match o.dst with|some t=>s.fr.set t v|none=>s.fr,H⟩
   |none=>none)=qay E r (if o.op.adds then id+1 else id) s':=by
  intro s' h;split at h
  ·rename_i v H e;cases h;rfl
  ·cases h
 unfold qiS at h;simp only[qay];simp only at h;split at h
 ·rename_i e;rw[e];exact hgo h
 ·rename_i t want e;rw[e];simp only;split at h
  ·rename_i b e2;rw[e2];simp only;split at h
   ·rename_i hw;rw[if_pos hw];exact hgo h
   ·rename_i hw;rw[if_neg hw];cases h;rfl
  ·rename_i e2;rw[e2];cases h;rfl
  ·cases h
theorem qEP {o:IOper} {id:Nat} {s:St} (h:runs o s.fr=true→o.op.okD (rd E s.fr)=true):stepD E o id s=qiS E o id s:=by
 unfold stepD qiS;unfold runs at h;simp only;have hgo:o.op.okD (rd E s.fr)=true→qal E (rd E s.fr) s.H id o.op=qaa E (rd E s.fr) s.H id o.op:=by
  intro e;unfold qal;rw[if_pos e]
 cases e:o.g with
 |none=>rw[e] at h;simp only;rw[hgo (h rfl)];rfl
 |some x =>
  obtain⟨t,want⟩:=x;rw[e] at h;simp only at h⊢;cases e2:s.fr.get t with
  |d v =>
   cases v with
   |b b =>
    rw[e2] at h;simp only at h⊢;by_cases hw:(b==want)=true
    ·rw[if_pos hw,if_pos hw,hgo (h hw)];rfl
    ·rw[if_neg hw,if_neg hw];rfl
   | _=>rfl
  |t vs=>cases vs<;>rfl
  | _=>rfl
theorem qxu {x:PV×AS} (hM:Mod d V σ ρ) (hW:σ.wf) (hg:Good d V σ ρ x ρ') (dst:Option Nat):Nx d V σ ρ (qib dst x) ρ'∧(qib dst x).st.ins ρ'=⟨match dst with|some t=>(σ.fr.ins ρ).set t (x.1.ins ρ')|none=>σ.fr.ins ρ,x.2.H.ins ρ'⟩:=by
 have e1:σ.fr.ins ρ'=σ.fr.ins ρ:=congrArg St.fr (hW.st _ _ hM.sc hg.m.sc hg.ag)
 have e2:x.2.fr.ins ρ'=σ.fr.ins ρ:=by rw[hg.fr];exact e1
 cases dst with
 |none=>exact⟨⟨hg.ag,hg.m,hg.wf,hg.le⟩,by show St.mk (x.2.fr.ins ρ') (x.2.H.ins ρ')=_;rw[e2]⟩
 |some t =>
  refine⟨⟨hg.ag,⟨hg.m.sc,hg.m.ty,hg.m.fx,hg.m.z,hg.m.cs⟩,⟨fun ρ1 ρ2 s1 s2 a => ?_,hg.wf.cs,hg.wf.fx,hg.wf.z⟩,hg.le⟩,?_⟩
  ·show St.mk ((x.2.fr.set t x.1).ins ρ2) (x.2.H.ins ρ2)=St.mk ((x.2.fr.set t x.1).ins ρ1) (x.2.H.ins ρ1)
   have:=hg.wf.st ρ1 ρ2 s1 s2 a
   rw[qlS,qlS,hg.v ρ1 ρ2 s1 s2 a,show x.2.fr.ins ρ2=x.2.fr.ins ρ1 from congrArg St.fr this,show x.2.H.ins ρ2=x.2.H.ins ρ1 from congrArg St.H this]
  ·show St.mk ((x.2.fr.set t x.1).ins ρ') _=_
   rw[qlS,e2];rfl
structure Seen (E:Env) (o:IOper) (id:Nat) (σ:AS) (ρ:Nat→DV) (σ':AS) (ρ':Nat→DV):Prop where
 runs:runs o (σ.fr.ins ρ)=runs o σ.fr
 ok:Sim.runs o σ.fr=true→o.op.rands.all Rand.okR=true
theorem qB1 (hM:Mod d V σ ρ) (hW:σ.wf) (hS:qcU d V S) (hE:E.val=V) {o:IOper} {id:Nat} {l:List AS} (h:qr9 S o id σ=some l) :
  ∃σ'∈l,∃ρ',Nx d V σ ρ σ' ρ'∧qiS E o id (σ.st.ins ρ)=some (σ'.st.ins ρ')∧Seen E o id σ ρ σ' ρ':=by
 have hgo : ∀{l:List AS},(match qmN S id o.op σ with
  |some l=>some (l.map (qib o.dst))
  |none=>none)=some l→o.op.rands.all Rand.okR=true∧∃σ'∈l,∃ρ',Nx d V σ ρ σ' ρ'∧(match qaa E (rd E (σ.fr.ins ρ)) (σ.H.ins ρ) id o.op with
   |some (v,H)=>some (⟨match o.dst with|some t=>(σ.fr.ins ρ).set t v|none=>σ.fr.ins ρ,H⟩:St)
   |none=>none)=some (σ'.st.ins ρ'):=by
  intro l h;split at h
  ·rename_i l' e;cases h;obtain⟨hok,x,hx,ρ',hg,he⟩:=qEM (E:=E) hM hW hS hE e;obtain⟨h1,h2⟩:=qxu hM hW hg o.dst;refine⟨hok,_,List.mem_map.2 ⟨x,hx,rfl⟩,ρ',h1,?_⟩;rw[he,h2]
  ·cases h
 have hno : ∀{l:List AS},some [qib o.dst (.t [],σ)]=some l→∃σ'∈l,∃ρ',Nx d V σ ρ σ' ρ'∧some (⟨match o.dst with|some t=>(σ.fr.ins ρ).set t (.t [])|none=>σ.fr.ins ρ,σ.H.ins ρ⟩:St)=some (σ'.st.ins ρ'):=by
  intro l h;cases h;have hg:Good d V σ ρ (.t [],σ) ρ:=⟨Agr.rfl',hM,hW,rfl,zzt _,fun _ _ _ _ _=>rfl⟩
  obtain⟨h1,h2⟩:=qxu hM hW hg o.dst;exact⟨_,List.mem_singleton.2 rfl,ρ,h1,by rw[h2];rfl⟩
 unfold qr9 at h;unfold qiS;simp only at h⊢;split at h
 ·rename_i eg;obtain⟨hok,σ',h1,ρ',h2,h3⟩:=hgo h;refine⟨σ',h1,ρ',h2,?_,?_,fun _=>hok⟩
  ·rw[eg];exact h3
  ·unfold runs;rw[eg]
 ·rename_i t want eg;rw[eg];simp only;have ht:(σ.st.ins ρ).fr.get t=(σ.fr.get t).ins ρ:=qhh ρ t σ.fr
  have ht':(σ.fr.ins ρ).get t=(σ.fr.get t).ins ρ:=qhh ρ t σ.fr
  split at h
  ·rename_i b e;rw[ht,e];simp only[PV.ins,DV.ins];split at h
   ·rename_i hw;obtain⟨hok,σ',h1,ρ',h2,h3⟩:=hgo h;refine⟨σ',h1,ρ',h2,?_,?_,fun _=>hok⟩
    ·rw[if_pos hw];exact h3
    ·unfold runs;rw[eg];simp only;rw[ht',e];rfl
   ·rename_i hw;obtain⟨σ',h1,ρ',h2,h3⟩:=hno h;refine⟨σ',h1,ρ',h2,?_,?_,fun hr => ?_⟩
    ·rw[if_neg hw];exact h3
    ·unfold runs;rw[eg];simp only;rw[ht',e];rfl
    ·unfold runs at hr;rw[eg] at hr;simp only at hr;rw[e] at hr;exact absurd hr hw
  ·rename_i e;rw[ht,e];obtain⟨σ',h1,ρ',h2,h3⟩:=hno h;refine⟨σ',h1,ρ',h2,h3,?_,fun hr => ?_⟩
   ·unfold runs;rw[eg];simp only;rw[ht',e];rfl
   ·unfold runs at hr;rw[eg] at hr;simp only at hr;rw[e] at hr;cases hr
  ·cases h
end
end Go.Sim
end
section
namespace Go.Sim
section
variable {d : Nat} {ρ ρ' : Nat → DV} {V : Nat → List DV → Option (PV × Bool)} {σ σ' : AS} {E : Env} {S : List (Nat × Sg)}
theorem qsA {α β:Type} {f g:α→List β} : ∀{l:List α},(∀x∈l,f x=g x)→l.flatMap f=l.flatMap g
  | [],_=>rfl
  |x::l,h=>by rw[List.flatMap_cons,List.flatMap_cons,h x (zzr ..),qsA fun y hy=>h y (zzi _ hy)]
theorem qCP {r r':Rand→PV} {op:IOp} (hok:op.rands.all Rand.okR=true) (h : ∀x∈op.rands,(r x).refs=(r' x).refs):qau r op=qau r' op∧qaQ r op=qaQ r' op∧op.okD r=op.okD r':=by
  cases op with
  |load k x=>exact⟨h x (List.mem_singleton.2 rfl),rfl,rfl⟩
  |len k x=>exact⟨h x (List.mem_singleton.2 rfl),rfl,rfl⟩
  |sl k x a b c=>exact⟨h x (zzr ..),rfl,rfl⟩
  |iaddr k x y=>exact⟨h x (zzr ..),rfl,rfl⟩
  |call m f as0=>exact⟨qsA h,rfl,rfl⟩
  |bsl k z n ps=>exact⟨qsA fun x hx=>h x.2 (List.mem_map.2 ⟨x,hx,rfl⟩),rfl,rfl⟩
  |store k x y =>
    have h1:=h x (zzr ..)
    have h2:=h y (zzi _ (zzr ..))
    refine⟨?_,h1,rfl⟩;show (r x).refs++(r y).refs=(r' x).refs++(r' y).refs
    rw[h1,h2]
  |callv=>simp[IOp.rands,Rand.okR] at hok
  |mkif=>simp[IOp.rands,Rand.okR] at hok
  | _=>exact⟨rfl,rfl,rfl⟩
theorem rd0 {x:Rand} (h:x.okR=true) (fr:Fr):rd qcT fr x=rdA fr x:=by
  cases x with
  |g n=>cases h
  | _=>rfl
theorem qtD (ρ:Nat→DV) (H:Heap) (o:Nat):qa1 ((H.ins ρ).obj o)=qa1 (H.obj o):=by
  rw[qgF];cases H.obj o with
  |none=>rfl
  |some x=>cases x<;>rfl
theorem quN (H H':Heap) : ∀l:List Nat,chg (H.ins ρ) (H'.ins ρ') l=chg H H' l
  | []=>rfl
  |o::r=>by simp only[chg];rw[qtD,qtD,quN H H' r]
theorem qGH {o:IOper} {id:Nat} (hs:Seen E o id σ ρ σ' ρ') (hk:runs o σ.fr=true→o.op.okD (rd qcT σ.fr)=true) :
    writeS E o id (σ.st.ins ρ) (σ'.st.ins ρ')=writeS qcT o id σ.st σ'.st∧touchS E o (σ.st.ins ρ)=touchS qcT o σ.st∧(runs o (σ.st.ins ρ).fr=true→o.op.okD (rd E (σ.st.ins ρ).fr)=true):=by
  unfold writeS touchS;have hr:runs o (σ.st.ins ρ).fr=runs o σ.st.fr:=hs.runs
  rw[hr];by_cases e:runs o σ.st.fr=true
  · have hok:=hs.ok e
    have hk2:=List.all_eq_true.1 hok
    have hf:=qCP (r:=rd E (σ.st.ins ρ).fr) (r':=rd qcT σ.st.fr) hok fun x hx=>by
      have e1:rd E (σ.st.ins ρ).fr x=(rdA σ.fr x).ins ρ:=qm1 (hk2 x hx) σ.fr ρ
      rw[e1,qin];exact congrArg PV.refs (rd0 (hk2 x hx) σ.fr).symm
    have hk3:o.op.okD (rd qcT σ.st.fr)=true:=hk e
    rw[if_pos e,if_pos e,if_pos e,if_pos e,hf.2.2,hf.1,hf.2.1,if_pos hk3,if_pos hk3,if_pos hk3,if_pos hk3];refine⟨?_,rfl,fun _=>hk3⟩
    congr 2
    exact quN (ρ:=ρ) (ρ':=ρ') σ.H σ'.H _
  · rw[if_neg e,if_neg e,if_neg e,if_neg e]
    exact⟨rfl,rfl,fun c=>absurd c e⟩
theorem qmD {α β:Type} {f:α→Option (List β)} : ∀{l:List α} {out:List β},qiM f l=some out→∀x∈l,∃y,f x=some y∧∀z∈y,z∈out
  | [],_,_,x,hx=>by cases hx
  |a::l,out,h,x,hx=>by
    unfold qiM at h;split at h
    · rename_i y ys e1 e2
      cases h;rcases List.mem_cons.1 hx with rfl|hx
      · exact⟨y,e1,fun z hz=>List.mem_append_left _ hz⟩
      · obtain⟨w,h1,h2⟩:=qmD e2 x hx
        exact⟨w,h1,fun z hz=>List.mem_append_right _ (h2 z hz)⟩
    · cases h
theorem quc (hS:qcU d V S) (hE:E.val=V) (D:Bool) : ∀(ops:List IOper) (bf:List Nat) (acc:List (List Nat×List Nat)) (id:Nat) (σ:AS) (ρ:Nat→DV) (l:List AS),Mod d V σ ρ→σ.wf→qmY S D ops bf acc id σ=some l →
    ∃σ'∈l,∃ρ',Nx d V σ ρ σ' ρ'∧(if D=true then qbm E ops bf acc id (σ.st.ins ρ) else qay E ops id (σ.st.ins ρ))=some (σ'.st.ins ρ')
  | [],bf,acc,id,σ,ρ,l,hM,hW,h=>by
    cases h;refine⟨σ,List.mem_singleton.2 rfl,ρ,⟨Agr.rfl',hM,hW,zzt _⟩,?_⟩;cases D<;>rfl
  |o::r,bf,acc,id,σ,ρ,l,hM,hW,h=>by
    unfold qmY at h;split at h
    · cases h
    · rename_i l1 e1
      obtain⟨σ1,h1,ρ1,n1,s1,seen⟩:=qB1 hM hW hS hE e1;obtain⟨l2,e2,h2⟩:=qmD h σ1 h1;simp only at e2;split at e2
      · rename_i hc
        obtain⟨σ2,h3,ρ2,n2,s2⟩:=quc hS hE D r _ _ _ σ1 ρ1 l2 n1.m n1.wf e2;refine⟨σ2,h2 _ h3,ρ2,n1.trans n2,?_⟩;cases D with
        |false =>
          rw[if_neg (by decide)] at s2⊢
          rw[qFw _ _ _ _ _ s1];exact s2
        |true =>
          simp only[Bool.not_true,Bool.false_or,zzf] at hc;obtain⟨w1,w2,w3⟩:=qGH seen (fun _=>hc.1)
          rw[if_pos rfl] at s2⊢;simp only[qbm];rw[qEP w3,s1];simp only;rw[w1,w2,if_pos hc.2];exact s2
      · cases e2
theorem qqz (n:Nat):Heap.ins ρ (List.replicate n none)=List.replicate n none:=by unfold Heap.ins;rw[List.map_replicate];rfl
theorem quH {f g:Fact} (h:qkO f g=true):f=g:=by
  obtain⟨a,b,c⟩:=f;obtain⟨a',b',c'⟩:=g;simp only[qkO,zzf,zzq] at h;obtain⟨h1,h2,h3⟩:=h;rw[Nat.eq_of_beq_eq_true h1,Nat.eq_of_beq_eq_true h2,h3]
theorem qtM {c e:Nat×List DV×PV} (h:qk8 c e=true):c=e:=by
  obtain⟨a,b,c⟩:=c;obtain⟨a',b',c'⟩:=e;simp only[qk8,zzf] at h;obtain⟨h1,h2,h3⟩:=h;rw[Nat.eq_of_beq_eq_true h1,qhK _ _ h2,qjj _ _ h3]
theorem qmB : ∀{a b:Fr},qhP a b=true→a=b
  | [],[],_=>rfl
  | (j,v)::r,(j',w)::r',h=>by
    simp only[qhP,zzf] at h;rw[Nat.eq_of_beq_eq_true h.1.1,qjj _ _ h.1.2,qmB h.2]
  | [],_::_,h=>by cases h
  | _::_,[],h=>by cases h
theorem qmx : ∀{a b:Heap},qhu a b=true→a=b
  | [],[],_=>rfl
  |x::r,y::r',h=>by
    simp only[qhu,zzf] at h;rw[quZ h.1,qmx h.2]
  | [],_::_,h=>by cases h
  | _::_,[],h=>by cases h
structure Cov (d:Nat) (V:Nat→List DV→Option (PV×Bool)) (x y:AS):Prop where
  st:y.st=x.st
  len:y.G.length=x.G.length
  m : ∀ρ,Mod d V x ρ→Mod d V y ρ
  wf:x.wf→y.wf
theorem Cov.nx {x y:AS} (c:Cov d V x y) (n:Nx d V σ ρ x ρ'):Nx d V σ ρ y ρ':=⟨n.ag,c.m _ n.m,c.wf n.wf,by rw[c.len];exact n.le⟩
theorem qw4 : ∀{ts us:List TA},TA.subL ts us=true→ts.length=us.length
  | [],[],_=>rfl
  |t::ts,u::us,h=>by rw[TA.subL,zzf] at h;rw[zzn,zzn,qw4 h.2]
  | [],_::_,h=>by cases h
  | _::_,[],h=>by cases h
theorem qyo : ∀{ts us:List TA},TA.subL ts us=true→∀(n:Nat) (t:TA),ts[n]? = some t→∃u,us[n]? = some u∧TA.sub t u=true
  | [],[],_,n,t,e=>by simp at e
  |t::ts,u::us,h,n,t',e=>by
    rw[TA.subL,zzf] at h;cases n with
    |zero=>simp at e;subst e;exact⟨u,rfl,h.1⟩
    |succ n=>exact qyo h.2 n t' (by simpa using e)
  | [],_::_,h,_,_,_=>by cases h
  | _::_,[],h,_,_,_=>by cases h
theorem qiw (x:AS):Cov d V x x:=⟨rfl,rfl,fun _ h=>h,fun h=>h⟩
theorem qwx {x y:AS}:Cov d V x (jnA x y) :=
  ⟨rfl,rfl,fun ρ h=>⟨h.sc,h.ty,fun f hf=>h.fx f (List.mem_filter.1 hf).1,h.z,fun c hc=>h.cs c (List.mem_filter.1 hc).1⟩,
   fun h=>⟨h.st,fun ρ1 ρ2 s1 s2 a c hc=>h.cs ρ1 ρ2 s1 s2 a c (List.mem_filter.1 hc).1,fun f hf=>h.fx f (List.mem_filter.1 hf).1,h.z⟩⟩
theorem qlM {α:Type} {p:α→α→Bool} (hp : ∀a b,p a b=true→a=b) {l:List α} {x:α} (h:l.any (p x)=true):x∈l:=by
  obtain⟨y,h1,h2⟩:=List.any_eq_true.1 h;rw[hp _ _ h2];exact h1
theorem qAU {x y:AS} (h:qpI x y=true):Cov d V y (jnA x y):=by
  unfold qpI at h;simp only[zzf] at h;obtain⟨h1,h2,h3⟩:=h;have e1:=qmB h1
  have e2:=qmx h2
  have el:=qw4 h3
  have es:(jnA x y).st=y.st:=by show St.mk x.fr x.H=St.mk y.fr y.H;rw[e1,e2]
  have hf : ∀f∈(jnA x y).fx,f∈y.fx:=fun f hf=>qlM (p:=qkO) (fun a b=>quH) (List.mem_filter.1 hf).2
  have hc : ∀c∈(jnA x y).cs,c∈y.cs:=fun c hc=>qlM (p:=qk8) (fun a b=>qtM) (List.mem_filter.1 hc).2
  refine⟨es,el,fun ρ h=>⟨h.sc,fun n t e => ?_,fun f q=>h.fx f (hf f q),h.z,fun c q=>h.cs c (hc c q)⟩,fun h=>⟨fun ρ1 ρ2 s1 s2 a => ?_,fun ρ1 ρ2 s1 s2 a c q=>h.cs ρ1 ρ2 s1 s2 (a.le (Nat.le_of_eq el.symm)) c (hc c q),fun f q => ?_,?_⟩⟩
  · obtain⟨u,hu,hs⟩:=qyo h3 n t e
    exact qsb t u hs (h.ty n u hu)
  · rw[es];exact h.st ρ1 ρ2 s1 s2 (a.le (Nat.le_of_eq el.symm))
  · have:=h.fx f (hf f q)
    show f.1<x.G.length∧f.2.1<x.G.length
    rw[el];exact this
  · show 0<x.G.length
    rw[el];exact h.z
theorem qy4 (x:AS) : ∀(l:List AS),(∃y∈qkp x l,Cov d V x y)∧∀z∈l,∃y∈qkp x l,Cov d V z y
  | []=>⟨⟨x,List.mem_singleton.2 rfl,qiw x⟩,fun z hz=>by cases hz⟩
  |y::r=>by
    unfold qkp;split
    · rename_i e
      refine⟨⟨_,zzr ..,qwx⟩,fun z hz => ?_⟩
      rcases List.mem_cons.1 hz with rfl|hz
      · exact⟨_,zzr ..,qAU e⟩
      · exact⟨z,zzi _ hz,qiw z⟩
    · obtain⟨⟨w,h1,h2⟩,h3⟩:=qy4 x r
      refine⟨⟨w,zzi _ h1,h2⟩,fun z hz => ?_⟩
      rcases List.mem_cons.1 hz with rfl|hz
      · exact⟨z,zzr ..,qiw z⟩
      · obtain⟨w,h1,h2⟩:=h3 z hz
        exact⟨w,zzi _ h1,h2⟩
theorem Cov.trans {x y z:AS} (a:Cov d V x y) (b:Cov d V y z):Cov d V x z:=⟨b.st.trans a.st,b.len.trans a.len,fun ρ h=>b.m ρ (a.m ρ h),fun h=>b.wf (a.wf h)⟩
theorem quJ : ∀(l:List AS),∀z∈l,∃y∈mrg l,Cov d V z y
  | [],z,hz=>by cases hz
  |x::r,z,hz=>by
    obtain⟨h1,h2⟩:=qy4 (d:=d) (V:=V) x (mrg r);rcases List.mem_cons.1 hz with rfl|hz
    · exact h1
    · obtain⟨y,h3,h4⟩:=quJ r z hz
      obtain⟨w,h5,h6⟩:=h2 y h3;exact⟨w,h5,h4.trans h6⟩
theorem qox {n:Nat} (a:Agr n ρ ρ') : ∀fr:Fr,fr.bnd n=true→fr.ins ρ'=fr.ins ρ
  | [],_=>rfl
  | (j,v)::r,h=>by
    simp only[Fr.bnd,zzf] at h;simp only[Fr.ins];rw[qhQ a v h.1,qox a r h.2]
theorem qnt {n:Nat} (a:Agr n ρ ρ') : ∀H:Heap,qhD n H=true→H.ins ρ'=H.ins ρ
  | [],_=>rfl
  |none::r,h=>by
    have:=qnt a r h
    unfold Heap.ins at this⊢;rw[zzu,zzu,this];rfl
  |some x::r,h=>by
    simp only[qhD,zzf] at h
    have:=qnt a r h.2
    unfold Heap.ins at this⊢;rw[zzu,zzu,this];congr 1
    show some _=some _
    congr 1
    cases x with
    |box k v=>show Obj.box k _=Obj.box k _;rw[qhQ a v h.1]
    |sl k ro es=>show Obj.sl k ro _=Obj.sl k ro _;rw[qkY a es h.1]
    |mp es=>cases h.1
    |si=>rfl
    |lp=>rfl
    |df=>rfl
theorem qs4 {n:Nat} {f:Fact} (h:qlv n f=true):f.1<n∧f.2.1<n:=by
  unfold qlv at h;rw[zzf] at h;exact⟨qi4 h.1,qi4 h.2⟩
theorem qKF {n:Nat} {fx:List Fact} (h : ∀f∈fx,Fact.ok ρ f) : ∀f∈qyi n fx,Fact.ok ρ f:=by
  intro f hf;rcases List.mem_append.1 hf with hf|hf
  · obtain⟨a,ha,hf⟩:=List.mem_flatMap.1 hf
    obtain⟨b,hb,hf⟩:=List.mem_flatMap.1 hf;have ha2:=List.mem_filter.1 ha
    have hb2:=List.mem_filter.1 hb
    have ea:a.2.1=n:=Nat.eq_of_beq_eq_true (zzf _ _▸ha2.2).1
    have eb:b.1=n:=Nat.eq_of_beq_eq_true (zzf _ _▸hb2.2).1
    split at hf
    · cases hf
    · rw[List.mem_singleton.1 hf]
      have h1:=h a ha2.1
      have h2:=h b hb2.1
      unfold Fact.ok at h1 h2⊢;rw[ea] at h1;rw[eb] at h2;simp only;omega
  · exact h f (List.mem_filter.1 hf).1
theorem qx7 {base:Nat} : ∀(k:Nat) {fx:List Fact},(∀f∈fx,Fact.ok ρ f)→∀f∈qri base k fx,Fact.ok ρ f
  | 0,_,h=>h
  |k+1,_,h=>qx7 k (qKF h)
theorem qBN {n:Nat} {c:Nat×List DV×PV} (h:csB n c=true) (a:Agr n ρ ρ'):DV.insL ρ' c.2.1=DV.insL ρ c.2.1∧c.2.2.ins ρ'=c.2.2.ins ρ:=by
  unfold csB at h;rw[zzf] at h;exact⟨qkY a _ h.1,qhQ a _ h.2⟩
theorem qFW (hM:Mod d V σ ρ) (hW:σ.wf) {x y:AS} (hn:Nx d V σ ρ x ρ') (h:qg2 σ x=some y):Nx d V σ ρ y ρ'∧y.st=x.st∧y.G=σ.G:=by
  unfold qg2 at h;split at h
  · rename_i e
    cases h;rw[zzf] at e;refine⟨⟨hn.ag,⟨hn.m.sc,fun n t et => ?_,fun f hf=>qx7 _ hn.m.fx f (List.mem_filter.1 hf).1,hn.m.z,fun c hc=>hn.m.cs c (List.mem_filter.1 hc).1⟩,⟨fun ρ1 ρ2 _ _ a => ?_,fun ρ1 ρ2 _ _ a c hc=>qBN (List.mem_filter.1 hc).2 a,fun f hf=>qs4 (List.mem_filter.1 hf).2,hW.z⟩,zzt _⟩,rfl,rfl⟩
    · rw[hn.ag n (zzk.1 et).1];exact hM.ty n t et
    · show St.mk (x.fr.ins ρ2) (x.H.ins ρ2)=St.mk (x.fr.ins ρ1) (x.H.ins ρ1)
      rw[qox a _ e.1,qnt a _ e.2]
  · cases h
theorem qzj (σ:AS) {x:AS} : ∀{l:List AS},x∈l→(∃y∈(qg7 σ l).1,qg2 σ x=some y)∨x∈(qg7 σ l).2
  |z::r,hx=>by
    unfold qg7;rcases List.mem_cons.1 hx with e|hx
    · subst e
      cases e2:qg2 σ x with
      |none=>exact .inr (zzr ..)
      |some y=>exact .inl ⟨y,zzr ..,rfl⟩
    · have ih:=qzj σ hx
      cases e2:qg2 σ z with
      |none =>
        rcases ih with ⟨y,h1,h2⟩|h
        · exact .inl ⟨y,h1,h2⟩
        · exact .inr (zzi _ h)
      |some w =>
        rcases ih with ⟨y,h1,h2⟩|h
        · exact .inl ⟨y,zzi _ h1,h2⟩
        · exact .inr h
theorem qo6 : ∀{l:List AS},∀y∈(qg7 σ l).1,y.G=σ.G
  | [],y,hy=>by cases hy
  |z::r,y,hy=>by
    unfold qg7 at hy;cases e2:qg2 σ z with
    |none=>rw[e2] at hy;exact qo6 (l:=r) y hy
    |some w =>
      rw[e2] at hy;rcases List.mem_cons.1 hy with e|hy
      · subst e
        unfold qg2 at e2;split at e2
        · cases e2;rfl
        · cases e2
      · exact qo6 (l:=r) y hy
theorem qz4 {x y:AS} (h:(qhP x.fr y.fr&&qhu x.H y.H)=true) (hG:x.G=y.G):Cov d V y (jnA x y):=by
  rw[zzf] at h;have e1:=qmB h.1
  have e2:=qmx h.2
  have es:(jnA x y).st=y.st:=by show St.mk x.fr x.H=St.mk y.fr y.H;rw[e1,e2]
  have hf : ∀f∈(jnA x y).fx,f∈y.fx:=fun f hf=>qlM (p:=qkO) (fun a b=>quH) (List.mem_filter.1 hf).2
  have hc : ∀c∈(jnA x y).cs,c∈y.cs:=fun c hc=>qlM (p:=qk8) (fun a b=>qtM) (List.mem_filter.1 hc).2
  have eg:(jnA x y).G=y.G:=hG
  refine⟨es,by rw[eg],fun ρ h=>⟨h.sc,by rw[eg];exact h.ty,fun f q=>h.fx f (hf f q),h.z,fun c q=>h.cs c (hc c q)⟩,fun h=>⟨fun ρ1 ρ2 s1 s2 a => ?_,fun ρ1 ρ2 s1 s2 a c q=>h.cs ρ1 ρ2 s1 s2 (by rw[eg] at a;exact a) c (hc c q),fun f q=>by rw[eg];exact h.fx f (hf f q),by rw[eg];exact h.z⟩⟩
  rw[es];exact h.st ρ1 ρ2 s1 s2 (by rw[eg] at a;exact a)
theorem qym {G:List TA} (x:AS) (hx:x.G=G) : ∀(l:List AS),(∀y∈l,y.G=G)→((∃y∈qiE x l,Cov d V x y)∧∀z∈l,∃y∈qiE x l,Cov d V z y)∧∀y∈qiE x l,y.G=G
  | [],_=>⟨⟨⟨x,List.mem_singleton.2 rfl,qiw x⟩,fun z hz=>by cases hz⟩,fun y hy=>by rw[List.mem_singleton.1 hy];exact hx⟩
  |y::r,hl=>by
    have hy:=hl y (zzr ..)
    unfold qiE;split
    · rename_i e
      refine⟨⟨⟨_,zzr ..,qwx⟩,fun z hz => ?_⟩,fun z hz => ?_⟩
      · rcases List.mem_cons.1 hz with rfl|hz
        · exact⟨_,zzr ..,qz4 e (hx.trans hy.symm)⟩
        · exact⟨z,zzi _ hz,qiw z⟩
      · rcases List.mem_cons.1 hz with rfl|hz
        · exact hx
        · exact hl z (zzi _ hz)
    · obtain⟨⟨⟨w,h1,h2⟩,h3⟩,h4⟩:=qym x hx r fun z hz=>hl z (zzi _ hz)
      refine⟨⟨⟨w,zzi _ h1,h2⟩,fun z hz => ?_⟩,fun z hz => ?_⟩
      · rcases List.mem_cons.1 hz with rfl|hz
        · exact⟨z,zzr ..,qiw z⟩
        · obtain⟨w,h1,h2⟩:=h3 z hz
          exact⟨w,zzi _ h1,h2⟩
      · rcases List.mem_cons.1 hz with rfl|hz
        · exact hy
        · exact h4 z hz
theorem qyr {G:List TA} : ∀(l:List AS),(∀y∈l,y.G=G)→(∀z∈l,∃y∈qki l,Cov d V z y)∧∀y∈qki l,y.G=G
  | [],_=>⟨(fun z hz=>by cases hz),(fun z hz=>by cases hz)⟩
  |x::r,hl=>by
    obtain⟨h1,h2⟩:=qyr r fun z hz=>hl z (zzi _ hz)
    obtain⟨⟨h3,h4⟩,h5⟩:=qym (d:=d) (V:=V) x (hl x (zzr ..)) (qki r) h2;refine⟨fun z hz => ?_,h5⟩
    rcases List.mem_cons.1 hz with rfl|hz
    · exact h3
    · obtain⟨y,h6,h7⟩:=h1 z hz
      obtain⟨w,h8,h9⟩:=h4 y h6;exact⟨w,h8,h7.trans h9⟩
theorem qDL (hM:Mod d V σ ρ) (hW:σ.wf) {x:AS} {l:List AS} (hn:Nx d V σ ρ x ρ') (hx:x∈l) : ∃y∈qpC σ l,Nx d V σ ρ y ρ'∧y.st=x.st:=by
  have hs:=qzj σ hx
  have hG:=qo6 (σ:=σ) (l:=l)
  unfold qpC;cases e:qg7 σ l with
  |mk a b =>
    rw[e] at hs hG;simp only at hs hG⊢;rcases hs with ⟨y,h1,h2⟩|h
    · obtain⟨n1,n2,n3⟩:=qFW hM hW hn h2
      obtain⟨w,h3,h4⟩:=(qyr (d:=d) (V:=V) a hG).1 y h1;exact⟨w,List.mem_append_left _ h3,h4.nx n1,h4.st.trans n2⟩
    · obtain⟨w,h3,h4⟩:=quJ (d:=d) (V:=V) b x h
      exact⟨w,List.mem_append_right _ h3,h4.nx hn,h4.st⟩
theorem qus (hM:Mod d V σ ρ) (hW:σ.wf) (hS:qcU d V S) (hE:E.val=V) {D:Bool} {ops:List IOper} {bf kill:List Nat} {l:List (Ex×AS)} (h:qnc S D ops bf kill σ=some l) :
    ∃o∈l,∃ρ',o.1 = .norm∧Nx d V σ ρ o.2 ρ'∧(if D=true then qcR E ops bf kill (σ.st.ins ρ) else qcd E ops kill (σ.st.ins ρ))=some (o.2.st.ins ρ'):=by
  unfold qnc at h;split at h
  · rename_i l1 e1
    cases h;have hW':({ σ with H:=σ.H++List.replicate (qaj ops) none }:AS).wf:=⟨fun ρ1 ρ2 s1 s2 a=>by
      have:=hW.st ρ1 ρ2 s1 s2 a
      show St.mk (σ.fr.ins ρ2) (Heap.ins ρ2 (σ.H++_))=St.mk (σ.fr.ins ρ1) (Heap.ins ρ1 (σ.H++_))
      rw[qnA,qnA,qqz,qqz,show σ.fr.ins ρ2=σ.fr.ins ρ1 from congrArg St.fr this,show σ.H.ins ρ2=σ.H.ins ρ1 from congrArg St.H this],hW.cs,hW.fx,hW.z⟩
    obtain⟨σ1,h1,ρ1,n1,s1⟩:=quc (E:=E) hS hE D ops bf [] _ { σ with H:=σ.H++List.replicate (qaj ops) none } ρ l1 ⟨hM.sc,hM.ty,hM.fx,hM.z,hM.cs⟩ hW' e1
    have e2:({ σ with H:=σ.H++List.replicate (qaj ops) none }:AS).st.ins ρ=⟨(σ.st.ins ρ).fr,(σ.st.ins ρ).H++List.replicate (qaj ops) none⟩:=by
      show St.mk _ (Heap.ins ρ (σ.H++_))=_
      rw[qnA,qqz];rfl
    have e3:(σ.st.ins ρ).H.length=σ.H.length:=qHZ ρ σ.H
    have hd:Nx d V σ ρ { σ1 with fr:=σ1.fr.drop kill } ρ1:=⟨n1.ag,⟨n1.m.sc,n1.m.ty,n1.m.fx,n1.m.z,n1.m.cs⟩,⟨fun ρ1 ρ2 s1 s2 a=>by
      have:=n1.wf.st ρ1 ρ2 s1 s2 a
      show St.mk ((σ1.fr.drop kill).ins ρ2) (σ1.H.ins ρ2)=St.mk ((σ1.fr.drop kill).ins ρ1) (σ1.H.ins ρ1)
      rw[qlq,qlq,show σ1.fr.ins ρ2=σ1.fr.ins ρ1 from congrArg St.fr this,show σ1.H.ins ρ2=σ1.H.ins ρ1 from congrArg St.H this],n1.wf.cs,n1.wf.fx,n1.wf.z⟩,n1.le⟩
    obtain⟨σ2,h2,nx,hst⟩:=qDL hM hW hd (List.mem_map.2 ⟨σ1,h1,rfl⟩:_∈l1.map fun σ'=>{ σ' with fr:=σ'.fr.drop kill })
    refine⟨_,List.mem_map.2 ⟨σ2,h2,rfl⟩,ρ1,rfl,nx,?_⟩;have e4:(St.mk ((σ1.fr.drop kill).ins ρ1) (σ1.H.ins ρ1))=⟨(σ1.st.ins ρ1).fr.drop kill,(σ1.st.ins ρ1).H⟩:=by rw[qlq];rfl
    show _=some (σ2.st.ins ρ1)
    rw[hst];show _=some (St.mk ((σ1.fr.drop kill).ins ρ1) (σ1.H.ins ρ1))
    rw[e4];rw[e2] at s1;unfold qcR qcd;rw[e3];cases D with
    |true =>
      rw[if_pos rfl] at s1⊢;rw[s1]
    |false =>
      rw[if_neg (by decide)] at s1⊢
      rw[s1]
  · cases h
theorem qmU (live:List Nat) (ρ:Nat→DV):(σ.gc live).st.ins ρ=Sim.gc live 0 (σ.st.ins ρ):=qCI ρ live 0 σ.st
theorem qoF (hM:Mod d V σ ρ) (hW:σ.wf) (live:List Nat):Nx d V σ ρ (σ.gc live) ρ :=
  ⟨Agr.rfl',⟨hM.sc,hM.ty,hM.fx,hM.z,hM.cs⟩,⟨fun ρ1 ρ2 s1 s2 a=>by rw[qmU,qmU,hW.st ρ1 ρ2 s1 s2 a],hW.cs,hW.fx,hW.z⟩,zzt _⟩
end
end Go.Sim
end
section
namespace Go.Sim
section
variable {d : Nat} {ρ ρ' ρ1 : Nat → DV} {V : Nat → List DV → Option (PV × Bool)} {σ σ' σ0 : AS} {E : Env} {S : List (Nat × Sg)}
mutual
theorem qik (th ρ:Nat→DV) : ∀v:DV,(v.ins th).ins ρ=v.ins fun n=>(th n).ins ρ
 | .tok _=>rfl
 | .a cs=>by rw[DV.ins,DV.ins,DV.ins,ql3 th ρ cs]
 | .l _ es _=>by rw[DV.ins,DV.ins,DV.ins,ql3 th ρ es]
 | .ifc _ v=>by rw[DV.ins,DV.ins,DV.ins,qik th ρ v]
 | .b _ | .i _ _ | .s _ | .np | .nf | .ni | .nm=>rfl
theorem ql3 (th ρ:Nat→DV) : ∀l:List DV,DV.insL ρ (DV.insL th l)=DV.insL (fun n=>(th n).ins ρ) l
 | []=>rfl
 |v::vs=>by rw[DV.insL,DV.insL,DV.insL,qik th ρ v,ql3 th ρ vs]
end
mutual
theorem qkb (th ρ:Nat→DV) : ∀v:PV,(v.ins th).ins ρ=v.ins fun n=>(th n).ins ρ
 | .d v=>by rw[PV.ins,PV.ins,PV.ins,qik]
 | .q v _ _=>by rw[PV.ins,PV.ins,PV.ins,qik]
 | .a cs=>by rw[PV.ins,PV.ins,PV.ins,qkc th ρ cs]
 | .t cs=>by rw[PV.ins,PV.ins,PV.ins,qkc th ρ cs]
 | .f _ cs=>by rw[PV.ins,PV.ins,PV.ins,qkc th ρ cs]
 | .m _ cs=>by rw[PV.ins,PV.ins,PV.ins,qkc th ρ cs]
 | .g v=>by rw[PV.ins,PV.ins,PV.ins,qkb th ρ v]
 | .w _ v=>by rw[PV.ins,PV.ins,PV.ins,qkb th ρ v]
 | .u | .r .. | .p .. | .h _=>rfl
theorem qkc (th ρ:Nat→DV) : ∀l:List PV,PV.insL ρ (PV.insL th l)=PV.insL (fun n=>(th n).ins ρ) l
 | []=>rfl
 |v::vs=>by rw[PV.insL,PV.insL,PV.insL,qkb th ρ v,qkc th ρ vs]
end
theorem qCG (th ρ:Nat→DV) (x:Obj):(x.ins th).ins ρ=x.ins fun n=>(th n).ins ρ:=by
 cases x with
 |box k v=>simp only[Obj.ins];rw[qkb]
 |sl k ro es=>simp only[Obj.ins];rw[ql3]
 |mp es =>
  simp only[Obj.ins,List.map_map];congr 1
  apply List.map_congr_left
  intro y _;simp only[Function.comp];rw[qik,qik]
 |si=>rfl
 |lp=>rfl
 |df=>rfl
theorem qJR (th ρ:Nat→DV) (H:Heap):(H.ins th).ins ρ=H.ins fun n=>(th n).ins ρ:=by
 unfold Heap.ins;rw[List.map_map];apply List.map_congr_left
 intro x _;cases x with
 |none=>rfl
 |some x=>exact congrArg some (qCG th ρ x)
theorem qsY (th ρ:Nat→DV) : ∀fr:Fr,(fr.ins th).ins ρ=fr.ins fun n=>(th n).ins ρ
 | []=>rfl
 | (j,v)::r=>by simp only[Fr.ins];rw[qkb,qsY th ρ r]
theorem qpx (hM:Mod d V σ ρ) {v:DV} {a:Nat×Int} (h:qlK v=some a):vI (v.ins ρ)=nv ρ a:=by
 cases v with
 |i k c=>cases h;rw[qfm hM];rfl
 |tok m=>cases h;unfold nv;simp[DV.ins]
 |s x=>cases h;rw[qfm hM];rfl
 |l k es t=>cases h;rw[qfm hM];simp only[DV.ins,vI,qcE]
 | _=>cases h
theorem qvE (hM:Mod d V σ ρ) {th:Nat→DV} : ∀(n:Nat) (g:List TA),thT σ.G th n g=true→∀i t,g[i]? = some t→Hs d t ((th (n+i)).ins ρ)
 | _,[],_,i,t,e=>by simp at e
 |n,t::ts,h,i,u,e=>by
  simp only[thT,zzf] at h;cases i with
  |zero=>simp at e;subst e;exact qg0 hM.ty _ _ h.1
  |succ i =>
   have:=qvE hM (n+1) ts h.2 i u (by simpa using e)
   rwa [show n+1+i=n+(i+1) by omega] at this
theorem qwX (hM:Mod d V σ ρ) {th:Nat→DV} {n0:Nat} {fr:Fr} {H:Heap} {g:List TA} {cs:List Fact} (h:qmy th n0 fr H g cs σ=true) :
  (St.mk fr H).ins (fun n=>(th n).ins ρ)=σ.st.ins ρ∧(∀i t,g[i]? = some t→Hs d t ((th (n0+i)).ins ρ))∧∀f∈cs,Fact.ok (fun n=>(th n).ins ρ) f:=by
 unfold qmy at h;simp only[zzf] at h;obtain⟨⟨⟨h1,h2⟩,h3⟩,h4⟩:=h;refine⟨?_,qvE hM n0 g h3,fun f hf => ?_⟩
 ·show St.mk (fr.ins _) (H.ins _)=St.mk (σ.fr.ins ρ) (σ.H.ins ρ)
  rw[←qsY,←qJR,qmB h1,qmx h2]
 ·have h5:=List.all_eq_true.1 h4 f hf
  unfold thF at h5;split at h5
  ·rename_i a b e1 e2
   have:=qb4 hM h5
   unfold Fact.ok;rw[qpx hM e1,qpx hM e2];exact this
  ·cases h5
theorem qrG {n0 m n:Nat} {bd:Bd} (h:n<n0):thD n0 m bd n = .tok n:=by
 unfold thD;rw[if_neg];rw[zzf];intro c
 have:=Nat.le_of_ble_eq_true c.1
 omega
theorem qyC (hs:Sc ρ) {n0:Nat} {g:List TA} {bd:Bd} (h : ∀i t,g[i]? = some t→Hs d t ((thD n0 g.length bd (n0+i)).ins ρ)):Sc fun n=>(thD n0 g.length bd n).ins ρ:=by
 intro n cs e;by_cases hn:n0≤n∧n<n0+g.length
 ·have hi:n-n0<g.length:=by omega
  have:=h (n-n0) _ (zze hi)
  rw[show n0+(n-n0)=n by omega] at this
  exact qxG this cs e
 ·have:thD n0 g.length bd n = .tok n:=by
   unfold thD;rw[if_neg];rw[zzf];intro c;exact hn ⟨Nat.le_of_ble_eq_true c.1,qi4 c.2⟩
  simp only at e;rw[this] at e;exact hs n cs e
def qhp (σ0:AS) (fr:Fr) (H:Heap) (g:List TA) (cs:List Fact):AS:=({ σ0 with fr:=fr,H:=H }.news g).add cs
theorem qoS (fr:Fr) (H:Heap) (g:List TA) (cs:List Fact):(qhp σ0 fr H g cs).G.length=σ0.G.length+g.length:=qiy (σ:={ σ0 with fr:=fr,H:=H }) g
theorem qs8 (hM:Mod d V σ0 ρ) (hW:σ0.wf) {fr:Fr} {H:Heap} {g:List TA} {cs:List Fact} (ha:Agr σ0.G.length ρ ρ') (hs:Sc ρ') (hg : ∀i t,g[i]? = some t→Hs d t (ρ' (σ0.G.length+i))) (hc : ∀f∈cs,Fact.ok ρ' f):Mod d V (qhp σ0 fr H g cs) ρ':=by
 have hz:ρ' 0 = .i .i64 0:=by rw[ha 0 hW.z];exact hM.z
 refine⟨hs,?_,?_,hz,?_⟩
 ·intro n t e;change (σ0.G++g)[n]? = some t at e
  by_cases hlt:n<σ0.G.length
  ·rw[List.getElem?_append_left hlt] at e;rw[ha n hlt];exact hM.ty n t e
  ·rw[List.getElem?_append_right (by omega)] at e
   have:=hg _ t e
   rwa [show σ0.G.length+(n-σ0.G.length)=n by omega] at this
 ·intro f hf;rcases List.mem_append.1 hf with hf|hf
  ·exact hc f hf
  ·rcases List.mem_append.1 hf with hf|hf
   ·exact qm7 hz g _ hg f hf
   ·exact qzg (hW.fx f hf).1 (hW.fx f hf).2 ha (hM.fx f hf)
 ·intro c hc;obtain⟨own,h1⟩:=hM.cs c hc
  have:=hW.cs _ _ hM.sc hs ha c hc
  exact⟨own,by rw[this.1,this.2];exact h1⟩
theorem qBV (hW:σ0.wf) {fr:Fr} {H:Heap} {g:List TA} {cs:List Fact} (h1:cs.all (qlv (σ0.G.length+g.length))=true) (h2:fr.bnd (σ0.G.length+g.length)=true) (h3:qhD (σ0.G.length+g.length) H=true):(qhp σ0 fr H g cs).wf:=by
 have hl:=qoS (σ0:=σ0) fr H g cs
 refine⟨fun ρ1 ρ2 s1 s2 a => ?_,fun ρ1 ρ2 s1 s2 a=>hW.cs ρ1 ρ2 s1 s2 (a.le (by omega)),?_,by have:=hW.z;omega⟩
 ·show St.mk (fr.ins ρ2) (H.ins ρ2)=St.mk (fr.ins ρ1) (H.ins ρ1)
  rw[hl] at a;rw[qox a fr h2,qnt a H h3]
 ·intro f hf;rw[hl];rcases List.mem_append.1 hf with hf|hf
  ·exact qs4 (List.all_eq_true.1 h1 f hf)
  ·rcases List.mem_append.1 hf with hf|hf
   ·exact qmP g _ f hf
   ·have:=hW.fx f hf;omega
def mea (ρ:Nat→DV) (ms:Bool×Nat×Nat):Nat:=if ms.1=true then (vI (ρ ms.2.2)-vI (ρ ms.2.1)).toNat else (vI (ρ ms.2.1)).toNat
theorem quk (hM:Mod d V σ ρ1) {n0 m:Nat} {bd:Bd} {ms:Bool×Nat×Nat} (h:qrd (thD n0 m bd) n0 m σ.fx ms=true) (ha:Agr (n0+m) ρ' ρ1):mea (fun n=>(thD n0 m bd n).ins ρ1) ms<mea ρ' ms:=by
 unfold qrd at h;split at h
 ·rename_i a e;rw[zzf] at h;have hc:=qi4 h.1
  have hn:=qpx hM e
  have ec:=ha _ hc
  have h2:=h.2
  unfold mea;split at h2
  ·rename_i e1;simp only[zzf] at h2;obtain⟨⟨h3,h4⟩,h5⟩:=h2;have hb:=qi4 h3
   have b4:=qb4 hM h4
   have b5:=qb4 hM h5
   have eb:=ha ms.2.2 (by omega)
   rw[if_pos e1,if_pos e1];simp only;rw[qrG hb,hn];show (vI (ρ1 ms.2.2)-nv ρ1 a).toNat<_
   unfold nv at b4 b5;simp only at b4 b5;unfold nv;rw[←ec,←eb];omega
  ·rename_i e1;rw[zzf] at h2;have b4:=qb4 hM h2.1
   have b5:=qb4 hM h2.2
   unfold z0 at b5;rw[qfm hM] at b5;rw[if_neg e1,if_neg e1];simp only;rw[hn];unfold nv at b4 b5;simp only at b4 b5;unfold nv;rw[←ec];omega
 ·cases h
def Snd (d:Nat) (V:Nat→List DV→Option (PV×Bool)) (f:AS→Option (List (Ex×AS))) (F:St→Res):Prop :=
 ∀σ ρ outs,Mod d V σ ρ→σ.wf→f σ=some outs→∃o∈outs,∃ρ',Nx d V σ ρ o.2 ρ'∧F (σ.st.ins ρ)=some (o.1,o.2.st.ins ρ')
theorem qq4 {e:Ex} (h:isN e=true):e = .norm:=by cases e<;>first|rfl|cases h
theorem qEh {f:AS→Option (List (Ex×AS))} {F:St→Res} (hF:Snd d V f F) (hM:Mod d V σ0 ρ) {live:List Nat} {fr:Fr} {H:Heap} {g:List TA} {cs:List Fact} {outs:List (Ex×AS)} (hf:f (qhp σ0 fr H g cs)=some outs) (hW:σ0.wf) (hWg:(qhp σ0 fr H g cs).wf) {ms:Bool×Nat×Nat}
  (hk : ∀σ1∈(outs.filter qcv).map (·.2),qkP live σ0.G.length fr H g cs ms σ1=true) : ∀(k:Nat) (ρ':Nat→DV) (s:St),Mod d V (qhp σ0 fr H g cs) ρ'→Agr σ0.G.length ρ ρ'→gc live 0 s=(St.mk fr H).ins ρ'→mea ρ' ms≤k →
  ∃o∈outs.filter (fun o => !qcv o),∃ρ2,Nx d V σ0 ρ o.2 ρ2∧lpI (fun s=>F (gc live 0 s)) s=some (o.1,o.2.st.ins ρ2):=by
 intro k;induction k with
 |zero =>
  intro ρ' s hMg ha hs hm;obtain⟨o,ho,ρ1,hn,he⟩:=hF _ ρ' outs hMg hWg hf;have hl:=qoS (σ0:=σ0) fr H g cs
  have he':(fun s=>F (gc live 0 s)) s=some (o.1,o.2.st.ins ρ1):=by show F (gc live 0 s)=_;rw[hs];exact he
  cases hb:isN o.1 with
  |true =>
   have:=hk o.2 (List.mem_map.2 ⟨o,List.mem_filter.2 ⟨ho,hb⟩,rfl⟩)
   unfold qkP at this;split at this
   ·rename_i bd _;rw[zzf] at this;have hgc:=qoF hn.m hn.wf live
    have:=quk hgc.m this.2 (ρ':=ρ') (hn.ag.le (by omega))
    omega
   ·cases this
  |false =>
   refine⟨o,List.mem_filter.2 ⟨ho,by unfold qcv;rw[hb];rfl⟩,ρ1,⟨ha.trans (hn.ag.le (by omega)),hn.m,hn.wf,Nat.le_trans (by omega) hn.le⟩,?_⟩
   exact qqd (f:=fun s=>F (gc live 0 s)) he' (fun c=>by rw[c] at hb;cases hb)
 |succ k ih =>
  intro ρ' s hMg ha hs hm;obtain⟨o,ho,ρ1,hn,he⟩:=hF _ ρ' outs hMg hWg hf;have hl:=qoS (σ0:=σ0) fr H g cs
  have he':(fun s=>F (gc live 0 s)) s=some (o.1,o.2.st.ins ρ1):=by show F (gc live 0 s)=_;rw[hs];exact he
  cases hb:isN o.1 with
  |true =>
   have hkk:=hk o.2 (List.mem_map.2 ⟨o,List.mem_filter.2 ⟨ho,hb⟩,rfl⟩)
   unfold qkP at hkk;split at hkk
   ·rename_i bd _;rw[zzf] at hkk;have hgc:=qoF hn.m hn.wf live
    have hfall:=quk hgc.m hkk.2 (ρ':=ρ') (hn.ag.le (by omega))
    obtain⟨f1,f2,f3⟩:=qwX hgc.m hkk.1;have hag:Agr σ0.G.length ρ fun n=>(thD σ0.G.length g.length bd n).ins ρ1:=by
     intro n hlt;simp only;rw[qrG hlt];show ρ1 n=ρ n
     rw[hn.ag n (by omega),ha n hlt]
    obtain⟨o2,h1,ρ2,h2,h3⟩:=ih _ (o.2.st.ins ρ1) (qs8 hM hW hag (qyC hgc.m.sc f2) f2 f3) hag (by rw[f1,qmU]) (by omega)
    refine⟨o2,h1,ρ2,h2,?_⟩;rw[qq4 hb] at he';exact (qwK (f:=fun s=>F (gc live 0 s)) he').trans h3
   ·cases hkk
  |false =>
   refine⟨o,List.mem_filter.2 ⟨ho,by unfold qcv;rw[hb];rfl⟩,ρ1,⟨ha.trans (hn.ag.le (by omega)),hn.m,hn.wf,Nat.le_trans (by omega) hn.le⟩,?_⟩
   exact qqd (f:=fun s=>F (gc live 0 s)) he' (fun c=>by rw[c] at hb;cases hb)
end
end Go.Sim
end
section
namespace Go.Sim
section
variable {d : Nat} {ρ ρ' ρ1 : Nat → DV} {V : Nat → List DV → Option (PV × Bool)} {σ σ' σ0 : AS} {E : Env} {S : List (Nat × Sg)}
theorem qsQ {live:List Nat} {n0:Nat} {fr:Fr} {H:Heap} {g:List TA} {cs:List Fact} {l:List AS} {m:Bool×Nat×Nat} : ∀{ms:List (Bool×Nat×Nat)},qka live n0 fr H g cs l ms=some m→l.all (qkP live n0 fr H g cs m)=true
 | [],h=>by cases h
 |x::r,h=>by
  unfold qka at h;split at h
  ·rename_i e;cases h;exact e
  ·exact qsQ h
theorem qHb {f:AS→Option (List (Ex×AS))} {F:St→Res} (hF:Snd d V f F) (hM:Mod d V σ0 ρ) (hW:σ0.wf) {live:List Nat} {s:St} (hs:gc live 0 s=σ0.st.ins ρ) {fr:Fr} {H:Heap} {g:List TA} {cs:List Fact} {outs outs':List (Ex×AS)} {ms:List (Bool×Nat×Nat)} (hf:f (qhp σ0 fr H g cs)=some outs)
  (hb:qsa σ0.G.length fr H g cs σ0=true) (h:(match qka live σ0.G.length fr H g cs ((outs.filter qcv).map (·.2)) ms with
   |some _=>some (outs.filter fun o => !qcv o)
   |none=>none)=some outs') :
  ∃o∈outs',∃ρ2,Nx d V σ0 ρ o.2 ρ2∧lpI (fun s=>F (gc live 0 s)) s=some (o.1,o.2.st.ins ρ2):=by
 split at h
 ·rename_i m e;cases h;unfold qsa at hb;split at hb
  ·rename_i bd _;simp only[zzf] at hb;obtain⟨b1,b2,b3,b4⟩:=hb;obtain⟨f1,f2,f3⟩:=qwX hM b1;have hag:Agr σ0.G.length ρ fun n=>(thD σ0.G.length g.length bd n).ins ρ:=by
    intro n hlt;simp only;rw[qrG hlt];rfl
   exact qEh hF hM hf hW (qBV hW b2 b3 b4) (fun σ1 h1=>List.all_eq_true.1 (qsQ e) σ1 h1) _ _ s (qs8 hM hW hag (qyC hM.sc f2) f2 f3) hag (by rw[f1,hs]) (zzt _)
  ·cases hb
 ·cases h
theorem qLC {f:AS→Option (List (Ex×AS))} {F:St→Res} (hF:Snd d V f F) (hM:Mod d V σ0 ρ) (hW:σ0.wf) {live:List Nat} {s:St} (hs:gc live 0 s=σ0.st.ins ρ) : ∀(n:Nat) (x:Fr×Heap×List TA) (bad:List Fact) (outs':List (Ex×AS)),qjl f live σ0 n x bad=some outs' →
  ∃o∈outs',∃ρ2,Nx d V σ0 ρ o.2 ρ2∧lpI (fun s=>F (gc live 0 s)) s=some (o.1,o.2.st.ins ρ2):=by
 intro n;induction n with
 |zero=>intro x bad outs' h;cases h
 |succ n ih =>
  intro x bad outs' h;unfold qjl at h;simp only at h;split at h
  ·cases h
  ·rename_i bd _;split at h
   ·cases h
   ·rename_i outs e1;split at h
    ·cases h
    ·rename_i y _;split at h
     ·exact ih _ _ _ h
     ·split at h
      ·exact ih _ _ _ h
      ·split at h
       ·rename_i hb;exact qHb hF hM hW hs e1 hb h
       ·cases h
theorem qHT {f:AS→Option (List (Ex×AS))} {F:St→Res} (hF:Snd d V f F) {live:List Nat} : ∀(n:Nat),Snd d V (qlP f live n) (lpI fun s=>F (gc live 0 s)):=by
 intro n;induction n with
 |zero=>intro σ ρ outs _ _ h;cases h
 |succ n ih =>
  intro σ ρ outs' hM hW h;unfold qlP at h;simp only at h;have hg:=qoF hM hW live
  have hs:gc live 0 (σ.st.ins ρ)=(σ.gc live).st.ins ρ:=(qmU live ρ).symm
  split at h
  ·cases h
  ·rename_i outs e1;split at h
   ·split at h
    ·obtain⟨o,h1,ρ2,h2,h3⟩:=qLC hF hg.m hg.wf hs _ _ _ _ h;exact⟨o,h1,ρ2,hg.trans h2,h3⟩
    ·cases h
   ·obtain⟨o,ho,ρ1,hn,he⟩:=hF _ ρ outs hg.m hg.wf e1;have he':(fun s=>F (gc live 0 s)) (σ.st.ins ρ)=some (o.1,o.2.st.ins ρ1):=by show F (gc live 0 _)=_;rw[hs];exact he
    obtain⟨y,e2,hy⟩:=qmD h o ho;cases hb:isN o.1 with
    |true =>
     have hb':qcv o=true:=hb
     rw[if_pos hb'] at e2;obtain⟨o2,h1,ρ2,h2,h3⟩:=ih _ ρ1 y hn.m hn.wf e2;refine⟨o2,hy _ h1,ρ2,hg.trans (hn.trans h2),?_⟩;rw[qq4 hb] at he';exact (qwK (f:=fun s=>F (gc live 0 s)) he').trans h3
    |false =>
     have hb' : ¬qcv o=true:=by unfold qcv;rw[hb];decide
     rw[if_neg hb'] at e2;cases e2;refine⟨o,hy _ (List.mem_singleton.2 rfl),ρ1,hg.trans hn,?_⟩;exact qqd (f:=fun s=>F (gc live 0 s)) he' (fun c=>by rw[c] at hb;cases hb)
theorem qv1 {fr:Fr} {c:Rand} {b:Bool} (h:rdA fr c = .d (.b b)):rd E (fr.ins ρ) c = .d (.b b):=by
 cases c with
 |t n =>
  show (fr.ins ρ).get n=_
  rw[qhh];have:fr.get n = .d (.b b):=h
  rw[this];rfl
 |c v=>exact h
 |g n=>cases h
 |f n=>cases h
theorem qKJ (hS:qcU d V S) (hE:E.val=V) : ∀c:PC,Snd d V (qfz S c) (fun s=>qah E lpI 0 c s):=by
 intro c;induction c with
 |skip =>
  intro σ ρ outs hM hW h;cases h;exact⟨_,List.mem_singleton.2 rfl,ρ,⟨Agr.rfl',hM,hW,zzt _⟩,rfl⟩
 |reg ops kill =>
  intro σ ρ outs hM hW h;obtain⟨o,h1,ρ',h2,h3,h4⟩:=qus hM hW hS hE h;rw[if_neg (by decide)] at h4
  refine⟨o,h1,ρ',h3,?_⟩;simp only[qah];rw[h4,h2]
 |regD ops bf kill =>
  intro σ ρ outs hM hW h;obtain⟨o,h1,ρ',h2,h3,h4⟩:=qus hM hW hS hE h;rw[if_pos rfl] at h4;refine⟨o,h1,ρ',h3,?_⟩;simp only[qah];rw[h4,h2]
 |seq a b iha ihb =>
  intro σ ρ outs hM hW h;unfold qfz at h;split at h
  ·rename_i l e1;obtain⟨o,ho,ρ1,hn,he⟩:=iha σ ρ l hM hW e1;obtain⟨y,e2,hy⟩:=qmD h o ho;simp only[qah];simp only at he;cases hb:isN o.1 with
   |true =>
    have hb':qcv o=true:=hb
    rw[if_pos hb'] at e2;obtain⟨o2,h1,ρ2,h2,h3⟩:=ihb _ ρ1 y hn.m hn.wf e2;refine⟨o2,hy _ h1,ρ2,hn.trans h2,?_⟩;rw[he,qq4 hb];exact h3
   |false =>
    have hb' : ¬qcv o=true:=by unfold qcv;rw[hb];decide
    rw[if_neg hb'] at e2;cases e2;refine⟨o,hy _ (List.mem_singleton.2 rfl),ρ1,hn,?_⟩;rw[he];obtain⟨e,σ1⟩:=o;cases e with
    |norm=>cases hb
    |exit i=>rfl
    |ret=>rfl
  ·cases h
 |cond c x y ihx ihy =>
  intro σ ρ outs hM hW h;unfold qfz at h;simp only[qah];split at h
  ·rename_i e;have:rd E (σ.st.ins ρ).fr c = .d (.b true):=qv1 e
   rw[this];exact ihx σ ρ outs hM hW h
  ·rename_i e;have:rd E (σ.st.ins ρ).fr c = .d (.b false):=qv1 e
   rw[this];exact ihy σ ρ outs hM hW h
  ·cases h
 |block id x ih =>
  intro σ ρ outs hM hW h;unfold qfz at h;split at h
  ·rename_i l e1;cases h;obtain⟨o,ho,ρ1,hn,he⟩:=ih σ ρ l hM hW e1;simp only[qah];simp only at he;refine⟨_,List.mem_map.2 ⟨o,ho,rfl⟩,ρ1,?_,?_⟩
   ·split
    ·split
     ·exact hn
     ·exact hn
    ·exact hn
   ·rw[he];obtain⟨e,σ1⟩:=o;cases e with
    |norm=>rfl
    |exit i =>
     simp only;split
     ·rfl
     ·rfl
    |ret=>rfl
  ·cases h
 |loop live x ih =>
  intro σ ρ outs hM hW h;exact qHT ih 40 σ ρ outs hM hW h
 |exit id =>
  intro σ ρ outs hM hW h;cases h;exact⟨_,List.mem_singleton.2 rfl,ρ,⟨Agr.rfl',hM,hW,zzt _⟩,rfl⟩
 |ret =>
  intro σ ρ outs hM hW h;cases h;exact⟨_,List.mem_singleton.2 rfl,ρ,⟨Agr.rfl',hM,hW,zzt _⟩,rfl⟩
 |rng=>intro σ ρ outs hM hW h;cases h
 |bad=>intro σ ρ outs hM hW h;cases h
end
end Go.Sim
end
section
namespace Go.Sim
section
variable {d : Nat} {ρ ρ' ρ1 : Nat → DV} {V : Nat → List DV → Option (PV × Bool)} {σ σ' σ0 : AS} {E : Env} {S : List (Nat × Sg)}
def qht (args:List (K×List TA)):AS:={ fr:=Fr.ofArgs 0 (qcj 1 args),H:=[],G:=.i .i64::qcH args,fx:=fxs 1 (qcH args) }
def qkN (H:Heap):PV→Option (List DV)
 | .t vs=>match qaL H vs with|some (xs,_)=>if Nat.beq xs.length 1 then none else some xs|none=>none
 | .d x=>some [x]
 | .r o k off len t=>match qa2 H (.r o k off len t) with|some (x,_)=>some [x]|none=>none
 | .a cs=>match qcz H cs with|some (xs,_)=>some [.a xs]|none=>none
 | _=>none
def qwP (res:List (K×List TA)) (rs:List RV) (o:Ex×AS):Bool:=(match o.1 with | .exit _=>false|_=>true)&&((qaE o.2.fr).isEmpty&&match results o.2.fr o.2.H rs with
 |some vs=>match qkN o.2.H (qaZ vs) with
  |some xs=>qif o.2.G res xs
  |none=>false
 |none=>false)
def qap (S:List (Nat×Sg)) (F:PF) (g:Sg):Bool:=Nat.beq g.args.length F.nargs&&match qfz S F.body (qht g.args) with
 |some l=>l.all (qwP g.res F.results)
 |none=>false
theorem qru (hρ:Sc ρ) {fr:Fr} {H:Heap} : ∀{rs:List RV} {vs:List PV},results fr H rs=some vs→results (fr.ins ρ) (H.ins ρ) rs=some (PV.insL ρ vs)
 | [],vs,h=>by cases h;rfl
 | .t n::r,vs,h=>by
  simp only[results] at h⊢;split at h
  ·rename_i ws e;cases h;rw[qru hρ e,qhh];rfl
  ·cases h
 | .c n k::r,vs,h=>by
  simp only[results] at h⊢;split at h
  ·rename_i v ws e1 e2;cases h;rw[qru hρ e2,qhh,qxD hρ e1];rfl
  ·cases h
theorem qqf : ∀fr:Fr,qaE (fr.ins ρ)=(qaE fr).map (PV.ins ρ)
 | []=>rfl
 | (j,v)::r=>by
  simp only[Fr.ins,qaE];split
  ·rw[zzu,qqf r]
  ·exact qqf r
theorem qxs {H:Heap} : ∀{l:List PV} {xs:List DV} {os:List Nat},qaL H l=some (xs,os)→qaL (H.ins ρ) (PV.insL ρ l)=some (DV.insL ρ xs,os)
 | [],xs,os,h=>by cases h;rfl
 |v::r,xs,os,h=>by
  simp only[qaL] at h;split at h
  ·rename_i x os1 ys os2 e1 e2;cases h;simp only[PV.insL,qaL];rw[qqt e1,qxs e2];rfl
  ·cases h
theorem qsm {es:List DV} {k:K} : ∀{n:Nat},¬XD n (.l k es true)
 | 0,h=>by cases h
 | _+1,⟨_,h,_⟩=>by cases h
theorem qBY {ty:TA} {es:List DV} {k:K} (h:Hs d ty (.l k es true)):Hs d ty (.l k es false):=by
 cases ty with
 |b=>obtain⟨_,h⟩:=h;cases h
 |i k=>obtain⟨_,h,_⟩:=h;cases h
 |s=>obtain⟨_,h,_⟩:=h;cases h
 |l k m ts=>obtain⟨_,_,h,hl,hm,he⟩:=h;cases h;exact⟨_,_,rfl,hl,hm,he⟩
 |e n =>
  match n,h with
  | 0,⟨m,h⟩=>exact (qsm h).elim
  | 1,h=>exact (qsm (n:=d) h).elim
  |n+2,⟨m,hm,h⟩=>exact (qsm h).elim
theorem qGV {kt:K×List TA} {es:List DV} {k:K} (h:HsK d kt (.l k es true)):HsK d kt (.l k es false):=by
 obtain⟨k0,ts⟩:=kt;obtain⟨cs,h1,h2⟩:=h;cases k0 with
 |none =>
  match cs,ts,h1,h2 with
  | [x],[ty],h1,h2 =>
   have:x = .l k es true:=by simpa[mkD] using h1
   subst this;exact⟨[.l k es false],rfl,qBY h2.1,trivial⟩
  | [_],[],_,h2=>exact h2.elim
  | [_],_::_::_,_,h2=>exact h2.2.elim
 |some n =>
  simp only[mkD] at h1;split at h1<;>cases h1
theorem qBF (_hρ:Sc ρ) {H:Heap} {v:PV} {xs:List DV} (h:qkN H v=some xs) {res:List (K×List TA)} (hx:qbu d res (DV.insL ρ xs)) : ∃vs own,purT (H.ins ρ) (v.ins ρ)=some (qaZ (vs.map .d),own)∧qbu d res vs:=by
 cases v with
 |t vs =>
  simp only[qkN] at h;split at h
  ·rename_i ys os e;split at h
   ·cases h
   ·rename_i hl;cases h;refine⟨DV.insL ρ xs,false,?_,hx⟩;show purT (H.ins ρ) (.t (PV.insL ρ vs))=_
    simp only[purT];rw[qxs e];have hl2:xs.length≠1:=fun c=>hl (by rw[c];rfl)
    match xs,hl2 with
    | [],_=>rfl
    | [x],c=>exact absurd rfl c
    | _::_::_,_=>rfl
  ·cases h
 |d x =>
  cases h;have key : ∀y:DV,qbu d res [y]→∃vs own,purT (H.ins ρ) (.d y)=some (qaZ (vs.map .d),own)∧qbu d res vs:=by
   intro y hy;match y,hy with
   | .l k es true,hy =>
    refine⟨[.l k es false],es.isEmpty,rfl,?_⟩;match res,hy with
    | [kt],hy=>exact⟨qGV hy.1,trivial⟩
   | .l k es false,hy=>exact⟨[_],false,rfl,hy⟩
   | .b _,hy | .i _ _,hy | .s _,hy | .a _,hy | .np,hy | .nf,hy | .ni,hy | .nm,hy | .ifc _ _,hy | .tok _,hy=>exact⟨[_],false,rfl,hy⟩
  exact key _ hx
 |r o k off len t =>
  simp only[qkN] at h;split at h
  ·rename_i x os e;cases h;have e2:=qo5 (ρ:=ρ) e
   refine⟨[x.ins ρ],?_⟩;simp only[PV.ins] at e2⊢;simp only[qa2] at e2;simp only[purT];split at e2
   ·rename_i k' ro es eo;split at e2
    ·rename_i hc;rw[if_pos hc];simp only[zzb,zzc] at e2;exact⟨_,by rw[e2.1];rfl,hx⟩
    ·cases e2
   ·cases e2
  ·cases h
 |a cs =>
  simp only[qkN] at h;split at h
  ·rename_i ys os e;cases h;refine⟨[.a (DV.insL ρ ys)],false,?_,hx⟩;show purT (H.ins ρ) (.a (PV.insL ρ cs))=_
   simp only[purT,pur];rw[qrr cs e];rfl
  ·cases h
 | _=>cases h
theorem ql5 : ∀(l:List PV) (n:Nat),(Fr.ofArgs n l).ins ρ=Fr.ofArgs n (PV.insL ρ l)
 | [],_=>rfl
 |v::r,n=>by
  have app : ∀a b:Fr,Fr.ins ρ (a++b)=a.ins ρ++b.ins ρ:=by
   intro a b;induction a with
   |nil=>rfl
   |cons x a ih=>obtain⟨j,w⟩:=x;simp only[List.cons_append,Fr.ins];rw[ih]
  simp only[Fr.ofArgs,PV.insL];rw[app,ql5 r (n+1)];rfl
theorem qw7 {T:Tab} {f:Nat} {F:PF} (hF:T.F f=some F) {g:Sg} (h:qap S F g=true) (hS:qcU d T.val S) {ds:List DV} (hd:qbu d g.args ds) : ∃vs own,T.val f ds=some (qaZ (vs.map .d),own)∧qbu d g.res vs:=by
 unfold qap at h;rw[zzf] at h;obtain⟨h0,h⟩:=h;split at h
 ·rename_i l e;obtain⟨css,c1,c2⟩:=qpk g.args ds hd;have hρ0:Sc (fun _=>DV.i .i64 0):=fun n cs e=>by cases e
  let ρ:=upn (fun _=>DV.i .i64 0) 1 css
  have hsc:Sc ρ:=qzf hρ0 c1
  have hz:ρ 0 = .i .i64 0:=qhd (by omega)
  have hn : ∀i t,(qcH g.args)[i]? = some t→Hs d t (ρ (1+i)):=by
   intro i t e;obtain⟨x,e1,e2⟩:=qqV c1 i t e;show Hs d t (upn _ 1 css (1+i))
   rw[qfn e1];exact e2
  have hgl:(qht g.args).G.length=1+(qcH g.args).length:=by show (_::_:List TA).length=_;rw[zzn];omega
  have hM:Mod d T.val (qht g.args) ρ:=by
   refine⟨hsc,?_,qm7 hz _ 1 hn,hz,fun c hc=>by cases hc⟩
   intro n t e;cases n with
   |zero =>
    have:t = .i .i64:=by simpa[qht] using e.symm
    subst this;exact⟨0,hz,by decide⟩
   |succ n =>
    have:=hn n t (by simpa[qht] using e)
    rwa [show 1+n=n+1 by omega] at this
  have hW:(qht g.args).wf:=by
   refine⟨fun ρ1 ρ2 _ _ a => ?_,(fun _ _ _ _ _ c hc=>by cases hc),fun f hf => ?_,by omega⟩
   ·show St.mk ((Fr.ofArgs 0 (qcj 1 g.args)).ins ρ2) (Heap.ins ρ2 [])=St.mk ((Fr.ofArgs 0 (qcj 1 g.args)).ins ρ1) (Heap.ins ρ1 [])
    rw[hgl] at a;rw[ql5,ql5,qij a _ (qp8 _ _ hd 1 _ (zzt _))];rfl
   ·have:=qmP _ 1 f hf
    omega
  obtain⟨o,ho,ρ',hn,he⟩:=qKJ (E:=T.env) hS rfl F.body _ ρ l hM hW e;have hout:=List.all_eq_true.1 h o ho
  have e1:(qht g.args).st.ins ρ=⟨Fr.ofArgs 0 (ds.map .d),[]⟩:=by
   show St.mk ((Fr.ofArgs 0 (qcj 1 g.args)).ins ρ) (Heap.ins ρ [])=_
   have:=c2 (fun _=>DV.i .i64 0) 1 []
   rw[ql5];have e3:PV.insL ρ (qcj 1 g.args)=ds.map .d:=by simpa using this
   rw[e3];rfl
  have hlen:(ds.map PV.d).length=F.nargs:=by
   have hl : ∀(ks:List (K×List TA)) (vs:List DV),qbu d ks vs→ks.length=vs.length:=by
    intro ks;induction ks with
    |nil=>intro vs h;cases vs with
     |nil=>rfl
     |cons=>exact h.elim
    |cons k ks ih=>intro vs h;cases vs with
     |nil=>exact h.elim
     |cons v vs=>rw[zzn,zzn,ih vs h.2]
   rw[zzo,←hl _ _ hd];exact Nat.eq_of_beq_eq_true h0
  unfold qwP at hout;rw[zzf,zzf] at hout;obtain⟨h2,h3,h4⟩:=hout;split at h4
  ·rename_i vs e5;split at h4
   ·rename_i xs e6;have hk:=qo9 hn.m.ty h4
    obtain⟨ws,own,p1,p2⟩:=qBF hn.m.sc e6 hk;refine⟨ws,own,?_,p2⟩;rw[quG T hF];have hg:qaE (o.2.st.ins ρ').fr=[]:=by
     show qaE (o.2.fr.ins ρ')=[]
     rw[qqf,List.isEmpty_iff.1 h3];rfl
    have hr:results (o.2.st.ins ρ').fr (o.2.st.ins ρ').H F.results=some (PV.insL ρ' vs):=qru hn.m.sc e5
    have hev:qa4 T.env lpI F (ds.map .d) []=some (qaZ (PV.insL ρ' vs),(o.2.st.ins ρ').H):=by
     unfold qa4;rw[if_pos hlen];simp only at he;rw[e1] at he;show (match qah T.env lpI 0 F.body ⟨Fr.ofArgs 0 (ds.map .d),[]⟩ with
      |some (.norm,s)|some (.ret,s)=>match runG T.env (qaE s.fr) s.H with
       |some H'=>match results s.fr H' F.results with
        |some vs=>some (qaZ vs,H')
        |none=>none
       |none=>none
      | _=>none)=_
     rw[he];obtain⟨ex,σ1⟩:=o;cases ex with
     |exit i=>cases h2
     |norm=>simp only[hg,runG,hr]
     |ret=>simp only[hg,runG,hr]
    rw[hev];simp only;rw[←qxa];exact p1
   ·cases h4
  ·cases h4
 ·cases h
end
end Go.Sim
end
section
namespace Go.Sim
set_option maxRecDepth 10000
mutual
def Ty.ta:Ty→TA
 | .b=>.b
 | .i k=>.i k
 | .s=>.s
 | .e=>.e 0
 | .l k w ts=>.l k (if Nat.beq w 0 then maxLen else qa8/w) (Ty.taL ts)
def Ty.taL:List Ty→List TA
 | []=>[]
 |t::ts=>Ty.ta t::Ty.taL ts
end
theorem qvX : ∀{x:DV},XL x→∃n,XD n x:=by
 intro x hx;refine XL.rec (motive_1:=fun x _=>∃n,XD n x) (motive_2:=fun e _=>∃n,∃o m s a,e = .a [.i .i64 o,.i .i64 m,.s s,a]∧(Lit.int .i64 o).wf=true∧(Lit.int .i64 m).wf=true∧s.length≤maxLen∧XD n a) ?_ ?_ hx
 ·intro es _ _ hc ih;have key : ∀es:List DV,(∀e∈es,∃n,∃o m s a,e = .a [.i .i64 o,.i .i64 m,.s s,a]∧(Lit.int .i64 o).wf=true∧(Lit.int .i64 m).wf=true∧s.length≤maxLen∧XD n a)→∃n,∀e∈es,∃o m s a,e = .a [.i .i64 o,.i .i64 m,.s s,a]∧(Lit.int .i64 o).wf=true∧(Lit.int .i64 m).wf=true∧s.length≤maxLen∧XD n a:=by
   intro es;induction es with
   |nil=>intro _;exact⟨0,fun e he=>by cases he⟩
   |cons e es ih =>
    intro h;obtain⟨n,o,m,s,a,h1,h2,h3,h4,h5⟩:=h e (zzr ..);obtain⟨k,hk⟩:=ih fun e he=>h e (zzi _ he)
    refine⟨max n k,fun e' he => ?_⟩
    rcases List.mem_cons.1 he with rfl|he
    ·exact⟨o,m,s,a,h1,h2,h3,h4,qqr (Nat.le_max_left ..) h5⟩
    ·obtain⟨o,m,s,a,h1,h2,h3,h4,h5⟩:=hk e' he;exact⟨o,m,s,a,h1,h2,h3,h4,qqr (Nat.le_max_right ..) h5⟩
  obtain⟨n,hn⟩:=key es ih;exact⟨n+1,es,rfl,hc,hn⟩
 ·intro o n s a h1 h2 h3 _ ⟨k,hk⟩;exact⟨k,o,n,s,a,rfl,h1,h2,h3,hk⟩
theorem qx9 : ∀{n:Nat} {x:DV},XD n x→XL x
 | 0,_,h=>by
  have:_=_:=h
  subst this;exact .mk [] (Nat.zero_le _) (fun e he=>by cases he) (by simp)
 |n+1,_,⟨es,h,hc,he⟩=>by
  subst h;refine .mk es ?_ (fun e hm => ?_) hc
  ·unfold qa8 at hc;have:maxLen=9223372036854775807:=rfl
   omega
  ·obtain⟨o,m,s,a,h1,h2,h3,h4,h5⟩:=he e hm;rw[h1];exact .mk o m s a h2 h3 h4 (qx9 h5)
mutual
theorem qFC (d:Nat) : ∀(t:Ty) {x:DV},Has t x→Hs d t.ta x
 | .b,_,h=>h
 | .i _,_,h=>h
 | .s,_,h=>h
 | .e,_,h=>qvX h
 | .l k b ts,_,⟨es,h,h1,h2,h3⟩=>⟨es,false,h,h1,by
   split
   ·exact h1
   ·rename_i hb;exact (Nat.le_div_iff_mul_le (Nat.pos_of_ne_zero fun c=>hb (by rw[c];rfl))).2 h2,fun e he=>by
   obtain⟨cs,c1,c2⟩:=h3 e he;exact⟨cs,c1,qqb d ts c2⟩⟩
theorem qqb (d:Nat) : ∀(ts:List Ty) {xs:List DV},qam ts xs→HsL d (Ty.taL ts) xs
 | [],[],_=>trivial
 |t::ts,_x::_xs,h=>⟨qFC d t h.1,qqb d ts h.2⟩
 | [],_::_,h=>h.elim
 | _::_,[],h=>h.elim
end
def qai (T:Tab) (f:Nat) (s:Sg):Prop:=∀d ds,qbu d s.args ds→∃vs own,T.val f ds=some (qaZ (vs.map .d),own)∧qbu d s.res vs
theorem qaq {d:Nat} {V:Nat→List DV→Option (PV×Bool)}:qcU d V []:=fun _ _ h=>by cases h
theorem qak {T:Tab} {d f:Nat} {s:Sg} {S:List (Nat×Sg)} (h:qai T f s) (r:qcU d T.val S):qcU d T.val ((f,s)::S):=by
 intro g t hl;unfold qih at hl;split at hl
 ·rename_i e;cases hl;rw[←Nat.eq_of_beq_eq_true e];exact h d
 ·exact r g t hl
theorem qat {T:Tab} {f:Nat} {F:PF} {s:Sg} {S:List (Nat×Sg)} (hF:T.F f=some F) (h:qap S F s=true) (hS : ∀d,qcU d T.val S):qai T f s:=fun d _ hd=>qw7 hF h (hS d) hd
mutual
def TA.pl:TA→Bool
 | .e _=>false
 | .l _ _ ts=>TA.plL ts
 | _=>true
def TA.plL:List TA→Bool
 | []=>true
 |t::ts=>TA.pl t&&TA.plL ts
end
mutual
theorem qKh {d d':Nat} : ∀(t:TA) {x:DV},t.pl=true→Hs d t x→Hs d' t x
 | .b,_,_,h=>h
 | .i _,_,_,h=>h
 | .s,_,_,h=>h
 | .e _,_,hp,_=>by cases hp
 | .l k m ts,_,hp,⟨es,t,h,h1,h2,h3⟩=>⟨es,t,h,h1,h2,fun e he=>by
   obtain⟨cs,c1,c2⟩:=h3 e he;exact⟨cs,c1,qpr ts hp c2⟩⟩
theorem qpr {d d':Nat} : ∀(ts:List TA) {xs:List DV},TA.plL ts=true→HsL d ts xs→HsL d' ts xs
 | [],[],_,_=>trivial
 |t::ts,x::xs,hp,h=>by
  rw[TA.plL,zzf] at hp;exact⟨qKh t hp.1 h.1,qpr ts hp.2 h.2⟩
 | [],_::_,_,h=>h.elim
 | _::_,[],_,h=>h.elim
end
def qk0:List (K×List TA)→Bool
 | []=>true
 |k::ks=>TA.plL k.2&&qk0 ks
theorem qjN {d d':Nat} : ∀{ks:List (K×List TA)} {vs:List DV},qk0 ks=true→qbu d ks vs→qbu d' ks vs
 | [],[],_,_=>trivial
 |k::ks,v::vs,hp,h=>by
  rw[qk0,zzf] at hp;obtain⟨⟨cs,c1,c2⟩,h2⟩:=h;exact⟨⟨cs,c1,qpr _ hp.1 c2⟩,qjN hp.2 h2⟩
 | [],_::_,_,h=>h.elim
 | _::_,[],_,h=>h.elim
def kX (m:Nat):K×List TA:=(some 4,[.i .i64,.i .i64,.s,.e m])
def sX (m:Nat) (rest res:List (K×List TA)):Sg:=⟨kX m::rest,res⟩
theorem qaX {d:Nat} {t:TA} {ts:List TA} {xs:List DV} (h:HsL d (t::ts) xs) : ∃x r,xs=x::r∧Hs d t x∧HsL d ts r:=by
 cases xs with
 |nil=>exact h.elim
 |cons x r=>exact⟨x,r,rfl,h.1,h.2⟩
theorem qct {d:Nat} {xs:List DV} (h:HsL d [] xs):xs=[]:=by
 cases xs with
 |nil=>rfl
 |cons x r=>exact h.elim
theorem qse {d m:Nat} {x:DV} (hx:HsK d (kX m) x) : ∃o n s a,x = .a [.i .i64 o,.i .i64 n,.s s,a]∧(Lit.int .i64 o).wf=true∧(Lit.int .i64 n).wf=true∧s.length≤maxLen∧XT d m a:=by
 obtain⟨cs,c1,c2⟩:=hx;obtain⟨w1,r1,rfl,⟨o,rfl,h1⟩,c3⟩:=qaX c2;obtain⟨w2,r2,rfl,⟨n,rfl,h2⟩,c4⟩:=qaX c3;obtain⟨w3,r3,rfl,⟨s,rfl,h3⟩,c5⟩:=qaX c4;obtain⟨w4,r4,rfl,h4,c6⟩:=qaX c5;obtain rfl:=qct c6;have e:x = .a [.i .i64 o,.i .i64 n,.s s,w4]:=(Option.some.inj c1).symm
 exact⟨o,n,s,w4,e,h1,h2,h3,h4⟩
theorem qpR {d m:Nat} {o n:Int} {s:List UInt8} {a:DV} (h1:(Lit.int .i64 o).wf=true) (h2:(Lit.int .i64 n).wf=true) (h3:s.length≤maxLen) (h4:XT d m a):HsK d (kX m) (.a [.i .i64 o,.i .i64 n,.s s,a]) :=
 ⟨[.i .i64 o,.i .i64 n,.s s,a],rfl,⟨o,rfl,h1⟩,⟨n,rfl,h2⟩,⟨s,rfl,h3⟩,h4,trivial⟩
theorem qn4 {T:Tab} {f:Nat} {F:PF} {rest res:List (K×List TA)} {S:List (Nat×Sg)} (hF:T.F f=some F) (h:qap ((f,sX 2 rest res)::S) F (sX 1 rest res)=true) (hp:(qk0 rest&&qk0 res)=true) (hS : ∀d,qcU d T.val S):qai T f (sX 0 rest res):=by
 rw[zzf] at hp;have key : ∀(n d:Nat),d<n→∀ds,qbu d (sX 1 rest res).args ds→∃vs own,T.val f ds=some (qaZ (vs.map .d),own)∧qbu d res vs:=by
  intro n;induction n with
  |zero=>intro d hd;exact absurd hd (zzm _)
  |succ n ih =>
   intro d hd ds hds;refine qw7 hF h ?_ hds;intro g t hl;unfold qih at hl;split at hl
   ·rename_i e;cases hl;have e2:=Nat.eq_of_beq_eq_true e
    subst e2;intro ds hds;cases ds with
    |nil=>exact hds.elim
    |cons x ds =>
     obtain⟨h1,h2⟩:=hds;obtain⟨o,m,s,a,rfl,q1,q2,q3,⟨k,hk,q4⟩⟩:=qse h1;have hx:HsK k (kX 1) (.a [.i .i64 o,.i .i64 m,.s s,a]):=qpR q1 q2 q3 q4
     obtain⟨vs,own,v1,v2⟩:=ih k (by omega) (_::ds) ⟨hx,qjN hp.1 h2⟩
     exact⟨vs,own,v1,qjN hp.2 v2⟩
   ·exact hS d g t hl
 intro d ds hds;cases ds with
 |nil=>exact hds.elim
 |cons x ds =>
  obtain⟨h1,h2⟩:=hds;obtain⟨o,m,s,a,rfl,q1,q2,q3,⟨k,q4⟩⟩:=qse h1;have hx:HsK k (kX 1) (.a [.i .i64 o,.i .i64 m,.s s,a]):=qpR q1 q2 q3 q4
  obtain⟨vs,own,v1,v2⟩:=key (k+1) k (Nat.lt_succ_self k) (_::ds) ⟨hx,qjN hp.1 h2⟩;exact⟨vs,own,v1,qjN hp.2 v2⟩
end Go.Sim
end
section
namespace Go.Sim
def qkj:List TA:=[.s,.i .i64]
def qll:List TA:=[.s,.l K0 17592186044416 [.i .i64],.l K0 17592186044416 [.i .i64]]
def qkW:List TA:=[.s,.i .i64]
def qna:List TA:=[.i .i64,.i .i64]
def tX:List TA:=[.i .i64,.i .i64,.s,.e 0]
def qCY:List TA:=[.l (K1 2) 8796093022208 qna,.b,.i .i64,.i .i64,.b]
def qur:List TA:=[.s,.i .i64,.i .i64,.i .i64,.s,.e 0,.i .i64,.i .i64,.s,.e 0]
def qtY:List TA:=[.s,.i .i64,.i .i64,.i .i64,.s,.e 0]
def qgy:List TA:=[.s,.s,.s,.i .i64,.i .i64,.i .i64,.i .i64,.l (K1 2) 8796093022208 qna,.b,.i .i64,.i .i64,.b,.l (K1 2) 8796093022208 qna,.b,.i .i64,.i .i64,.b,.l (K1 10) 1034834473200 qur,.l (K1 6) 1759218604441 qtY]
def tGl:List TA:=[.i .i64,.i .i64,.i .i64,.s]
def qwz:List TA:=[.i .i64,.i .i64,.s]
def qk5:List TA:=[.i .i64,.i .i64,.i .i64,.i .i64,.i .i64,.i .i64,.s,.s,.l (K1 3) 4398046511104 qwz,.i .u64]
def qhS:List TA:=[.i .i64,.i .i64,.i .i64,.i .i64,.i .i64,.s]
def qpc:List TA:=[.i .i64,.i .i64,.i .i64,.i .i64,.i .i64,.i .i64,.s]
def qng:List TA:=[.i .i64,.i .i64,.i .i64,.i .i64,.s,.s,.s]
def qHF:List TA:=[.i .i64,.i .i64,.i .i64,.i .i64,.i .i64,.i .i64,.i .i64,.i .i64,.i .i64,.i .i64,.i .i64,.i .i64,.i .i64,.i .i64]
def qgE:List TA:=[.l (K1 2) 5864062014805 qkj,.l (K1 3) 2199023255552 qll,.l (K1 4) 3518437208883 tGl,.i .i64,.i .i64,.i .i64,.i .i64,.i .i64,.i .i64,.i .i64,.i .i64,.i .i64,.i .i64,.i .i64,.i .i64,.i .i64,.i .i64,.l (K1 19) 586406201480 qgy,.l (K1 7) 1759218604441 qng,.l (K1 10) 1256584717458 qk5,.l (K1 6) 2513169434916 qhS,.l (K1 7) 2199023255552 qpc]
def qok:Sg:=⟨[(K0,[.i .i64])],[(K0,[.s])]⟩
def qs6:Sg:=⟨[(K0,[.s])],[(K0,[.s]),(K0,[.i .i64])]⟩
def qyA:Sg:=⟨[(K0,[.s])],[(K0,[.b])]⟩
def qrR:Sg:=⟨[(K0,[.l (K1 2) 5864062014805 qkj])],[(K0,[.i .i64])]⟩
def qo3:Sg:=⟨[(K0,[.l (K1 4) 3518437208883 tGl]),(K1 14,qHF)],[(K0,[.i .i64])]⟩
def qrS:Sg:=⟨[(K1 22,qgE)],[(K0,[.i .i64])]⟩
def qsE:Sg:=⟨[(K0,[.l (K1 6) 2513169434916 qhS])],[(K0,[.i .i64])]⟩
def qqi:Sg:=⟨[(K0,[.l (K1 7) 2199023255552 qpc])],[(K0,[.i .i64])]⟩
def qpU:Sg:=⟨[(K0,[.s])],[(K0,[.b])]⟩
def qpe:Sg:=⟨[(K0,[.l (K1 3) 2199023255552 qll]),(K0,[.s])],[(K1 3,qll),(K0,[.b])]⟩
def qpg:Sg:=⟨[(K0,[.s])],[(K0,[.b])]⟩
def qpw:Sg:=⟨[(K1 3,qll)],[(K0,[.i .i64])]⟩
def qoW:Sg:=⟨[(K0,[.s])],[(K0,[.b])]⟩
def qkz:Sg:=⟨[(K0,[.l (K1 4) 3518437208883 tGl]),(K0,[.i .i64])],[(K1 4,tGl),(K0,[.b])]⟩
def qrV:Sg:=⟨[(K0,[.l (K1 4) 3518437208883 tGl]),(K0,[.i .i64]),(K0,[.i .i64])],[(K0,[.i .i64])]⟩
def qqB:Sg:=⟨[(K0,[.l (K1 19) 586406201480 qgy])],[(K0,[.i .i64])]⟩
def qoz:Sg:=⟨[(K1 19,qgy),(K0,[.l (K1 2) 5864062014805 qkj]),(K0,[.l (K1 3) 2199023255552 qll])],[(K0,[.i .i64])]⟩
def qhe:Sg:=⟨[(K0,[.i .i64])],[(K0,[.b])]⟩
def qpS:Sg:=⟨[(K1 7,qng)],[(K0,[.b])]⟩
def qq1:Sg:=⟨[(K1 22,qgE),(K1 7,qng)],[(K0,[.i .i64])]⟩
def qpn:Sg:=⟨[(K1 6,qhS)],[(K0,[.i .i64])]⟩
def qop:Sg:=⟨[(K0,[.l (K1 6) 2513169434916 qhS]),(K0,[.s])],[(K0,[.b])]⟩
def qrp:Sg:=⟨[(K1 7,qpc)],[(K0,[.b])]⟩
def qnO:Sg:=⟨[(K0,[.s])],[(K0,[.b])]⟩
def qrH:Sg:=⟨[(K0,[.l K0 17592186044416 [.i .i64]])],[(K0,[.b])]⟩
def qrg:Sg:=⟨[(K0,[.l (K1 4) 3518437208883 tGl]),(K0,[.i .i64])],[(K0,[.b])]⟩
def qq6:Sg:=⟨[(K1 19,qgy),(K1 19,qgy)],[(K0,[.b])]⟩
def qi7:Sg:=⟨[(K0,[.s])],[(K0,[.b])]⟩
def qlL:Sg:=⟨[(K0,[.l (K1 2) 5864062014805 qkj]),(K0,[.s])],[(K1 2,qkj),(K0,[.b])]⟩
def qoZ:Sg:=⟨[(K1 5,qCY)],[(K0,[.i .i64])]⟩
def qsy:Sg:=⟨[(K1 10,qur)],[(K0,[.i .i64])]⟩
def qsg:Sg:=⟨[(K1 6,qtY)],[(K0,[.i .i64])]⟩
def qm3:Sg:=⟨[(K0,[.l (K1 19) 586406201480 qgy]),(K0,[.s]),(K0,[.i .i64])],[(K1 19,qgy),(K0,[.b])]⟩
def qr3:Sg:=⟨[(K0,[.s])],[(K0,[.b])]⟩
def qqF:Sg:=⟨[(K0,[.l (K1 2) 8796093022208 qna])],[(K0,[.i .i64])]⟩
def qmv:Sg:=⟨[(K1 4,tX),(K0,[.l (K1 2) 9223372036854775807 qkW]),(K0,[.i .i64])],[(K0,[.i .i64])]⟩
def qmX:Sg:=⟨[],[(K0,[.l (K1 2) 9223372036854775807 qkW])]⟩
def qqH:Sg:=⟨[(K1 10,qk5)],[(K0,[.i .i64])]⟩
def qnI:Sg:=⟨[(K1 22,qgE),(K0,[.i .i64])],[(K1 7,qng),(K0,[.b])]⟩
def qsz:Sg:=⟨[(K1 22,qgE),(K0,[.i .i64]),(K0,[.i .i64])],[(K0,[.b])]⟩
def qo8:Sg:=⟨[(K0,[.s]),(K0,[.i .i64]),(K0,[.i .u8])],[(K0,[.b])]⟩
def qp1:Sg:=⟨[(K1 4,tX),(K0,[.l (K1 2) 9223372036854775807 qkW])],[(K0,[.i .i64]),(K0,[.i .i64])]⟩
def qof:Sg:=⟨[(K1 4,tX)],[(K0,[.i .i64])]⟩
def qqs:Sg:=⟨[(K1 4,tX),(K0,[.l (K1 2) 9223372036854775807 qkW])],[(K0,[.i .i64]),(K0,[.i .i64])]⟩
def qoB:Sg:=⟨[(K1 4,tX),(K0,[.i .i64])],[(K0,[.b])]⟩
def qyW:Sg:=⟨[(K0,[.s])],[(K0,[.b])]⟩
def qqK:Sg:=⟨[(K0,[.i .i64])],[(K0,[.b])]⟩
def qxI:Sg:=⟨[(K0,[.i .i64]),(K0,[.l K0 9223372036854775807 [.i .i64]])],[(K0,[.i .i64]),(K0,[.b])]⟩
def qp6:Sg:=⟨[(K0,[.i .i64])],[(K0,[.i .i64])]⟩
def qqn:Sg:=⟨[(K0,[.i .i64])],[(K0,[.i .i64])]⟩
def qpK:Sg:=⟨[(K0,[.s])],[(K0,[.b])]⟩
def qr8:Sg:=⟨[(K0,[.i .i64]),(K0,[.l K0 9223372036854775807 [.i .i64]])],[(K0,[.i .i64]),(K0,[.b])]⟩
def qoy:Sg:=⟨[],[(K0,[.l K0 9223372036854775807 [.s]])]⟩
def qkD:Sg:=⟨[(K0,[.i .i64])],[(K0,[.b])]⟩
def qqc:Sg:=⟨[(K0,[.i .i64]),(K0,[.i .i64]),(K0,[.i .i64])],[(K0,[.i .i64]),(K0,[.b])]⟩
def qqw:Sg:=⟨[(K0,[.i .i64]),(K0,[.i .i64])],[(K0,[.i .i64]),(K0,[.b])]⟩
def qog:Sg:=⟨[(K1 22,qgE),(K0,[.i .i64]),(K0,[.i .i64])],[(K1 19,qgy),(K0,[.b])]⟩
def qoU:Sg:=⟨[(K1 22,qgE)],[(K0,[.b])]⟩
def qtm:Sg:=⟨[(K1 22,qgE)],[(K0,[.b])]⟩
def qqA:Sg:=⟨[(K0,[.l (K1 6) 2513169434916 qhS])],[(K0,[.b])]⟩
def qpf:Sg:=⟨[(K1 19,qgy)],[(K0,[.b])]⟩
def qqI:Sg:=⟨[(K1 10,qk5)],[(K0,[.b])]⟩
def qpM:Sg:=⟨[(K1 22,qgE)],[(K0,[.b])]⟩
def qot:Sg:=⟨[(K1 22,qgE),(K1 10,qk5)],[(K0,[.b])]⟩
def qpp:Sg:=⟨[(K0,[.l (K1 4) 3518437208883 tGl]),(K0,[.i .i64])],[(K0,[.l K0 9223372036854775807 [.i .i64]])]⟩
def qtP:Sg:=⟨[(K0,[.l (K1 4) 3518437208883 tGl]),(K0,[.i .i64]),(K0,[.i .i64])],[(K0,[.b])]⟩
def qsF:Sg:=⟨[(K0,[.l (K1 4) 3518437208883 tGl]),(K0,[.i .i64])],[(K0,[.l K0 9223372036854775807 [.i .i64]])]⟩
def qqC:List (K×List TA):=[]
def qql:List (K×List TA):=[(K0,[.i .i64])]
def qId:Sg:=sX 0 qqC qql
def qsu:List (K×List TA):=[]
def qpd:List (K×List TA):=[(K0,[.b])]
def qIq:Sg:=sX 0 qsu qpd
def qrw:List (K×List TA):=[(K0,[.i .i64])]
def qrq:List (K×List TA):=[(K0,[.i .i64])]
def qx3:Sg:=sX 0 qrw qrq
end Go.Sim
end
