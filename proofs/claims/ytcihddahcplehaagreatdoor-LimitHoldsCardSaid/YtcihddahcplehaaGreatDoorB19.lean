/- Part 19 of the proof: CbAnG, CbAnH, CbAnI, CbAnJ, CbAnK, CbAo0, CbAo1. -/
import Derived.Test.YtcihddahcplehaaGreatDoorB18
import Derived.Test.YtcihddahcplehaaGreatDoorB2
section
namespace Go.Sim
section
variable {d : Nat} {ρ ρ' : Nat → DV} {V : Nat → List DV → Option (PV × Bool)} {σ σ' : AS} {E : Env} {S : List (Nat × Sg)}
theorem qut {r r':Rand→PV} {H:Heap} {id:Nat} {op:IOp} (hok:op.rands.all Rand.okR=true) (h : ∀x∈op.rands,r x=r' x):qaa E r H id op=qaa E r' H id op:=by
 have ho : ∀o:Option Rand,(∀x∈o.toList,r x=r' x)→o.map r=o.map r':=by
  intro o ho;cases o with
  |none=>rfl
  |some x=>exact congrArg some (ho x (List.mem_singleton.2 rfl))
 cases op with
 |alloc=>rfl
 |mov x=>simp only[qaa];rw[h x (List.mem_singleton.2 rfl)]
 |box k x=>simp only[qaa];rw[h x (List.mem_singleton.2 rfl)]
 |load k x=>simp only[qaa];rw[h x (List.mem_singleton.2 rfl)]
 |faddr k x=>simp only[qaa];rw[h x (List.mem_singleton.2 rfl)]
 |field k j x=>simp only[qaa];rw[h x (List.mem_singleton.2 rfl)]
 |ext x k=>simp only[qaa];rw[h x (List.mem_singleton.2 rfl)]
 |len k x=>simp only[qaa];rw[h x (List.mem_singleton.2 rfl)]
 |un k x=>simp only[qaa];rw[h x (List.mem_singleton.2 rfl)]
 |conv k x=>simp only[qaa];rw[h x (List.mem_singleton.2 rfl)]
 |pick c a b=>simp only[qaa];rw[h c (by simp[IOp.rands]),h a (by simp[IOp.rands]),h b (by simp[IOp.rands])]
 |store k x y=>simp only[qaa];rw[h x (by simp[IOp.rands]),h y (by simp[IOp.rands])]
 |iaddr k x y=>simp only[qaa];rw[h x (by simp[IOp.rands]),h y (by simp[IOp.rands])]
 |bin k x y=>simp only[qaa];rw[h x (by simp[IOp.rands]),h y (by simp[IOp.rands])]
 |eqb k x y=>simp only[qaa];rw[h x (by simp[IOp.rands]),h y (by simp[IOp.rands])]
 |eqv k j x y=>simp only[qaa];rw[h x (by simp[IOp.rands]),h y (by simp[IOp.rands])]
 |idxS x y=>simp only[qaa];rw[h x (by simp[IOp.rands]),h y (by simp[IOp.rands])]
 |agg z ps =>
  have e:(ps.map fun x=>(x.1,x.2.1,r x.2.2))=ps.map fun x=>(x.1,x.2.1,r' x.2.2):=List.map_congr_left fun x hx=>by rw[h x.2.2 (List.mem_map.2 ⟨x,hx,rfl⟩)]
  simp only[qaa];rw[e]
 |bsl k z n ps =>
  have e:(ps.map fun x=>(x.1,r x.2))=ps.map fun x=>(x.1,r' x.2):=List.map_congr_left fun x hx=>by rw[h x.2 (List.mem_map.2 ⟨x,hx,rfl⟩)]
  simp only[qaa];rw[e]
 |call m f as0 =>
  have e:as0.map r=as0.map r':=List.map_congr_left h
  match m with
  | 0=>simp only[qaa];rw[e]
  | 1=>simp only[qaa];rw[e]
  | _+2=>simp only[qaa];rw[e]
 |minmax m as0 =>
  have e:as0.map r=as0.map r':=List.map_congr_left h
  simp only[qaa];rw[e]
 |sl k x a b c =>
  simp only[qaa];rw[h x (by simp[IOp.rands]),ho a fun y hy=>h y (by simp[IOp.rands] at hy⊢;simp[hy]),ho b fun y hy=>h y (by simp[IOp.rands] at hy⊢;simp[hy]),ho c fun y hy=>h y (by simp[IOp.rands] at hy⊢;simp[hy])]
 | _=>simp[IOp.rands,Rand.okR] at hok
theorem qJD {r:Rand→PV} {H:Heap} {id:Nat} {op:IOp} (hp:op.par=true) (E:Env):qaa qcR r H id op=qaa E r H id op:=by
 cases op<;>first|rfl|(simp[IOp.par] at hp;done)
theorem qnm {x:Rand} (h:x.okR=true) (fr:Fr) (ρ:Nat→DV):rd E (fr.ins ρ) x=(rdA fr x).ins ρ:=by
 cases x with
 |t n=>exact qhV ρ n fr
 |c v=>exact (qhP h).symm
 |g n=>cases h
 |f n=>rfl
theorem qy6 (hW:σ.wf) {ρ1 ρ2:Nat→DV} (s1:Sc ρ1) (s2:Sc ρ2) (a:Agr σ.G.length ρ1 ρ2) {x:Rand} (h:x.okR=true):(rdA σ.fr x).ins ρ2=(rdA σ.fr x).ins ρ1:=by
 have e:σ.fr.ins ρ2=σ.fr.ins ρ1:=congrArg St.fr (hW.st ρ1 ρ2 s1 s2 a)
 rw[←qnm (E:=qcR) h,←qnm (E:=qcR) h,e]
theorem qtR {l:List (PV×AS)} {ev:Option (PV×Heap)} (h:qbl d V σ ρ l ev):qbl d V σ ρ (qrO l) ev:=by
 obtain⟨x,hx,ρ',hg,he⟩:=h;by_cases hb : ∃n,x.1 = .d (.tok n)∧x.2.G[n]? = some .b
 ·obtain⟨n,e1,e2⟩:=hb;obtain⟨c,hc⟩:=hg.m.ty n _ e2;refine⟨(.d (.b c),x.2),List.mem_flatMap.2 ⟨x,hx,?_⟩,ρ',⟨hg.ag,hg.m,hg.wf,hg.fr,hg.le,fun _ _ _ _ _=>rfl⟩,?_⟩
  ·simp only[e1,e2];cases c<;>simp
  ·rw[he,e1];show some (PV.d (ρ' n),_)=some (PV.d (.b c),_)
   rw[hc]
 ·refine⟨x,List.mem_flatMap.2 ⟨x,hx,?_⟩,ρ',hg,he⟩;split
  ·rename_i n e1;split
   ·rename_i e2;exact absurd ⟨n,e1,e2⟩ hb
   ·exact List.mem_singleton.2 rfl
  ·exact List.mem_singleton.2 rfl
theorem qHF (hM:Mod d V σ ρ) (hW:σ.wf) (hS:qcP d V S) (hE:E.val=V) {id:Nat} {op:IOp} {l:List (PV×AS)} (h:qma S id op σ=some l):op.rands.all Rand.okR=true∧qbl d V σ ρ l (qaa E (rd E (σ.fr.ins ρ)) (σ.H.ins ρ) id op):=by
 unfold qma at h;split at h
 ·rename_i hok;have hk:=List.all_eq_true.1 hok
  refine⟨hok,?_⟩;rw[qut hok fun x hx=>qnm (hk x hx) σ.fr ρ]
  split at h
  ·rename_i v H' e;cases h;split at e
   ·rename_i hp;have h1:=fun (ρ:Nat→DV) (s:Sc ρ)=>qCR s qcR (rdA σ.fr) hp e
    have h2 : ∀ρ1 ρ2,Sc ρ1→Sc ρ2→Agr σ.G.length ρ1 ρ2→v.ins ρ2=v.ins ρ1∧H'.ins ρ2=H'.ins ρ1:=by
     intro ρ1 ρ2 s1 s2 a;have e1:=h1 ρ1 s1
     have e2:=h1 ρ2 s2
     have e3:σ.H.ins ρ2=σ.H.ins ρ1:=congrArg St.H (hW.st ρ1 ρ2 s1 s2 a)
     rw[qut hok fun x hx=>qy6 hW s1 s2 a (hk x hx),e3,e1] at e2
     have:=Option.some.inj e2
     exact⟨(congrArg Prod.fst this).symm,(congrArg Prod.snd this).symm⟩
    refine qtR ⟨_,List.mem_singleton.2 rfl,ρ,⟨Agr.rfl',⟨hM.sc,hM.ty,hM.fx,hM.z,hM.cs⟩,⟨fun ρ1 ρ2 s1 s2 a => ?_,hW.cs,hW.fx,hW.z⟩,rfl,zzt _,fun ρ1 ρ2 s1 s2 a=>(h2 ρ1 ρ2 s1 s2 a).1⟩,?_⟩
    ·show St.mk (σ.fr.ins ρ2) (H'.ins ρ2)=St.mk (σ.fr.ins ρ1) (H'.ins ρ1)
     rw[(h2 ρ1 ρ2 s1 s2 a).2,show σ.fr.ins ρ2=σ.fr.ins ρ1 from congrArg St.fr (hW.st ρ1 ρ2 s1 s2 a)]
    ·rw[←qJD hp E];exact h1 ρ hM.sc
   ·cases e
  ·split at h
   ·rename_i l' e2;cases h;exact qtR (qCd hM hW hS hE (fun ρ1 ρ2 s1 s2 a x hx=>qy6 hW s1 s2 a (hk x hx)) e2)
   ·cases h
 ·cases h
structure Nx (d:Nat) (V:Nat→List DV→Option (PV×Bool)) (σ:AS) (ρ:Nat→DV) (σ':AS) (ρ':Nat→DV):Prop where
 ag:Agr σ.G.length ρ ρ'
 m:Mod d V σ' ρ'
 wf:σ'.wf
 le:σ.G.length≤σ'.G.length
theorem Nx.trans {σ1 σ2:AS} {ρ1 ρ2:Nat→DV} (a:Nx d V σ ρ σ1 ρ1) (b:Nx d V σ1 ρ1 σ2 ρ2):Nx d V σ ρ σ2 ρ2:=⟨a.ag.trans (b.ag.le a.le),b.m,b.wf,Nat.le_trans a.le b.le⟩
def qi7 (E:Env) (o:IOper) (id:Nat) (s:St):Option St :=
 let go:Option St:=match qaa E (rd E s.fr) s.H id o.op with
  |some (v,H)=>some ⟨match o.dst with|some t=>s.fr.set t v|none=>s.fr,H⟩
  |none=>none
 let no:Option St:=some ⟨match o.dst with|some t=>s.fr.set t (.t [])|none=>s.fr,s.H⟩
 match o.g with
 |none=>go
 |some (t,want)=>match s.fr.get t with
  | .d (.b b)=>if b==want then go else no
  | .t []=>no
  | _=>none
theorem qJz (o:IOper) (r:List IOper) (id:Nat) (s s':St) (h:qi7 E o id s=some s'):qay E (o::r) id s=qay E r (if o.op.adds then id+1 else id) s':=by
 have hgo : ∀{s':St},(match qaa E (rd E s.fr) s.H id o.op with
  |some (v,H)=>some (⟨match o.dst with|some t=>s.fr.set t v|none=>s.fr,H⟩:St)
  |none=>none)=some s'→(match qaa E (rd E s.fr) s.H id o.op with
   |some (v,H)=>qay E r (if o.op.adds then id+1 else id) ⟨match o.dst with|some t=>s.fr.set t v|none=>s.fr,H⟩
   |none=>none)=qay E r (if o.op.adds then id+1 else id) s':=by
  intro s' h;split at h
  ·rename_i v H e;cases h;rfl
  ·cases h
 unfold qi7 at h;simp only[qay];simp only at h;split at h
 ·rename_i e;rw[e];exact hgo h
 ·rename_i t want e;rw[e];simp only;split at h
  ·rename_i b e2;rw[e2];simp only;split at h
   ·rename_i hw;rw[if_pos hw];exact hgo h
   ·rename_i hw;rw[if_neg hw];cases h;rfl
  ·rename_i e2;rw[e2];cases h;rfl
  ·cases h
theorem qz5 {o:IOper} {id:Nat} {s:St} (h:runs o s.fr=true→o.op.okD (rd E s.fr)=true):stepD E o id s=qi7 E o id s:=by
 unfold stepD qi7;unfold runs at h;simp only;have hgo:o.op.okD (rd E s.fr)=true→qal E (rd E s.fr) s.H id o.op=qaa E (rd E s.fr) s.H id o.op:=by
  intro e;unfold qal;rw[if_pos e]
 cases e:o.g with
 |none=>rw[e] at h;simp only;rw[hgo (h rfl)];rfl
 |some x =>
  obtain⟨t,want⟩:=x;rw[e] at h;simp only at h⊢;cases e2:s.fr.get t with
  |d v =>
   cases v with
   |b b =>
    rw[e2] at h;simp only at h⊢;by_cases hw:(b==want)=true
    ·rw[if_pos hw,if_pos hw,hgo (h hw)];rfl
    ·rw[if_neg hw,if_neg hw];rfl
   | _=>rfl
  |t vs=>cases vs<;>rfl
  | _=>rfl
theorem qt0 {x:PV×AS} (hM:Mod d V σ ρ) (hW:σ.wf) (hg:Good d V σ ρ x ρ') (dst:Option Nat):Nx d V σ ρ (qiH dst x) ρ'∧(qiH dst x).st.ins ρ'=⟨match dst with|some t=>(σ.fr.ins ρ).set t (x.1.ins ρ')|none=>σ.fr.ins ρ,x.2.H.ins ρ'⟩:=by
 have e1:σ.fr.ins ρ'=σ.fr.ins ρ:=congrArg St.fr (hW.st _ _ hM.sc hg.m.sc hg.ag)
 have e2:x.2.fr.ins ρ'=σ.fr.ins ρ:=by rw[hg.fr];exact e1
 cases dst with
 |none=>exact⟨⟨hg.ag,hg.m,hg.wf,hg.le⟩,by show St.mk (x.2.fr.ins ρ') (x.2.H.ins ρ')=_;rw[e2]⟩
 |some t =>
  refine⟨⟨hg.ag,⟨hg.m.sc,hg.m.ty,hg.m.fx,hg.m.z,hg.m.cs⟩,⟨fun ρ1 ρ2 s1 s2 a => ?_,hg.wf.cs,hg.wf.fx,hg.wf.z⟩,hg.le⟩,?_⟩
  ·show St.mk ((x.2.fr.set t x.1).ins ρ2) (x.2.H.ins ρ2)=St.mk ((x.2.fr.set t x.1).ins ρ1) (x.2.H.ins ρ1)
   have:=hg.wf.st ρ1 ρ2 s1 s2 a
   rw[qlH,qlH,hg.v ρ1 ρ2 s1 s2 a,show x.2.fr.ins ρ2=x.2.fr.ins ρ1 from congrArg St.fr this,show x.2.H.ins ρ2=x.2.H.ins ρ1 from congrArg St.H this]
  ·show St.mk ((x.2.fr.set t x.1).ins ρ') _=_
   rw[qlH,e2];rfl
structure Seen (E:Env) (o:IOper) (id:Nat) (σ:AS) (ρ:Nat→DV) (σ':AS) (ρ':Nat→DV):Prop where
 runs:runs o (σ.fr.ins ρ)=runs o σ.fr
 ok:Sim.runs o σ.fr=true→o.op.rands.all Rand.okR=true
theorem qAG (hM:Mod d V σ ρ) (hW:σ.wf) (hS:qcP d V S) (hE:E.val=V) {o:IOper} {id:Nat} {l:List AS} (h:qoV S o id σ=some l) :
  ∃σ'∈l,∃ρ',Nx d V σ ρ σ' ρ'∧qi7 E o id (σ.st.ins ρ)=some (σ'.st.ins ρ')∧Seen E o id σ ρ σ' ρ':=by
 have hgo : ∀{l:List AS},(match qma S id o.op σ with
  |some l=>some (l.map (qiH o.dst))
  |none=>none)=some l→o.op.rands.all Rand.okR=true∧∃σ'∈l,∃ρ',Nx d V σ ρ σ' ρ'∧(match qaa E (rd E (σ.fr.ins ρ)) (σ.H.ins ρ) id o.op with
   |some (v,H)=>some (⟨match o.dst with|some t=>(σ.fr.ins ρ).set t v|none=>σ.fr.ins ρ,H⟩:St)
   |none=>none)=some (σ'.st.ins ρ'):=by
  intro l h;split at h
  ·rename_i l' e;cases h;obtain⟨hok,x,hx,ρ',hg,he⟩:=qHF (E:=E) hM hW hS hE e;obtain⟨h1,h2⟩:=qt0 hM hW hg o.dst;refine⟨hok,_,List.mem_map.2 ⟨x,hx,rfl⟩,ρ',h1,?_⟩;rw[he,h2]
  ·cases h
 have hno : ∀{l:List AS},some [qiH o.dst (.t [],σ)]=some l→∃σ'∈l,∃ρ',Nx d V σ ρ σ' ρ'∧some (⟨match o.dst with|some t=>(σ.fr.ins ρ).set t (.t [])|none=>σ.fr.ins ρ,σ.H.ins ρ⟩:St)=some (σ'.st.ins ρ'):=by
  intro l h;cases h;have hg:Good d V σ ρ (.t [],σ) ρ:=⟨Agr.rfl',hM,hW,rfl,zzt _,fun _ _ _ _ _=>rfl⟩
  obtain⟨h1,h2⟩:=qt0 hM hW hg o.dst;exact⟨_,List.mem_singleton.2 rfl,ρ,h1,by rw[h2];rfl⟩
 unfold qoV at h;unfold qi7;simp only at h⊢;split at h
 ·rename_i eg;obtain⟨hok,σ',h1,ρ',h2,h3⟩:=hgo h;refine⟨σ',h1,ρ',h2,?_,?_,fun _=>hok⟩
  ·rw[eg];exact h3
  ·unfold runs;rw[eg]
 ·rename_i t want eg;rw[eg];simp only;have ht:(σ.st.ins ρ).fr.get t=(σ.fr.get t).ins ρ:=qhV ρ t σ.fr
  have ht':(σ.fr.ins ρ).get t=(σ.fr.get t).ins ρ:=qhV ρ t σ.fr
  split at h
  ·rename_i b e;rw[ht,e];simp only[PV.ins,DV.ins];split at h
   ·rename_i hw;obtain⟨hok,σ',h1,ρ',h2,h3⟩:=hgo h;refine⟨σ',h1,ρ',h2,?_,?_,fun _=>hok⟩
    ·rw[if_pos hw];exact h3
    ·unfold runs;rw[eg];simp only;rw[ht',e];rfl
   ·rename_i hw;obtain⟨σ',h1,ρ',h2,h3⟩:=hno h;refine⟨σ',h1,ρ',h2,?_,?_,fun hr => ?_⟩
    ·rw[if_neg hw];exact h3
    ·unfold runs;rw[eg];simp only;rw[ht',e];rfl
    ·unfold runs at hr;rw[eg] at hr;simp only at hr;rw[e] at hr;exact absurd hr hw
  ·rename_i e;rw[ht,e];obtain⟨σ',h1,ρ',h2,h3⟩:=hno h;refine⟨σ',h1,ρ',h2,h3,?_,fun hr => ?_⟩
   ·unfold runs;rw[eg];simp only;rw[ht',e];rfl
   ·unfold runs at hr;rw[eg] at hr;simp only at hr;rw[e] at hr;cases hr
  ·cases h
end
end Go.Sim
end
section
namespace Go.Sim
section
variable {d : Nat} {ρ ρ' : Nat → DV} {V : Nat → List DV → Option (PV × Bool)} {σ σ' : AS} {E : Env} {S : List (Nat × Sg)}
theorem qpH {α β:Type} {f g:α→List β} : ∀{l:List α},(∀x∈l,f x=g x)→l.flatMap f=l.flatMap g
  | [],_=>rfl
  |x::l,h=>by rw[List.flatMap_cons,List.flatMap_cons,h x (zzr ..),qpH fun y hy=>h y (zzi _ hy)]
theorem qBk {r r':Rand→PV} {op:IOp} (hok:op.rands.all Rand.okR=true) (h : ∀x∈op.rands,(r x).refs=(r' x).refs):qat r op=qat r' op∧qaQ r op=qaQ r' op∧op.okD r=op.okD r':=by
  cases op with
  |load k x=>exact⟨h x (List.mem_singleton.2 rfl),rfl,rfl⟩
  |len k x=>exact⟨h x (List.mem_singleton.2 rfl),rfl,rfl⟩
  |sl k x a b c=>exact⟨h x (zzr ..),rfl,rfl⟩
  |iaddr k x y=>exact⟨h x (zzr ..),rfl,rfl⟩
  |call m f as0=>exact⟨qpH h,rfl,rfl⟩
  |bsl k z n ps=>exact⟨qpH fun x hx=>h x.2 (List.mem_map.2 ⟨x,hx,rfl⟩),rfl,rfl⟩
  |store k x y =>
    have h1:=h x (zzr ..)
    have h2:=h y (zzi _ (zzr ..))
    refine⟨?_,h1,rfl⟩;show (r x).refs++(r y).refs=(r' x).refs++(r' y).refs
    rw[h1,h2]
  |callv=>simp[IOp.rands,Rand.okR] at hok
  |mkif=>simp[IOp.rands,Rand.okR] at hok
  | _=>exact⟨rfl,rfl,rfl⟩
theorem rd0 {x:Rand} (h:x.okR=true) (fr:Fr):rd qcR fr x=rdA fr x:=by
  cases x with
  |g n=>cases h
  | _=>rfl
theorem qx1 (ρ:Nat→DV) (H:Heap) (o:Nat):qa1 ((H.ins ρ).obj o)=qa1 (H.obj o):=by
  rw[qgH];cases H.obj o with
  |none=>rfl
  |some x=>cases x<;>rfl
theorem qvi (H H':Heap) : ∀l:List Nat,chg (H.ins ρ) (H'.ins ρ') l=chg H H' l
  | []=>rfl
  |o::r=>by simp only[chg];rw[qx1,qx1,qvi H H' r]
theorem qAk {o:IOper} {id:Nat} (hs:Seen E o id σ ρ σ' ρ') (hk:runs o σ.fr=true→o.op.okD (rd qcR σ.fr)=true) :
    writeS E o id (σ.st.ins ρ) (σ'.st.ins ρ')=writeS qcR o id σ.st σ'.st∧touchS E o (σ.st.ins ρ)=touchS qcR o σ.st∧(runs o (σ.st.ins ρ).fr=true→o.op.okD (rd E (σ.st.ins ρ).fr)=true):=by
  unfold writeS touchS;have hr:runs o (σ.st.ins ρ).fr=runs o σ.st.fr:=hs.runs
  rw[hr];by_cases e:runs o σ.st.fr=true
  · have hok:=hs.ok e
    have hk2:=List.all_eq_true.1 hok
    have hf:=qBk (r:=rd E (σ.st.ins ρ).fr) (r':=rd qcR σ.st.fr) hok fun x hx=>by
      have e1:rd E (σ.st.ins ρ).fr x=(rdA σ.fr x).ins ρ:=qnm (hk2 x hx) σ.fr ρ
      rw[e1,qjb];exact congrArg PV.refs (rd0 (hk2 x hx) σ.fr).symm
    have hk3:o.op.okD (rd qcR σ.st.fr)=true:=hk e
    rw[if_pos e,if_pos e,if_pos e,if_pos e,hf.2.2,hf.1,hf.2.1,if_pos hk3,if_pos hk3,if_pos hk3,if_pos hk3];refine⟨?_,rfl,fun _=>hk3⟩
    congr 2
    exact qvi (ρ:=ρ) (ρ':=ρ') σ.H σ'.H _
  · rw[if_neg e,if_neg e,if_neg e,if_neg e]
    exact⟨rfl,rfl,fun c=>absurd c e⟩
theorem qno {α β:Type} {f:α→Option (List β)} : ∀{l:List α} {out:List β},qh4 f l=some out→∀x∈l,∃y,f x=some y∧∀z∈y,z∈out
  | [],_,_,x,hx=>by cases hx
  |a::l,out,h,x,hx=>by
    unfold qh4 at h;split at h
    · rename_i y ys e1 e2
      cases h;rcases List.mem_cons.1 hx with rfl|hx
      · exact⟨y,e1,fun z hz=>List.mem_append_left _ hz⟩
      · obtain⟨w,h1,h2⟩:=qno e2 x hx
        exact⟨w,h1,fun z hz=>List.mem_append_right _ (h2 z hz)⟩
    · cases h
theorem qy2 (hS:qcP d V S) (hE:E.val=V) (D:Bool) : ∀(ops:List IOper) (bf:List Nat) (acc:List (List Nat×List Nat)) (id:Nat) (σ:AS) (ρ:Nat→DV) (l:List AS),Mod d V σ ρ→σ.wf→qmH S D ops bf acc id σ=some l →
    ∃σ'∈l,∃ρ',Nx d V σ ρ σ' ρ'∧(if D=true then qbq E ops bf acc id (σ.st.ins ρ) else qay E ops id (σ.st.ins ρ))=some (σ'.st.ins ρ')
  | [],bf,acc,id,σ,ρ,l,hM,hW,h=>by
    cases h;refine⟨σ,List.mem_singleton.2 rfl,ρ,⟨Agr.rfl',hM,hW,zzt _⟩,?_⟩;cases D<;>rfl
  |o::r,bf,acc,id,σ,ρ,l,hM,hW,h=>by
    unfold qmH at h;split at h
    · cases h
    · rename_i l1 e1
      obtain⟨σ1,h1,ρ1,n1,s1,seen⟩:=qAG hM hW hS hE e1;obtain⟨l2,e2,h2⟩:=qno h σ1 h1;simp only at e2;split at e2
      · rename_i hc
        obtain⟨σ2,h3,ρ2,n2,s2⟩:=qy2 hS hE D r _ _ _ σ1 ρ1 l2 n1.m n1.wf e2;refine⟨σ2,h2 _ h3,ρ2,n1.trans n2,?_⟩;cases D with
        |false =>
          rw[if_neg (by decide)] at s2⊢
          rw[qJz _ _ _ _ _ s1];exact s2
        |true =>
          simp only[Bool.not_true,Bool.false_or,zzf] at hc;obtain⟨w1,w2,w3⟩:=qAk seen (fun _=>hc.1)
          rw[if_pos rfl] at s2⊢;simp only[qbq];rw[qz5 w3,s1];simp only;rw[w1,w2,if_pos hc.2];exact s2
      · cases e2
theorem qpy (n:Nat):Heap.ins ρ (List.replicate n none)=List.replicate n none:=by unfold Heap.ins;rw[List.map_replicate];rfl
theorem qxn {f g:Fact} (h:qlf f g=true):f=g:=by
  obtain⟨a,b,c⟩:=f;obtain⟨a',b',c'⟩:=g;simp only[qlf,zzf,zzq] at h;obtain⟨h1,h2,h3⟩:=h;rw[Nat.eq_of_beq_eq_true h1,Nat.eq_of_beq_eq_true h2,h3]
theorem qxt {c e:Nat×List DV×PV} (h:qjB c e=true):c=e:=by
  obtain⟨a,b,c⟩:=c;obtain⟨a',b',c'⟩:=e;simp only[qjB,zzf] at h;obtain⟨h1,h2,h3⟩:=h;rw[Nat.eq_of_beq_eq_true h1,qhv _ _ h2,qj2 _ _ h3]
theorem qmx : ∀{a b:Fr},qhN a b=true→a=b
  | [],[],_=>rfl
  | (j,v)::r,(j',w)::r',h=>by
    simp only[qhN,zzf] at h;rw[Nat.eq_of_beq_eq_true h.1.1,qj2 _ _ h.1.2,qmx h.2]
  | [],_::_,h=>by cases h
  | _::_,[],h=>by cases h
theorem qnF : ∀{a b:Heap},qhS a b=true→a=b
  | [],[],_=>rfl
  |x::r,y::r',h=>by
    simp only[qhS,zzf] at h;rw[qv8 h.1,qnF h.2]
  | [],_::_,h=>by cases h
  | _::_,[],h=>by cases h
structure Cov (d:Nat) (V:Nat→List DV→Option (PV×Bool)) (x y:AS):Prop where
  st:y.st=x.st
  len:y.G.length=x.G.length
  m : ∀ρ,Mod d V x ρ→Mod d V y ρ
  wf:x.wf→y.wf
theorem Cov.nx {x y:AS} (c:Cov d V x y) (n:Nx d V σ ρ x ρ'):Nx d V σ ρ y ρ':=⟨n.ag,c.m _ n.m,c.wf n.wf,by rw[c.len];exact n.le⟩
theorem qve : ∀{ts us:List TA},TA.subL ts us=true→ts.length=us.length
  | [],[],_=>rfl
  |t::ts,u::us,h=>by rw[TA.subL,zzf] at h;rw[zzn,zzn,qve h.2]
  | [],_::_,h=>by cases h
  | _::_,[],h=>by cases h
theorem qvd : ∀{ts us:List TA},TA.subL ts us=true→∀(n:Nat) (t:TA),ts[n]? = some t→∃u,us[n]? = some u∧TA.sub t u=true
  | [],[],_,n,t,e=>by simp at e
  |t::ts,u::us,h,n,t',e=>by
    rw[TA.subL,zzf] at h;cases n with
    |zero=>simp at e;subst e;exact⟨u,rfl,h.1⟩
    |succ n=>exact qvd h.2 n t' (by simpa using e)
  | [],_::_,h,_,_,_=>by cases h
  | _::_,[],h,_,_,_=>by cases h
theorem qia (x:AS):Cov d V x x:=⟨rfl,rfl,fun _ h=>h,fun h=>h⟩
theorem qvw {x y:AS}:Cov d V x (jnA x y) :=
  ⟨rfl,rfl,fun ρ h=>⟨h.sc,h.ty,fun f hf=>h.fx f (List.mem_filter.1 hf).1,h.z,fun c hc=>h.cs c (List.mem_filter.1 hc).1⟩,
   fun h=>⟨h.st,fun ρ1 ρ2 s1 s2 a c hc=>h.cs ρ1 ρ2 s1 s2 a c (List.mem_filter.1 hc).1,fun f hf=>h.fx f (List.mem_filter.1 hf).1,h.z⟩⟩
theorem qng {α:Type} {p:α→α→Bool} (hp : ∀a b,p a b=true→a=b) {l:List α} {x:α} (h:l.any (p x)=true):x∈l:=by
  obtain⟨y,h1,h2⟩:=List.any_eq_true.1 h;rw[hp _ _ h2];exact h1
theorem qAm {x y:AS} (h:qrC x y=true):Cov d V y (jnA x y):=by
  unfold qrC at h;simp only[zzf] at h;obtain⟨h1,h2,h3⟩:=h;have e1:=qmx h1
  have e2:=qnF h2
  have el:=qve h3
  have es:(jnA x y).st=y.st:=by show St.mk x.fr x.H=St.mk y.fr y.H;rw[e1,e2]
  have hf : ∀f∈(jnA x y).fx,f∈y.fx:=fun f hf=>qng (p:=qlf) (fun a b=>qxn) (List.mem_filter.1 hf).2
  have hc : ∀c∈(jnA x y).cs,c∈y.cs:=fun c hc=>qng (p:=qjB) (fun a b=>qxt) (List.mem_filter.1 hc).2
  refine⟨es,el,fun ρ h=>⟨h.sc,fun n t e => ?_,fun f q=>h.fx f (hf f q),h.z,fun c q=>h.cs c (hc c q)⟩,fun h=>⟨fun ρ1 ρ2 s1 s2 a => ?_,fun ρ1 ρ2 s1 s2 a c q=>h.cs ρ1 ρ2 s1 s2 (a.le (Nat.le_of_eq el.symm)) c (hc c q),fun f q => ?_,?_⟩⟩
  · obtain⟨u,hu,hs⟩:=qvd h3 n t e
    exact qqZ t u hs (h.ty n u hu)
  · rw[es];exact h.st ρ1 ρ2 s1 s2 (a.le (Nat.le_of_eq el.symm))
  · have:=h.fx f (hf f q)
    show f.1<x.G.length∧f.2.1<x.G.length
    rw[el];exact this
  · show 0<x.G.length
    rw[el];exact h.z
theorem qxa (x:AS) : ∀(l:List AS),(∃y∈qlB x l,Cov d V x y)∧∀z∈l,∃y∈qlB x l,Cov d V z y
  | []=>⟨⟨x,List.mem_singleton.2 rfl,qia x⟩,fun z hz=>by cases hz⟩
  |y::r=>by
    unfold qlB;split
    · rename_i e
      refine⟨⟨_,zzr ..,qvw⟩,fun z hz => ?_⟩
      rcases List.mem_cons.1 hz with rfl|hz
      · exact⟨_,zzr ..,qAm e⟩
      · exact⟨z,zzi _ hz,qia z⟩
    · obtain⟨⟨w,h1,h2⟩,h3⟩:=qxa x r
      refine⟨⟨w,zzi _ h1,h2⟩,fun z hz => ?_⟩
      rcases List.mem_cons.1 hz with rfl|hz
      · exact⟨z,zzr ..,qia z⟩
      · obtain⟨w,h1,h2⟩:=h3 z hz
        exact⟨w,zzi _ h1,h2⟩
theorem Cov.trans {x y z:AS} (a:Cov d V x y) (b:Cov d V y z):Cov d V x z:=⟨b.st.trans a.st,b.len.trans a.len,fun ρ h=>b.m ρ (a.m ρ h),fun h=>b.wf (a.wf h)⟩
theorem qvm : ∀(l:List AS),∀z∈l,∃y∈mrg l,Cov d V z y
  | [],z,hz=>by cases hz
  |x::r,z,hz=>by
    obtain⟨h1,h2⟩:=qxa (d:=d) (V:=V) x (mrg r);rcases List.mem_cons.1 hz with rfl|hz
    · exact h1
    · obtain⟨y,h3,h4⟩:=qvm r z hz
      obtain⟨w,h5,h6⟩:=h2 y h3;exact⟨w,h5,h4.trans h6⟩
theorem qqE {n:Nat} (a:Agr n ρ ρ') : ∀fr:Fr,fr.bnd n=true→fr.ins ρ'=fr.ins ρ
  | [],_=>rfl
  | (j,v)::r,h=>by
    simp only[Fr.bnd,zzf] at h;simp only[Fr.ins];rw[qhj a v h.1,qqE a r h.2]
theorem ql7 {n:Nat} (a:Agr n ρ ρ') : ∀H:Heap,qhs n H=true→H.ins ρ'=H.ins ρ
  | [],_=>rfl
  |none::r,h=>by
    have:=ql7 a r h
    unfold Heap.ins at this⊢;rw[zzu,zzu,this];rfl
  |some x::r,h=>by
    simp only[qhs,zzf] at h
    have:=ql7 a r h.2
    unfold Heap.ins at this⊢;rw[zzu,zzu,this];congr 1
    show some _=some _
    congr 1
    cases x with
    |box k v=>show Obj.box k _=Obj.box k _;rw[qhj a v h.1]
    |sl k ro es=>show Obj.sl k ro _=Obj.sl k ro _;rw[qko a es h.1]
    |mp es=>cases h.1
    |si=>rfl
    |lp=>rfl
    |df=>rfl
theorem qtp {n:Nat} {f:Fact} (h:qkH n f=true):f.1<n∧f.2.1<n:=by
  unfold qkH at h;rw[zzf] at h;exact⟨qio h.1,qio h.2⟩
theorem qDh {n:Nat} {fx:List Fact} (h : ∀f∈fx,Fact.ok ρ f) : ∀f∈qwh n fx,Fact.ok ρ f:=by
  intro f hf;rcases List.mem_append.1 hf with hf|hf
  · obtain⟨a,ha,hf⟩:=List.mem_flatMap.1 hf
    obtain⟨b,hb,hf⟩:=List.mem_flatMap.1 hf;have ha2:=List.mem_filter.1 ha
    have hb2:=List.mem_filter.1 hb
    have ea:a.2.1=n:=Nat.eq_of_beq_eq_true (zzf _ _▸ha2.2).1
    have eb:b.1=n:=Nat.eq_of_beq_eq_true (zzf _ _▸hb2.2).1
    split at hf
    · cases hf
    · rw[List.mem_singleton.1 hf]
      have h1:=h a ha2.1
      have h2:=h b hb2.1
      unfold Fact.ok at h1 h2⊢;rw[ea] at h1;rw[eb] at h2;simp only;omega
  · exact h f (List.mem_filter.1 hf).1
theorem qze {base:Nat} : ∀(k:Nat) {fx:List Fact},(∀f∈fx,Fact.ok ρ f)→∀f∈qpo base k fx,Fact.ok ρ f
  | 0,_,h=>h
  |k+1,_,h=>qze k (qDh h)
theorem qz9 {n:Nat} {c:Nat×List DV×PV} (h:csB n c=true) (a:Agr n ρ ρ'):DV.insL ρ' c.2.1=DV.insL ρ c.2.1∧c.2.2.ins ρ'=c.2.2.ins ρ:=by
  unfold csB at h;rw[zzf] at h;exact⟨qko a _ h.1,qhj a _ h.2⟩
theorem qF0 (hM:Mod d V σ ρ) (hW:σ.wf) {x y:AS} (hn:Nx d V σ ρ x ρ') (h:qg6 σ x=some y):Nx d V σ ρ y ρ'∧y.st=x.st∧y.G=σ.G:=by
  unfold qg6 at h;split at h
  · rename_i e
    cases h;rw[zzf] at e;refine⟨⟨hn.ag,⟨hn.m.sc,fun n t et => ?_,fun f hf=>qze _ hn.m.fx f (List.mem_filter.1 hf).1,hn.m.z,fun c hc=>hn.m.cs c (List.mem_filter.1 hc).1⟩,⟨fun ρ1 ρ2 _ _ a => ?_,fun ρ1 ρ2 _ _ a c hc=>qz9 (List.mem_filter.1 hc).2 a,fun f hf=>qtp (List.mem_filter.1 hf).2,hW.z⟩,zzt _⟩,rfl,rfl⟩
    · rw[hn.ag n (zzk.1 et).1];exact hM.ty n t et
    · show St.mk (x.fr.ins ρ2) (x.H.ins ρ2)=St.mk (x.fr.ins ρ1) (x.H.ins ρ1)
      rw[qqE a _ e.1,ql7 a _ e.2]
  · cases h
theorem qyc (σ:AS) {x:AS} : ∀{l:List AS},x∈l→(∃y∈(qhe σ l).1,qg6 σ x=some y)∨x∈(qhe σ l).2
  |z::r,hx=>by
    unfold qhe;rcases List.mem_cons.1 hx with e|hx
    · subst e
      cases e2:qg6 σ x with
      |none=>exact .inr (zzr ..)
      |some y=>exact .inl ⟨y,zzr ..,rfl⟩
    · have ih:=qyc σ hx
      cases e2:qg6 σ z with
      |none =>
        rcases ih with ⟨y,h1,h2⟩|h
        · exact .inl ⟨y,h1,h2⟩
        · exact .inr (zzi _ h)
      |some w =>
        rcases ih with ⟨y,h1,h2⟩|h
        · exact .inl ⟨y,zzi _ h1,h2⟩
        · exact .inr h
theorem qrU : ∀{l:List AS},∀y∈(qhe σ l).1,y.G=σ.G
  | [],y,hy=>by cases hy
  |z::r,y,hy=>by
    unfold qhe at hy;cases e2:qg6 σ z with
    |none=>rw[e2] at hy;exact qrU (l:=r) y hy
    |some w =>
      rw[e2] at hy;rcases List.mem_cons.1 hy with e|hy
      · subst e
        unfold qg6 at e2;split at e2
        · cases e2;rfl
        · cases e2
      · exact qrU (l:=r) y hy
theorem qF9 {x y:AS} (h:(qhN x.fr y.fr&&qhS x.H y.H)=true) (hG:x.G=y.G):Cov d V y (jnA x y):=by
  rw[zzf] at h;have e1:=qmx h.1
  have e2:=qnF h.2
  have es:(jnA x y).st=y.st:=by show St.mk x.fr x.H=St.mk y.fr y.H;rw[e1,e2]
  have hf : ∀f∈(jnA x y).fx,f∈y.fx:=fun f hf=>qng (p:=qlf) (fun a b=>qxn) (List.mem_filter.1 hf).2
  have hc : ∀c∈(jnA x y).cs,c∈y.cs:=fun c hc=>qng (p:=qjB) (fun a b=>qxt) (List.mem_filter.1 hc).2
  have eg:(jnA x y).G=y.G:=hG
  refine⟨es,by rw[eg],fun ρ h=>⟨h.sc,by rw[eg];exact h.ty,fun f q=>h.fx f (hf f q),h.z,fun c q=>h.cs c (hc c q)⟩,fun h=>⟨fun ρ1 ρ2 s1 s2 a => ?_,fun ρ1 ρ2 s1 s2 a c q=>h.cs ρ1 ρ2 s1 s2 (by rw[eg] at a;exact a) c (hc c q),fun f q=>by rw[eg];exact h.fx f (hf f q),by rw[eg];exact h.z⟩⟩
  rw[es];exact h.st ρ1 ρ2 s1 s2 (by rw[eg] at a;exact a)
theorem qsK {G:List TA} (x:AS) (hx:x.G=G) : ∀(l:List AS),(∀y∈l,y.G=G)→((∃y∈qi5 x l,Cov d V x y)∧∀z∈l,∃y∈qi5 x l,Cov d V z y)∧∀y∈qi5 x l,y.G=G
  | [],_=>⟨⟨⟨x,List.mem_singleton.2 rfl,qia x⟩,fun z hz=>by cases hz⟩,fun y hy=>by rw[List.mem_singleton.1 hy];exact hx⟩
  |y::r,hl=>by
    have hy:=hl y (zzr ..)
    unfold qi5;split
    · rename_i e
      refine⟨⟨⟨_,zzr ..,qvw⟩,fun z hz => ?_⟩,fun z hz => ?_⟩
      · rcases List.mem_cons.1 hz with rfl|hz
        · exact⟨_,zzr ..,qF9 e (hx.trans hy.symm)⟩
        · exact⟨z,zzi _ hz,qia z⟩
      · rcases List.mem_cons.1 hz with rfl|hz
        · exact hx
        · exact hl z (zzi _ hz)
    · obtain⟨⟨⟨w,h1,h2⟩,h3⟩,h4⟩:=qsK x hx r fun z hz=>hl z (zzi _ hz)
      refine⟨⟨⟨w,zzi _ h1,h2⟩,fun z hz => ?_⟩,fun z hz => ?_⟩
      · rcases List.mem_cons.1 hz with rfl|hz
        · exact⟨z,zzr ..,qia z⟩
        · obtain⟨w,h1,h2⟩:=h3 z hz
          exact⟨w,zzi _ h1,h2⟩
      · rcases List.mem_cons.1 hz with rfl|hz
        · exact hy
        · exact h4 z hz
theorem qvN {G:List TA} : ∀(l:List AS),(∀y∈l,y.G=G)→(∀z∈l,∃y∈qkz l,Cov d V z y)∧∀y∈qkz l,y.G=G
  | [],_=>⟨(fun z hz=>by cases hz),(fun z hz=>by cases hz)⟩
  |x::r,hl=>by
    obtain⟨h1,h2⟩:=qvN r fun z hz=>hl z (zzi _ hz)
    obtain⟨⟨h3,h4⟩,h5⟩:=qsK (d:=d) (V:=V) x (hl x (zzr ..)) (qkz r) h2;refine⟨fun z hz => ?_,h5⟩
    rcases List.mem_cons.1 hz with rfl|hz
    · exact h3
    · obtain⟨y,h6,h7⟩:=h1 z hz
      obtain⟨w,h8,h9⟩:=h4 y h6;exact⟨w,h8,h7.trans h9⟩
theorem qDQ (hM:Mod d V σ ρ) (hW:σ.wf) {x:AS} {l:List AS} (hn:Nx d V σ ρ x ρ') (hx:x∈l) : ∃y∈qn7 σ l,Nx d V σ ρ y ρ'∧y.st=x.st:=by
  have hs:=qyc σ hx
  have hG:=qrU (σ:=σ) (l:=l)
  unfold qn7;cases e:qhe σ l with
  |mk a b =>
    rw[e] at hs hG;simp only at hs hG⊢;rcases hs with ⟨y,h1,h2⟩|h
    · obtain⟨n1,n2,n3⟩:=qF0 hM hW hn h2
      obtain⟨w,h3,h4⟩:=(qvN (d:=d) (V:=V) a hG).1 y h1;exact⟨w,List.mem_append_left _ h3,h4.nx n1,h4.st.trans n2⟩
    · obtain⟨w,h3,h4⟩:=qvm (d:=d) (V:=V) b x h
      exact⟨w,List.mem_append_right _ h3,h4.nx hn,h4.st⟩
theorem qtw (hM:Mod d V σ ρ) (hW:σ.wf) (hS:qcP d V S) (hE:E.val=V) {D:Bool} {ops:List IOper} {bf kill:List Nat} {l:List (Ex×AS)} (h:qm6 S D ops bf kill σ=some l) :
    ∃o∈l,∃ρ',o.1 = .norm∧Nx d V σ ρ o.2 ρ'∧(if D=true then qc0 E ops bf kill (σ.st.ins ρ) else qcg E ops kill (σ.st.ins ρ))=some (o.2.st.ins ρ'):=by
  unfold qm6 at h;split at h
  · rename_i l1 e1
    cases h;have hW':({ σ with H:=σ.H++List.replicate (qaj ops) none }:AS).wf:=⟨fun ρ1 ρ2 s1 s2 a=>by
      have:=hW.st ρ1 ρ2 s1 s2 a
      show St.mk (σ.fr.ins ρ2) (Heap.ins ρ2 (σ.H++_))=St.mk (σ.fr.ins ρ1) (Heap.ins ρ1 (σ.H++_))
      rw[qnb,qnb,qpy,qpy,show σ.fr.ins ρ2=σ.fr.ins ρ1 from congrArg St.fr this,show σ.H.ins ρ2=σ.H.ins ρ1 from congrArg St.H this],hW.cs,hW.fx,hW.z⟩
    obtain⟨σ1,h1,ρ1,n1,s1⟩:=qy2 (E:=E) hS hE D ops bf [] _ { σ with H:=σ.H++List.replicate (qaj ops) none } ρ l1 ⟨hM.sc,hM.ty,hM.fx,hM.z,hM.cs⟩ hW' e1
    have e2:({ σ with H:=σ.H++List.replicate (qaj ops) none }:AS).st.ins ρ=⟨(σ.st.ins ρ).fr,(σ.st.ins ρ).H++List.replicate (qaj ops) none⟩:=by
      show St.mk _ (Heap.ins ρ (σ.H++_))=_
      rw[qnb,qpy];rfl
    have e3:(σ.st.ins ρ).H.length=σ.H.length:=qC8 ρ σ.H
    have hd:Nx d V σ ρ { σ1 with fr:=σ1.fr.drop kill } ρ1:=⟨n1.ag,⟨n1.m.sc,n1.m.ty,n1.m.fx,n1.m.z,n1.m.cs⟩,⟨fun ρ1 ρ2 s1 s2 a=>by
      have:=n1.wf.st ρ1 ρ2 s1 s2 a
      show St.mk ((σ1.fr.drop kill).ins ρ2) (σ1.H.ins ρ2)=St.mk ((σ1.fr.drop kill).ins ρ1) (σ1.H.ins ρ1)
      rw[qjk,qjk,show σ1.fr.ins ρ2=σ1.fr.ins ρ1 from congrArg St.fr this,show σ1.H.ins ρ2=σ1.H.ins ρ1 from congrArg St.H this],n1.wf.cs,n1.wf.fx,n1.wf.z⟩,n1.le⟩
    obtain⟨σ2,h2,nx,hst⟩:=qDQ hM hW hd (List.mem_map.2 ⟨σ1,h1,rfl⟩:_∈l1.map fun σ'=>{ σ' with fr:=σ'.fr.drop kill })
    refine⟨_,List.mem_map.2 ⟨σ2,h2,rfl⟩,ρ1,rfl,nx,?_⟩;have e4:(St.mk ((σ1.fr.drop kill).ins ρ1) (σ1.H.ins ρ1))=⟨(σ1.st.ins ρ1).fr.drop kill,(σ1.st.ins ρ1).H⟩:=by rw[qjk];rfl
    show _=some (σ2.st.ins ρ1)
    rw[hst];show _=some (St.mk ((σ1.fr.drop kill).ins ρ1) (σ1.H.ins ρ1))
    rw[e4];rw[e2] at s1;unfold qc0 qcg;rw[e3];cases D with
    |true =>
      rw[if_pos rfl] at s1⊢;rw[s1]
    |false =>
      rw[if_neg (by decide)] at s1⊢
      rw[s1]
  · cases h
theorem qlF (live:List Nat) (ρ:Nat→DV):(σ.gc live).st.ins ρ=Sim.gc live 0 (σ.st.ins ρ):=qBX ρ live 0 σ.st
theorem qsb (hM:Mod d V σ ρ) (hW:σ.wf) (live:List Nat):Nx d V σ ρ (σ.gc live) ρ :=
  ⟨Agr.rfl',⟨hM.sc,hM.ty,hM.fx,hM.z,hM.cs⟩,⟨fun ρ1 ρ2 s1 s2 a=>by rw[qlF,qlF,hW.st ρ1 ρ2 s1 s2 a],hW.cs,hW.fx,hW.z⟩,zzt _⟩
end
end Go.Sim
end
section
namespace Go.Sim
section
variable {d : Nat} {ρ ρ' ρ1 : Nat → DV} {V : Nat → List DV → Option (PV × Bool)} {σ σ' σ0 : AS} {E : Env} {S : List (Nat × Sg)}
mutual
theorem qiK (th ρ:Nat→DV) : ∀v:DV,(v.ins th).ins ρ=v.ins fun n=>(th n).ins ρ
 | .tok _=>rfl
 | .a cs=>by rw[DV.ins,DV.ins,DV.ins,qm4 th ρ cs]
 | .l _ es _=>by rw[DV.ins,DV.ins,DV.ins,qm4 th ρ es]
 | .ifc _ v=>by rw[DV.ins,DV.ins,DV.ins,qiK th ρ v]
 | .b _ | .i _ _ | .s _ | .np | .nf | .ni | .nm=>rfl
theorem qm4 (th ρ:Nat→DV) : ∀l:List DV,DV.insL ρ (DV.insL th l)=DV.insL (fun n=>(th n).ins ρ) l
 | []=>rfl
 |v::vs=>by rw[DV.insL,DV.insL,DV.insL,qiK th ρ v,qm4 th ρ vs]
end
mutual
theorem qk4 (th ρ:Nat→DV) : ∀v:PV,(v.ins th).ins ρ=v.ins fun n=>(th n).ins ρ
 | .d v=>by rw[PV.ins,PV.ins,PV.ins,qiK]
 | .q v _ _=>by rw[PV.ins,PV.ins,PV.ins,qiK]
 | .a cs=>by rw[PV.ins,PV.ins,PV.ins,qjC th ρ cs]
 | .t cs=>by rw[PV.ins,PV.ins,PV.ins,qjC th ρ cs]
 | .f _ cs=>by rw[PV.ins,PV.ins,PV.ins,qjC th ρ cs]
 | .m _ cs=>by rw[PV.ins,PV.ins,PV.ins,qjC th ρ cs]
 | .g v=>by rw[PV.ins,PV.ins,PV.ins,qk4 th ρ v]
 | .w _ v=>by rw[PV.ins,PV.ins,PV.ins,qk4 th ρ v]
 | .u | .r .. | .p .. | .h _=>rfl
theorem qjC (th ρ:Nat→DV) : ∀l:List PV,PV.insL ρ (PV.insL th l)=PV.insL (fun n=>(th n).ins ρ) l
 | []=>rfl
 |v::vs=>by rw[PV.insL,PV.insL,PV.insL,qk4 th ρ v,qjC th ρ vs]
end
theorem qJg (th ρ:Nat→DV) (x:Obj):(x.ins th).ins ρ=x.ins fun n=>(th n).ins ρ:=by
 cases x with
 |box k v=>simp only[Obj.ins];rw[qk4]
 |sl k ro es=>simp only[Obj.ins];rw[qm4]
 |mp es =>
  simp only[Obj.ins,List.map_map];congr 1
  apply List.map_congr_left
  intro y _;simp only[Function.comp];rw[qiK,qiK]
 |si=>rfl
 |lp=>rfl
 |df=>rfl
theorem qBx (th ρ:Nat→DV) (H:Heap):(H.ins th).ins ρ=H.ins fun n=>(th n).ins ρ:=by
 unfold Heap.ins;rw[List.map_map];apply List.map_congr_left
 intro x _;cases x with
 |none=>rfl
 |some x=>exact congrArg some (qJg th ρ x)
theorem qyJ (th ρ:Nat→DV) : ∀fr:Fr,(fr.ins th).ins ρ=fr.ins fun n=>(th n).ins ρ
 | []=>rfl
 | (j,v)::r=>by simp only[Fr.ins];rw[qk4,qyJ th ρ r]
theorem qoz (hM:Mod d V σ ρ) {v:DV} {a:Nat×Int} (h:qnS v=some a):vI (v.ins ρ)=nv ρ a:=by
 cases v with
 |i k c=>cases h;rw[qfj hM];rfl
 |tok m=>cases h;unfold nv;simp[DV.ins]
 |s x=>cases h;rw[qfj hM];rfl
 |l k es t=>cases h;rw[qfj hM];simp only[DV.ins,vI,qcG]
 | _=>cases h
theorem qv6 (hM:Mod d V σ ρ) {th:Nat→DV} : ∀(n:Nat) (g:List TA),thT σ.G th n g=true→∀i t,g[i]? = some t→Hs d t ((th (n+i)).ins ρ)
 | _,[],_,i,t,e=>by simp at e
 |n,t::ts,h,i,u,e=>by
  simp only[thT,zzf] at h;cases i with
  |zero=>simp at e;subst e;exact qhc hM.ty _ _ h.1
  |succ i =>
   have:=qv6 hM (n+1) ts h.2 i u (by simpa using e)
   rwa [show n+1+i=n+(i+1) by omega] at this
theorem qv1 (hM:Mod d V σ ρ) {th:Nat→DV} {n0:Nat} {fr:Fr} {H:Heap} {g:List TA} {cs:List Fact} (h:qnv th n0 fr H g cs σ=true) :
  (St.mk fr H).ins (fun n=>(th n).ins ρ)=σ.st.ins ρ∧(∀i t,g[i]? = some t→Hs d t ((th (n0+i)).ins ρ))∧∀f∈cs,Fact.ok (fun n=>(th n).ins ρ) f:=by
 unfold qnv at h;simp only[zzf] at h;obtain⟨⟨⟨h1,h2⟩,h3⟩,h4⟩:=h;refine⟨?_,qv6 hM n0 g h3,fun f hf => ?_⟩
 ·show St.mk (fr.ins _) (H.ins _)=St.mk (σ.fr.ins ρ) (σ.H.ins ρ)
  rw[←qyJ,←qBx,qmx h1,qnF h2]
 ·have h5:=List.all_eq_true.1 h4 f hf
  unfold thF at h5;split at h5
  ·rename_i a b e1 e2
   have:=qb4 hM h5
   unfold Fact.ok;rw[qoz hM e1,qoz hM e2];exact this
  ·cases h5
theorem qo7 {n0 m n:Nat} {bd:Bd} (h:n<n0):thD n0 m bd n = .tok n:=by
 unfold thD;rw[if_neg];rw[zzf];intro c
 have:=Nat.le_of_ble_eq_true c.1
 omega
theorem qwa (hs:Sc ρ) {n0:Nat} {g:List TA} {bd:Bd} (h : ∀i t,g[i]? = some t→Hs d t ((thD n0 g.length bd (n0+i)).ins ρ)):Sc fun n=>(thD n0 g.length bd n).ins ρ:=by
 intro n cs e;by_cases hn:n0≤n∧n<n0+g.length
 ·have hi:n-n0<g.length:=by omega
  have:=h (n-n0) _ (zze hi)
  rw[show n0+(n-n0)=n by omega] at this
  exact qvv this cs e
 ·have:thD n0 g.length bd n = .tok n:=by
   unfold thD;rw[if_neg];rw[zzf];intro c;exact hn ⟨Nat.le_of_ble_eq_true c.1,qio c.2⟩
  simp only at e;rw[this] at e;exact hs n cs e
def qhR (σ0:AS) (fr:Fr) (H:Heap) (g:List TA) (cs:List Fact):AS:=({ σ0 with fr:=fr,H:=H }.news g).add cs
theorem qpI (fr:Fr) (H:Heap) (g:List TA) (cs:List Fact):(qhR σ0 fr H g cs).G.length=σ0.G.length+g.length:=qi8 (σ:={ σ0 with fr:=fr,H:=H }) g
theorem qxx (hM:Mod d V σ0 ρ) (hW:σ0.wf) {fr:Fr} {H:Heap} {g:List TA} {cs:List Fact} (ha:Agr σ0.G.length ρ ρ') (hs:Sc ρ') (hg : ∀i t,g[i]? = some t→Hs d t (ρ' (σ0.G.length+i))) (hc : ∀f∈cs,Fact.ok ρ' f):Mod d V (qhR σ0 fr H g cs) ρ':=by
 have hz:ρ' 0 = .i .i64 0:=by rw[ha 0 hW.z];exact hM.z
 refine⟨hs,?_,?_,hz,?_⟩
 ·intro n t e;change (σ0.G++g)[n]? = some t at e
  by_cases hlt:n<σ0.G.length
  ·rw[List.getElem?_append_left hlt] at e;rw[ha n hlt];exact hM.ty n t e
  ·rw[List.getElem?_append_right (by omega)] at e
   have:=hg _ t e
   rwa [show σ0.G.length+(n-σ0.G.length)=n by omega] at this
 ·intro f hf;rcases List.mem_append.1 hf with hf|hf
  ·exact hc f hf
  ·rcases List.mem_append.1 hf with hf|hf
   ·exact qmC hz g _ hg f hf
   ·exact qwU (hW.fx f hf).1 (hW.fx f hf).2 ha (hM.fx f hf)
 ·intro c hc;obtain⟨own,h1⟩:=hM.cs c hc
  have:=hW.cs _ _ hM.sc hs ha c hc
  exact⟨own,by rw[this.1,this.2];exact h1⟩
theorem qz3 (hW:σ0.wf) {fr:Fr} {H:Heap} {g:List TA} {cs:List Fact} (h1:cs.all (qkH (σ0.G.length+g.length))=true) (h2:fr.bnd (σ0.G.length+g.length)=true) (h3:qhs (σ0.G.length+g.length) H=true):(qhR σ0 fr H g cs).wf:=by
 have hl:=qpI (σ0:=σ0) fr H g cs
 refine⟨fun ρ1 ρ2 s1 s2 a => ?_,fun ρ1 ρ2 s1 s2 a=>hW.cs ρ1 ρ2 s1 s2 (a.le (by omega)),?_,by have:=hW.z;omega⟩
 ·show St.mk (fr.ins ρ2) (H.ins ρ2)=St.mk (fr.ins ρ1) (H.ins ρ1)
  rw[hl] at a;rw[qqE a fr h2,ql7 a H h3]
 ·intro f hf;rw[hl];rcases List.mem_append.1 hf with hf|hf
  ·exact qtp (List.all_eq_true.1 h1 f hf)
  ·rcases List.mem_append.1 hf with hf|hf
   ·exact qlO g _ f hf
   ·have:=hW.fx f hf;omega
def mea (ρ:Nat→DV) (ms:Bool×Nat×Nat):Nat:=if ms.1=true then (vI (ρ ms.2.2)-vI (ρ ms.2.1)).toNat else (vI (ρ ms.2.1)).toNat
theorem qwb (hM:Mod d V σ ρ1) {n0 m:Nat} {bd:Bd} {ms:Bool×Nat×Nat} (h:qsk (thD n0 m bd) n0 m σ.fx ms=true) (ha:Agr (n0+m) ρ' ρ1):mea (fun n=>(thD n0 m bd n).ins ρ1) ms<mea ρ' ms:=by
 unfold qsk at h;split at h
 ·rename_i a e;rw[zzf] at h;have hc:=qio h.1
  have hn:=qoz hM e
  have ec:=ha _ hc
  have h2:=h.2
  unfold mea;split at h2
  ·rename_i e1;simp only[zzf] at h2;obtain⟨⟨h3,h4⟩,h5⟩:=h2;have hb:=qio h3
   have b4:=qb4 hM h4
   have b5:=qb4 hM h5
   have eb:=ha ms.2.2 (by omega)
   rw[if_pos e1,if_pos e1];simp only;rw[qo7 hb,hn];show (vI (ρ1 ms.2.2)-nv ρ1 a).toNat<_
   unfold nv at b4 b5;simp only at b4 b5;unfold nv;rw[←ec,←eb];omega
  ·rename_i e1;rw[zzf] at h2;have b4:=qb4 hM h2.1
   have b5:=qb4 hM h2.2
   unfold z0 at b5;rw[qfj hM] at b5;rw[if_neg e1,if_neg e1];simp only;rw[hn];unfold nv at b4 b5;simp only at b4 b5;unfold nv;rw[←ec];omega
 ·cases h
def Snd (d:Nat) (V:Nat→List DV→Option (PV×Bool)) (f:AS→Option (List (Ex×AS))) (F:St→Res):Prop :=
 ∀σ ρ outs,Mod d V σ ρ→σ.wf→f σ=some outs→∃o∈outs,∃ρ',Nx d V σ ρ o.2 ρ'∧F (σ.st.ins ρ)=some (o.1,o.2.st.ins ρ')
theorem qqX {e:Ex} (h:isN e=true):e = .norm:=by cases e<;>first|rfl|cases h
theorem qHQ {f:AS→Option (List (Ex×AS))} {F:St→Res} (hF:Snd d V f F) (hM:Mod d V σ0 ρ) {live:List Nat} {fr:Fr} {H:Heap} {g:List TA} {cs:List Fact} {outs:List (Ex×AS)} (hf:f (qhR σ0 fr H g cs)=some outs) (hW:σ0.wf) (hWg:(qhR σ0 fr H g cs).wf) {ms:Bool×Nat×Nat}
  (hk : ∀σ1∈(outs.filter qcs).map (·.2),qjo live σ0.G.length fr H g cs ms σ1=true) : ∀(k:Nat) (ρ':Nat→DV) (s:St),Mod d V (qhR σ0 fr H g cs) ρ'→Agr σ0.G.length ρ ρ'→gc live 0 s=(St.mk fr H).ins ρ'→mea ρ' ms≤k →
  ∃o∈outs.filter (fun o => !qcs o),∃ρ2,Nx d V σ0 ρ o.2 ρ2∧lpI (fun s=>F (gc live 0 s)) s=some (o.1,o.2.st.ins ρ2):=by
 intro k;induction k with
 |zero =>
  intro ρ' s hMg ha hs hm;obtain⟨o,ho,ρ1,hn,he⟩:=hF _ ρ' outs hMg hWg hf;have hl:=qpI (σ0:=σ0) fr H g cs
  have he':(fun s=>F (gc live 0 s)) s=some (o.1,o.2.st.ins ρ1):=by show F (gc live 0 s)=_;rw[hs];exact he
  cases hb:isN o.1 with
  |true =>
   have:=hk o.2 (List.mem_map.2 ⟨o,List.mem_filter.2 ⟨ho,hb⟩,rfl⟩)
   unfold qjo at this;split at this
   ·rename_i bd _;rw[zzf] at this;have hgc:=qsb hn.m hn.wf live
    have:=qwb hgc.m this.2 (ρ':=ρ') (hn.ag.le (by omega))
    omega
   ·cases this
  |false =>
   refine⟨o,List.mem_filter.2 ⟨ho,by unfold qcs;rw[hb];rfl⟩,ρ1,⟨ha.trans (hn.ag.le (by omega)),hn.m,hn.wf,Nat.le_trans (by omega) hn.le⟩,?_⟩
   exact qpg (f:=fun s=>F (gc live 0 s)) he' (fun c=>by rw[c] at hb;cases hb)
 |succ k ih =>
  intro ρ' s hMg ha hs hm;obtain⟨o,ho,ρ1,hn,he⟩:=hF _ ρ' outs hMg hWg hf;have hl:=qpI (σ0:=σ0) fr H g cs
  have he':(fun s=>F (gc live 0 s)) s=some (o.1,o.2.st.ins ρ1):=by show F (gc live 0 s)=_;rw[hs];exact he
  cases hb:isN o.1 with
  |true =>
   have hkk:=hk o.2 (List.mem_map.2 ⟨o,List.mem_filter.2 ⟨ho,hb⟩,rfl⟩)
   unfold qjo at hkk;split at hkk
   ·rename_i bd _;rw[zzf] at hkk;have hgc:=qsb hn.m hn.wf live
    have hfall:=qwb hgc.m hkk.2 (ρ':=ρ') (hn.ag.le (by omega))
    obtain⟨f1,f2,f3⟩:=qv1 hgc.m hkk.1;have hag:Agr σ0.G.length ρ fun n=>(thD σ0.G.length g.length bd n).ins ρ1:=by
     intro n hlt;simp only;rw[qo7 hlt];show ρ1 n=ρ n
     rw[hn.ag n (by omega),ha n hlt]
    obtain⟨o2,h1,ρ2,h2,h3⟩:=ih _ (o.2.st.ins ρ1) (qxx hM hW hag (qwa hgc.m.sc f2) f2 f3) hag (by rw[f1,qlF]) (by omega)
    refine⟨o2,h1,ρ2,h2,?_⟩;rw[qqX hb] at he';exact (qzi (f:=fun s=>F (gc live 0 s)) he').trans h3
   ·cases hkk
  |false =>
   refine⟨o,List.mem_filter.2 ⟨ho,by unfold qcs;rw[hb];rfl⟩,ρ1,⟨ha.trans (hn.ag.le (by omega)),hn.m,hn.wf,Nat.le_trans (by omega) hn.le⟩,?_⟩
   exact qpg (f:=fun s=>F (gc live 0 s)) he' (fun c=>by rw[c] at hb;cases hb)
end
end Go.Sim
end
section
namespace Go.Sim
section
variable {d : Nat} {ρ ρ' ρ1 : Nat → DV} {V : Nat → List DV → Option (PV × Bool)} {σ σ' σ0 : AS} {E : Env} {S : List (Nat × Sg)}
theorem qtN {live:List Nat} {n0:Nat} {fr:Fr} {H:Heap} {g:List TA} {cs:List Fact} {l:List AS} {m:Bool×Nat×Nat} : ∀{ms:List (Bool×Nat×Nat)},qlb live n0 fr H g cs l ms=some m→l.all (qjo live n0 fr H g cs m)=true
 | [],h=>by cases h
 |x::r,h=>by
  unfold qlb at h;split at h
  ·rename_i e;cases h;exact e
  ·exact qtN h
theorem qA9 {f:AS→Option (List (Ex×AS))} {F:St→Res} (hF:Snd d V f F) (hM:Mod d V σ0 ρ) (hW:σ0.wf) {live:List Nat} {s:St} (hs:gc live 0 s=σ0.st.ins ρ) {fr:Fr} {H:Heap} {g:List TA} {cs:List Fact} {outs outs':List (Ex×AS)} {ms:List (Bool×Nat×Nat)} (hf:f (qhR σ0 fr H g cs)=some outs)
  (hb:qrI σ0.G.length fr H g cs σ0=true) (h:(match qlb live σ0.G.length fr H g cs ((outs.filter qcs).map (·.2)) ms with
   |some _=>some (outs.filter fun o => !qcs o)
   |none=>none)=some outs') :
  ∃o∈outs',∃ρ2,Nx d V σ0 ρ o.2 ρ2∧lpI (fun s=>F (gc live 0 s)) s=some (o.1,o.2.st.ins ρ2):=by
 split at h
 ·rename_i m e;cases h;unfold qrI at hb;split at hb
  ·rename_i bd _;simp only[zzf] at hb;obtain⟨b1,b2,b3,b4⟩:=hb;obtain⟨f1,f2,f3⟩:=qv1 hM b1;have hag:Agr σ0.G.length ρ fun n=>(thD σ0.G.length g.length bd n).ins ρ:=by
    intro n hlt;simp only;rw[qo7 hlt];rfl
   exact qHQ hF hM hf hW (qz3 hW b2 b3 b4) (fun σ1 h1=>List.all_eq_true.1 (qtN e) σ1 h1) _ _ s (qxx hM hW hag (qwa hM.sc f2) f2 f3) hag (by rw[f1,hs]) (zzt _)
  ·cases hb
 ·cases h
theorem qGP {f:AS→Option (List (Ex×AS))} {F:St→Res} (hF:Snd d V f F) (hM:Mod d V σ0 ρ) (hW:σ0.wf) {live:List Nat} {s:St} (hs:gc live 0 s=σ0.st.ins ρ) : ∀(n:Nat) (x:Fr×Heap×List TA) (bad:List Fact) (outs':List (Ex×AS)),qk9 f live σ0 n x bad=some outs' →
  ∃o∈outs',∃ρ2,Nx d V σ0 ρ o.2 ρ2∧lpI (fun s=>F (gc live 0 s)) s=some (o.1,o.2.st.ins ρ2):=by
 intro n;induction n with
 |zero=>intro x bad outs' h;cases h
 |succ n ih =>
  intro x bad outs' h;unfold qk9 at h;simp only at h;split at h
  ·cases h
  ·rename_i bd _;split at h
   ·cases h
   ·rename_i outs e1;split at h
    ·cases h
    ·rename_i y _;split at h
     ·exact ih _ _ _ h
     ·split at h
      ·exact ih _ _ _ h
      ·split at h
       ·rename_i hb;exact qA9 hF hM hW hs e1 hb h
       ·cases h
theorem qBi {f:AS→Option (List (Ex×AS))} {F:St→Res} (hF:Snd d V f F) {live:List Nat} : ∀(n:Nat),Snd d V (qnq f live n) (lpI fun s=>F (gc live 0 s)):=by
 intro n;induction n with
 |zero=>intro σ ρ outs _ _ h;cases h
 |succ n ih =>
  intro σ ρ outs' hM hW h;unfold qnq at h;simp only at h;have hg:=qsb hM hW live
  have hs:gc live 0 (σ.st.ins ρ)=(σ.gc live).st.ins ρ:=(qlF live ρ).symm
  split at h
  ·cases h
  ·rename_i outs e1;split at h
   ·split at h
    ·obtain⟨o,h1,ρ2,h2,h3⟩:=qGP hF hg.m hg.wf hs _ _ _ _ h;exact⟨o,h1,ρ2,hg.trans h2,h3⟩
    ·cases h
   ·obtain⟨o,ho,ρ1,hn,he⟩:=hF _ ρ outs hg.m hg.wf e1;have he':(fun s=>F (gc live 0 s)) (σ.st.ins ρ)=some (o.1,o.2.st.ins ρ1):=by show F (gc live 0 _)=_;rw[hs];exact he
    obtain⟨y,e2,hy⟩:=qno h o ho;cases hb:isN o.1 with
    |true =>
     have hb':qcs o=true:=hb
     rw[if_pos hb'] at e2;obtain⟨o2,h1,ρ2,h2,h3⟩:=ih _ ρ1 y hn.m hn.wf e2;refine⟨o2,hy _ h1,ρ2,hg.trans (hn.trans h2),?_⟩;rw[qqX hb] at he';exact (qzi (f:=fun s=>F (gc live 0 s)) he').trans h3
    |false =>
     have hb' : ¬qcs o=true:=by unfold qcs;rw[hb];decide
     rw[if_neg hb'] at e2;cases e2;refine⟨o,hy _ (List.mem_singleton.2 rfl),ρ1,hg.trans hn,?_⟩;exact qpg (f:=fun s=>F (gc live 0 s)) he' (fun c=>by rw[c] at hb;cases hb)
theorem quI {fr:Fr} {c:Rand} {b:Bool} (h:rdA fr c = .d (.b b)):rd E (fr.ins ρ) c = .d (.b b):=by
 cases c with
 |t n =>
  show (fr.ins ρ).get n=_
  rw[qhV];have:fr.get n = .d (.b b):=h
  rw[this];rfl
 |c v=>exact h
 |g n=>cases h
 |f n=>cases h
theorem qGE (hS:qcP d V S) (hE:E.val=V) : ∀c:PC,Snd d V (qfw S c) (fun s=>qah E lpI 0 c s):=by
 intro c;induction c with
 |skip =>
  intro σ ρ outs hM hW h;cases h;exact⟨_,List.mem_singleton.2 rfl,ρ,⟨Agr.rfl',hM,hW,zzt _⟩,rfl⟩
 |reg ops kill =>
  intro σ ρ outs hM hW h;obtain⟨o,h1,ρ',h2,h3,h4⟩:=qtw hM hW hS hE h;rw[if_neg (by decide)] at h4
  refine⟨o,h1,ρ',h3,?_⟩;simp only[qah];rw[h4,h2]
 |regD ops bf kill =>
  intro σ ρ outs hM hW h;obtain⟨o,h1,ρ',h2,h3,h4⟩:=qtw hM hW hS hE h;rw[if_pos rfl] at h4;refine⟨o,h1,ρ',h3,?_⟩;simp only[qah];rw[h4,h2]
 |seq a b iha ihb =>
  intro σ ρ outs hM hW h;unfold qfw at h;split at h
  ·rename_i l e1;obtain⟨o,ho,ρ1,hn,he⟩:=iha σ ρ l hM hW e1;obtain⟨y,e2,hy⟩:=qno h o ho;simp only[qah];simp only at he;cases hb:isN o.1 with
   |true =>
    have hb':qcs o=true:=hb
    rw[if_pos hb'] at e2;obtain⟨o2,h1,ρ2,h2,h3⟩:=ihb _ ρ1 y hn.m hn.wf e2;refine⟨o2,hy _ h1,ρ2,hn.trans h2,?_⟩;rw[he,qqX hb];exact h3
   |false =>
    have hb' : ¬qcs o=true:=by unfold qcs;rw[hb];decide
    rw[if_neg hb'] at e2;cases e2;refine⟨o,hy _ (List.mem_singleton.2 rfl),ρ1,hn,?_⟩;rw[he];obtain⟨e,σ1⟩:=o;cases e with
    |norm=>cases hb
    |exit i=>rfl
    |ret=>rfl
  ·cases h
 |cond c x y ihx ihy =>
  intro σ ρ outs hM hW h;unfold qfw at h;simp only[qah];split at h
  ·rename_i e;have:rd E (σ.st.ins ρ).fr c = .d (.b true):=quI e
   rw[this];exact ihx σ ρ outs hM hW h
  ·rename_i e;have:rd E (σ.st.ins ρ).fr c = .d (.b false):=quI e
   rw[this];exact ihy σ ρ outs hM hW h
  ·cases h
 |block id x ih =>
  intro σ ρ outs hM hW h;unfold qfw at h;split at h
  ·rename_i l e1;cases h;obtain⟨o,ho,ρ1,hn,he⟩:=ih σ ρ l hM hW e1;simp only[qah];simp only at he;refine⟨_,List.mem_map.2 ⟨o,ho,rfl⟩,ρ1,?_,?_⟩
   ·split
    ·split
     ·exact hn
     ·exact hn
    ·exact hn
   ·rw[he];obtain⟨e,σ1⟩:=o;cases e with
    |norm=>rfl
    |exit i =>
     simp only;split
     ·rfl
     ·rfl
    |ret=>rfl
  ·cases h
 |loop live x ih =>
  intro σ ρ outs hM hW h;exact qBi ih 40 σ ρ outs hM hW h
 |exit id =>
  intro σ ρ outs hM hW h;cases h;exact⟨_,List.mem_singleton.2 rfl,ρ,⟨Agr.rfl',hM,hW,zzt _⟩,rfl⟩
 |ret =>
  intro σ ρ outs hM hW h;cases h;exact⟨_,List.mem_singleton.2 rfl,ρ,⟨Agr.rfl',hM,hW,zzt _⟩,rfl⟩
 |rng=>intro σ ρ outs hM hW h;cases h
 |bad=>intro σ ρ outs hM hW h;cases h
end
end Go.Sim
end
section
namespace Go.Sim
section
variable {d : Nat} {ρ ρ' ρ1 : Nat → DV} {V : Nat → List DV → Option (PV × Bool)} {σ σ' σ0 : AS} {E : Env} {S : List (Nat × Sg)}
def qhh (args:List (K×List TA)):AS:={ fr:=Fr.ofArgs 0 (qch 1 args),H:=[],G:=.i .i64::qcK args,fx:=fxs 1 (qcK args) }
def qlg (H:Heap):PV→Option (List DV)
 | .t vs=>match qaL H vs with|some (xs,_)=>if Nat.beq xs.length 1 then none else some xs|none=>none
 | .d x=>some [x]
 | .r o k off len t=>match qa2 H (.r o k off len t) with|some (x,_)=>some [x]|none=>none
 | .a cs=>match qcC H cs with|some (xs,_)=>some [.a xs]|none=>none
 | _=>none
def qxN (res:List (K×List TA)) (rs:List RV) (o:Ex×AS):Bool:=(match o.1 with | .exit _=>false|_=>true)&&((qaE o.2.fr).isEmpty&&match results o.2.fr o.2.H rs with
 |some vs=>match qlg o.2.H (qa0 vs) with
  |some xs=>qiR o.2.G res xs
  |none=>false
 |none=>false)
def qap (S:List (Nat×Sg)) (F:PF) (g:Sg):Bool:=Nat.beq g.args.length F.nargs&&match qfw S F.body (qhh g.args) with
 |some l=>l.all (qxN g.res F.results)
 |none=>false
theorem qsE (hρ:Sc ρ) {fr:Fr} {H:Heap} : ∀{rs:List RV} {vs:List PV},results fr H rs=some vs→results (fr.ins ρ) (H.ins ρ) rs=some (PV.insL ρ vs)
 | [],vs,h=>by cases h;rfl
 | .t n::r,vs,h=>by
  simp only[results] at h⊢;split at h
  ·rename_i ws e;cases h;rw[qsE hρ e,qhV];rfl
  ·cases h
 | .c n k::r,vs,h=>by
  simp only[results] at h⊢;split at h
  ·rename_i v ws e1 e2;cases h;rw[qsE hρ e2,qhV,qtL hρ e1];rfl
  ·cases h
theorem qn9 : ∀fr:Fr,qaE (fr.ins ρ)=(qaE fr).map (PV.ins ρ)
 | []=>rfl
 | (j,v)::r=>by
  simp only[Fr.ins,qaE];split
  ·rw[zzu,qn9 r]
  ·exact qn9 r
theorem quV {H:Heap} : ∀{l:List PV} {xs:List DV} {os:List Nat},qaL H l=some (xs,os)→qaL (H.ins ρ) (PV.insL ρ l)=some (DV.insL ρ xs,os)
 | [],xs,os,h=>by cases h;rfl
 |v::r,xs,os,h=>by
  simp only[qaL] at h;split at h
  ·rename_i x os1 ys os2 e1 e2;cases h;simp only[PV.insL,qaL];rw[qri e1,quV e2];rfl
  ·cases h
theorem qpX {es:List DV} {k:K} : ∀{n:Nat},¬XD n (.l k es true)
 | 0,h=>by cases h
 | _+1,⟨_,h,_⟩=>by cases h
theorem qCV {ty:TA} {es:List DV} {k:K} (h:Hs d ty (.l k es true)):Hs d ty (.l k es false):=by
 cases ty with
 |b=>obtain⟨_,h⟩:=h;cases h
 |i k=>obtain⟨_,h,_⟩:=h;cases h
 |s=>obtain⟨_,h,_⟩:=h;cases h
 |l k m ts=>obtain⟨_,_,h,hl,hm,he⟩:=h;cases h;exact⟨_,_,rfl,hl,hm,he⟩
 |e n =>
  match n,h with
  | 0,⟨m,h⟩=>exact (qpX h).elim
  | 1,h=>exact (qpX (n:=d) h).elim
  |n+2,⟨m,hm,h⟩=>exact (qpX h).elim
theorem qE9 {kt:K×List TA} {es:List DV} {k:K} (h:HsK d kt (.l k es true)):HsK d kt (.l k es false):=by
 obtain⟨k0,ts⟩:=kt;obtain⟨cs,h1,h2⟩:=h;cases k0 with
 |none =>
  match cs,ts,h1,h2 with
  | [x],[ty],h1,h2 =>
   have:x = .l k es true:=by simpa[mkD] using h1
   subst this;exact⟨[.l k es false],rfl,qCV h2.1,trivial⟩
  | [_],[],_,h2=>exact h2.elim
  | [_],_::_::_,_,h2=>exact h2.2.elim
 |some n =>
  simp only[mkD] at h1;split at h1<;>cases h1
theorem qzF (hρ:Sc ρ) {H:Heap} {v:PV} {xs:List DV} (h:qlg H v=some xs) {res:List (K×List TA)} (hx:qbw d res (DV.insL ρ xs)) : ∃vs own,purT (H.ins ρ) (v.ins ρ)=some (qa0 (vs.map .d),own)∧qbw d res vs:=by
 cases v with
 |t vs =>
  simp only[qlg] at h;split at h
  ·rename_i ys os e;split at h
   ·cases h
   ·rename_i hl;cases h;refine⟨DV.insL ρ xs,false,?_,hx⟩;show purT (H.ins ρ) (.t (PV.insL ρ vs))=_
    simp only[purT];rw[quV e];have hl2:xs.length≠1:=fun c=>hl (by rw[c];rfl)
    match xs,hl2 with
    | [],_=>rfl
    | [x],c=>exact absurd rfl c
    | _::_::_,_=>rfl
  ·cases h
 |d x =>
  cases h;have key : ∀y:DV,qbw d res [y]→∃vs own,purT (H.ins ρ) (.d y)=some (qa0 (vs.map .d),own)∧qbw d res vs:=by
   intro y hy;match y,hy with
   | .l k es true,hy =>
    refine⟨[.l k es false],es.isEmpty,rfl,?_⟩;match res,hy with
    | [kt],hy=>exact⟨qE9 hy.1,trivial⟩
   | .l k es false,hy=>exact⟨[_],false,rfl,hy⟩
   | .b _,hy | .i _ _,hy | .s _,hy | .a _,hy | .np,hy | .nf,hy | .ni,hy | .nm,hy | .ifc _ _,hy | .tok _,hy=>exact⟨[_],false,rfl,hy⟩
  exact key _ hx
 |r o k off len t =>
  simp only[qlg] at h;split at h
  ·rename_i x os e;cases h;have e2:=qrN (ρ:=ρ) e
   refine⟨[x.ins ρ],?_⟩;simp only[PV.ins] at e2⊢;simp only[qa2] at e2;simp only[purT];split at e2
   ·rename_i k' ro es eo;split at e2
    ·rename_i hc;rw[if_pos hc];simp only[zzb,zzc] at e2;exact⟨_,by rw[e2.1];rfl,hx⟩
    ·cases e2
   ·cases e2
  ·cases h
 |a cs =>
  simp only[qlg] at h;split at h
  ·rename_i ys os e;cases h;refine⟨[.a (DV.insL ρ ys)],false,?_,hx⟩;show purT (H.ins ρ) (.a (PV.insL ρ cs))=_
   simp only[purT,pur];rw[qrZ cs e];rfl
  ·cases h
 | _=>cases h
theorem ql6 : ∀(l:List PV) (n:Nat),(Fr.ofArgs n l).ins ρ=Fr.ofArgs n (PV.insL ρ l)
 | [],_=>rfl
 |v::r,n=>by
  have app : ∀a b:Fr,Fr.ins ρ (a++b)=a.ins ρ++b.ins ρ:=by
   intro a b;induction a with
   |nil=>rfl
   |cons x a ih=>obtain⟨j,w⟩:=x;simp only[List.cons_append,Fr.ins];rw[ih]
  simp only[Fr.ofArgs,PV.insL];rw[app,ql6 r (n+1)];rfl
theorem qtD {T:Tab} {f:Nat} {F:PF} (hF:T.F f=some F) {g:Sg} (h:qap S F g=true) (hS:qcP d T.val S) {ds:List DV} (hd:qbw d g.args ds) : ∃vs own,T.val f ds=some (qa0 (vs.map .d),own)∧qbw d g.res vs:=by
 unfold qap at h;rw[zzf] at h;obtain⟨h0,h⟩:=h;split at h
 ·rename_i l e;obtain⟨css,c1,c2⟩:=qsw g.args ds hd;have hρ0:Sc (fun _=>DV.i .i64 0):=fun n cs e=>by cases e
  let ρ:=upn (fun _=>DV.i .i64 0) 1 css
  have hsc:Sc ρ:=qwQ hρ0 c1
  have hz:ρ 0 = .i .i64 0:=qg4 (by omega)
  have hn : ∀i t,(qcK g.args)[i]? = some t→Hs d t (ρ (1+i)):=by
   intro i t e;obtain⟨x,e1,e2⟩:=qqS c1 i t e;show Hs d t (upn _ 1 css (1+i))
   rw[qfh e1];exact e2
  have hgl:(qhh g.args).G.length=1+(qcK g.args).length:=by show (_::_:List TA).length=_;rw[zzn];omega
  have hM:Mod d T.val (qhh g.args) ρ:=by
   refine⟨hsc,?_,qmC hz _ 1 hn,hz,fun c hc=>by cases hc⟩
   intro n t e;cases n with
   |zero =>
    have:t = .i .i64:=by simpa[qhh] using e.symm
    subst this;exact⟨0,hz,by decide⟩
   |succ n =>
    have:=hn n t (by simpa[qhh] using e)
    rwa [show 1+n=n+1 by omega] at this
  have hW:(qhh g.args).wf:=by
   refine⟨fun ρ1 ρ2 _ _ a => ?_,(fun _ _ _ _ _ c hc=>by cases hc),fun f hf => ?_,by omega⟩
   ·show St.mk ((Fr.ofArgs 0 (qch 1 g.args)).ins ρ2) (Heap.ins ρ2 [])=St.mk ((Fr.ofArgs 0 (qch 1 g.args)).ins ρ1) (Heap.ins ρ1 [])
    rw[hgl] at a;rw[ql6,ql6,qi3 a _ (qpV _ _ hd 1 _ (zzt _))];rfl
   ·have:=qlO _ 1 f hf
    omega
  obtain⟨o,ho,ρ',hn,he⟩:=qGE (E:=T.env) hS rfl F.body _ ρ l hM hW e;have hout:=List.all_eq_true.1 h o ho
  have e1:(qhh g.args).st.ins ρ=⟨Fr.ofArgs 0 (ds.map .d),[]⟩:=by
   show St.mk ((Fr.ofArgs 0 (qch 1 g.args)).ins ρ) (Heap.ins ρ [])=_
   have:=c2 (fun _=>DV.i .i64 0) 1 []
   rw[ql6];have e3:PV.insL ρ (qch 1 g.args)=ds.map .d:=by simpa using this
   rw[e3];rfl
  have hlen:(ds.map PV.d).length=F.nargs:=by
   have hl : ∀(ks:List (K×List TA)) (vs:List DV),qbw d ks vs→ks.length=vs.length:=by
    intro ks;induction ks with
    |nil=>intro vs h;cases vs with
     |nil=>rfl
     |cons=>exact h.elim
    |cons k ks ih=>intro vs h;cases vs with
     |nil=>exact h.elim
     |cons v vs=>rw[zzn,zzn,ih vs h.2]
   rw[zzo,←hl _ _ hd];exact Nat.eq_of_beq_eq_true h0
  unfold qxN at hout;rw[zzf,zzf] at hout;obtain⟨h2,h3,h4⟩:=hout;split at h4
  ·rename_i vs e5;split at h4
   ·rename_i xs e6;have hk:=qpD hn.m.ty h4
    obtain⟨ws,own,p1,p2⟩:=qzF hn.m.sc e6 hk;refine⟨ws,own,?_,p2⟩;rw[qu7 T hF];have hg:qaE (o.2.st.ins ρ').fr=[]:=by
     show qaE (o.2.fr.ins ρ')=[]
     rw[qn9,List.isEmpty_iff.1 h3];rfl
    have hr:results (o.2.st.ins ρ').fr (o.2.st.ins ρ').H F.results=some (PV.insL ρ' vs):=qsE hn.m.sc e5
    have hev:qa5 T.env lpI F (ds.map .d) []=some (qa0 (PV.insL ρ' vs),(o.2.st.ins ρ').H):=by
     unfold qa5;rw[if_pos hlen];simp only at he;rw[e1] at he;show (match qah T.env lpI 0 F.body ⟨Fr.ofArgs 0 (ds.map .d),[]⟩ with
      |some (.norm,s)|some (.ret,s)=>match runG T.env (qaE s.fr) s.H with
       |some H'=>match results s.fr H' F.results with
        |some vs=>some (qa0 vs,H')
        |none=>none
       |none=>none
      | _=>none)=_
     rw[he];obtain⟨ex,σ1⟩:=o;cases ex with
     |exit i=>cases h2
     |norm=>simp only[hg,runG,hr]
     |ret=>simp only[hg,runG,hr]
    rw[hev];simp only;rw[←qxo];exact p1
   ·cases h4
  ·cases h4
 ·cases h
end
end Go.Sim
end
section
namespace Go.Sim
set_option maxRecDepth 10000
mutual
def Ty.ta:Ty→TA
 | .b=>.b
 | .i k=>.i k
 | .s=>.s
 | .e=>.e 0
 | .l k w ts=>.l k (if Nat.beq w 0 then maxLen else qa8/w) (Ty.taL ts)
def Ty.taL:List Ty→List TA
 | []=>[]
 |t::ts=>Ty.ta t::Ty.taL ts
end
theorem quF : ∀{x:DV},XL x→∃n,XD n x:=by
 intro x hx;refine XL.rec (motive_1:=fun x _=>∃n,XD n x) (motive_2:=fun e _=>∃n,∃o m s a,e = .a [.i .i64 o,.i .i64 m,.s s,a]∧(Lit.int .i64 o).wf=true∧(Lit.int .i64 m).wf=true∧s.length≤maxLen∧XD n a) ?_ ?_ hx
 ·intro es _ _ hc ih;have key : ∀es:List DV,(∀e∈es,∃n,∃o m s a,e = .a [.i .i64 o,.i .i64 m,.s s,a]∧(Lit.int .i64 o).wf=true∧(Lit.int .i64 m).wf=true∧s.length≤maxLen∧XD n a)→∃n,∀e∈es,∃o m s a,e = .a [.i .i64 o,.i .i64 m,.s s,a]∧(Lit.int .i64 o).wf=true∧(Lit.int .i64 m).wf=true∧s.length≤maxLen∧XD n a:=by
   intro es;induction es with
   |nil=>intro _;exact⟨0,fun e he=>by cases he⟩
   |cons e es ih =>
    intro h;obtain⟨n,o,m,s,a,h1,h2,h3,h4,h5⟩:=h e (zzr ..);obtain⟨k,hk⟩:=ih fun e he=>h e (zzi _ he)
    refine⟨max n k,fun e' he => ?_⟩
    rcases List.mem_cons.1 he with rfl|he
    ·exact⟨o,m,s,a,h1,h2,h3,h4,qo5 (Nat.le_max_left ..) h5⟩
    ·obtain⟨o,m,s,a,h1,h2,h3,h4,h5⟩:=hk e' he;exact⟨o,m,s,a,h1,h2,h3,h4,qo5 (Nat.le_max_right ..) h5⟩
  obtain⟨n,hn⟩:=key es ih;exact⟨n+1,es,rfl,hc,hn⟩
 ·intro o n s a h1 h2 h3 _ ⟨k,hk⟩;exact⟨k,o,n,s,a,rfl,h1,h2,h3,hk⟩
theorem qzm : ∀{n:Nat} {x:DV},XD n x→XL x
 | 0,_,h=>by
  have:_=_:=h
  subst this;exact .mk [] (Nat.zero_le _) (fun e he=>by cases he) (by simp)
 |n+1,_,⟨es,h,hc,he⟩=>by
  subst h;refine .mk es ?_ (fun e hm => ?_) hc
  ·unfold qa8 at hc;have:maxLen=9223372036854775807:=rfl
   omega
  ·obtain⟨o,m,s,a,h1,h2,h3,h4,h5⟩:=he e hm;rw[h1];exact .mk o m s a h2 h3 h4 (qzm h5)
mutual
theorem qKv (d:Nat) : ∀(t:Ty) {x:DV},Has t x→Hs d t.ta x
 | .b,_,h=>h
 | .i _,_,h=>h
 | .s,_,h=>h
 | .e,_,h=>quF h
 | .l k b ts,_,⟨es,h,h1,h2,h3⟩=>⟨es,false,h,h1,by
   split
   ·exact h1
   ·rename_i hb;exact (Nat.le_div_iff_mul_le (Nat.pos_of_ne_zero fun c=>hb (by rw[c];rfl))).2 h2,fun e he=>by
   obtain⟨cs,c1,c2⟩:=h3 e he;exact⟨cs,c1,qpz d ts c2⟩⟩
theorem qpz (d:Nat) : ∀(ts:List Ty) {xs:List DV},qam ts xs→HsL d (Ty.taL ts) xs
 | [],[],_=>trivial
 |t::ts,x::xs,h=>⟨qKv d t h.1,qpz d ts h.2⟩
 | [],_::_,h=>h.elim
 | _::_,[],h=>h.elim
end
def qai (T:Tab) (f:Nat) (s:Sg):Prop:=∀d ds,qbw d s.args ds→∃vs own,T.val f ds=some (qa0 (vs.map .d),own)∧qbw d s.res vs
theorem qaq {d:Nat} {V:Nat→List DV→Option (PV×Bool)}:qcP d V []:=fun _ _ h=>by cases h
theorem qak {T:Tab} {d f:Nat} {s:Sg} {S:List (Nat×Sg)} (h:qai T f s) (r:qcP d T.val S):qcP d T.val ((f,s)::S):=by
 intro g t hl;unfold qik at hl;split at hl
 ·rename_i e;cases hl;rw[←Nat.eq_of_beq_eq_true e];exact h d
 ·exact r g t hl
theorem qau {T:Tab} {f:Nat} {F:PF} {s:Sg} {S:List (Nat×Sg)} (hF:T.F f=some F) (h:qap S F s=true) (hS : ∀d,qcP d T.val S):qai T f s:=fun d _ hd=>qtD hF h (hS d) hd
mutual
def TA.pl:TA→Bool
 | .e _=>false
 | .l _ _ ts=>TA.plL ts
 | _=>true
def TA.plL:List TA→Bool
 | []=>true
 |t::ts=>TA.pl t&&TA.plL ts
end
mutual
theorem qAI {d d':Nat} : ∀(t:TA) {x:DV},t.pl=true→Hs d t x→Hs d' t x
 | .b,_,_,h=>h
 | .i _,_,_,h=>h
 | .s,_,_,h=>h
 | .e _,_,hp,_=>by cases hp
 | .l k m ts,_,hp,⟨es,t,h,h1,h2,h3⟩=>⟨es,t,h,h1,h2,fun e he=>by
   obtain⟨cs,c1,c2⟩:=h3 e he;exact⟨cs,c1,qqO ts hp c2⟩⟩
theorem qqO {d d':Nat} : ∀(ts:List TA) {xs:List DV},TA.plL ts=true→HsL d ts xs→HsL d' ts xs
 | [],[],_,_=>trivial
 |t::ts,x::xs,hp,h=>by
  rw[TA.plL,zzf] at hp;exact⟨qAI t hp.1 h.1,qqO ts hp.2 h.2⟩
 | [],_::_,_,h=>h.elim
 | _::_,[],_,h=>h.elim
end
def qk1:List (K×List TA)→Bool
 | []=>true
 |k::ks=>TA.plL k.2&&qk1 ks
theorem qkn {d d':Nat} : ∀{ks:List (K×List TA)} {vs:List DV},qk1 ks=true→qbw d ks vs→qbw d' ks vs
 | [],[],_,_=>trivial
 |k::ks,v::vs,hp,h=>by
  rw[qk1,zzf] at hp;obtain⟨⟨cs,c1,c2⟩,h2⟩:=h;exact⟨⟨cs,c1,qqO _ hp.1 c2⟩,qkn hp.2 h2⟩
 | [],_::_,_,h=>h.elim
 | _::_,[],_,h=>h.elim
def kX (m:Nat):K×List TA:=(some 4,[.i .i64,.i .i64,.s,.e m])
def sX (m:Nat) (rest res:List (K×List TA)):Sg:=⟨kX m::rest,res⟩
theorem qaX {d:Nat} {t:TA} {ts:List TA} {xs:List DV} (h:HsL d (t::ts) xs) : ∃x r,xs=x::r∧Hs d t x∧HsL d ts r:=by
 cases xs with
 |nil=>exact h.elim
 |cons x r=>exact⟨x,r,rfl,h.1,h.2⟩
theorem qcu {d:Nat} {xs:List DV} (h:HsL d [] xs):xs=[]:=by
 cases xs with
 |nil=>rfl
 |cons x r=>exact h.elim
theorem qsf {d m:Nat} {x:DV} (hx:HsK d (kX m) x) : ∃o n s a,x = .a [.i .i64 o,.i .i64 n,.s s,a]∧(Lit.int .i64 o).wf=true∧(Lit.int .i64 n).wf=true∧s.length≤maxLen∧XT d m a:=by
 obtain⟨cs,c1,c2⟩:=hx;obtain⟨w1,r1,rfl,⟨o,rfl,h1⟩,c3⟩:=qaX c2;obtain⟨w2,r2,rfl,⟨n,rfl,h2⟩,c4⟩:=qaX c3;obtain⟨w3,r3,rfl,⟨s,rfl,h3⟩,c5⟩:=qaX c4;obtain⟨w4,r4,rfl,h4,c6⟩:=qaX c5;obtain rfl:=qcu c6;have e:x = .a [.i .i64 o,.i .i64 n,.s s,w4]:=(Option.some.inj c1).symm
 exact⟨o,n,s,w4,e,h1,h2,h3,h4⟩
theorem qq7 {d m:Nat} {o n:Int} {s:List UInt8} {a:DV} (h1:(Lit.int .i64 o).wf=true) (h2:(Lit.int .i64 n).wf=true) (h3:s.length≤maxLen) (h4:XT d m a):HsK d (kX m) (.a [.i .i64 o,.i .i64 n,.s s,a]) :=
 ⟨[.i .i64 o,.i .i64 n,.s s,a],rfl,⟨o,rfl,h1⟩,⟨n,rfl,h2⟩,⟨s,rfl,h3⟩,h4,trivial⟩
theorem qop {T:Tab} {f:Nat} {F:PF} {rest res:List (K×List TA)} {S:List (Nat×Sg)} (hF:T.F f=some F) (h:qap ((f,sX 2 rest res)::S) F (sX 1 rest res)=true) (hp:(qk1 rest&&qk1 res)=true) (hS : ∀d,qcP d T.val S):qai T f (sX 0 rest res):=by
 rw[zzf] at hp;have key : ∀(n d:Nat),d<n→∀ds,qbw d (sX 1 rest res).args ds→∃vs own,T.val f ds=some (qa0 (vs.map .d),own)∧qbw d res vs:=by
  intro n;induction n with
  |zero=>intro d hd;exact absurd hd (zzm _)
  |succ n ih =>
   intro d hd ds hds;refine qtD hF h ?_ hds;intro g t hl;unfold qik at hl;split at hl
   ·rename_i e;cases hl;have e2:=Nat.eq_of_beq_eq_true e
    subst e2;intro ds hds;cases ds with
    |nil=>exact hds.elim
    |cons x ds =>
     obtain⟨h1,h2⟩:=hds;obtain⟨o,m,s,a,rfl,q1,q2,q3,⟨k,hk,q4⟩⟩:=qsf h1;have hx:HsK k (kX 1) (.a [.i .i64 o,.i .i64 m,.s s,a]):=qq7 q1 q2 q3 q4
     obtain⟨vs,own,v1,v2⟩:=ih k (by omega) (_::ds) ⟨hx,qkn hp.1 h2⟩
     exact⟨vs,own,v1,qkn hp.2 v2⟩
   ·exact hS d g t hl
 intro d ds hds;cases ds with
 |nil=>exact hds.elim
 |cons x ds =>
  obtain⟨h1,h2⟩:=hds;obtain⟨o,m,s,a,rfl,q1,q2,q3,⟨k,q4⟩⟩:=qsf h1;have hx:HsK k (kX 1) (.a [.i .i64 o,.i .i64 m,.s s,a]):=qq7 q1 q2 q3 q4
  obtain⟨vs,own,v1,v2⟩:=key (k+1) k (Nat.lt_succ_self k) (_::ds) ⟨hx,qkn hp.1 h2⟩;exact⟨vs,own,v1,qkn hp.2 v2⟩
end Go.Sim
end
section
namespace Go.Sim
def qkm:List TA:=[.s,.i .i64]
def qjV:List TA:=[.s,.l K0 17592186044416 [.i .i64],.l K0 17592186044416 [.i .i64]]
def qjd:List TA:=[.s,.i .i64]
def qm1:List TA:=[.i .i64,.i .i64]
def tX:List TA:=[.i .i64,.i .i64,.s,.e 0]
def qGG:List TA:=[.l (K1 2) 8796093022208 qm1,.b,.i .i64,.i .i64,.b]
def qvq:List TA:=[.s,.i .i64,.i .i64,.i .i64,.s,.e 0,.i .i64,.i .i64,.s,.e 0]
def qwT:List TA:=[.s,.i .i64,.i .i64,.i .i64,.s,.e 0]
def qgz:List TA:=[.s,.s,.s,.i .i64,.i .i64,.i .i64,.i .i64,.l (K1 2) 8796093022208 qm1,.b,.i .i64,.i .i64,.b,.l (K1 2) 8796093022208 qm1,.b,.i .i64,.i .i64,.b,.l (K1 10) 1034834473200 qvq,.l (K1 6) 1759218604441 qwT]
def tGl:List TA:=[.i .i64,.i .i64,.i .i64,.s]
def qwN:List TA:=[.i .i64,.i .i64,.s]
def qkP:List TA:=[.i .i64,.i .i64,.i .i64,.i .i64,.i .i64,.i .i64,.s,.s,.l (K1 3) 4398046511104 qwN,.i .u64]
def qhU:List TA:=[.i .i64,.i .i64,.i .i64,.i .i64,.i .i64,.s]
def qqr:List TA:=[.i .i64,.i .i64,.i .i64,.i .i64,.i .i64,.i .i64,.s]
def qmF:List TA:=[.i .i64,.i .i64,.i .i64,.i .i64,.s,.s,.s]
def qA7:List TA:=[.i .i64,.i .i64,.i .i64,.i .i64,.i .i64,.i .i64,.i .i64,.i .i64,.i .i64,.i .i64,.i .i64,.i .i64,.i .i64,.i .i64]
def qgw:List TA:=[.l (K1 2) 5864062014805 qkm,.l (K1 3) 2199023255552 qjV,.l (K1 4) 3518437208883 tGl,.i .i64,.i .i64,.i .i64,.i .i64,.i .i64,.i .i64,.i .i64,.i .i64,.i .i64,.i .i64,.i .i64,.i .i64,.i .i64,.i .i64,.l (K1 19) 586406201480 qgz,.l (K1 7) 1759218604441 qmF,.l (K1 10) 1256584717458 qkP,.l (K1 6) 2513169434916 qhU,.l (K1 7) 2199023255552 qqr]
def qon:Sg:=⟨[(K0,[.i .i64])],[(K0,[.s])]⟩
def qsH:Sg:=⟨[(K0,[.s])],[(K0,[.s]),(K0,[.i .i64])]⟩
def qwz:Sg:=⟨[(K0,[.s])],[(K0,[.b])]⟩
def qqb:Sg:=⟨[(K0,[.l (K1 2) 5864062014805 qkm])],[(K0,[.i .i64])]⟩
def qq5:Sg:=⟨[(K0,[.l (K1 4) 3518437208883 tGl]),(K1 14,qA7)],[(K0,[.i .i64])]⟩
def qrP:Sg:=⟨[(K1 22,qgw)],[(K0,[.i .i64])]⟩
def qrJ:Sg:=⟨[(K0,[.l (K1 6) 2513169434916 qhU])],[(K0,[.i .i64])]⟩
def qr1:Sg:=⟨[(K0,[.l (K1 7) 2199023255552 qqr])],[(K0,[.i .i64])]⟩
def qsh:Sg:=⟨[(K0,[.s])],[(K0,[.b])]⟩
def qqA:Sg:=⟨[(K0,[.l (K1 3) 2199023255552 qjV]),(K0,[.s])],[(K1 3,qjV),(K0,[.b])]⟩
def qrH:Sg:=⟨[(K0,[.s])],[(K0,[.b])]⟩
def qnZ:Sg:=⟨[(K1 3,qjV)],[(K0,[.i .i64])]⟩
def qqQ:Sg:=⟨[(K0,[.s])],[(K0,[.b])]⟩
def qli:Sg:=⟨[(K0,[.l (K1 4) 3518437208883 tGl]),(K0,[.i .i64])],[(K1 4,tGl),(K0,[.b])]⟩
def qre:Sg:=⟨[(K0,[.l (K1 4) 3518437208883 tGl]),(K0,[.i .i64]),(K0,[.i .i64])],[(K0,[.i .i64])]⟩
def qoM:Sg:=⟨[(K0,[.l (K1 19) 586406201480 qgz])],[(K0,[.i .i64])]⟩
def qoZ:Sg:=⟨[(K1 19,qgz),(K0,[.l (K1 2) 5864062014805 qkm]),(K0,[.l (K1 3) 2199023255552 qjV])],[(K0,[.i .i64])]⟩
def qgS:Sg:=⟨[(K0,[.i .i64])],[(K0,[.b])]⟩
def qpt:Sg:=⟨[(K1 7,qmF)],[(K0,[.b])]⟩
def qoQ:Sg:=⟨[(K1 22,qgw),(K1 7,qmF)],[(K0,[.i .i64])]⟩
def qqq:Sg:=⟨[(K1 6,qhU)],[(K0,[.i .i64])]⟩
def qp4:Sg:=⟨[(K0,[.l (K1 6) 2513169434916 qhU]),(K0,[.s])],[(K0,[.b])]⟩
def qq4:Sg:=⟨[(K1 7,qqr)],[(K0,[.b])]⟩
def qmp:Sg:=⟨[(K0,[.s])],[(K0,[.b])]⟩
def qr7:Sg:=⟨[(K0,[.l K0 17592186044416 [.i .i64]])],[(K0,[.b])]⟩
def qpv:Sg:=⟨[(K0,[.l (K1 4) 3518437208883 tGl]),(K0,[.i .i64])],[(K0,[.b])]⟩
def qsD:Sg:=⟨[(K1 19,qgz),(K1 19,qgz)],[(K0,[.b])]⟩
def qif:Sg:=⟨[(K0,[.s])],[(K0,[.b])]⟩
def qnH:Sg:=⟨[(K0,[.l (K1 2) 5864062014805 qkm]),(K0,[.s])],[(K1 2,qkm),(K0,[.b])]⟩
def qn4:Sg:=⟨[(K1 5,qGG)],[(K0,[.i .i64])]⟩
def qsG:Sg:=⟨[(K1 10,qvq)],[(K0,[.i .i64])]⟩
def qrF:Sg:=⟨[(K1 6,qwT)],[(K0,[.i .i64])]⟩
def qlM:Sg:=⟨[(K0,[.l (K1 19) 586406201480 qgz]),(K0,[.s]),(K0,[.i .i64])],[(K1 19,qgz),(K0,[.b])]⟩
def qqK:Sg:=⟨[(K0,[.s])],[(K0,[.b])]⟩
def qqT:Sg:=⟨[(K0,[.l (K1 2) 8796093022208 qm1])],[(K0,[.i .i64])]⟩
def qlT:Sg:=⟨[(K1 4,tX),(K0,[.l (K1 2) 9223372036854775807 qjd]),(K0,[.i .i64])],[(K0,[.i .i64])]⟩
def qmQ:Sg:=⟨[],[(K0,[.l (K1 2) 9223372036854775807 qjd])]⟩
def qoe:Sg:=⟨[(K1 10,qkP)],[(K0,[.i .i64])]⟩
def qnO:Sg:=⟨[(K1 22,qgw),(K0,[.i .i64])],[(K1 7,qmF),(K0,[.b])]⟩
def qqn:Sg:=⟨[(K1 22,qgw),(K0,[.i .i64]),(K0,[.i .i64])],[(K0,[.b])]⟩
def qr4:Sg:=⟨[(K0,[.s]),(K0,[.i .i64]),(K0,[.i .u8])],[(K0,[.b])]⟩
def qp1:Sg:=⟨[(K1 4,tX),(K0,[.l (K1 2) 9223372036854775807 qjd])],[(K0,[.i .i64]),(K0,[.i .i64])]⟩
def qp6:Sg:=⟨[(K1 4,tX)],[(K0,[.i .i64])]⟩
def qrs:Sg:=⟨[(K1 4,tX),(K0,[.l (K1 2) 9223372036854775807 qjd])],[(K0,[.i .i64]),(K0,[.i .i64])]⟩
def qqH:Sg:=⟨[(K1 4,tX),(K0,[.i .i64])],[(K0,[.b])]⟩
def qtQ:Sg:=⟨[(K0,[.s])],[(K0,[.b])]⟩
def qpm:Sg:=⟨[(K0,[.i .i64])],[(K0,[.b])]⟩
def qxH:Sg:=⟨[(K0,[.i .i64]),(K0,[.l K0 9223372036854775807 [.i .i64]])],[(K0,[.i .i64]),(K0,[.b])]⟩
def qqg:Sg:=⟨[(K0,[.i .i64])],[(K0,[.i .i64])]⟩
def qpl:Sg:=⟨[(K0,[.i .i64])],[(K0,[.i .i64])]⟩
def qp9:Sg:=⟨[(K0,[.s])],[(K0,[.b])]⟩
def qoj:Sg:=⟨[(K0,[.i .i64]),(K0,[.l K0 9223372036854775807 [.i .i64]])],[(K0,[.i .i64]),(K0,[.b])]⟩
def qqc:Sg:=⟨[],[(K0,[.l K0 9223372036854775807 [.s]])]⟩
def qkN:Sg:=⟨[(K0,[.i .i64])],[(K0,[.b])]⟩
def qpr:Sg:=⟨[(K0,[.i .i64]),(K0,[.i .i64]),(K0,[.i .i64])],[(K0,[.i .i64]),(K0,[.b])]⟩
def qsn:Sg:=⟨[(K0,[.i .i64]),(K0,[.i .i64])],[(K0,[.i .i64]),(K0,[.b])]⟩
def qss:Sg:=⟨[(K1 22,qgw),(K0,[.i .i64]),(K0,[.i .i64])],[(K1 19,qgz),(K0,[.b])]⟩
def qqB:Sg:=⟨[(K1 22,qgw)],[(K0,[.b])]⟩
def quh:Sg:=⟨[(K1 22,qgw)],[(K0,[.b])]⟩
def qpY:Sg:=⟨[(K0,[.l (K1 6) 2513169434916 qhU])],[(K0,[.b])]⟩
def qrt:Sg:=⟨[(K1 19,qgz)],[(K0,[.b])]⟩
def qpS:Sg:=⟨[(K1 10,qkP)],[(K0,[.b])]⟩
def qpp:Sg:=⟨[(K1 22,qgw)],[(K0,[.b])]⟩
def qoC:Sg:=⟨[(K1 22,qgw),(K1 10,qkP)],[(K0,[.b])]⟩
def qoT:Sg:=⟨[(K0,[.l (K1 4) 3518437208883 tGl]),(K0,[.i .i64])],[(K0,[.l K0 9223372036854775807 [.i .i64]])]⟩
def qvh:Sg:=⟨[(K0,[.l (K1 4) 3518437208883 tGl]),(K0,[.i .i64]),(K0,[.i .i64])],[(K0,[.b])]⟩
def qr2:Sg:=⟨[(K0,[.l (K1 4) 3518437208883 tGl]),(K0,[.i .i64])],[(K0,[.l K0 9223372036854775807 [.i .i64]])]⟩
def qqt:List (K×List TA):=[]
def qrT:List (K×List TA):=[(K0,[.i .i64])]
def qz2:Sg:=sX 0 qqt qrT
def qpw:List (K×List TA):=[]
def qsr:List (K×List TA):=[(K0,[.b])]
def qAn:Sg:=sX 0 qpw qsr
def qsp:List (K×List TA):=[(K0,[.i .i64])]
def qrb:List (K×List TA):=[(K0,[.i .i64])]
def qxy:Sg:=sX 0 qsp qrb
end Go.Sim
end
