/- Part 7 of the proof. -/
import Derived.Test.YtmaaepdecdhmnaaGreatDoorHB6
import Derived.Shelf.Strings.Repeat
import Derived.Shelf.Strings.Count
import Derived.Shelf.Strconv.ParseIntPublic10
import Derived.Shelf.Strconv.Atoi
import Derived.OpenShut
import Derived.Deep.Slices
import Derived.ProofKit
import Derived.LaidMore
set_option linter.all false
namespace Go.Sim
set_option maxRecDepth 100000
set_option maxHeartbeats 8000000
section
open Go.RowKit Go.Sort
section
variable {P:CO}{N:Names}{C:Cx}{w:CL}{S:qac}{β:Pl}{B:Nat}{H:CP}{a:Act}{E:Env}{ρ:Go.Shelf.Ren}
def qoX(hS:Swf w S){w':CL}(h:Below w.heap.size w w'):Ext w.heap.size w S w' S:=by
 refine⟨h,λ_ _ h=>h,?_,λ_ _ h=>.inl h,?_⟩
 ·intro b j hs;have hlt:=hS.lt hs
  simp only[World.cell?,h.block b hlt]
 ·intro b e n hs;have hlt:b<w.heap.size:=by
   unfold World.shape? at hs;split at hs
   ·rename_i hw;exact (Array.getElem?_eq_some_iff.1 hw).1
   ·cases hs
  simp only[World.shape?,h.block b hlt]at hs⊢;exact hs
end
section
variable {P:CO}{N:Names}{C:Cx}{ρ:Go.Shelf.Ren}
def qi9(l:Cv)(c:UInt8):Nat:=match l with
 |[]=>0
 |x::r=>if x==c then qi9 r c+1 else qi9 r c
def qo4(ds:Ct):Cz:=match ds with
 |[.s l,.s [c]]=>some (.d (.i .i64 (qi9 l c)),false)
 |_=>none
def qFM(l:Cv)(c:UInt8):qi9 l c=Lib.countByte l c:=by
 induction l with
 |nil=>rfl
 |cons x r ih=>
  simp only[qi9,ih,Lib.countByte,List.count_cons];split<;>rfl
def qFO{G:Nat->CE (DV×K)}{f:Nat}(L:Go.Proofs.Lays.n138 P ρ)(hf:C.μ f=ρ.f 138){ds:Ct}{r:PV}{own:CG}(h:qo4 ds=some (r,own)):qiE P C N G f ds r own:=by
 unfold qo4 at h;split at h;case h_2=>cases h
 rename_i l c;simp only[zzb,zzc]at h;obtain⟨rfl,rfl⟩:=h;intro w S us hS hG hl hr;match us,hl with
 |[u,v],_=>
 have k0:=hr 0 (by simp) (by simp)
 have k1:=hr 1 (by simp) (by simp)
 simp only[List.getElem_cons_zero,zzG]at k0 k1;obtain⟨s,rfl,hs⟩:∃s:ByteArray,u=.string s/\s.data.toList=l:=by
  cases k0 with
  |s _ x hx=>exact⟨x,rfl,hx⟩
 obtain⟨t,rfl,ht⟩:∃s:ByteArray,v=.string s/\s.data.toList=[c]:=by
  cases k1 with
  |s _ x hx=>exact⟨x,rfl,hx⟩
 have ht':t=⟨#[c]⟩:=by
  obtain⟨⟨t⟩⟩:=t;simp only at ht;subst ht;rfl
 subst ht' hs;rw[hf];refine (Go.Proofs.Any.strings_Count_one L s c w).mono ?_;rintro e w' ⟨rfl,rfl⟩;refine⟨_,S,rfl,Ext.refl _ _ _,hS,λ_=>?_,λh=>by cases h⟩
 rw[qFM];exact .d _ _ (.i _ _)
end
section
variable {P:CO}{N:Names}{C:Cx}{ρ:Go.Shelf.Ren}{w:CL}{S:qac}
def qCT{G:Nat->CE (DV×K)}(hG:GOK N G w S){g n:Nat}(h:G (N.g g)=some (.tok n,none)):∃t v,w.cell? ⟨g,0,none⟩=some (.iface t v):=by
 obtain⟨-,f,h1,h2⟩:=hG g _ _ h;have h3:=(h1 0 (by simp[K.size])).1
 change Al w S _ (f 0)at h2
 generalize f 0=u at h2 h3;cases h2 with
 |tok _ t v=>exact⟨t,v,h3⟩
def qnQ(ds:Ct):Cz:=match ds with
 |[.s l,.i .i64 b,.i .i64 m]=>if b=10/\m=64/\l.length<=281474976710656 then match Lib.parseIntB 64 l with
   |.ok v=>some (.t [.d (.i .i64 v),.d .ni],false)
   |.range=>some (.t [.d (.i .i64 (Lib.intSat 64 l)),.d (.tok 0)],false)
   |_=>some (.t [.d (.i .i64 0),.d (.tok 0)],false)
  else none
 |_=>none
def qqR{w':CL}{x:Int}{d:DV}{u:CJ}(h:Al w' S d u):Ae C w' S (λ_=>.pend) (.t [.d (.i .i64 x),.d d]) (.tuple #[.int .i64 x,u]):=by
 refine .t _ [.int .i64 x,u] rfl λj hj hj'=>?_
 match j,hj with
 |0,_=>exact .d _ _ (.i _ _)
 |1,_=>exact .d _ _ h
def qO8{G:Nat->CE (DV×K)}{f:Nat}(L:Go.Proofs.LaysC.n174 P ρ)(hf:C.μ f=ρ.f 174)(h15:G (N.g (ρ.g 15))=some (.tok 0,none))(h16:G (N.g (ρ.g 16))=some (.tok 1,none)){ds:Ct}{r:PV}{own:CG}(h:qnQ ds=some (r,own)):qiE P C N G f ds r own:=by
 unfold qnQ at h;split at h;case h_2=>cases h
 rename_i l b m;split at h;case isFalse=>cases h
 rename_i hc;obtain⟨rfl,rfl,hlen⟩:=hc;intro w S us hS hG hl hr;match us,hl with
 |[u,v,x],_=>
 have k0:=hr 0 (by simp) (by simp)
 have k1:=hr 1 (by simp) (by simp)
 have k2:=hr 2 (by simp) (by simp)
 simp only[List.getElem_cons_zero,zzG]at k0 k1 k2;obtain⟨s,rfl,hs⟩:∃s:ByteArray,u=.string s/\s.data.toList=l:=by
  cases k0 with
  |s _ x hx=>exact⟨x,rfl,hx⟩
 have hv:v=.int .i64 10:=by cases k1;rfl
 have hx:x=.int .i64 64:=by cases k2;rfl
 subst hv hx hs;have hsz:s.size<=281474976710656:=by simpa using hlen
 rw[hf];cases hn:Lib.parseIntB 64 s.data.toList<;>rw[hn]at h
 ·rename_i n;simp only[zzb,zzc]at h;obtain⟨rfl,rfl⟩:=h;refine (Go.Proofs.Any.strconv_ParseInt_10_at64_ok L s (by omega) n hn w).mono ?_
  rintro e w' ⟨rfl,hw⟩;have hb:Below w.heap.size w w':=by
   rcases hw with rfl|⟨t,rfl⟩
   ·exact Below.refl _ _
   ·exact Lib.bytesWorld_below _ _ _
  have e1:=qoX hS hb
  exact⟨_,S,rfl,e1,hS.ext e1,λ_=>qqR .ni,λh=>by cases h⟩
 ·simp only[zzb,zzc]at h;obtain⟨rfl,rfl⟩:=h;obtain⟨t,v,hv⟩:=qCT hG h15;refine (Go.Proofs.Any.strconv_ParseInt_10_at64_syntax L s hsz hn _ w hv (.inr ⟨t,v,rfl⟩)).mono ?_;rintro e w' ⟨n,rfl,-,-,hb⟩;have e1:=qoX hS hb
  exact⟨_,S,rfl,e1,hS.ext e1,λ_=>qqR (.tok _ _ _),λh=>by cases h⟩
 ·simp only[zzb,zzc]at h;obtain⟨rfl,rfl⟩:=h;obtain⟨t,v,hv⟩:=qCT hG h16;refine (Go.Proofs.Any.strconv_ParseInt_10_at64_range L s hsz hn _ w hv (.inr ⟨t,v,rfl⟩)).mono ?_;rintro e w' ⟨n,rfl,-,-,hb⟩;have e1:=qoX hS hb
  exact⟨_,S,rfl,e1,hS.ext e1,λ_=>qqR (.tok _ _ _),λh=>by cases h⟩
def qmV(ds:Ct):Cz:=match ds with
 |[.s l]=>if l.length<=18 then match Lib.atoi l with
   |some v=>some (.t [.d (.i .i64 v),.d .ni],false)
   |none=>none
  else none
 |_=>none
def qEX{G:Nat->CE (DV×K)}{f:Nat}(L:Go.Proofs.Lays.n172 P ρ)(hf:C.μ f=ρ.f 172){ds:Ct}{r:PV}{own:CG}(h:qmV ds=some (r,own)):qiE P C N G f ds r own:=by
 unfold qmV at h;split at h;case h_2=>cases h
 rename_i l;split at h;case isFalse=>cases h
 rename_i hc;split at h;case h_2=>cases h
 rename_i n hn;simp only[zzb,zzc]at h;obtain⟨rfl,rfl⟩:=h;intro w S us hS hG hl hr;match us,hl with
 |[u],_=>
 have k0:=hr 0 (by simp) (by simp)
 simp only[List.getElem_cons_zero]at k0;obtain⟨s,rfl,hs⟩:∃s:ByteArray,u=.string s/\s.data.toList=l:=by
  cases k0 with
  |s _ x hx=>exact⟨x,rfl,hx⟩
 subst hs;rw[hf];refine (Go.Proofs.Any.strconv_Atoi L s n (by simpa using hc) hn w).mono ?_
 rintro e w' ⟨rfl,t,rfl⟩;have e1:=qoX hS (Lib.bytesWorld_below w (ρ.t 5) t)
 exact⟨_,S,rfl,e1,hS.ext e1,λ_=>qqR .ni,λh=>by cases h⟩
end
end
section
open Go.RowKit
inductive PT where
 |nil
 |bin (k:Nat) (F:PF) (l r:PT)
noncomputable def PT.get(t:PT):Nat->CE PF:=@PT.rec (λ_=>Nat->CE PF) (λ_=>none) (λk F _ _ gl gr n=>@Bool.rec (λ_=>CE PF) (@Bool.rec (λ_=>CE PF) (gr n) (gl n) (Nat.ble (Nat.succ n) k)) (some F) (Nat.beq n k)) t
def PT.All(p:Nat->PF->Prop):PT->Prop
 |.nil=>True
 |.bin k F l r=>p k F/\l.All p/\r.All p
def PT.BJ{p:Nat->PF->Prop}:∀{t:PT} {n:Nat} {F:PF},t.get n=some F->t.All p->p n F
 |.nil,n,F,h,_=>by cases h
 |.bin k G l r,n,F,h,ha=>by
  change @Bool.rec (λ_=>CE PF) (@Bool.rec (λ_=>CE PF) (r.get n) (l.get n) (Nat.ble (Nat.succ n) k)) (some G) (Nat.beq n k)=some F at h
  cases hb:Nat.beq n k with
  |true=>
   rw[hb]at h;have:n=k:=zzy hb
   subst this;cases h;exact ha.1
  |false=>
   rw[hb]at h;change @Bool.rec (λ_=>CE PF) (r.get n) (l.get n) (Nat.ble (Nat.succ n) k)=some F at h
   cases hc:Nat.ble (Nat.succ n) k with
   |true=>rw[hc]at h;exact PT.BJ (t:=l) h ha.2.1
   |false=>rw[hc]at h;exact PT.BJ (t:=r) h ha.2.2
inductive XK where
 |cnt
 |par
 |ato
def XK.run:XK->Ct->Cz
 |.cnt,ds=>qo4 ds
 |.par,ds=>qnQ ds
 |.ato,ds=>qmV ds
inductive RK where
 |ins (k:K) (b:Nat)
def RK.run:RK->Cu->CP->CB
 |.ins k b,args,H=>qgE k b args H
noncomputable def qbC{α β:Type}(f:α->β)(z:β)(l:CF (Nat×α))(n:Nat):β:=@List.rec (Nat×α) (λ_=>β) z (λp _ ih=>@Prod.rec Nat α (λ_=>β) (λm x=>@Bool.rec (λ_=>β) ih (f x) (Nat.beq n m)) p) l
def qik{α β:Type}{f:α->β}{z:β}:∀{l:CF (Nat×α)} {n:Nat},qbC f z l n=z\/∃x,(n,x)∈l/\qbC f z l n=f x
 |[],n=>.inl rfl
 | (m,x)::r,n=>by
  change (@Bool.rec (λ_=>β) (qbC f z r n) (f x) (Nat.beq n m))=z\/∃y,(n,y)∈(m,x)::r/\(@Bool.rec (λ_=>β) (qbC f z r n) (f x) (Nat.beq n m))=f y
  cases hb:Nat.beq n m with
  |true=>
   have:n=m:=zzy hb
   subst this;exact .inr ⟨x,zzr ..,rfl⟩
  |false=>
   rcases qik (f:=f) (z:=z) (l:=r) (n:=n)with h|⟨y,h1,h2⟩
   ·exact .inl h
   ·exact .inr ⟨y,zzi _ h1,h2⟩
noncomputable def qnJ(t:PT)(xs:CF (Nat×XK))(rs:CF (Nat×RK))(gs:CF (Nat×DV×K)):Tab where
 F:=t.get
 X:=qbC XK.run (λ_=>none) xs
 R:=qbC RK.run (λ_ _=>none) rs
 G:=qbC (λx=>some x) none gs
section
variable {P:CO}{N:Names}{C:Cx}
def XOK(P:CO)(N:Names)(C:Cx)(G:Nat->CE (DV×K))(f:Nat):XK->Prop
 |.cnt=>∃ρ,Go.Proofs.Lays.n138 P ρ/\C.μ f=ρ.f 138
 |.par=>∃ρ,Go.Proofs.LaysC.n174 P ρ/\C.μ f=ρ.f 174/\G (N.g (ρ.g 15))=some (.tok 0,none)/\G (N.g (ρ.g 16))=some (.tok 1,none)
 |.ato=>∃ρ,Go.Proofs.Lays.n172 P ρ/\C.μ f=ρ.f 172
def ROK(P:CO)(N:Names)(C:Cx)(G:Nat->CE (DV×K))(f:Nat):RK->Prop
 |.ins k b=>∃ρ z,Go.Proofs.InsL P (C.μ f) ρ k.size/\kq P (ρ.t 9)=some k/\zq P (ρ.t 9)=some z/\P.bytesOf (ρ.t 9)=b/\b≠0/\0<k.size
def qS3{G:Nat->CE (DV×K)}(hN:NOK P N C G){f:Nat}{x:XK}(h:XOK P N C G f x){ds:Ct}{r:PV}{own:CG}(hr:x.run ds=some (r,own)):qiE P C N G f ds r own:=by
 cases x with
 |cnt=>obtain⟨ρ,h1,h2⟩:=h;exact qFO h1 h2 hr
 |par=>obtain⟨ρ,h1,h2,h3,h4⟩:=h;exact qO8 h1 h2 h3 h4 hr
 |ato=>obtain⟨ρ,h1,h2⟩:=h;exact qEX h1 h2 hr
def qS4{G:Nat->CE (DV×K)}{f:Nat}{x:XK}(h:XOK P N C G f x):∃fn,P.funcs[C.μ f]? = some fn/\fn.body.isNone=false/\fn.name ≠ "runtime.NumGoroutine" :=by
 cases x with
 |cnt=>obtain⟨ρ,h1,h2⟩:=h;exact⟨_,by rw[h2];exact h1.f138,rfl,of_decide_eq_true rfl⟩
 |par=>obtain⟨ρ,h1,h2,-⟩:=h;exact⟨_,by rw[h2];exact h1.f174,rfl,of_decide_eq_true rfl⟩
 |ato=>obtain⟨ρ,h1,h2⟩:=h;exact⟨_,by rw[h2];exact h1.f172,rfl,of_decide_eq_true rfl⟩
def qP2{G:Nat->CE (DV×K)}{f:Nat}{x:RK}(h:ROK P N C G f x){args:Cu}{H H':CP}{r:PV}(hr:x.run args H=some (r,H')):qoi P C N G f args H r H':=by
 cases x with
 |ins k b=>obtain⟨ρ,z,h1,h2,h3,h4,h5,h6⟩:=h;subst h4;exact qHp h1 rfl h2 h3 h5 h6 hr
def qP3{G:Nat->CE (DV×K)}{f:Nat}{x:RK}(h:ROK P N C G f x):∃fn,P.funcs[C.μ f]? = some fn/\fn.body.isNone=false/\fn.name ≠ "runtime.NumGoroutine" :=by
 cases x with
 |ins k b=>
  obtain⟨ρ,z,h1,-⟩:=h;obtain⟨nm,hn,hf⟩:=h1.bears;exact⟨_,hf,rfl,by simpa using hn⟩
def qQT{t:PT}{xs:CF (Nat×XK)}{rs:CF (Nat×RK)}{gs:CF (Nat×DV×K)}(hN:NOK P N C (qnJ t xs rs gs).G)(hF:t.All λn F=>qhP P N (C.μ n) F)(hX:∀x∈xs,XOK P N C (qnJ t xs rs gs).G x.1 x.2)(hR:∀x∈rs,ROK P N C (qnJ t xs rs gs).G x.1 x.2):TabOK P N C (qnJ t xs rs gs):=by
 refine⟨hN,λf F h=>PT.BJ (p:=λn F=>qhP P N (C.μ n) F) (t:=t) (n:=f) h hF,?_,?_,?_,?_⟩
 ·intro f ds r own _ h;change qbC XK.run (λ_=>none) xs f ds=_ at h
  rcases qik (f:=XK.run) (z:=λ_=>none) (l:=xs) (n:=f)with h1|⟨x,h1,h2⟩
  ·rw[h1]at h;cases h
  ·rw[h2]at h;exact qS3 hN (hX _ h1) h
 ·intro f args H r H' _ h;change qbC RK.run (λ_ _=>none) rs f args H=_ at h
  rcases qik (f:=RK.run) (z:=λ_ _=>none) (l:=rs) (n:=f)with h1|⟨x,h1,h2⟩
  ·rw[h1]at h;cases h
  ·rw[h2]at h;exact qP2 (hR _ h1) h
 ·intro f args H r _ h;change qbC RK.run (λ_ _=>none) rs f args H=_ at h
  rcases qik (f:=RK.run) (z:=λ_ _=>none) (l:=rs) (n:=f)with h1|⟨x,h1,h2⟩
  ·rw[h1]at h;cases h
  ·exact qP3 (hR _ h1)
 ·intro f ds r _ h;change qbC XK.run (λ_=>none) xs f ds=_ at h
  rcases qik (f:=XK.run) (z:=λ_=>none) (l:=xs) (n:=f)with h1|⟨x,h1,h2⟩
  ·rw[h1]at h;cases h
  ·exact qS4 (hX _ h1)
end
end
section
open Go.RowKit Go.WideShapes Go.Deep
inductive Ty where
 |b
 |i (k:IntKind)
 |s
 |e
 |l (k:K) (b:Nat) (ts:List Ty)
def qbf:Nat:=140737488355328
mutual
inductive XL:DV->Prop
 |mk (es:List DV):es.length<=maxLen->(∀e∈es,XE e)->es.length*56<=qbf->XL (.l (some 4) es false)
inductive XE:DV->Prop
 |mk (o n:Int) (s:List UInt8) (a:DV):(Lit.int .i64 o).wf=true->(Lit.int .i64 n).wf=true->s.length<=maxLen->XL a->XE (.a [.i .i64 o,.i .i64 n,.s s,a])
end
mutual
def Has:Ty->DV->Prop
 |.e,x=>XL x
 |.b,x=>∃c,x=.b c
 |.i k,x=>∃n,x=.i k n/\(Lit.int k n).wf=true
 |.s,x=>∃l,x=.s l/\l.length<=maxLen
 |.l k b ts,x=>∃es,x=.l k es false/\es.length<=maxLen/\es.length*b<=qbf/\∀e∈es,∃cs,mkD k cs=some e/\qaA ts cs
def qaA:CF Ty->Ct->Prop
 |[],[]=>True
 |t::ts,x::xs=>Has t x/\qaA ts xs
 |_,_=>False
end
def qjW(P:CO)(rec:CK->CE (CF Ty)):CF Field->Nat->Nat->CE (CF Ty)
 |[],off,n=>if off=n then some []else none
 |f::fs,off,n=>if f.offset≠off then none else (rec f.type).bind λa=>if a.length≠P.cellsOf f.type then none else (qjW P rec fs (off+a.length) n).bind λb=>some (a++b)
def tyB(P:CO)(u:CK):CE (CF Ty):=match P.underlying u with
 |some .bool=>some [.b]
 |some (.int k)=>some [.i k]
 |some .string=>some [.s]
 |_=>none
def qza:CE (CF Ty)->CG
 |some [.i .i64,.i .i64,.s,.e]=>true
 |_=>false
def qst(P:CO)(t:CK):CG:=match P.underlying t with
 |some (.slice e)=>decide (kq P e=some (some 4))&&(decide (P.cellsOf e=4/\P.bytesOf e=56)&&match P.underlying e with
  |some (.struct fs)=>qza (qjW P (λu=>if u=t then some [.e]else tyB P u) fs.toList 0 4)
  |_=>false)
 |_=>false
def qhD(P:CO):Nat->CK->CE (CF Ty)
 |0,_=>none
 |n+1,t=>match P.underlying t with
  |some .bool=>some [.b]
  |some (.int k)=>some [.i k]
  |some .string=>some [.s]
  |some (.slice e)=>if qst P t=true then some [.e]else (kq P e).bind λk=>(qhD P n e).bind λts=>if ts.length=P.cellsOf e/\k.size=ts.length/\0<ts.length then some [.l k (P.bytesOf e) ts]else none
  |some (.struct fs)=>qjW P (qhD P n) fs.toList 0 (P.cellsOf t)
  |some (.array m e)=>(qhD P n e).bind λts=>if ts.length=P.cellsOf e/\P.cellsOf t=m*P.cellsOf e then some (List.replicate m ts).flatten else none
  |_=>none
def Live(w:CL):qac:=λb o=>∃v,w.cell? ⟨b,o,none⟩=some v
def Live.swf(w:CL):Swf w (Live w):=λ_ _ h=>h
def R1(w:CL)(t:Ty)(v:CJ):Prop:=flat v/\∃x,Has t x/\Al w (Live w) x v
def CR(w:CL):CF Ty->CF CJ->Prop
 |[],[]=>True
 |t::ts,v::vs=>R1 w t v/\CR w ts vs
 |_,_=>False
def CR.append{w:CL}:∀{ts:CF Ty} {vs:CF CJ} {us:CF Ty} {ws:CF CJ},CR w ts vs->CR w us ws->CR w (ts++us) (vs++ws)
 |[],[],_,_,_,k=>k
 |_::_,_::_,_,_,h,k=>⟨h.1,h.2.append k⟩
 |[],_::_,_,_,h,_=>h.elim
 |_::_,[],_,_,h,_=>h.elim
def CR.len{w:CL}:∀{ts:CF Ty} {vs:CF CJ},CR w ts vs->ts.length=vs.length
 |[],[],_=>rfl
 |_::_,_::_,h=>by simp[h.2.len]
 |[],_::_,h=>h.elim
 |_::_,[],h=>h.elim
def CR.flat{w:CL}:∀{ts:CF Ty} {vs:CF CJ},CR w ts vs->∀v∈vs,flat v
 |[],[],_,v,hv=>by cases hv
 |_::_,_::_,h,v,hv=>by
  rcases List.mem_cons.1 hv with rfl|hv
  ·exact h.1.1
  ·exact h.2.flat v hv
 |[],_::_,h,_,_=>h.elim
 |_::_,[],h,_,_=>h.elim
def CR.data{w:CL}:∀{ts:CF Ty} {vs:CF CJ},CR w ts vs->∃xs,qaA ts xs/\xs.length=vs.length/\∀j (h:j<xs.length) (h':j<vs.length),Al w (Live w) xs[j] vs[j]
 |[],[],_=>⟨[],by simp[qaA],rfl,λj h=>by cases h⟩
 |_::_,_::_,h=>by
  obtain⟨xs,h1,h2,h3⟩:=h.2.data;obtain⟨-,x,h4,h5⟩:=h.1;refine⟨x::xs,by rw[qaA];exact⟨h4,h1⟩,by simp[h2],?_⟩
  intro j hj hj';cases j with
  |zero=>exact h5
  |succ j=>exact h3 j _ _
 |[],_::_,h=>h.elim
 |_::_,[],h=>h.elim
def CR.val{w:CL}{ts:CF Ty}{vs:CF CJ}(h:CR w ts vs){k:K}(hk:k.size=ts.length)(c:Nat->CJ)(hc:∀m (h:m<vs.length),c m=vs[m]) :
  ∃xs e,mkD k xs=some e/\qaA ts xs/\Al w (Live w) e (mkV k c):=by
 obtain⟨xs,h1,h2,h3⟩:=h.data;have hl:=h.len
 cases k with
 |none=>
  simp only[K.size]at hk;match xs,vs,h2 with
  |[x],[v],_=>
   refine⟨[x],x,rfl,h1,?_⟩
   have:=h3 0 (by simp) (by simp)
   simp only[mkV];rw[hc 0 (by simp)]
   exact this
  |[],[],_=>simp at hl;subst hl;simp at hk
  |_::_::_,vs,e=>rw[<-hl,<-hk]at e;simp at e
 |some n=>
  simp only[K.size]at hk;have e:(List.range n).map c=vs:=by
   apply List.ext_getElem
   ·simp;omega
   ·intro m hm hm';simp[hc m hm']
  refine⟨xs,.a xs,by simp[mkD];omega,h1,?_⟩
  simp only[mkV,e];exact .a xs vs h2 h.flat h3
section
variable {H:Type}{enc:CK × CJ->H}{P:CO}{w:CL}{sp:Nat->CG}{held:CG}
def Wts(P:CO)(t:CK)(d:DataW H):Prop:=∀n∈d.weights P t,n<=reachBytes
def qvY{e:CK}:∀{l:CF (DataW H)},(∀n∈DataW.weightsAll P e l,n<=reachBytes)->∀d∈l,Wts P e d
 |[],_,d,hd=>by cases hd
 |x::r,h,d,hd=>by
  simp only[DataW.weightsAll,zzB]at h;rcases List.mem_cons.1 hd with rfl|hd
  ·exact λn hn=>h n (.inl hn)
  ·exact qvY (λn hn=>h n (.inr hn)) d hd
def qvZ:∀{ts:CF CK} {l:CF (DataW H)},(∀n∈DataW.weightsEach P ts l,n<=reachBytes)->∀i (h:i<ts.length) (h':i<l.length),Wts P ts[i] l[i]
 |[],_,_,i,h,_=>by cases h
 |_::_,[],_,i,_,h'=>by cases h'
 |t::ts,d::r,h,i,hi,hi'=>by
  simp only[DataW.weightsEach,zzB]at h;cases i with
  |zero=>exact λn hn=>h n (.inl hn)
  |succ i=>exact qvZ (λn hn=>h n (.inr hn)) i (by simpa using hi) (by simpa using hi')
def qSV{t e:CK}{el sl:CF (DataW H)}(hu:P.underlying t=some (.slice e))(h:Wts P t (.slice el sl)):el.length*P.bytesOf e<=reachBytes/\∀d∈el,Wts P e d:=by
 unfold Wts at h;simp only[DataW.weights,hu,List.mem_cons,zzB]at h;refine⟨zzL (zzh _ (Nat.le_add_right _ _)) (h _ (.inl rfl)),λd hd=>qvY (λn hn=>h n (.inr (.inl hn))) d hd⟩
def qDE{t:CK}{fs:Array Field}{l:CF (DataW H)}(hu:P.underlying t=some (.struct fs))(h:Wts P t (.agg l))(i:Nat)(hi:i<fs.size)(hi':i<l.length):Wts P fs[i].type l[i]:=by
 unfold Wts at h;simp only[DataW.weights,hu]at h
 have:=qvZ h i (by simpa using hi) hi'
 simpa using this
def qSU{t e:CK}{m:Nat}{l:CF (DataW H)}(hu:P.underlying t=some (.array m e))(h:Wts P t (.agg l)):∀d∈l,Wts P e d:=by
 unfold Wts at h;simp only[DataW.weights,hu]at h;exact qvY h
def qsb{rec:CK->CE (CF Ty)}{cs:CF CJ}{n:Nat}(hn:cs.length=n):∀(fs:CF Field) (off:Nat) (ts:CF Ty),off<=n->qjW P rec fs off n=some ts->
  (∀f∈fs,∀ts',rec f.type=some ts'->CR w ts' ((cs.drop f.offset).take (P.cellsOf f.type)))->CR w ts (cs.drop off)
 |[],off,ts,ho,h,_=>by
  simp only[qjW]at h;split at h
  ·cases h;rw[List.drop_eq_nil_iff.2 (by omega)]
   trivial
  ·cases h
 |f::fs,off,ts,ho,h,hf=>by
  simp only[qjW]at h;split at h
  ·cases h
  rename_i h1;have h1:f.offset=off:=by simpa using h1
  obtain⟨a,ha,h⟩:=zza.1 h;split at h
  ·cases h
  rename_i h2;have h2:a.length=P.cellsOf f.type:=by simpa using h2
  obtain⟨b,hb,h⟩:=zza.1 h;cases h;have k1:=hf f (zzr ..) a ha
  have k1l:=k1.len
  rw[h1,<-h2]at k1;have hle:off+a.length<=n:=by
   rw[zzI,zzJ,h1]at k1l;omega
  have k2:=qsb hn fs (off+a.length) b hle hb (λg hg=>hf g (zzi _ hg))
  have:=k1.append k2
  rwa [<-List.drop_drop,List.take_append_drop]at this
def qxq{cs:CF CJ}{c:Nat}{ts:CF Ty}(ht:ts.length=c):∀(m i:Nat),cs.length=(i+m)*c->(∀j,i<=j->j<i+m->CR w ts ((cs.drop (j*c)).take c))->CR w (List.replicate m ts).flatten (cs.drop (i*c))
 |0,i,hl,_=>by
  rw[List.drop_eq_nil_iff.2 (by rw[hl];simp)]
  trivial
 |m+1,i,hl,h=>by
  have k1:=h i (zzt _) (by omega)
  have k2:=qxq ht m (i+1) (by rw[hl];congr 1;omega) (λj hj hj'=>h j (by omega) (by omega))
  have:=k1.append k2
  rw[Nat.succ_mul,<-List.drop_drop,List.take_append_drop]at this;simpa[List.replicate_succ]using this
def qxr{t e:CK}{fuel:Nat}{cs:CF CJ}{x:DataW H×CF MemPlace}{k:K}{c:Nat}{Pe:DV->Prop}(hu:P.underlying t=some (.slice e))(hd:DataW.trod enc P w 0 sp held fuel t cs=some x)(hc1:c=P.cellsOf e)(hc2:k.size=c)(hc3:0<c)(hw:Wts P t x.1)
  (hel:∀n cs' x',n<fuel->DataW.trod enc P w 0 sp held n e cs'=some x'->Wts P e x'.1->∃us,us.length=c/\CR w us cs'/\∀xs ee,mkD k xs=some ee->qaA us xs->Pe ee) :
  ∃v E,cs=[v]/\flat v/\Al w (Live w) (.l k E false) v/\E.length<=maxLen/\E.length*P.bytesOf e<=qbf/\∀e∈E,Pe e:=by
 rcases DataW.trod_slice hu hd with ⟨rfl,-⟩|⟨a,len,cap,elems,rest,n,rfl,rfl,hxe,hb,hl,hm,hlen,hx,-,-⟩
 ·refine⟨_,[],rfl,rfl,?_,by simp,by simp,λe he=>by cases he⟩
  exact .l k [] false none 0 0 0 (λ_ _=>.bool false) (zzt _) (λh=>by cases h) (λh=>by cases h) (λj h=>by cases h) (λj h=>by cases h)
 ·rw[hxe]at hw;obtain⟨hw1,hw2⟩:=qSV hu hw;have hs:∀i,i<len->∃V:(Nat->CJ)×DV,(∀q,q<k.size->w.cell? (a.add (i*P.cellsOf e+q))=some (V.1 q)/\flat (V.1 q))/\Pe V.2/\Al w (Live w) V.2 (mkV k V.1):=by
   intro i hi;have h0:=hx i hi
   rw[zze (by omega)]at h0
   obtain⟨cs',h1,h2⟩:=zza.1 h0;obtain⟨us,hus,h3,hpe⟩:=hel n cs' _ (Nat.lt_succ_self n) h2 (hw2 _ (zzN.2 ⟨_,zzs _,rfl⟩));obtain⟨-,h4,h5⟩:=World.cells?_some h1;obtain⟨xs,ee,e1,e2,e3⟩:=h3.val (k:=k) (by omega) (λq=>cs'.getD q (.bool false)) (λq hq=>by simp[hq])
   have hul:=h3.len
   refine⟨(λq=>cs'.getD q (.bool false),ee),?_,hpe xs ee e1 e2,e3⟩
   intro q hq;have hq':q<cs'.length:=by omega
   have h6:=h5 q (by omega)
   rw[zze hq']at h6;have e7:(cs'.getD q (.bool false))=cs'[q]:=by simp[hq']
   refine⟨?_,?_⟩
   ·rw[show (a.add (i*P.cellsOf e+q))=(a.add (i*P.cellsOf e)).add q by by_cases g1:i*P.cellsOf e=0<;>by_cases g2:q=0<;>simp[Addr.add,g1,g2,Nat.add_assoc]]
    simp only[e7];exact h6
   ·show flat (cs'.getD q (.bool false))
    rw[e7];exact h3.flat _ (zzs _)
  have:Inhabited ((Nat->CJ)×DV):=⟨(λ_=>.bool false,.np)⟩
  obtain⟨V,hV⟩:=choose_lt hs;obtain⟨E,hE,hEV⟩:∃E:Ct,E.length=len/\∀i (h:i<E.length),E[i]=(V i).2:=⟨(List.range len).map λi=>(V i).2,by simp,λi h=>by simp⟩
  subst hE;have hk0:0<k.size:=by omega
  have sp0:∀j,j<E.length->a.spot=none:=by
   intro j hj
   have:=World.cell?_spot ((hV 0 (by omega)).1 0 hk0).1
   simpa[Addr.add]using this
  refine⟨_,E,rfl,rfl,?_,by omega,by simp only[zzo,hlen]at hw1;unfold qbf;unfold reachBytes at hw1;omega,?_⟩
  ·refine Al.l (w:=w) (S:=Live w) k E false (some a) cap a.block a.off (λj=>(V j).1) hl (λh=>by cases h) ?_ ?_ ?_
   ·intro h0
    have:=sp0 0 h0
    cases a;simp_all
   ·intro j hj q hq;obtain⟨g1,g2⟩:=(hV j hj).1 q hq;have hs0:=sp0 j hj
    have e8:a.add (j*P.cellsOf e+q)=⟨a.block,a.off+j*k.size+q,none⟩:=by
     rw[<-hc1,<-hc2];obtain⟨ab,ao,as0⟩:=a;simp only at hs0;subst hs0;by_cases g:j*k.size+q=0<;>simp[Addr.add,g,Nat.add_assoc]
     omega
    rw[e8]at g1;exact⟨g1,⟨_,g1⟩,g2⟩
   ·intro j hj;rw[hEV j hj];exact (hV j hj).2.2
  ·intro ee he;obtain⟨i,hi,rfl⟩:=zzO he;rw[hEV i hi];exact (hV i hi).2.1
def qFT{u:CK}{fuel:Nat}{cs:CF CJ}{x:DataW H×CF MemPlace}{ts:CF Ty}(hd:DataW.trod enc P w 0 sp held fuel u cs=some x)(h:tyB P u=some ts):CR w ts cs:=by
 unfold tyB at h;split at h
 ·rename_i hu;cases h;obtain⟨b,rfl,-⟩:=DataW.trod_bool hu hd;exact⟨⟨rfl,.b b,by simp[Has],.b b⟩,trivial⟩
 ·rename_i k hu;cases h;obtain⟨m,rfl,-,hw⟩:=DataW.trod_int hu hd;exact⟨⟨rfl,.i k m,by simp[Has,hw],.i k m⟩,trivial⟩
 ·rename_i hu;cases h;obtain⟨s,rfl,-,hs⟩:=DataW.trod_string hu hd;exact⟨⟨rfl,.s s.data.toList,by simpa[Has]using hs,.s _ s rfl⟩,trivial⟩
 ·cases h
def qS1{xs:Ct}{ee:DV}(h1:mkD (some 4) xs=some ee)(h2:qaA [.i .i64,.i .i64,.s,.e] xs):XE ee:=by
 match xs,h2 with
 |[x1,x2,x3,x4],h2=>
  simp only[qaA,Has,and_true]at h2;obtain⟨⟨o,rfl,ho⟩,⟨n,rfl,hn⟩,⟨s,rfl,hs⟩,h4⟩:=h2;simp only[mkD,zzn,List.length_nil,if_true,zzb]at h1;subst h1;exact .mk o n s x4 ho hn hs h4
 |[],h2=>simp[qaA]at h2
 |[_],h2=>simp[qaA]at h2
 |[_,_],h2=>simp[qaA]at h2
 |[_,_,_],h2=>simp[qaA]at h2
 |_::_::_::_::_::_,h2=>simp[qaA]at h2
def qS2{t:CK}(ht:qst P t=true):∀(m fuel:Nat) (cs:CF CJ) (x:DataW H×CF MemPlace),fuel<=m->DataW.trod enc P w 0 sp held fuel t cs=some x->Wts P t x.1->CR w [.e] cs:=by
 have ht0:=ht
 unfold qst at ht;split at ht;case h_2=>cases ht
 rename_i e hu;simp only[zzf,zzq]at ht;obtain⟨hk,⟨hc,hb⟩,ht⟩:=ht;split at ht;case h_2=>cases ht
 rename_i fs hf;obtain⟨ts,hts,h4⟩:∃ts,qjW P (λu=>if u=t then some [.e]else tyB P u) fs.toList 0 4=some ts/\ts=[.i .i64,.i .i64,.s,.e]:=by
  unfold qza at ht;split at ht
  ·rename_i hq;exact⟨_,hq,rfl⟩
  ·cases ht
 subst h4;intro m;induction m with
 |zero=>
  intro fuel cs x hm hd _;obtain rfl:fuel=0:=by omega
  simp[DataW.trod]at hd
 |succ m ih=>
  intro fuel cs x hm hd hw;obtain⟨v,E,rfl,hfl,hr,hlen,hlb,hE⟩:=qxr (k:=some 4) (c:=4) (Pe:=XE) hu hd hc.symm rfl (by decide) hw (λn cs' x' hn hd' hw'=>by
   refine⟨_,rfl,?_,λxs ee h1 h2=>qS1 h1 h2⟩
   obtain⟨xs,n',rfl,hxe,hl,hl2,hx⟩:=DataW.trod_struct hf hd';rw[hxe]at hw'
   have:=qsb (P:=P) (w:=w) (rec:=λu=>if u=t then some [.e]else tyB P u) (hl.trans hc) fs.toList 0 _ (zzK _) hts (λf hf' ts' hts'=>by
    obtain⟨i,hi,rfl⟩:=zzO hf';have hi':i<fs.size:=by simpa using hi
    have h5:=hx i fs[i] (by simp[hi'])
    rw[zze (by omega)]at h5
    simp only[Array.getElem_toList]at hts'⊢;split at hts'
    ·rename_i hft;cases hts';rw[hft]at h5⊢;exact ih n' _ _ (by omega) h5 (by have:=qDE hf hw' i hi' (by simp;omega);rw[hft]at this;simpa using this)
    ·exact qFT h5 hts')
   simpa using this)
  exact⟨⟨hfl,_,by rw[Has];exact .mk E hlen hE (by rw[<-hb];exact hlb),hr⟩,trivial⟩
def qFU(n:Nat):∀{fuel:Nat} {t:CK} {cs:CF CJ} {x:DataW H×CF MemPlace} {ts:CF Ty},DataW.trod enc P w 0 sp held fuel t cs=some x->Wts P t x.1->qhD P n t=some ts->CR w ts cs:=by
 induction n with
 |zero=>intro fuel t cs x ts _ _ h;cases h
 |succ n ih=>
  intro fuel t cs x ts hd hw h;simp only[qhD]at h;split at h
  ·rename_i hu;cases h;obtain⟨b,rfl,-⟩:=DataW.trod_bool hu hd;exact⟨⟨rfl,.b b,by simp[Has],.b b⟩,trivial⟩
  ·rename_i k hu;cases h;obtain⟨m,rfl,-,hw⟩:=DataW.trod_int hu hd;exact⟨⟨rfl,.i k m,by simp[Has,hw],.i k m⟩,trivial⟩
  ·rename_i hu;cases h;obtain⟨s,rfl,-,hs⟩:=DataW.trod_string hu hd;exact⟨⟨rfl,.s s.data.toList,by simpa[Has]using hs,.s _ s rfl⟩,trivial⟩
  ·rename_i e hu;split at h
   ·rename_i hX;cases h;exact qS2 hX fuel fuel cs x (zzt _) hd hw
   obtain⟨k,hk,h⟩:=zza.1 h;obtain⟨us,hus,h⟩:=zza.1 h;split at h
   ·rename_i hc;cases h;obtain⟨hc1,hc2,hc3⟩:=hc;obtain⟨v,E,rfl,hfl,hr,hlen,hlb,hE⟩:=qxr (k:=k) (c:=us.length) (Pe:=λee=>∃cs,mkD k cs=some ee/\qaA us cs) hu hd hc1 hc2 hc3 hw (λn' cs' x' _ hd' hw'=>⟨us,rfl,ih hd' hw' hus,λxs ee h1 h2=>⟨xs,h1,h2⟩⟩)
    refine⟨⟨hfl,_,?_,hr⟩,trivial⟩;rw[Has];exact⟨E,rfl,hlen,hlb,hE⟩
   ·cases h
  ·rename_i fs hu;obtain⟨xs,m,-,hxe,hl,hl2,hx⟩:=DataW.trod_struct hu hd;rw[hxe]at hw
   have:=qsb (P:=P) (w:=w) (rec:=qhD P n) hl fs.toList 0 ts (zzK _) h (λf hf ts' hts=>by
    obtain⟨i,hi,rfl⟩:=zzO hf;have hi':i<fs.size:=by simpa using hi
    have:=hx i fs[i] (by simp[hi'])
    rw[zze (by omega)]at this
    simpa using ih this (by have:=qDE hu hw i hi' (by simp;omega);simpa using this) hts)
   simpa using this
  ·rename_i m e hu;obtain⟨us,hus,h⟩:=zza.1 h;split at h
   ·rename_i hc;cases h;obtain⟨xs,m',-,hxe,hl,hl2,hx⟩:=DataW.trod_array hu hd;rw[hxe]at hw
    have:=qxq (w:=w) (cs:=cs) hc.1 m 0 (by rw[hl,hc.2];simp) (λj _ hj=>by
     have:=hx j (by omega)
     rw[zze (by omega)]at this
     exact ih this (qSU hu hw _ (zzN.2 ⟨_,zzs _,rfl⟩)) hus)
    simpa using this
   ·cases h
  ·cases h
end
end
section
open Go.RowKit
section
variable {P:CO}{W:CL}
def qz9{n:String}{d:DataW Unit}:∀{l:CF (String×DataW Unit)} {ps:CF MemPlace},DataW.LaidVars P W l ps->(n,d)∈l->
  ∃g t cs fuel p,P.globalNamed n=some g/\(P.globals[g]?).map (·.type)=some t/\W.var? P n=some cs/\DataW.trod (λ_=>()) P W 0 (λ_=>true) false fuel t cs.toList=some (d,p)/\∀x∈MemPlace.row ⟨g,0,none⟩ cs.size,x∈ps
 |[],_,_,h=>by cases h
 | (m,e)::r,ps,h,hm=>by
  obtain⟨g,t,cs,fuel,p,q,h1,h2,h3,h4,h5,rfl⟩:=h;rcases List.mem_cons.1 hm with h|h
  ·cases h;exact⟨g,t,cs,fuel,p,h1,h2,h3,h4,λx hx=>List.mem_append_left _ (List.mem_append_left _ hx)⟩
  ·obtain⟨g',t',cs',fuel',p',a1,a2,a3,a4,a5⟩:=qz9 h5 h;exact⟨g',t',cs',fuel',p',a1,a2,a3,a4,λx hx=>List.mem_append_right _ (a5 x hx)⟩
def qAa{laid:CF (String×DataW Unit)}(h:laidMet P laid W){n:String}{d:DataW Unit}(hm:(n,d)∈laid){g:Nat}(hg:P.globalNamed n=some g){t:CK}(ht:(P.globals[g]?).map (·.type)=some t) :
  ∃(cs:Array CJ) (fuel:Nat) (p:CF MemPlace),DataW.trod (λ_=>()) P W 0 (λ_=>true) false fuel t cs.toList=some (d,p)/\(0<cs.size->∃e,W.shape? g=some (e,cs.size))/\∀j (hj:j<cs.size),W.cell? ⟨g,j,none⟩=some cs[j]:=by
 obtain⟨ps,h1,-,h3⟩:=h;obtain⟨g',t',cs,fuel,p,a1,a2,a3,a4,a5⟩:=qz9 h1 hm;obtain rfl:=Option.some.inj (hg.symm.trans a1);obtain rfl:=Option.some.inj (ht.symm.trans a2);have hheap:∃e fz,W.heap[g]? = some (.cells cs e fz):=by
  unfold World.var? at a3;rw[hg]at a3;simp only[Option.bind_some]at a3;split at a3
  ·rename_i cs' e fz hw;cases a3;exact⟨e,fz,hw⟩
  ·cases a3
 obtain⟨e,fz,hw⟩:=hheap;refine⟨cs,fuel,p,a4,?_,?_⟩
 ·intro hp;obtain⟨⟨c,u,hc⟩,-⟩:=h3 g 0 (a5 _ (by unfold MemPlace.row;exact zzN.2 ⟨0,List.mem_range.2 hp,rfl⟩))
  rw[hw]at hc;cases hc;exact⟨e,by simp[World.shape?,hw]⟩
 ·intro j hj;simp[World.cell?,hw,hj]
def qGV{S:qac}(hS:S=Live W){g:Nat}{zs:CF (IntKind×Int)}(hz:0<zs.length){cs:Array CJ}(hl:cs.toList=zs.map λz=>Value.int z.1 z.2)(hs:0<cs.size->∃e,W.shape? g=some (e,cs.size))(hc:∀j (hj:j<cs.size),W.cell? ⟨g,j,none⟩=some cs[j]) :
  (∃e,W.shape? g=some (e,zs.length))/\∃f,At W S g 0 zs.length f/\Al W S (.a (zs.map λz=>.i z.1 z.2)) (mkV (some zs.length) f):=by
 subst hS;have hn:cs.size=zs.length:=by rw[<-Array.length_toList,hl,zzo]
 have hget:∀j (hj:j<zs.length),cs[j]'(by omega)=.int zs[j].1 zs[j].2:=λj hj=>by
  have h1:cs.toList[j]'(by rw[Array.length_toList];omega)=cs[j]'(by omega):=Array.getElem_toList _
  rw[<-h1];simp only[hl,List.getElem_map]
 refine⟨?_,λj=>cs.getD j (.bool false),?_,?_⟩
 ·obtain⟨e,he⟩:=hs (by omega)
  exact⟨e,by rw[he,hn]⟩
 ·intro j hj;have h1:=hc j (by omega)
  have h2:cs.getD j (.bool false)=cs[j]'(by omega):=by simp[Array.getD,show j<cs.size by omega]
  refine⟨by rw[Nat.zero_add];show _=some (cs.getD j (.bool false));rw[h2];exact h1,⟨_,by rw[Nat.zero_add];exact h1⟩,?_⟩
  show flat (cs.getD j (.bool false))
  rw[h2,hget j hj];rfl
 ·simp only[mkV];refine Al.a _ _ (by simp) ?_ ?_
  ·intro v hv;obtain⟨j,hj,rfl⟩:=zzN.1 hv;have hj:=List.mem_range.1 hj
   have h2:cs.getD j (.bool false)=cs[j]'(by omega):=by simp[Array.getD,show j<cs.size by omega]
   show flat (cs.getD j (.bool false))
   rw[h2,hget j hj];rfl
  ·intro j hj hj';simp only[zzo]at hj;simp only[List.getElem_map,List.getElem_range];have h2:cs.getD j (.bool false)=cs[j]'(by omega):=by simp[Array.getD,show j<cs.size by omega]
   rw[h2,hget j hj];exact .i _ _
def qyG{laid:CF (String×DataW Unit)}(h:laidMet P laid W){n:String}{k:IntKind}{zs:Cw}(hm:(n,.agg (zs.map λz=>.lit (.int k z)))∈laid){g:Nat}(hg:P.globalNamed n=some g){t:CK}(ht:(P.globals[g]?).map (·.type)=some t)
  {m:Nat} {e:CK} (hu:P.underlying t=some (.array m e)) (he:P.underlying e=some (.int k)) (hc:P.cellsOf e=1) (hct:P.cellsOf t=m) (hz:0<zs.length) :
  (∃e,W.shape? g=some (e,zs.length))/\∃f,At W (Live W) g 0 zs.length f/\Al W (Live W) (.a (zs.map λz=>.i k z)) (mkV (some zs.length) f):=by
 obtain⟨cs,fuel,p,h1,h2,h3⟩:=qAa h hm hg ht;obtain⟨xs,m',rfl,hx,hl,hxl,hel⟩:=DataW.trod_array hu h1;simp only[zzc,DataW.agg.injEq]at hx;have hzl:zs.length=m:=by
  have:=congrArg List.length hx.1
  simp only[zzo]at this;omega
 have hcs:cs.toList=(zs.map λz=>(k,z)).map λz=>Value.int z.1 z.2:=by
  apply List.ext_getElem
  ·simp only[zzo];rw[hl,hct,hzl]
  ·intro j hj hj';simp only[zzo]at hj';have hjm:j<m:=by omega
   have h4:=hel j hjm
   rw[hc,Nat.mul_one,zze (by omega)]at h4
   obtain⟨n',e1,e2,-⟩:=DataW.trod_int he h4;have e3:cs.toList[j]=.int k n':=by
    have:(cs.toList.drop j).take 1=[cs.toList[j]]:=by
     rw[zzz hj];rfl
    rw[this]at e1;exact (List.cons.inj e1).1
   rw[e3];have e4:(xs.map (·.1))[j]'(by simp;omega)=.lit (.int k n'):=by simp only[List.getElem_map];rw[e2]
   have e5:(zs.map λz=>(DataW.lit (.int k z):DataW Unit))[j]'(by simp;omega)=.lit (.int k n'):=by
    rw[<-e4];congr 1;exact hx.1
   simp only[List.getElem_map]at e5;have e6:zs[j]=n':=by simpa using e5
   simp only[List.getElem_map];rw[e6]
 have:=qGV (W:=W) rfl (g:=g) (zs:=zs.map λz=>(k,z)) (by simpa using hz) hcs h2 h3
 simpa only[zzo,List.map_map,Function.comp_def]using this
noncomputable def qpz(gl:CF (Nat×Nat))(g:Nat):Nat:=qbC (λx=>x) (g+100) gl g
def qGW{f:FuncId->CE (Nat×Nat)}{gl:CF (Nat×Nat)}{gs:CF (Nat×DV×K)}{S:qac}(hlow:(gs.all λx=>Nat.blt x.1 100)=true)
  (h:∀x∈gl,∀v k,qbC some none gs x.2=some (v,k)->(∃e,W.shape? x.1=some (e,k.size))/\∃c,At W S x.1 0 k.size c/\Al W S v (mkV k c)):GOK ⟨f,qpz gl⟩ (qbC some none gs) W S:=by
 intro g v k hg;change qbC some none gs (qpz gl g)=_ at hg
 unfold qpz at hg;rcases qik (f:=λx=>x) (z:=g+100) (l:=gl) (n:=g)with h1|⟨x,h1,h2⟩
 ·exfalso
  rw[h1]at hg;rcases qik (f:=some) (z:=none) (l:=gs) (n:=g+100)with h3|⟨y,h3,-⟩
  ·rw[h3]at hg;cases hg
  ·have:=List.all_eq_true.1 hlow _ h3
   have:=Nat.le_of_ble_eq_true this
   omega
 ·rw[h2]at hg;exact h (g,x) h1 v k hg
