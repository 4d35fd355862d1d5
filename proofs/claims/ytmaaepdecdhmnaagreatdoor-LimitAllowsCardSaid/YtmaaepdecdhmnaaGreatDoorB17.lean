/- Part 17 of the proof. -/
import Derived.Test.YtmaaepdecdhmnaaGreatDoorB6
import Derived.Test.YtmaaepdecdhmnaaGreatDoorB16
import Derived.Test.YtmaaepdecdhmnaaGreatDoorB5
namespace Go.Sim
set_option maxRecDepth 100000
set_option maxHeartbeats 8000000
section
open Go.RowKit
abbrev Rows:=List (List DV×PV×Bool)
theorem qjE{α β:Type}(f:α→β)(z:β)(n:Nat):∀(l:List (Nat×α)),qb0 f z l n=match qb0 some none l n with|none=>z|some x=>f x
 | []=>rfl
 | (m,x)::r=>by
  have ih:=qjE f z n r
  change (@Bool.rec (fun _=>β) (qb0 f z r n) (f x) (Nat.beq n m))=match (@Bool.rec (fun _=>Option α) (qb0 some none r n) (some x) (Nat.beq n m))with|none=>z|some x=>f x
  cases Nat.beq n m with
  |true=>rfl
  |false=>exact ih
noncomputable def qkI(rows:Rows)(ds:List DV):Option (PV×Bool) :=
 @List.rec (List DV×PV×Bool) (fun _=>Option (PV×Bool)) none (fun p _ ih => @Bool.rec (fun _=>Option (PV×Bool)) ih (some p.2) (DV.sameL p.1 ds)) rows
theorem qww{ds:List DV}{r:PV×Bool}:∀{rows:Rows},qkI rows ds=some r→(ds,r)∈rows
 | [],h=>by cases h
 |p::rows,h=>by
  change (@Bool.rec (fun _=>Option (PV×Bool)) (qkI rows ds) (some p.2) (DV.sameL p.1 ds))=some r at h
  cases hb:DV.sameL p.1 ds with
  |true =>
   rw[hb]at h;have h:some p.2=some r:=h
   cases h;rw[←qmi _ _ hb];exact zzr ..
  |false =>
   rw[hb]at h;exact zzi _ (qww h)
noncomputable def qhW(T:Tab)(ms:List (Nat×Rows)):Tab where
 F:=fun n=>qb0 (fun _=>none) (T.F n) ms n
 X:=fun n ds=>qb0 (fun rows=>qkI rows ds) (T.X n ds) ms n
 R:=fun n=>qb0 (fun _ _ _=>none) (T.R n) ms n
 G:=T.G
theorem qwx{P:Program}{N:Names}{C:Cx}{T:Tab}{ms:List (Nat×Rows)}(h:TabOK P N C T)(hv:∀x∈ms,∀y∈x.2,T.val x.1 y.1=some y.2)(hF:∀x∈ms,(T.F x.1).isSome=true):TabOK P N C (qhW T ms):=by
 have key:∀n,(qb0 some none ms n=none∧(qhW T ms).F n=T.F n∧(qhW T ms).X n=T.X n∧(qhW T ms).R n=T.R n)∨∃rows,(n,rows)∈ms∧(qhW T ms).F n=none∧(qhW T ms).X n=qkI rows∧(qhW T ms).R n=fun _ _=>none:=by
  intro n;cases hl:qb0 some none ms n with
  |none =>
   refine .inl ⟨rfl,?_,?_,?_⟩
   ·exact (qjE (fun _=>none) (T.F n) n ms).trans (by rw[hl])
   ·funext ds;exact (qjE (fun rows=>qkI rows ds) (T.X n ds) n ms).trans (by rw[hl])
   ·exact (qjE (fun _ _ _=>none) (T.R n) n ms).trans (by rw[hl])
  |some rows =>
   refine .inr ⟨rows,?_,?_,?_,?_⟩
   ·rcases qiG (f:=some) (z:=none) (l:=ms) (n:=n)with h1|⟨x,h1,h2⟩
    ·rw[h1]at hl;cases hl
    ·rw[h2]at hl;cases hl;exact h1
   ·exact (qjE (fun _=>none) (T.F n) n ms).trans (by rw[hl])
   ·funext ds;exact (qjE (fun rows=>qkI rows ds) (T.X n ds) n ms).trans (by rw[hl])
   ·exact (qjE (fun _ _ _=>none) (T.R n) n ms).trans (by rw[hl])
 have fn:∀n rows,(n,rows)∈ms→∃fn,P.funcs[C.μ n]? = some fn∧fn.body.isNone=false∧fn.name ≠ "runtime.NumGoroutine" := by
  intro n rows hm
  have:=hF _ hm
  cases hT:T.F n with
  |none=>simp only at this;rw[hT]at this;cases this
  |some F =>
   obtain⟨fn,c,h1,h2,h3,-⟩:=h.f n F hT;exact⟨fn,h1,by rw[h3];rfl,h2⟩
 refine⟨h.names,?_,?_,?_,?_,?_⟩
 ·intro f F hF';rcases key f with ⟨-,e,-⟩|⟨rows,-,e,-⟩
  ·rw[e]at hF';exact h.f f F hF'
  ·rw[e]at hF';cases hF'
 ·intro f ds r own hF' hX;rcases key f with ⟨-,e,e2,-⟩|⟨rows,hm,-,e2,-⟩
  ·rw[e]at hF';rw[e2]at hX;exact h.x f ds r own hF' hX
  ·rw[e2]at hX;exact qyP h (hv _ hm _ (qww hX))
 ·intro f args H r H' hF' hR;rcases key f with ⟨-,e,-,e2⟩|⟨rows,hm,-,-,e2⟩
  ·rw[e]at hF';rw[e2]at hR;exact h.r f args H r H' hF' hR
  ·rw[e2]at hR;cases hR
 ·intro f args H r hF' hR;rcases key f with ⟨-,e,-,e2⟩|⟨rows,hm,-,-,e2⟩
  ·rw[e]at hF';rw[e2]at hR;exact h.rf f args H r hF' hR
  ·rw[e2]at hR;cases hR
 ·intro f ds r hF' hX;rcases key f with ⟨-,e,e2,-⟩|⟨rows,hm,-,e2,-⟩
  ·rw[e]at hF';rw[e2]at hX;exact h.xf f ds r hF' hX
  ·exact fn _ _ hm
end
end Go.Sim
