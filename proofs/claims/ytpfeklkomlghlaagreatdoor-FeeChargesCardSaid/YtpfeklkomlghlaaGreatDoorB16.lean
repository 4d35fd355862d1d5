/- Part 16 of the proof. -/
import Derived.Test.YtpfeklkomlghlaaGreatDoorB7
import Derived.Test.YtpfeklkomlghlaaGreatDoorB15
set_option linter.all false
namespace Go.Sim
set_option maxRecDepth 100000
set_option maxHeartbeats 8000000
section
open Go.RowKit
abbrev Rows:=CL (Cy×PV×CO)
def qjm{α β:Type}(f:α->β)(z:β)(n:Nat):∀(l:CL (Nat×α)),qb0 f z l n=match qb0 some none l n with|none=>z|some x=>f x
 |[]=>rfl
 | (m,x)::r=>by
  have ih:=qjm f z n r;change (@Bool.rec (λ_=>β) (qb0 f z r n) (f x) (Nat.beq n m))=match (@Bool.rec (λ_=>CK α) (qb0 some none r n) (some x) (Nat.beq n m))with|none=>z|some x=>f x
  cases Nat.beq n m with
  |true=>rfl
  |false=>exact ih
noncomputable def qkY(rows:Rows)(ds:Cy):CG:=
 @List.rec (Cy×PV×CO) (λ_=>CG) none (λp _ ih=>@Bool.rec (λ_=>CG) ih (some p.2) (DV.Bw p.1 ds)) rows
def qAn{ds:Cy}{r:PV×CO}:∀{rows:Rows},qkY rows ds=some r->(ds,r)∈rows
 |[],h=>by cases h
 |p::rows,h=>by
  change (@Bool.rec (λ_=>CG) (qkY rows ds) (some p.2) (DV.Bw p.1 ds))=some r at h;cases hb:DV.Bw p.1 ds with
  |true=>rw[hb]at h;have h:some p.2=some r:=h;cases h;rw[<-qi4 _ _ hb];exact zzr ..
  |false=>rw[hb]at h;exact zzi _ (qAn h)
noncomputable def qg1(T:Tab)(ms:CL (Nat×Rows)):Tab where
 F:=λn=>qb0 (λ_=>none) (T.F n) ms n
 X:=λn ds=>qb0 (λrows=>qkY rows ds) (T.X n ds) ms n
 R:=λn=>qb0 (λ_ _ _=>none) (T.R n) ms n
 G:=T.G
def qAo{P:CV}{N:Names}{C:Cx}{T:Tab}{ms:CL (Nat×Rows)}(h:TabOK P N C T)(hv:∀x∈ms,∀y∈x.2,T.val x.1 y.1=some y.2)(hF:∀x∈ms,(T.F x.1).isSome=true):TabOK P N C (qg1 T ms):=by
 have key:∀n,(qb0 some none ms n=none/\(qg1 T ms).F n=T.F n/\(qg1 T ms).X n=T.X n/\(qg1 T ms).R n=T.R n)\/∃rows,(n,rows)∈ms/\(qg1 T ms).F n=none/\(qg1 T ms).X n=qkY rows/\(qg1 T ms).R n=λ_ _=>none:=by
  intro n;cases hl:qb0 some none ms n with
  |none=>
   refine .inl ⟨rfl,?_,?_,?_⟩
   ·exact (qjm (λ_=>none) (T.F n) n ms).trans (by rw[hl])
   ·funext ds;exact (qjm (λrows=>qkY rows ds) (T.X n ds) n ms).trans (by rw[hl])
   ·exact (qjm (λ_ _ _=>none) (T.R n) n ms).trans (by rw[hl])
  |some rows=>
   refine .inr ⟨rows,?_,?_,?_,?_⟩
   ·rcases qh8 (f:=some) (z:=none) (l:=ms) (n:=n)with h1|⟨x,h1,h2⟩
    ·rw[h1]at hl;cases hl
    ·rw[h2]at hl;cases hl;exact h1
   ·exact (qjm (λ_=>none) (T.F n) n ms).trans (by rw[hl])
   ·funext ds;exact (qjm (λrows=>qkY rows ds) (T.X n ds) n ms).trans (by rw[hl])
   ·exact (qjm (λ_ _ _=>none) (T.R n) n ms).trans (by rw[hl])
 have fn:∀n rows,(n,rows)∈ms->∃fn,P.funcs[C.μ n]? = some fn/\fn.body.isNone=false/\fn.name ≠ "runtime.NumGoroutine" :=by
  intro n rows hm;have:=hF _ hm;cases hT:T.F n with
  |none=>simp only at this;rw[hT]at this;cases this
  |some F=>obtain⟨fn,c,h1,h2,h3,-⟩:=h.f n F hT;exact⟨fn,h1,by rw[h3];rfl,h2⟩
 refine⟨h.names,?_,?_,?_,?_,?_⟩
 ·intro f F hF';rcases key f with ⟨-,e,-⟩|⟨rows,-,e,-⟩
  ·rw[e]at hF';exact h.f f F hF'
  ·rw[e]at hF';cases hF'
 ·intro f ds r own hF' hX;rcases key f with ⟨-,e,e2,-⟩|⟨rows,hm,-,e2,-⟩
  ·rw[e]at hF';rw[e2]at hX;exact h.x f ds r own hF' hX
  ·rw[e2]at hX;exact qC7 h (hv _ hm _ (qAn hX))
 ·intro f args H r H' hF' hR;rcases key f with ⟨-,e,-,e2⟩|⟨rows,hm,-,-,e2⟩
  ·rw[e]at hF';rw[e2]at hR;exact h.r f args H r H' hF' hR
  ·rw[e2]at hR;cases hR
 ·intro f args H r hF' hR;rcases key f with ⟨-,e,-,e2⟩|⟨rows,hm,-,-,e2⟩
  ·rw[e]at hF';rw[e2]at hR;exact h.rf f args H r hF' hR
  ·rw[e2]at hR;cases hR
 ·intro f ds r hF' hX;rcases key f with ⟨-,e,e2,-⟩|⟨rows,hm,-,e2,-⟩
  ·rw[e]at hF';rw[e2]at hX;exact h.xf f ds r hF' hX
  ·exact fn _ _ hm
