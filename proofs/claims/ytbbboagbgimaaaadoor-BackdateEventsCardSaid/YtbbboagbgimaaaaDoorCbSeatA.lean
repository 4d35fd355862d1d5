/- The seat of BackdateEvents: its code is the resolved code. -/
import Derived.Test.YtbbboagbgimaaaaDoorCbBack
import Derived.Test.YtbbboagbgimaaaaDoorProg
open Go Go.Sim Go.RowKit
namespace Go.Proofs.YtbbboagbgimaaaaDoor
def namesL : List (Nat × Nat × Nat) := [(2, 0, 0), (3, 1, 0), (4, 2, 0), (5, 3, 0), (6, 4, 0), (7, 5, 0), (8, 6, 0), (9, 7, 0), (10, 8, 2), (11, 9, 0), (12, 10, 0), (13, 11, 0), (14, 12, 2), (15, 13, 2), (16, 14, 0), (17, 15, 1), (18, 16, 2), (19, 17, 2), (20, 18, 2), (21, 19, 2), (22, 20, 2), (23, 21, 0), (24, 22, 0), (25, 23, 2), (26, 24, 2), (27, 25, 0), (28, 26, 0), (29, 27, 0), (30, 28, 0), (31, 29, 2), (32, 30, 2), (33, 31, 0), (34, 32, 0), (35, 33, 0), (36, 34, 0), (37, 35, 0), (38, 36, 0), (39, 37, 0), (40, 38, 2), (41, 39, 2), (42, 40, 0), (43, 41, 2), (45, 42, 0), (46, 43, 0), (47, 44, 0), (48, 45, 0), (49, 46, 0), (50, 47, 0), (51, 48, 0), (52, 49, 0), (53, 50, 0), (54, 51, 2), (55, 52, 0), (56, 53, 0), (57, 54, 0), (59, 55, 0), (60, 56, 0), (61, 57, 0), (62, 58, 0), (63, 59, 2), (64, 60, 1), (65, 61, 0), (66, 62, 0), (67, 63, 0), (68, 64, 0), (69, 65, 0), (70, 66, 0), (71, 67, 0), (72, 68, 0), (73, 69, 2), (74, 70, 0), (75, 71, 0), (76, 72, 0), (77, 73, 0), (78, 74, 0), (99, 75, 0)]
def nm : Names := { f := nameOf namesL, g := fun g => g }
def cx : Cx := ⟨muOf namesL⟩
set_option maxRecDepth 100000
theorem fok : ∀ x ∈ tabA, FnOK Tryd.prog nm (cx.μ x.1) x.2 := by
  simp only [tabA, List.forall_mem_cons, List.not_mem_nil, false_imp_iff, implies_true, and_true]
  refine ⟨?_, ?_, ?_, ?_, ?_, ?_, ?_, ?_, ?_, ?_, ?_, ?_, ?_, ?_, ?_⟩
  · exact ⟨Tryd.f3, _, Tryd.func3, by decide, rfl, by kernel_rfl, by kernel_rfl, by kernel_rfl⟩
  · exact ⟨Tryd.f4, _, Tryd.func4, by decide, rfl, by kernel_rfl, by kernel_rfl, by kernel_rfl⟩
  · exact ⟨Tryd.f5, _, Tryd.func5, by decide, rfl, by kernel_rfl, by kernel_rfl, by kernel_rfl⟩
  · exact ⟨Tryd.f6, _, Tryd.func6, by decide, rfl, by kernel_rfl, by kernel_rfl, by kernel_rfl⟩
  · exact ⟨Tryd.f7, _, Tryd.func7, by decide, rfl, by kernel_rfl, by kernel_rfl, by kernel_rfl⟩
  · exact ⟨Tryd.f8, _, Tryd.func8, by decide, rfl, by kernel_rfl, by kernel_rfl, by kernel_rfl⟩
  · exact ⟨Tryd.f9, _, Tryd.func9, by decide, rfl, by kernel_rfl, by kernel_rfl, by kernel_rfl⟩
  · exact ⟨Tryd.f10, _, Tryd.func10, by decide, rfl, by kernel_rfl, by kernel_rfl, by kernel_rfl⟩
  · exact ⟨Tryd.f11, _, Tryd.func11, by decide, rfl, by kernel_rfl, by kernel_rfl, by kernel_rfl⟩
  · exact ⟨Tryd.f12, _, Tryd.func12, by decide, rfl, by kernel_rfl, by kernel_rfl, by kernel_rfl⟩
  · exact ⟨Tryd.f13, _, Tryd.func13, by decide, rfl, by kernel_rfl, by kernel_rfl, by kernel_rfl⟩
  · exact ⟨Tryd.f14, _, Tryd.func14, by decide, rfl, by kernel_rfl, by kernel_rfl, by kernel_rfl⟩
  · exact ⟨Tryd.f16, _, Tryd.func16, by decide, rfl, by kernel_rfl, by kernel_rfl, by kernel_rfl⟩
  · exact ⟨Tryd.f18, _, Tryd.func18, by decide, rfl, by kernel_rfl, by kernel_rfl, by kernel_rfl⟩
  · exact ⟨Tryd.f20, _, Tryd.func20, by decide, rfl, by kernel_rfl, by kernel_rfl, by kernel_rfl⟩
theorem cok : CloneOK Tryd.prog nm (cx.μ 15) (K1 3) 32 := by
  refine ⟨Tryd.f17, 26, _, _, .a [(I 0), (I 0), (.s [])], K1 3, _, _, _, _, _, _, _, _, _, Tryd.func17, rfl, Tryd.underlying26, rfl, rfl, ?_, rfl, rfl, rfl, rfl, rfl, rfl, ?_, ?_⟩
  · kernel_rfl
  · kernel_rfl
  · kernel_rfl
theorem tok : TabOK Tryd.prog nm cx T1 := by
  refine ⟨nok_of (by kernel_rfl) (by kernel_rfl), ?_, ?_⟩
  · intro f F h
    exact fok _ (tabOf_mem h)
  · intro f ds r own _ h
    change (if f = 15 then cloneX (K1 3) 32 ds else none) = _ at h
    split at h
    · rename_i hf; subst hf
      exact clone_calls (nok_of (by kernel_rfl) (by kernel_rfl)) cok h
    · cases h
end Go.Proofs.YtbbboagbgimaaaaDoor
