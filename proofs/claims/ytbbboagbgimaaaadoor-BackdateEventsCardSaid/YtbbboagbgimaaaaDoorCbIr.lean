/- Short names for the resolved code's text. -/
import Derived.Test.YtbbboagbgimaaaaDoorCbSimA
namespace Go.Sim
@[reducible] def K0 : K := none
@[reducible] def K1 (n : Nat) : K := some n
@[reducible] def I (n : Int) : DV := .i .i64 n
@[reducible] def O (d : Nat) (x : IOp) : IOper := ⟨some d, x, none⟩
@[reducible] def E (x : IOp) : IOper := ⟨none, x, none⟩
@[reducible] def OG (d t : Nat) (w : Bool) (x : IOp) : IOper := ⟨some d, x, some (t, w)⟩
@[reducible] def EG (t : Nat) (w : Bool) (x : IOp) : IOper := ⟨none, x, some (t, w)⟩
@[reducible] def sq (a b : PC) : PC := .seq a b
end Go.Sim
