/- The table of what BackdateEvents reaches. -/
import Derived.Test.YtbbboagbgimaaaaDoorCbIrA
import Derived.Test.YtbbboagbgimaaaaDoorCbTabs
open Go.RowKit
namespace Go.Sim
def tabA : List (Nat × PF) := [(1, F1), (2, F2), (3, F3), (4, F4), (5, F5), (6, F6), (7, F7), (8, F8), (9, F9), (10, F10), (11, F11), (12, F12), (14, F14), (16, F16), (18, F18)]
def T1 : Tab := { F := tabOf tabA, X := fun n ds => if n = 15 then cloneX (K1 3) 32 ds else none, G := fun _ => none }
end Go.Sim
