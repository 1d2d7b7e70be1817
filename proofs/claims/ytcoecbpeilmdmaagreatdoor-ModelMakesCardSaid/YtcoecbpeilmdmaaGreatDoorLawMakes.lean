/-
  ModelMakes, called with any four numbers, answers true and leaves the world as it was. No condition.
-/
import Derived.Test.YtcoecbpeilmdmaaGreatDoorQ10
import Derived.Test.YtcoecbpeilmdmaaGreatDoorWorks
set_option linter.unusedVariables false
namespace Go.Proofs.YtcoecbpeilmdmaaGreatDoor
open Go.Proofs.Tryz
theorem makes_calls (a b c d : Int) (w : World) : Calls prog 3 #[.int .i64 a, .int .i64 b, .int .i64 c, .int .i64 d] w fun e w' => e = .returned (.bool true) ∧ RowKit.Below w.heap.size w w' :=
  Wide.law_calls (f := 3) (x := Go.Proofs.YtcoecbpeilmdmaaGreatDoorCx.fi f3) (by kernel_rfl) (by kernel_rfl) (args := [.int .i64 a, .int .i64 b, .int .i64 c, .int .i64 d]) rfl
    (fun run G => Go.Proofs.YtcoecbpeilmdmaaGreatDoorCx.ModelMakes_does rfl G a b c d ⟨.nil, 0⟩) w
end Go.Proofs.YtcoecbpeilmdmaaGreatDoor
