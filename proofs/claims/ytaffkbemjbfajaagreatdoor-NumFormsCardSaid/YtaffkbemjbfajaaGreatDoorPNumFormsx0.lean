-- By a program of this session (a changed copy of the kit's printer): functions of the seat as plain Lean functions, each with its proof over the machine.
import Derived.Test.YtaffkbemjbfajaaGreatDoorProg
import Derived.Below
import Derived.Deep.Draws
import Derived.Deep.AppendLies
import Derived.Maps.AppendAt
import Derived.OwnWalk
import Derived.Laws.BytesArg
import Derived.Laws.MakeOwn
import Derived.Laws.OwnMore
import Derived.Deep.OwnRows
import Derived.Tactics
import Derived.Lib.ConvBytes
import Derived.Laws.Slices
import Derived.WalkKit
import Derived.KernelRfl
import Derived.RowKit3
import Derived.Deep.LoopGhost
import Derived.Deep.QuietTactic
import Derived.BigQuiet
import Derived.WideLaws
import Derived.Deep.DeepCutAuto
import Derived.Deep.CutBlock
import Derived.Deep.RegionHeld3
import Derived.Laws.Rows
import Derived.Lib.AppendStr
import Derived.ArgAppend
import Derived.Laws.IdiomCopy
import Derived.OrdersHeld
import Derived.Laws.BitsLemmas
import Derived.RowKit
import Derived.Test.YtaffkbemjbfajaaGreatDoorFmt
import Derived.Test.YtaffkbemjbfajaaGreatDoorSeg
import Derived.Test.YtaffkbemjbfajaaGreatDoorIns
import Derived.Test.YtaffkbemjbfajaaGreatDoorSq
import Derived.Lib.SliceRun
import Derived.Lib.AtoiErrMem
import Derived.RangeFuncNested
import Derived.RangeFuncBound
import Derived.RangeFuncCalls
import Derived.RangeFuncLeaves
import Derived.Shelf.Abstract
import Derived.Shelf.RegionOpen
import Derived.OwnWalkIn
import Derived.TacticsInMore
import Derived.LoopNIn
import Derived.LoopIn
import Derived.RangeFuncBox
import Derived.Test.YtaffkbemjbfajaaGreatDoorWWords
import Derived.Test.YtaffkbemjbfajaaGreatDoorWLast
import Derived.Test.YtaffkbemjbfajaaGreatDoorWTab
import Derived.Test.YtaffkbemjbfajaaGreatDoorWFour
import Derived.Test.YtaffkbemjbfajaaGreatDoorWQPut
import Derived.Test.YtaffkbemjbfajaaGreatDoorWApart
import Derived.Test.YtaffkbemjbfajaaGreatDoorWArr
import Derived.Test.YtaffkbemjbfajaaGreatDoorWZeros
import Derived.Test.YtaffkbemjbfajaaGreatDoorWFoot
import Derived.Test.YtaffkbemjbfajaaGreatDoorWKept
import Derived.Test.YtaffkbemjbfajaaGreatDoorWShare
import Derived.Test.YtaffkbemjbfajaaGreatDoorWN
import Derived.Test.YtaffkbemjbfajaaGreatDoorWFootNe
import Derived.Test.YtaffkbemjbfajaaGreatDoorWAt
import Derived.Test.YtaffkbemjbfajaaGreatDoorWEqStruct
import Derived.Test.YtaffkbemjbfajaaGreatDoorWRepsOne
import Derived.Test.YtaffkbemjbfajaaGreatDoorWInv
import Derived.Test.YtaffkbemjbfajaaGreatDoorWInvWords
import Derived.Test.YtaffkbemjbfajaaGreatDoorWGuard
import Derived.Test.YtaffkbemjbfajaaGreatDoorWNEv
import Derived.Test.YtaffkbemjbfajaaGreatDoorWMore
namespace Go.Proofs.YtaffkbemjbfajaaGreatDoor.PNumForms
open Go.RowKit Go.Proofs.YtaffkbemjbfajaaGreatDoorW.PrintWords Go.Proofs.YtaffkbemjbfajaaGreatDoorW.PrintLast Go.Proofs.YtaffkbemjbfajaaGreatDoorW.PrintMore
attribute [local go_sem] max2_int min2_int max_two min_two max_three min_three max_four min_four   -- for this text's walks alone
set_option linter.unusedVariables false
set_option linter.unusedSimpArgs false

def errW : Option Int → Value
 | none => .nilIface
 | some c => .iface 0 (.int .i64 c)
theorem errW_none : errW none = .nilIface := rfl
theorem errW_some (c : Int) : errW (some c) = .iface 0 (.int .i64 c) := rfl

theorem info3 : (Tryz.prog.info? 3).map (fun i => (i.zero, i.size, i.bytes)) = some (some (.int .i64 0), 1, 8) := by kernel_rfl
theorem info5 : (Tryz.prog.info? 5).map (fun i => (i.zero, i.size, i.bytes)) = some (some (.int .u8 0), 1, 1) := by kernel_rfl
theorem info97 : (Tryz.prog.info? 97).map (fun i => (i.zero, i.size, i.bytes)) = some (some (.int .u32 0), 1, 4) := by kernel_rfl
-- the values' own types
end Go.Proofs.YtaffkbemjbfajaaGreatDoor.PNumForms
