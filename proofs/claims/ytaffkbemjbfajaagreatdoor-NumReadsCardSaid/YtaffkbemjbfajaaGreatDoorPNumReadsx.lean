-- By a program of this session: functions as plain Lean functions, each with its proof over the machine.
import Derived.Test.YtaffkbemjbfajaaGreatDoorPNumReadsx0
import Derived.Test.YtaffkbemjbfajaaGreatDoorPNumReadsx1
import Derived.Test.YtaffkbemjbfajaaGreatDoorPNumReadsx2
import Derived.Test.YtaffkbemjbfajaaGreatDoorPNumReadsx3
import Derived.Test.YtaffkbemjbfajaaGreatDoorPNumReadsx4
namespace Go.Proofs.YtaffkbemjbfajaaGreatDoor.PNumReads
open Go.RowKit Go.Proofs.Tryz Go.Proofs.YtaffkbemjbfajaaGreatDoorW.PrintWords Go.Proofs.YtaffkbemjbfajaaGreatDoorW.PrintLast Go.Proofs.YtaffkbemjbfajaaGreatDoorW.PrintMore
attribute [local go_sem] max2_int min2_int max_two min_two max_three min_three max_four min_four
set_option linter.unusedVariables false
set_option linter.unusedSimpArgs false
end Go.Proofs.YtaffkbemjbfajaaGreatDoor.PNumReads
