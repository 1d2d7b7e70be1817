-- By a program of this session (a changed copy of the kit's printer): functions of the seat as plain Lean functions, each with its proof over the machine.
import Derived.Test.YtaffkbemjbfajaaGreatDoorPNumPointsx0
import Derived.Test.YtaffkbemjbfajaaGreatDoorPNumPointsx1
import Derived.Test.YtaffkbemjbfajaaGreatDoorPNumPointsx2
import Derived.Test.YtaffkbemjbfajaaGreatDoorPNumPointsx3
import Derived.Test.YtaffkbemjbfajaaGreatDoorPNumPointsx4
import Derived.Test.YtaffkbemjbfajaaGreatDoorPNumPointsx5
import Derived.Test.YtaffkbemjbfajaaGreatDoorPNumPointsx6
import Derived.Test.YtaffkbemjbfajaaGreatDoorPNumPointsx7
import Derived.Test.YtaffkbemjbfajaaGreatDoorPNumPointsx8
namespace Go.Proofs.YtaffkbemjbfajaaGreatDoor.PNumPoints
open Go.RowKit Go.Proofs.YtaffkbemjbfajaaGreatDoorW.PrintWords Go.Proofs.YtaffkbemjbfajaaGreatDoorW.PrintLast Go.Proofs.YtaffkbemjbfajaaGreatDoorW.PrintMore
attribute [local go_sem] max2_int min2_int max_two min_two max_three min_three max_four min_four   -- for this text's walks alone
set_option linter.unusedVariables false
set_option linter.unusedSimpArgs false

end Go.Proofs.YtaffkbemjbfajaaGreatDoor.PNumPoints
