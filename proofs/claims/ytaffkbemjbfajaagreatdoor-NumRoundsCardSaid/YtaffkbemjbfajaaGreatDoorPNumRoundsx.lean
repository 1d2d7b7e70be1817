-- By a program of this session (a changed copy of the kit's printer): functions of the seat as plain Lean functions, each with its proof over the machine.
import Derived.Test.YtaffkbemjbfajaaGreatDoorPNumRoundsx0
import Derived.Test.YtaffkbemjbfajaaGreatDoorPNumRoundsx1
import Derived.Test.YtaffkbemjbfajaaGreatDoorPNumRoundsx2
import Derived.Test.YtaffkbemjbfajaaGreatDoorPNumRoundsx3
import Derived.Test.YtaffkbemjbfajaaGreatDoorPNumRoundsx4
import Derived.Test.YtaffkbemjbfajaaGreatDoorPNumRoundsx5
import Derived.Test.YtaffkbemjbfajaaGreatDoorPNumRoundsx6
import Derived.Test.YtaffkbemjbfajaaGreatDoorPNumRoundsx7
namespace Go.Proofs.YtaffkbemjbfajaaGreatDoor.PNumRounds
open Go.RowKit Go.Proofs.YtaffkbemjbfajaaGreatDoorW.PrintWords Go.Proofs.YtaffkbemjbfajaaGreatDoorW.PrintLast Go.Proofs.YtaffkbemjbfajaaGreatDoorW.PrintMore
attribute [local go_sem] max2_int min2_int max_two min_two max_three min_three max_four min_four   -- for this text's walks alone
set_option linter.unusedVariables false
set_option linter.unusedSimpArgs false

end Go.Proofs.YtaffkbemjbfajaaGreatDoor.PNumRounds
