-- By a program of this session (a changed copy of the kit's printer): functions of the seat as plain Lean functions, each with its proof over the machine.
import Derived.Test.YtaffkbemjbfajaaGreatDoorPNumPermutesx0
import Derived.Test.YtaffkbemjbfajaaGreatDoorPNumPermutesx1
import Derived.Test.YtaffkbemjbfajaaGreatDoorPNumPermutesx2
import Derived.Test.YtaffkbemjbfajaaGreatDoorPNumPermutesx3
import Derived.Test.YtaffkbemjbfajaaGreatDoorPNumPermutesx4
import Derived.Test.YtaffkbemjbfajaaGreatDoorPNumPermutesx5
import Derived.Test.YtaffkbemjbfajaaGreatDoorPNumPermutesx6
import Derived.Test.YtaffkbemjbfajaaGreatDoorPNumPermutesx7
import Derived.Test.YtaffkbemjbfajaaGreatDoorPNumPermutesx8
import Derived.Test.YtaffkbemjbfajaaGreatDoorPNumPermutesx9
namespace Go.Proofs.YtaffkbemjbfajaaGreatDoor.PNumPermutes
open Go.RowKit Go.Proofs.YtaffkbemjbfajaaGreatDoorW.PrintWords Go.Proofs.YtaffkbemjbfajaaGreatDoorW.PrintLast Go.Proofs.YtaffkbemjbfajaaGreatDoorW.PrintMore
attribute [local go_sem] max2_int min2_int max_two min_two max_three min_three max_four min_four   -- for this text's walks alone
set_option linter.unusedVariables false
set_option linter.unusedSimpArgs false

end Go.Proofs.YtaffkbemjbfajaaGreatDoor.PNumPermutes
