-- By a program of this session (a changed copy of the kit's printer): functions of the seat as plain Lean functions, each with its proof over the machine.
import Derived.Test.YtaffkbemjbfajaaGreatDoorPNumMakesx0
import Derived.Test.YtaffkbemjbfajaaGreatDoorPNumMakesx1
import Derived.Test.YtaffkbemjbfajaaGreatDoorPNumMakesx2
import Derived.Test.YtaffkbemjbfajaaGreatDoorPNumMakesx3
import Derived.Test.YtaffkbemjbfajaaGreatDoorPNumMakesx4
import Derived.Test.YtaffkbemjbfajaaGreatDoorPNumMakesx5
import Derived.Test.YtaffkbemjbfajaaGreatDoorPNumMakesx6
import Derived.Test.YtaffkbemjbfajaaGreatDoorPNumMakesx7
import Derived.Test.YtaffkbemjbfajaaGreatDoorPNumMakesx8
import Derived.Test.YtaffkbemjbfajaaGreatDoorPNumMakesx9
import Derived.Test.YtaffkbemjbfajaaGreatDoorPNumMakesx10
import Derived.Test.YtaffkbemjbfajaaGreatDoorPNumMakesx11
import Derived.Test.YtaffkbemjbfajaaGreatDoorPNumMakesx12
import Derived.Test.YtaffkbemjbfajaaGreatDoorPNumMakesx13
namespace Go.Proofs.YtaffkbemjbfajaaGreatDoor.PNumMakes
open Go.RowKit Go.Proofs.YtaffkbemjbfajaaGreatDoorW.PrintWords Go.Proofs.YtaffkbemjbfajaaGreatDoorW.PrintLast Go.Proofs.YtaffkbemjbfajaaGreatDoorW.PrintMore
attribute [local go_sem] max2_int min2_int max_two min_two max_three min_three max_four min_four   -- for this text's walks alone
set_option linter.unusedVariables false
set_option linter.unusedSimpArgs false

end Go.Proofs.YtaffkbemjbfajaaGreatDoor.PNumMakes
