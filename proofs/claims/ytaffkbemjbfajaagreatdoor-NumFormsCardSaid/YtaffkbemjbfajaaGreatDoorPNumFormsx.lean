-- By a program of this session (a changed copy of the kit's printer): functions of the seat as plain Lean functions, each with its proof over the machine.
import Derived.Test.YtaffkbemjbfajaaGreatDoorPNumFormsx0
import Derived.Test.YtaffkbemjbfajaaGreatDoorPNumFormsx1
import Derived.Test.YtaffkbemjbfajaaGreatDoorPNumFormsx2
import Derived.Test.YtaffkbemjbfajaaGreatDoorPNumFormsx3
import Derived.Test.YtaffkbemjbfajaaGreatDoorPNumFormsx4
import Derived.Test.YtaffkbemjbfajaaGreatDoorPNumFormsx5
import Derived.Test.YtaffkbemjbfajaaGreatDoorPNumFormsx6
import Derived.Test.YtaffkbemjbfajaaGreatDoorPNumFormsx7
import Derived.Test.YtaffkbemjbfajaaGreatDoorPNumFormsx8
import Derived.Test.YtaffkbemjbfajaaGreatDoorPNumFormsx9
import Derived.Test.YtaffkbemjbfajaaGreatDoorPNumFormsx10
import Derived.Test.YtaffkbemjbfajaaGreatDoorPNumFormsx11
import Derived.Test.YtaffkbemjbfajaaGreatDoorPNumFormsx12
import Derived.Test.YtaffkbemjbfajaaGreatDoorPNumFormsx13
import Derived.Test.YtaffkbemjbfajaaGreatDoorPNumFormsx14
import Derived.Test.YtaffkbemjbfajaaGreatDoorPNumFormsx15
namespace Go.Proofs.YtaffkbemjbfajaaGreatDoor.PNumForms
open Go.RowKit Go.Proofs.YtaffkbemjbfajaaGreatDoorW.PrintWords Go.Proofs.YtaffkbemjbfajaaGreatDoorW.PrintLast Go.Proofs.YtaffkbemjbfajaaGreatDoorW.PrintMore
attribute [local go_sem] max2_int min2_int max_two min_two max_three min_three max_four min_four   -- for this text's walks alone
set_option linter.unusedVariables false
set_option linter.unusedSimpArgs false

end Go.Proofs.YtaffkbemjbfajaaGreatDoor.PNumForms
