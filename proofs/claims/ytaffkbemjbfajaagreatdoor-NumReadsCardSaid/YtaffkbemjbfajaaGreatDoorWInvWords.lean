-- By a program of this session (wip/shake.py): out of the words that print.sh lays, those that this claim uses.
import Derived.Test.YtaffkbemjbfajaaGreatDoorWInv
import Derived.Test.YtaffkbemjbfajaaGreatDoorWFootNe
namespace Go.Proofs.YtaffkbemjbfajaaGreatDoorW.PrintWords
open Go.RowKit
end Go.Proofs.YtaffkbemjbfajaaGreatDoorW.PrintWords
namespace Go.Proofs.YtaffkbemjbfajaaGreatDoorW.PrintLast
section
variable {ops:Array Oper} {a:Act} {o og:Oper} {g:Nat} {t:Tmp} {u:Bool}
end
end Go.Proofs.YtaffkbemjbfajaaGreatDoorW.PrintLast
