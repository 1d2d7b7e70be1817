-- By a program of this session (wip/shake.py): out of the words that print.sh lays, those that this claim uses.
import Derived.Test.YtaffkbemjbfajaaGreatDoorWTab
namespace Go.Proofs.YtaffkbemjbfajaaGreatDoorW.PrintLast
section
variable {P:Program} {ops:Array Oper} {Q:Exit→Act→World→Prop} {md:Region.Mode} {S:World→Prop} {ds:List Nat} {T:Bool×List (List Nat×List Nat)}
end
end Go.Proofs.YtaffkbemjbfajaaGreatDoorW.PrintLast
