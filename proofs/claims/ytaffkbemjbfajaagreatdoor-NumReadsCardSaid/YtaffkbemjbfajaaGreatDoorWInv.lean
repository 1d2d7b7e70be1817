-- By a program of this session (wip/shake.py): out of the words that print.sh lays, those that this claim uses.
import Derived.Test.YtaffkbemjbfajaaGreatDoorWTab
namespace Go.Proofs.YtaffkbemjbfajaaGreatDoorW.PrintLast
def up (b:Nat→Bool) (i:Nat):Nat→Bool:=fun j=>if j=i then true else b j
section
variable {P:Program} {ops:Array Oper} {Q:Exit→Act→World→Prop} {md:Region.Mode} {T:Bool×List (List Nat×List Nat)} {B:List Nat} {O:List Nat} {b:Nat→Bool} {i j n:Nat}
end
end Go.Proofs.YtaffkbemjbfajaaGreatDoorW.PrintLast
