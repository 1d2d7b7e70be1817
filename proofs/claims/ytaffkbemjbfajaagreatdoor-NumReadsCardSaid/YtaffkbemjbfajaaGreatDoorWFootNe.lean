-- By a program of this session (wip/shake.py): out of the words that print.sh lays, those that this claim uses.
import Derived.Test.YtaffkbemjbfajaaGreatDoorWN
namespace Go.Proofs.YtaffkbemjbfajaaGreatDoorW.PrintWords
open Go.RowKit
namespace Kd
section
variable {α:Type} {d:Kd α} {W:World} {g n:Nat} {S ok:Nat→Prop} {A:Option Addr} {ad:Addr} {xs:List α}
end
end Kd
end Go.Proofs.YtaffkbemjbfajaaGreatDoorW.PrintWords
