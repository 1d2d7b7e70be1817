/-
 Plain laws on whole numbers (no program in sight) that the pure statements use. No condition.
-/
import Derived.WalkArith
import Derived.RowKit
import Derived.Laws.Closers25b
import Derived.Test.YtaffkbemjbfajaaGreatDoorWMore
namespace Go.Proofs.YtaffkbemjbfajaaGreatDoor.Num
open Go Go.RowKit Go.Proofs.YtaffkbemjbfajaaGreatDoorW.PrintWords Go.Proofs.YtaffkbemjbfajaaGreatDoorW.PrintLast
theorem w64 {n:Int} (h0:-9223372036854775808≤n) (h1:n≤9223372036854775807):wrap64 n=n:=by unfold wrap64;omega
theorem u64w (n:Int):IntKind.u64.wrap n=n%18446744073709551616:=by
 simp [IntKind.wrap,IntKind.bits,IntKind.signed]
theorem mx_eq (a b:Int):mx a b=max a b:=by unfold mx;omega
theorem mn_eq (a b:Int):mn a b=min a b:=by unfold mn;omega
theorem tdiv_range (a b:Int) (_h:0<b):-(a.natAbs:Int)≤a.tdiv b∧a.tdiv b≤a.natAbs:=by
 have h1:=Int.natAbs_tdiv a b
 have h2:(a.tdiv b).natAbs≤a.natAbs:=by rw [h1];exact Nat.div_le_self _ _
 omega
end Go.Proofs.YtaffkbemjbfajaaGreatDoor.Num
