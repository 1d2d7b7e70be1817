/-
  works, a function without arguments, answers true in every world: by the small run. No condition.
-/
import Derived.Test.YtdgpjdadhicgoaaGreatDoorWide
import Derived.Test.YtdgpjdadhicgoaaGreatDoorEnv
set_option linter.unusedVariables false
set_option linter.unusedSimpArgs false
set_option maxRecDepth 100000
namespace Go.Proofs.YtdgpjdadhicgoaaGreatDoor.Wide
open Go.Proofs.Tryz
noncomputable def wKn : Go.Proofs.YtdgpjdadhicgoaaGreatDoorCx.T Go.Proofs.YtdgpjdadhicgoaaGreatDoorCx.Kn := (.node none (.node none .nil (.node none .nil (.node none .nil (.node none .nil (.node none .nil (.node none (.node (some Go.Proofs.YtdgpjdadhicgoaaGreatDoorCx.idKn) .nil .nil) .nil)))))) (.node none .nil (.node none .nil (.node none (.node none .nil (.node none (.node (some (Go.Proofs.YtdgpjdadhicgoaaGreatDoorCx.readKn .u32 .u64 Back.wideW)) .nil .nil) .nil)) .nil))))
theorem no_escape : Go.Proofs.YtdgpjdadhicgoaaGreatDoorCx.KnownOk prog Go.Proofs.YtdgpjdadhicgoaaGreatDoorCx.eEnv 189 Go.Proofs.YtdgpjdadhicgoaaGreatDoorCx.idKn := Go.Proofs.YtdgpjdadhicgoaaGreatDoorCx.idKn_ok (fn := f189) (by kernel_rfl) (by kernel_rfl) (by kernel_rfl) (by kernel_rfl) (by kernel_rfl)
theorem wKn_ok : Go.Proofs.YtdgpjdadhicgoaaGreatDoorCx.T.All (Go.Proofs.YtdgpjdadhicgoaaGreatDoorCx.KnownOk prog Go.Proofs.YtdgpjdadhicgoaaGreatDoorCx.eEnv) wKn := ⟨nofun, ⟨nofun, trivial, ⟨nofun, trivial, ⟨nofun, trivial, ⟨nofun, trivial, ⟨nofun, trivial, ⟨nofun, ⟨(fun _ h => (Option.some.inj h) ▸ no_escape), trivial, trivial⟩, trivial⟩⟩⟩⟩⟩⟩, ⟨nofun, trivial, ⟨nofun, trivial, ⟨nofun, ⟨nofun, trivial, ⟨nofun, ⟨(fun _ h => (Option.some.inj h) ▸ wide_known), trivial, trivial⟩, trivial⟩⟩, trivial⟩⟩⟩⟩
noncomputable def wCfg : Go.Proofs.YtdgpjdadhicgoaaGreatDoorCx.Cfg := ⟨Go.Proofs.YtdgpjdadhicgoaaGreatDoorCx.eEnv, wKn⟩
theorem works_run : Go.Proofs.YtdgpjdadhicgoaaGreatDoorCx.closedK wCfg (Go.Proofs.YtdgpjdadhicgoaaGreatDoorCx.dkK wCfg) 3000 8 ⟨.nil, 0⟩ = .ok := by kernel_rfl
theorem works_calls (w : World) : Calls prog 8 #[] w fun e w' => e = .returned (.bool true) ∧ RowKit.Below w.heap.size w w' :=
  Go.Proofs.YtdgpjdadhicgoaaGreatDoorCx.closed_calls (C := wCfg) Go.Proofs.YtdgpjdadhicgoaaGreatDoorCx.eEnv_ok (Go.Proofs.YtdgpjdadhicgoaaGreatDoorCx.knOk wKn_ok) rfl (x := Go.Proofs.YtdgpjdadhicgoaaGreatDoorCx.fi f8) (by kernel_rfl) (by kernel_rfl) works_run w
end Go.Proofs.YtdgpjdadhicgoaaGreatDoor.Wide
