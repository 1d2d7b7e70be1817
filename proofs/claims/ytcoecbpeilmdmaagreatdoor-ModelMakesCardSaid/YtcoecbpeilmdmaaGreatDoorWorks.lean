/-
  works, a function without arguments, answers true in every world, by the small run; and what a walk shows of a law is told of the machine. No condition.
-/
import Derived.Test.YtcoecbpeilmdmaaGreatDoorWide
import Derived.Test.YtcoecbpeilmdmaaGreatDoorEnv
import Derived.Test.YtcoecbpeilmdmaaGreatDoorCxd
set_option linter.unusedVariables false
set_option linter.unusedSimpArgs false
set_option maxRecDepth 100000
namespace Go.Proofs.YtcoecbpeilmdmaaGreatDoor.Wide
open Go.Proofs.Tryz
noncomputable def wKn : Go.Proofs.YtcoecbpeilmdmaaGreatDoorCx.T Go.Proofs.YtcoecbpeilmdmaaGreatDoorCx.Kn := (.node none (.node none (.node none (.node none (.node none .nil (.node none .nil (.node (some (Go.Proofs.YtcoecbpeilmdmaaGreatDoorCx.readKn .u32 .u64 Back.wideW)) .nil .nil))) .nil) .nil) (.node none .nil (.node none .nil (.node none (.node none (.node none .nil (.node (some Go.Proofs.YtcoecbpeilmdmaaGreatDoorCx.idKn) .nil .nil)) .nil) .nil)))) .nil)
theorem no_escape : Go.Proofs.YtcoecbpeilmdmaaGreatDoorCx.KnownOk prog Go.Proofs.YtcoecbpeilmdmaaGreatDoorCx.eEnv 205 Go.Proofs.YtcoecbpeilmdmaaGreatDoorCx.idKn := Go.Proofs.YtcoecbpeilmdmaaGreatDoorCx.idKn_ok (fn := f205) (by kernel_rfl) (by kernel_rfl) (by kernel_rfl) (by kernel_rfl) (by kernel_rfl)
theorem wKn_ok : Go.Proofs.YtcoecbpeilmdmaaGreatDoorCx.T.All (Go.Proofs.YtcoecbpeilmdmaaGreatDoorCx.KnownOk prog Go.Proofs.YtcoecbpeilmdmaaGreatDoorCx.eEnv) wKn := ⟨nofun, ⟨nofun, ⟨nofun, ⟨nofun, ⟨nofun, trivial, ⟨nofun, trivial, ⟨(fun _ h => (Option.some.inj h) ▸ wide_known), trivial, trivial⟩⟩⟩, trivial⟩, trivial⟩, ⟨nofun, trivial, ⟨nofun, trivial, ⟨nofun, ⟨nofun, ⟨nofun, trivial, ⟨(fun _ h => (Option.some.inj h) ▸ no_escape), trivial, trivial⟩⟩, trivial⟩, trivial⟩⟩⟩⟩, trivial⟩
noncomputable def wCfg : Go.Proofs.YtcoecbpeilmdmaaGreatDoorCx.Cfg := ⟨Go.Proofs.YtcoecbpeilmdmaaGreatDoorCx.eEnv, wKn⟩
theorem works_run : Go.Proofs.YtcoecbpeilmdmaaGreatDoorCx.closedK wCfg (Go.Proofs.YtcoecbpeilmdmaaGreatDoorCx.dkK wCfg) 3000 8 ⟨.nil, 0⟩ = .ok := by kernel_rfl
theorem works_calls (w : World) : Calls prog 8 #[] w fun e w' => e = .returned (.bool true) ∧ RowKit.Below w.heap.size w w' :=
  Go.Proofs.YtcoecbpeilmdmaaGreatDoorCx.closed_calls (C := wCfg) Go.Proofs.YtcoecbpeilmdmaaGreatDoorCx.eEnv_ok (Go.Proofs.YtcoecbpeilmdmaaGreatDoorCx.knOk wKn_ok) rfl (x := Go.Proofs.YtcoecbpeilmdmaaGreatDoorCx.fi f8) (by kernel_rfl) (by kernel_rfl) works_run w
theorem eKn_ok : Go.Proofs.YtcoecbpeilmdmaaGreatDoorCx.T.All (Go.Proofs.YtcoecbpeilmdmaaGreatDoorCx.KnownOk prog Go.Proofs.YtcoecbpeilmdmaaGreatDoorCx.eEnv) Go.Proofs.YtcoecbpeilmdmaaGreatDoorCx.eKn := ⟨nofun, trivial, ⟨nofun, ⟨nofun, ⟨(fun _ h => (Option.some.inj h) ▸ (Go.Proofs.YtcoecbpeilmdmaaGreatDoorCx.trueKn_ok (fun args w => Go.Proofs.YtcoecbpeilmdmaaGreatDoorCx.callFunc_body Tryz.func8 rfl rfl args w) works_calls)), trivial, trivial⟩, trivial⟩, trivial⟩⟩
theorem law_calls {f : Nat} {x : Go.Proofs.YtcoecbpeilmdmaaGreatDoorCx.FI} (hf : Go.Proofs.YtcoecbpeilmdmaaGreatDoorCx.eEnv.fn.get f = some x) (hk : Go.Proofs.YtcoecbpeilmdmaaGreatDoorCx.eKn.get f = none) {args : List Value} (ha : Go.Proofs.YtcoecbpeilmdmaaGreatDoorCx.flats args = true)
    (d : ∀ run, Go.Proofs.YtcoecbpeilmdmaaGreatDoorCx.Good ⟨Go.Proofs.YtcoecbpeilmdmaaGreatDoorCx.eEnv, Go.Proofs.YtcoecbpeilmdmaaGreatDoorCx.eKn⟩ run → Go.Proofs.YtcoecbpeilmdmaaGreatDoorCx.Does ⟨Go.Proofs.YtcoecbpeilmdmaaGreatDoorCx.eEnv, Go.Proofs.YtcoecbpeilmdmaaGreatDoorCx.eKn⟩ run f args ⟨.nil, 0⟩ fun v _ => v = .bool true) (w : World) : Calls prog f args.toArray w fun e w' => e = .returned (.bool true) ∧ RowKit.Below w.heap.size w w' :=
  Go.Proofs.YtcoecbpeilmdmaaGreatDoorCx.open_calls (C := ⟨Go.Proofs.YtcoecbpeilmdmaaGreatDoorCx.eEnv, Go.Proofs.YtcoecbpeilmdmaaGreatDoorCx.eKn⟩) Go.Proofs.YtcoecbpeilmdmaaGreatDoorCx.eEnv_ok (Go.Proofs.YtcoecbpeilmdmaaGreatDoorCx.knOk eKn_ok) rfl hf hk ha (d _ (Go.Proofs.YtcoecbpeilmdmaaGreatDoorCx.ideal_good Go.Proofs.YtcoecbpeilmdmaaGreatDoorCx.eEnv_ok (Go.Proofs.YtcoecbpeilmdmaaGreatDoorCx.knOk eKn_ok))) w
end Go.Proofs.YtcoecbpeilmdmaaGreatDoor.Wide
