/-
 weftworks/weftlaw1.NumMakes: for every input the call returns true and leaves its arguments as they were: the row and its tied card. Conditions: those of the given row alone (the listed package-level variables read as listed; tied to the program's text by the card).
-/
import Derived.Test.YtaffkbemjbfajaaGreatDoorRows
import Derived.Test.YtaffkbemjbfajaaGreatDoorTie
import Derived.Test.YtaffkbemjbfajaaGreatDoorFactNumMakes
import Derived.Test.YtaffkbemjbfajaaGreatDoorCards
import Derived.LaidMore
import Derived.Test.YtaffkbemjbfajaaGreatDoorLaid
import Derived.Lay
import Derived.SevenTiedAt
import Derived.Stop.Joined
import Derived.Test.YtaffkbemjbfajaaGreatDoorPNumMakesx13
import Derived.Test.YtaffkbemjbfajaaGreatDoorPureNumMakes
import Derived.WalkKit
import Derived.ProofKit
import Derived.OpenShut
import Derived.ShutString
import Derived.ChangeOld
import Derived.Below
import Derived.SizedLaws
namespace Go.Proofs.YtaffkbemjbfajaaGreatDoor.numMakes
open Go Go.ChangeShapes Go.WideShapes Go.ChangeAt Go.RowKit
open Go.ChangeMaps (open_string shut_string)
set_option linter.unusedVariables false
theorem own : ownKnob Tryz.prog.godebug = none := by kernel_rfl
set_option maxRecDepth 100000 in
theorem lifted (os : Os) (started : os.Started) (H : Type) (enc : TypeId × Value → H) :
  ReturnsInHanded {} Tryz.checked os 12 .any (fun w args => (Rows.numMakesSpec.pre enc Tryz.prog Tryz.f12 Rows.numMakesRow.domain false w args ∧ laidMetH Tryz.prog Rows.numMakesRow.laid w) ∧ sizedMet enc Tryz.prog Tryz.f12 (OpenSpec.ofChange Rows.numMakesSpec) false w args) (Rows.numMakesSpec.post enc Tryz.prog Tryz.f12 false true false false) := by
 refine returnsInHanded_of_change_and (C := Tryz.checked) (X := fun w _ => laidMetH Tryz.prog Rows.numMakesRow.laid w) (fun _ _ _ hh h => h.of_heap hh) own started (by kernel_rfl) Tryz.func12
  (ChangeSpec.witness_shaped (enc := enc) (C := Tryz.checked) (os := os) (X := fun w _ => laidMetH Tryz.prog Rows.numMakesRow.laid w) false (World.laidAll Tryz.prog os Rows.numMakesRow.laid) #[.int .i64 0, .int .i64 0] 8 (World.laidAll_os _ _ _)
   (World.shaped_of_ZipB (by kernel_rfl) (by kernel_rfl)) (by kernel_rfl) (by kernel_rfl) (by kernel_rfl)
   (by rw [MakeChecks.laidMetH_plain _ _ _ (by kernel_rfl)]; exact laidMet_laidAll _ (by kernel_rfl) (by kernel_rfl))) ?_
 intro W base args ds gs before hval0 hW hcnd hsz0 hL _
 have hsz : (DataW.weightsEach Tryz.prog (Tryz.f12.params.toList ++ Rows.numMakesSpec.plain.varTypes Tryz.prog) (ds ++ gs)).all (· ≤ reachBytes) = true := hsz0
 have hval : ∀ (j : Nat) t v, Tryz.f12.params[j]? = some t → args[j]? = some v → Value.okWide Tryz.prog W .any base t v := hval0
 have hW' := hW
 obtain ⟨p, q, hA0, hV, rfl, hfz, hnd⟩ := hW
 have hA : DataW.TrodAll enc Tryz.prog W 0 (fun _ => true) true Tryz.f12.params.toList args.toList ds p := hA0
 rw [Tryz.params12] at hA hval hsz
 obtain ⟨v0, vs0, d0, ds0, p0, q0, hargs, rfl, rfl, h0, r0⟩ := trodAll_cons hA
 obtain ⟨v1, vs1, d1, ds1, p1, q1, rfl, rfl, rfl, h1, r1⟩ := trodAll_cons r0
 obtain ⟨rfl, rfl, rfl⟩ := trodAll_nil r1
 obtain rfl : args = #[v0, v1] := by cases args; simp_all
 obtain ⟨rfl, rfl⟩ := trodVars_none hV
 obtain ⟨a0, rfl, rfl, rfl, w0⟩ := open_int Tryz.underlying3 (hval 0 3 v0 rfl rfl) h0
 obtain ⟨a1, rfl, rfl, rfl, w1⟩ := open_int Tryz.underlying3 (hval 1 3 v1 rfl rfl) h1
 clear hA0 hval0 hsz0 hsz
 refine (PNumMakes.weftlaw1_NumMakes.walk Pure.NumMakes a0 a1 W w0 w1 (gl_of_laid hL)).mono fun e W' ⟨he, bel⟩ => ?_
 subst he
 exact ⟨_, rfl, _, _, _, [], _, [], hW', trodAll_mk1 (shut_bool Tryz.underlying4 _), (trodAll_cons_mk (shut_int Tryz.underlying3 w0) (trodAll_cons_mk (shut_int Tryz.underlying3 w1) trodAll_mk0)), rfl, bel.frame _, fun h => by cases h⟩
theorem over : Rows.numMakesRow.holds Tryz.pinned (OpenSpec.ofChange Rows.numMakesSpec) :=
 OpenClaim.holds_of_wide 12 Tryz.f12 rfl rfl rfl rfl rfl rfl rfl ⟨rfl, rfl, rfl, rfl, rfl⟩ rfl rfl rfl rfl rfl f_named Tryz.func12 f_closed f_inst f_wrap
  (fun os started H enc _ => lifted os started H enc)
theorem proved : Rows.NumMakesSaid := over
set_option maxRecDepth 100000 in
theorem card : Rows.NumMakesCardSaid :=
 Claim7.holds_tied_plain_at .later [] [.data, .data, .data, .data, .sentinel, .sentinel, .pinned] true (true, "9dae0d3afb29ebe565f15e9a2cea56c6586652e445151b15effdd894d882d3cf") true proved (fun _ h => by cases h) k_wf (fun _ h => by cases h) numMakes_row_tie rfl ⟨rfl, rfl⟩ k_main rfl
  (fun f fn hf hfn => by
   obtain rfl : f = 12 := Option.some.inj (f_named.symm.trans hf) |>.symm
   obtain rfl : fn = Tryz.f12 := (Option.some.inj (Tryz.func12.symm.trans hfn)).symm
   exact ⟨k_looks, fun j t ht => by
    rw [Tryz.params12] at ht
    have hm : t ∈ [3, 3] := by simpa using Array.mem_of_getElem? ht
    exact (show Tryz.pinned.checked.prog.wantsStandIn t = false by simpa using List.all_eq_true.1 k_want t hm)⟩)
  k_goes
#print axioms card
end Go.Proofs.YtaffkbemjbfajaaGreatDoor.numMakes
namespace Go.Proofs.YtaffkbemjbfajaaGreatDoor
/-- The card, under a short name, for the claim. -/
theorem numMakes_card : Rows.NumMakesCardSaid := numMakes.card
end Go.Proofs.YtaffkbemjbfajaaGreatDoor
