/-
  weftworks/weftlaw1.NumPoints: where what it reads is of bulk at most 1048576, the call returns true and leaves its arguments as they were: the second form's row and its tied card. Conditions: those of the given row alone (the listed package-level variables read as listed; tied to the program's text by the card).
-/
import Derived.Test.YtaffkbemjbfajaaGreatDoorRows
import Derived.Test.YtaffkbemjbfajaaGreatDoorTie
import Derived.Test.YtaffkbemjbfajaaGreatDoorFactNumPointsUpto
import Derived.Test.YtaffkbemjbfajaaGreatDoorCards
import Derived.LaidMore
import Derived.Test.YtaffkbemjbfajaaGreatDoorLaid
import Derived.Lay
import Derived.SevenTiedAt
import Derived.Stop.Joined
import Derived.Test.YtaffkbemjbfajaaGreatDoorPNumPointsx8
import Derived.Test.YtaffkbemjbfajaaGreatDoorPureNumPoints
import Derived.WalkKit
import Derived.JoinedCond
import Derived.LaidLaws
import Derived.ProofKit
import Derived.OpenShut
import Derived.ShutString
import Derived.ChangeOld
import Derived.Below
import Derived.SizedLaws
import Derived.Test.YtaffkbemjbfajaaGreatDoorWSized
namespace Go.Proofs.YtaffkbemjbfajaaGreatDoor.numPointsUpto
open Go Go.ChangeShapes Go.WideShapes Go.ChangeAt Go.RowKit
open Go.ChangeMaps (open_string shut_string)
set_option linter.unusedVariables false
theorem own : ownKnob Tryz.prog.godebug = none := by kernel_rfl
theorem laidOut : laidOutB Tryz.prog = true := by kernel_rfl
def IsRow (k : IntKind) (w : World) (a : Option Addr) (len cap : Nat) (zs : List Int) : Prop :=
  (a = none ∧ len = 0 ∧ cap = 0 ∧ zs = []) ∨
  ∃ x, a = some x ∧ len ≤ cap ∧ cap ≤ maxLen ∧ zs.length = cap ∧ (∀ i, i < zs.length → w.cell? (x.add i) = some (.int k (zs.getD i 0))) ∧ ∀ n ∈ zs, (Lit.int k n).wf = true
theorem bulk_lits {H : Type} (k : IntKind) : ∀ l : List Int, Rows.uptoBulkAll (lits (H := H) k l) = l.length
  | [] => rfl
  | n :: l => by
    have ih := bulk_lits (H := H) k l
    show Rows.uptoBulk (DataW.lit (.int k n)) + Rows.uptoBulkAll (lits (H := H) k l) = _
    rw [ih, List.length_cons]
    show 1 + l.length = _
    omega
set_option maxRecDepth 100000 in
theorem lifted (os : Os) (started : os.Started) (H : Type) (enc : TypeId × Value → H) :
    ReturnsInHanded {} Tryz.checked os 9 .any (fun w args => ((Rows.OpenSpec.upto Rows.numPointsSpec).pre enc Tryz.prog Tryz.f9 Rows.numPointsUptoRow.domain false w args ∧ laidMetH Tryz.prog Rows.numPointsUptoRow.laid w) ∧ sizedMet enc Tryz.prog Tryz.f9 (Rows.OpenSpec.upto Rows.numPointsSpec) false w args) (Rows.numPointsSpec.post enc Tryz.prog Tryz.f9 false true false false) := by
  have hokB : Input.okWideB Tryz.checked.prog ((World.laidAll Tryz.prog os Rows.numPointsUptoRow.laid).forCall (fun _ _ => 0) ⟨#[], #[.slice none 0 0, .int .i64 0], []⟩) 9 ⟨#[], #[.slice none 0 0, .int .i64 0], []⟩ = true := by kernel_rfl
  refine returnsInHanded_of_calls (C := Tryz.checked) own started (by kernel_rfl)
    ⟨World.laidAll Tryz.prog os Rows.numPointsUptoRow.laid, fun _ _ => 0, ⟨#[], #[.slice none 0 0, .int .i64 0], []⟩, World.laidAll_os _ _ _,
      World.shaped_of_ZipB (by kernel_rfl) (by kernel_rfl), rfl, (Input.okWide_of_okWideB hokB).2,
      ⟨⟨(OpenSpec.pre_some (k := Rows.uptoSmall) rfl Rows.numPointsUptoRow.domain false _ _).2 ⟨[.nil, .lit (.int .i64 0)], [], [], DataW.Whole_of_whole (x := ([.nil, .lit (.int .i64 0)], [], [])) (fuel := 8) (by kernel_rfl), by rfl, by rfl⟩,
        by rw [MakeChecks.laidMetH_plain _ _ _ (by kernel_rfl)]; exact laidMet_laidAll _ (by kernel_rfl) (by kernel_rfl)⟩, sizedMet_of_sizedB (s := Rows.numPointsSpec) (fuel := 8) (by kernel_rfl)⟩, by
      simp only [Assume.holds]
      exact ⟨by simp, by simp, fun _ => Modest.zero, by simp, by simp⟩⟩ ?_
  intro w tape i _ _ _ hok hpre hholds
  obtain ⟨_, _, _, fn', hfn', _, _, _, _, hval1⟩ := hok
  have efn : fn' = Tryz.f9 := Option.some.inj (hfn'.symm.trans Tryz.func9)
  subst efn
  obtain ⟨⟨hp1, hx1⟩, hz1⟩ := hpre
  obtain ⟨ds, gs, before, hw1, hc1, hk⟩ := (OpenSpec.pre_some (k := Rows.uptoSmall) rfl Rows.numPointsUptoRow.domain false _ _).1 hp1
  have hwW := DataW.Whole.of_heap (w' := w.forCall tape i) (by rfl) hw1
  suffices hcontract : Calls Tryz.prog 9 i.args (w.forCall tape i) fun e W' => ∃ v, e = .returned v ∧ Rows.numPointsSpec.post enc Tryz.prog Tryz.f9 false true false false (w.forCall tape i) i.args v W' from
    hcontract.mono fun e W' ⟨v, he, hp⟩ => by subst he; exact ChangeSpec.post_blind hp
  have hL : laidMetH Tryz.prog Rows.numPointsUptoRow.laid (w.forCall tape i) := laidMetH.of_heap (by rfl) hx1
  have hval0 := hval1
  have hW := hwW
  clear hp1 hx1 hz1 hw1 hc1 hwW hval1 hholds
  generalize w.forCall tape i = W at *
  generalize i.args = args at *
  have hval : ∀ (j : Nat) t v, Tryz.f9.params[j]? = some t → args[j]? = some v → Value.okWide Tryz.prog W .any w.heap.size t v := hval0
  have hW' := hW
  obtain ⟨p, q, hA0, hV, rfl, hfz, hnd⟩ := hW
  have hA : DataW.TrodAll enc Tryz.prog W 0 (fun _ => true) true Tryz.f9.params.toList args.toList ds p := hA0
  rw [Tryz.params9] at hA hval
  obtain ⟨v0, vs0, d0, ds0, p0, q0, hargs, rfl, rfl, h0, r0⟩ := trodAll_cons hA
  obtain ⟨v1, vs1, d1, ds1, p1, q1, rfl, rfl, rfl, h1, r1⟩ := trodAll_cons r0
  obtain ⟨rfl, rfl, rfl⟩ := trodAll_nil r1
  obtain rfl : args = #[v0, v1] := by cases args; simp_all
  obtain ⟨rfl, rfl⟩ := trodVars_none hV
  obtain ⟨a0, len0, cap0, rfl⟩ := okWide_slice Tryz.underlying36 (hval 0 36 v0 rfl rfl)
  have k0 := h0
  have lt0 : ∀ x ∈ p0, x.block < W.heap.size := by obtain ⟨m, hm⟩ := k0; exact DataW.trod_lt m _ _ _ hm
  obtain ⟨z0, w0, y0⟩ : ∃ zs, IsRow .i64 W a0 len0 cap0 zs ∧ len0 ≤ 1048576 := by
    obtain ⟨fuel, hf⟩ := h0
    rcases open_ints Tryz.underlying36 Tryz.underlying3 (by kernel_rfl) hf with ⟨hcs, _⟩ | ⟨x, l, c, zs, hcs, _, hl, hm, hz, hxx, hcell, hwz⟩
    · simp [Value.cells] at hcs
      obtain ⟨rfl, rfl, rfl⟩ := hcs
      exact ⟨[], .inl ⟨rfl, rfl, rfl, rfl⟩, Nat.zero_le _⟩
    · simp [Value.cells] at hcs
      obtain ⟨rfl, rfl, rfl⟩ := hcs
      have hb := of_decide_eq_true hk
      obtain ⟨rfl, _⟩ := Prod.mk.inj hxx
      have hlen : (zs.take len0).length = len0 := by rw [List.length_take]; have : zs.length = cap0 := by simpa using hz
                                                     omega
      have h1 : Rows.uptoBulkAll (lits (H := H) .i64 (zs.take len0)) = len0 := by rw [bulk_lits, hlen]
      have h2 : Rows.uptoBulk (DataW.slice (lits (H := H) .i64 (zs.take len0)) (lits .i64 (zs.drop len0))) = Rows.uptoBulkAll (lits (H := H) .i64 (zs.take len0)) + Rows.uptoBulkAll (lits (H := H) .i64 (zs.drop len0)) + 1 := by simp only [Rows.uptoBulk]
      simp only [List.cons_append, Rows.uptoBulkAll] at hb
      exact ⟨zs, .inr ⟨_, rfl, hl, hm, by simpa using hz, hcell, hwz⟩, by omega⟩
  obtain ⟨a1, rfl, rfl, rfl, w1⟩ := open_int Tryz.underlying3 (hval 1 3 v1 rfl rfl) h1
  clear hA0 hval0
  refine (Pure.NumPoints_walk a0 len0 cap0 z0 a1 W w0 y0 w1 (gl_of_laid hL)).mono fun e W' ⟨he, bel⟩ => ?_
  subst he
  exact ⟨_, rfl, _, _, _, [], _, [], hW', trodAll_mk1 (shut_bool Tryz.underlying4 _), (trodAll_cons_mk (Below.trod laidOut (by kernel_rfl) (of_decide_eq_true (by kernel_rfl)) k0 bel lt0) (trodAll_cons_mk (shut_int Tryz.underlying3 w1) trodAll_mk0)), rfl, bel.frame _, fun h => by cases h⟩
theorem over : Rows.numPointsUptoRow.holds Tryz.pinned (Rows.OpenSpec.upto Rows.numPointsSpec) :=
  OpenClaim.holds_of_cond 9 Tryz.f9 rfl rfl rfl rfl rfl rfl rfl ⟨rfl, rfl, rfl, rfl, rfl⟩ rfl rfl rfl rfl rfl f_named Tryz.func9 f_closed f_inst f_wrap
    (fun os started H enc _ _ => lifted os started H enc)
theorem proved : Rows.NumPointsUptoSaid := over
set_option maxRecDepth 100000 in
theorem card : Rows.NumPointsUptoCardSaid :=
  Claim7.holds_tied_plain_at .later [] [.data, .data, .data, .data, .sentinel, .sentinel, .pinned] true (true, "9dae0d3afb29ebe565f15e9a2cea56c6586652e445151b15effdd894d882d3cf") true proved (fun _ h => by cases h) k_wf (fun _ h => by cases h) numPointsUpto_row_tie rfl ⟨rfl, rfl⟩ k_main rfl
    (fun f fn hf hfn => by
      obtain rfl : f = 9 := Option.some.inj (f_named.symm.trans hf) |>.symm
      obtain rfl : fn = Tryz.f9 := (Option.some.inj (Tryz.func9.symm.trans hfn)).symm
      exact ⟨k_looks, fun j t ht => by
        rw [Tryz.params9] at ht
        have hm : t ∈ [36, 3] := by simpa using Array.mem_of_getElem? ht
        exact (show Tryz.pinned.checked.prog.wantsStandIn t = false by simpa using List.all_eq_true.1 k_want t hm)⟩)
    k_goes
#print axioms card
end Go.Proofs.YtaffkbemjbfajaaGreatDoor.numPointsUpto
namespace Go.Proofs.YtaffkbemjbfajaaGreatDoor
/-- The card, under a short name, for the claim. -/
theorem numPointsUpto_card : Rows.NumPointsUptoCardSaid := numPointsUpto.card
end Go.Proofs.YtaffkbemjbfajaaGreatDoor
