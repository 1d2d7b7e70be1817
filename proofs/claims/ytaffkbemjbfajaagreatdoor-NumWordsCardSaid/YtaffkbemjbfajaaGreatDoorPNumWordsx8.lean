-- By a program of this session (a changed copy of the kit's printer): functions of the seat as plain Lean functions, each with its proof over the machine.
import Derived.Test.YtaffkbemjbfajaaGreatDoorPNumWordsx0
import Derived.Test.YtaffkbemjbfajaaGreatDoorPNumWordsx6
import Derived.Test.YtaffkbemjbfajaaGreatDoorPNumWordsx7
namespace Go.Proofs.YtaffkbemjbfajaaGreatDoor.PNumWords
open Go.RowKit Go.Proofs.YtaffkbemjbfajaaGreatDoorW.PrintWords Go.Proofs.YtaffkbemjbfajaaGreatDoorW.PrintLast Go.Proofs.YtaffkbemjbfajaaGreatDoorW.PrintMore
attribute [local go_sem] max2_int min2_int max_two min_two max_three min_three max_four min_four   -- for this text's walks alone
set_option linter.unusedVariables false
set_option linter.unusedSimpArgs false

/-! ### weftlaw1_NumWords: function 5 -/
mutual
def weftlaw1_NumWords.j0 : Nat → Int → Int → Int → Option (Bool)
  | 0, _, _, _ => none
  | k + 1, x0, x1, x2 => (num_Bits.f k x1 x2).bind fun bt288 => (if x1 < (-2147483648) then (weftlaw1_NumWords.j1 k x0 x1 x2 bt288.1 bt288.2 true) else (if x1 > x2 then (weftlaw1_NumWords.j1 k x0 x1 x2 bt288.1 bt288.2 true) else (weftlaw1_NumWords.j1 k x0 x1 x2 bt288.1 bt288.2 (decide (x2 > 2147483647)))))
def weftlaw1_NumWords.j1 : Nat → Int → Int → Int → Int → Int → Bool → Option (Bool)
  | 0, _, _, _, _, _, _ => none
  | k + 1, x0, x1, x2, x9, x10, x68 => if x68 = true then ((weftlaw1_nums.f k).bind fun t290 => (if t290 = true then ((num_Wrap.f x0).bind fun t291 => ((weftref1_Wrapped.f x0).bind fun t292 => (if t291 = t292 then (if x10 = 1 then (some (x9 == 0)) else (some false)) else (some false)))) else (some false))) else (weftlaw1_NumWords.l0 k x0 x1 x2 x9 x10 1)
def weftlaw1_NumWords.l0 : Nat → Int → Int → Int → Int → Int → Int → Option (Bool)
  | 0, _, _, _, _, _, _ => none
  | k + 1, x0, x1, x2, x9, x10, x11 => if 0 ≤ (wrap64 (x11 - 1)) then (if x1 < (shl .i64 (-1) (wrap64 (x11 - 1))) then (weftlaw1_NumWords.l0 k x0 x1 x2 x9 x10 (wrap64 (x11 + 1))) else (if x2 > (wrap64 ((shl .i64 1 (wrap64 (x11 - 1))) - 1)) then (weftlaw1_NumWords.l0 k x0 x1 x2 x9 x10 (wrap64 (x11 + 1))) else ((weftlaw1_nums.f k).bind fun t293 => (if t293 = true then ((num_Wrap.f x0).bind fun t294 => ((weftref1_Wrapped.f x0).bind fun t295 => (if t294 = t295 then (if x10 = 0 then (some (x9 == x11)) else (some false)) else (some false)))) else (some false))))) else (none)
end
def weftlaw1_NumWords.f (k : Nat) (a0 : Int) (a1 : Int) (a2 : Int) : Option (Bool) := (num_Root.f k a0).bind fun bt286 => (if a0 < 0 then (if bt286.2 = 1 then (if bt286.1 = 0 then (weftlaw1_NumWords.j0 k a0 a1 a2) else (some false)) else (some false)) else (if bt286.2 = 0 then (if bt286.1 < 0 then (some false) else (if bt286.1 > 3037000499 then (some false) else (if (wrap64 (bt286.1 * bt286.1)) > a0 then (some false) else (if (wrap64 (a0 - (wrap64 (bt286.1 * bt286.1)))) > (wrap64 (2 * bt286.1)) then (some false) else (weftlaw1_NumWords.j0 k a0 a1 a2))))) else (some false)))
theorem weftlaw1_NumWords.mono_l : ∀ k, (∀ y0 y1 y2, LeO (weftlaw1_NumWords.j0 k y0 y1 y2) (weftlaw1_NumWords.j0 (k + 1) y0 y1 y2)) ∧ (∀ y0 y1 y2 y3 y4 y5, LeO (weftlaw1_NumWords.j1 k y0 y1 y2 y3 y4 y5) (weftlaw1_NumWords.j1 (k + 1) y0 y1 y2 y3 y4 y5)) ∧ (∀ y0 y1 y2 y3 y4 y5, LeO (weftlaw1_NumWords.l0 k y0 y1 y2 y3 y4 y5) (weftlaw1_NumWords.l0 (k + 1) y0 y1 y2 y3 y4 y5))
  | 0 => ⟨fun _ _ _ r h => by simp [weftlaw1_NumWords.j0] at h, fun _ _ _ _ _ _ r h => by simp [weftlaw1_NumWords.j1] at h, fun _ _ _ _ _ _ r h => by simp [weftlaw1_NumWords.l0] at h⟩
  | k + 1 => by
    obtain ⟨ih0, ih1, ih2⟩ := weftlaw1_NumWords.mono_l k
    refine ⟨?_, ?_, ?_⟩
    · intro y0 y1 y2
      unfold weftlaw1_NumWords.j0
      repeat' first
      | (with_reducible exact ih0 _ _ _)
      | (with_reducible exact ih1 _ _ _ _ _ _)
      | (with_reducible exact ih2 _ _ _ _ _ _)
      | (with_reducible exact num_Bits.mono _ _ _)
      | (with_reducible exact num_Root.mono _ _)
      | (with_reducible exact weftlaw1_nums.mono _)
      | (with_reducible exact LeO.refl _)
      | (with_reducible exact LeO.none _)
      | (with_reducible refine LeO.ite ?_ ?_)
      | (with_reducible refine LeO.bind ?_ (fun _ => ?_))
      | exact ih0 _ _ _
      | exact ih1 _ _ _ _ _ _
      | exact ih2 _ _ _ _ _ _
      | exact num_Bits.mono _ _ _
      | exact num_Root.mono _ _
      | exact weftlaw1_nums.mono _
      | exact LeO.none _
      | refine LeO.ite ?_ ?_
      | refine LeO.bind ?_ (fun _ => ?_)
    · intro y0 y1 y2 y3 y4 y5
      unfold weftlaw1_NumWords.j1
      repeat' first
      | (with_reducible exact ih0 _ _ _)
      | (with_reducible exact ih1 _ _ _ _ _ _)
      | (with_reducible exact ih2 _ _ _ _ _ _)
      | (with_reducible exact num_Bits.mono _ _ _)
      | (with_reducible exact num_Root.mono _ _)
      | (with_reducible exact weftlaw1_nums.mono _)
      | (with_reducible exact LeO.refl _)
      | (with_reducible exact LeO.none _)
      | (with_reducible refine LeO.ite ?_ ?_)
      | (with_reducible refine LeO.bind ?_ (fun _ => ?_))
      | exact ih0 _ _ _
      | exact ih1 _ _ _ _ _ _
      | exact ih2 _ _ _ _ _ _
      | exact num_Bits.mono _ _ _
      | exact num_Root.mono _ _
      | exact weftlaw1_nums.mono _
      | exact LeO.none _
      | refine LeO.ite ?_ ?_
      | refine LeO.bind ?_ (fun _ => ?_)
    · intro y0 y1 y2 y3 y4 y5
      unfold weftlaw1_NumWords.l0
      repeat' first
      | (with_reducible exact ih0 _ _ _)
      | (with_reducible exact ih1 _ _ _ _ _ _)
      | (with_reducible exact ih2 _ _ _ _ _ _)
      | (with_reducible exact num_Bits.mono _ _ _)
      | (with_reducible exact num_Root.mono _ _)
      | (with_reducible exact weftlaw1_nums.mono _)
      | (with_reducible exact LeO.refl _)
      | (with_reducible exact LeO.none _)
      | (with_reducible refine LeO.ite ?_ ?_)
      | (with_reducible refine LeO.bind ?_ (fun _ => ?_))
      | exact ih0 _ _ _
      | exact ih1 _ _ _ _ _ _
      | exact ih2 _ _ _ _ _ _
      | exact num_Bits.mono _ _ _
      | exact num_Root.mono _ _
      | exact weftlaw1_nums.mono _
      | exact LeO.none _
      | refine LeO.ite ?_ ?_
      | refine LeO.bind ?_ (fun _ => ?_)
theorem weftlaw1_NumWords.mono : ∀ a0 a1 a2 k, LeO (weftlaw1_NumWords.f k a0 a1 a2) (weftlaw1_NumWords.f (k + 1) a0 a1 a2) := by
  intro a0 a1 a2 k
  obtain ⟨ih0, ih1, ih2⟩ := weftlaw1_NumWords.mono_l k
  unfold weftlaw1_NumWords.f
  repeat' first
      | (with_reducible exact ih0 _ _ _)
      | (with_reducible exact ih1 _ _ _ _ _ _)
      | (with_reducible exact ih2 _ _ _ _ _ _)
      | (with_reducible exact num_Bits.mono _ _ _)
      | (with_reducible exact num_Root.mono _ _)
      | (with_reducible exact weftlaw1_nums.mono _)
      | (with_reducible exact LeO.refl _)
      | (with_reducible exact LeO.none _)
      | (with_reducible refine LeO.ite ?_ ?_)
      | (with_reducible refine LeO.bind ?_ (fun _ => ?_))
      | exact ih0 _ _ _
      | exact ih1 _ _ _ _ _ _
      | exact ih2 _ _ _ _ _ _
      | exact num_Bits.mono _ _ _
      | exact num_Root.mono _ _
      | exact weftlaw1_nums.mono _
      | exact LeO.none _
      | refine LeO.ite ?_ ?_
      | refine LeO.bind ?_ (fun _ => ?_)
set_option maxHeartbeats 8000000 in
set_option maxRecDepth 100000 in
theorem weftlaw1_NumWords.calls (k : Nat) (a0 : Int) (a1 : Int) (a2 : Int) (r : Bool) (w : World) (hG : Tryz.Gl w) (h : weftlaw1_NumWords.f k a0 a1 a2 = some r) :
    Calls Tryz.prog 5 #[.int .i64 a0, .int .i64 a1, .int .i64 a2] w fun e w' => e = .returned (.bool r) ∧ Below w.heap.size w w' := by
  have HG := Aside0.mk hG
  clear hG
  have HB := Aside0.mk (Below.refl w.heap.size w)
  have H : ((num_Root.f k a0).bind fun bt286 => (if a0 < 0 then (if bt286.2 = 1 then (if bt286.1 = 0 then (weftlaw1_NumWords.j0 k a0 a1 a2) else (some false)) else (some false)) else (if bt286.2 = 0 then (if bt286.1 < 0 then (some false) else (if bt286.1 > 3037000499 then (some false) else (if (wrap64 (bt286.1 * bt286.1)) > a0 then (some false) else (if (wrap64 (a0 - (wrap64 (bt286.1 * bt286.1)))) > (wrap64 (2 * bt286.1)) then (some false) else (weftlaw1_NumWords.j0 k a0 a1 a2))))) else (some false)))) = some r := h
  clear h
  replace H := Option.bind_eq_some_iff.mp H
  obtain ⟨⟨t286, t287⟩, A40, H⟩ := H
  replace H : (if a0 < 0 then (if t287 = 1 then (if t286 = 0 then (weftlaw1_NumWords.j0 k a0 a1 a2) else (some false)) else (some false)) else (if t287 = 0 then (if t286 < 0 then (some false) else (if t286 > 3037000499 then (some false) else (if (wrap64 (t286 * t286)) > a0 then (some false) else (if (wrap64 (a0 - (wrap64 (t286 * t286)))) > (wrap64 (2 * t286)) then (some false) else (weftlaw1_NumWords.j0 k a0 a1 a2))))) else (some false))) = some r := H
  have A4 := Aside0.mk A40
  clear A40
  have HC5 := Aside0.mk H
  clear H
  go_enter Tryz.func5, Tryz.ntmps5
  go_upto_if 18 with (first | ((with_reducible refine gate_callee (f := 26) rfl ?_); refine goesL_ (some 14) rfl rfl Tryz.func26 (by kernel_rfl) rfl #[.int .i64 a0] rfl (by (try simp only [List.map_toArray, List.map_cons, List.map_nil]); first | done | rfl | (simp only [List.length_drop, List.length_take]; rfl)) ?_; (with_reducible refine (num_Root.calls k a0 t286 t287 _ A4.out).mono ?_); rintro e w' ⟨rfl, ⟨nd, rfl⟩⟩; refine ⟨_, rfl, ?_⟩))
  (try simp only [Act.put, List.setIfInBounds_toArray, List.set_cons_zero, List.set_cons_succ])
  go_cut [] (fun wc => ∃ (kq : Nat), Aside0 (weftlaw1_NumWords.j0 kq a0 a1 a2 = some r) ∧ Aside0 (kq ≤ k) ∧ Aside0 (Below w.heap.size w wc))
  case first =>
    have H := HC5.out
    clear HC5
    by_cases c6 : a0 < 0
    · rw [if_pos c6] at H
      have c6b0 : decide (a0 < 0) = true := decide_eq_true c6
      clear c6
      (first | rw [c6b0] | (simp only [i64_w, i32_w]; rw [c6b0]) | skip)
      by_cases c7 : t287 = 1
      · rw [if_pos c7] at H
        have c7b0 : (t287 == 1) = true := beq_iff_eq.mpr c7
        have c7b1 : (t287 != 1) = false := bne_eq_false_iff_eq.mpr c7
        clear c7
        by_cases c8 : t286 = 0
        · rw [if_pos c8] at H
          have c8b0 : (t286 == 0) = true := beq_iff_eq.mpr c8
          have c8b1 : (t286 != 0) = false := bne_eq_false_iff_eq.mpr c8
          clear c8
          have H' := Aside0.mk H
          clear H
          go_wp2
          go_meet
          case rel => exact ⟨_, H', ⟨by first | omega | exact Nat.le_refl _⟩, ⟨by repeat (first | (with_reducible first | exact HB.out | apply below_alloc | apply pw_below_drewN | apply below_drew1) | exact HB.out)⟩⟩
        · rw [if_neg c8] at H
          have c8b0 : (t286 == 0) = false := beq_eq_false_iff_ne.mpr c8
          have c8b1 : (t286 != 0) = true := bne_iff_ne.mpr c8
          obtain rfl := Option.some.inj H
          go_wp2
          go_ret
          exact ⟨by first | rfl | (simp [errW_none, errW_some] <;> rfl) | (simp [*, errW_none, errW_some] <;> rfl), by repeat (first | (with_reducible first | exact HB.out | apply below_alloc | apply pw_below_drewN | apply below_drew1) | exact HB.out)⟩
      · rw [if_neg c7] at H
        have c7b0 : (t287 == 1) = false := beq_eq_false_iff_ne.mpr c7
        have c7b1 : (t287 != 1) = true := bne_iff_ne.mpr c7
        obtain rfl := Option.some.inj H
        go_wp2
        go_ret
        exact ⟨by first | rfl | (simp [errW_none, errW_some] <;> rfl) | (simp [*, errW_none, errW_some] <;> rfl), by repeat (first | (with_reducible first | exact HB.out | apply below_alloc | apply pw_below_drewN | apply below_drew1) | exact HB.out)⟩
    · rw [if_neg c6] at H
      have c6b0 : decide (a0 < 0) = false := decide_eq_false c6
      clear c6
      (first | rw [c6b0] | (simp only [i64_w, i32_w]; rw [c6b0]) | skip)
      by_cases c9 : t287 = 0
      · rw [if_pos c9] at H
        have c9b0 : (t287 == 0) = true := beq_iff_eq.mpr c9
        have c9b1 : (t287 != 0) = false := bne_eq_false_iff_eq.mpr c9
        clear c9
        by_cases c10 : t286 < 0
        · rw [if_pos c10] at H
          have c10b0 : decide (t286 < 0) = true := decide_eq_true c10
          clear c10
          obtain rfl := Option.some.inj H
          go_wp2
          go_ret
          exact ⟨by first | rfl | (simp [errW_none, errW_some] <;> rfl) | (simp [*, errW_none, errW_some] <;> rfl), by repeat (first | (with_reducible first | exact HB.out | apply below_alloc | apply pw_below_drewN | apply below_drew1) | exact HB.out)⟩
        · rw [if_neg c10] at H
          have c10b0 : decide (t286 < 0) = false := decide_eq_false c10
          clear c10
          by_cases c11 : t286 > 3037000499
          · rw [if_pos c11] at H
            have c11b0 : decide (3037000499 < t286) = true := decide_eq_true c11
            clear c11
            obtain rfl := Option.some.inj H
            go_wp2
            go_ret
            exact ⟨by first | rfl | (simp [errW_none, errW_some] <;> rfl) | (simp [*, errW_none, errW_some] <;> rfl), by repeat (first | (with_reducible first | exact HB.out | apply below_alloc | apply pw_below_drewN | apply below_drew1) | exact HB.out)⟩
          · rw [if_neg c11] at H
            have c11b0 : decide (3037000499 < t286) = false := decide_eq_false c11
            clear c11
            by_cases c12 : (wrap64 (t286 * t286)) > a0
            · rw [if_pos c12] at H
              have c12b0 : decide (a0 < (wrap64 (t286 * t286))) = true := decide_eq_true c12
              clear c12
              obtain rfl := Option.some.inj H
              go_wp2
              go_ret
              exact ⟨by first | rfl | (simp [errW_none, errW_some] <;> rfl) | (simp [*, errW_none, errW_some] <;> rfl), by repeat (first | (with_reducible first | exact HB.out | apply below_alloc | apply pw_below_drewN | apply below_drew1) | exact HB.out)⟩
            · rw [if_neg c12] at H
              have c12b0 : decide (a0 < (wrap64 (t286 * t286))) = false := decide_eq_false c12
              clear c12
              by_cases c13 : (wrap64 (a0 - (wrap64 (t286 * t286)))) > (wrap64 (2 * t286))
              · rw [if_pos c13] at H
                have c13b0 : decide ((wrap64 (2 * t286)) < (wrap64 (a0 - (wrap64 (t286 * t286))))) = true := decide_eq_true c13
                clear c13
                obtain rfl := Option.some.inj H
                go_wp2
                go_ret
                exact ⟨by first | rfl | (simp [errW_none, errW_some] <;> rfl) | (simp [*, errW_none, errW_some] <;> rfl), by repeat (first | (with_reducible first | exact HB.out | apply below_alloc | apply pw_below_drewN | apply below_drew1) | exact HB.out)⟩
              · rw [if_neg c13] at H
                have c13b0 : decide ((wrap64 (2 * t286)) < (wrap64 (a0 - (wrap64 (t286 * t286))))) = false := decide_eq_false c13
                clear c13
                have H' := Aside0.mk H
                clear H
                go_wp2
                go_meet
                case rel => exact ⟨_, H', ⟨by first | omega | exact Nat.le_refl _⟩, ⟨by repeat (first | (with_reducible first | exact HB.out | apply below_alloc | apply pw_below_drewN | apply below_drew1) | exact HB.out)⟩⟩
      · rw [if_neg c9] at H
        have c9b0 : (t287 == 0) = false := beq_eq_false_iff_ne.mpr c9
        have c9b1 : (t287 != 0) = true := bne_iff_ne.mpr c9
        obtain rfl := Option.some.inj H
        go_wp2
        go_ret
        exact ⟨by first | rfl | (simp [errW_none, errW_some] <;> rfl) | (simp [*, errW_none, errW_some] <;> rfl), by repeat (first | (with_reducible first | exact HB.out | apply below_alloc | apply pw_below_drewN | apply below_drew1) | exact HB.out)⟩
  case rest =>
    clear HC5
    try clear c1
    try clear c2
    try clear p2
    try clear c5
    try clear c6
    try clear c6b0
    try clear p6
    try clear c7
    try clear c7b0
    try clear c7b1
    try clear c8
    try clear c8b0
    try clear c8b1
    try clear c9
    try clear c9b0
    try clear c9b1
    try clear c10
    try clear c10b0
    try clear c11
    try clear c11b0
    try clear c12
    try clear c12b0
    try clear c13
    try clear c13b0
    obtain ⟨kq, HA, HJ4, HB⟩ := hcut
    cases kq with
    | zero => exact absurd HA.out (by simp [weftlaw1_NumWords.j0])
    | succ kj4 =>
      have H := HA.out
      clear HA
      simp only [weftlaw1_NumWords.j0] at H
      replace H := Option.bind_eq_some_iff.mp H
      obtain ⟨⟨t288, t289⟩, A140, H⟩ := H
      replace H : (if a1 < (-2147483648) then (weftlaw1_NumWords.j1 kj4 a0 a1 a2 t288 t289 true) else (if a1 > a2 then (weftlaw1_NumWords.j1 kj4 a0 a1 a2 t288 t289 true) else (weftlaw1_NumWords.j1 kj4 a0 a1 a2 t288 t289 (decide (a2 > 2147483647))))) = some r := H
      have A14 := Aside0.mk A140
      clear A140
      have HC15 := Aside0.mk H
      clear H
      go_upto_region 8 with (first | ((with_reducible refine gate_callee (f := 27) rfl ?_); refine goesL_ (some 55) rfl rfl Tryz.func27 (by kernel_rfl) rfl #[.int .i64 a1, .int .i64 a2] rfl (by (try simp only [List.map_toArray, List.map_cons, List.map_nil]); first | done | rfl | (simp only [List.length_drop, List.length_take]; rfl)) ?_; (with_reducible refine (num_Bits.calls kj4 a1 a2 t288 t289 _ A14.out).mono ?_); rintro e w' ⟨rfl, ⟨nd, rfl⟩⟩; refine ⟨_, rfl, ?_⟩))
      (try simp only [Act.put, List.setIfInBounds_toArray, List.set_cons_zero, List.set_cons_succ])
      go_cut [68] (fun v68 wc => ∃ (kq : Nat) (x68_14 : Bool), v68 = .bool x68_14 ∧ Aside0 (weftlaw1_NumWords.j1 kq a0 a1 a2 t288 t289 x68_14 = some r) ∧ Aside0 (kq ≤ kj4) ∧ Aside0 (Below w.heap.size w wc))
      case first =>
        have H := HC15.out
        clear HC15
        by_cases c16 : a1 < (-2147483648)
        · rw [if_pos c16] at H
          have c16b0 : decide (a1 < (-2147483648)) = true := decide_eq_true c16
          clear c16
          (first | rw [c16b0] | (simp only [i64_w, i32_w]; rw [c16b0]) | skip)
          have H' := Aside0.mk H
          clear H
          go_wp2
          go_meet
          case rel => exact ⟨_, (true), (by first | rfl | (simp; done) | (simp [*]; done)), H', ⟨by have := HJ4.out; first | omega | exact Nat.le_refl _⟩, ⟨by repeat (first | (with_reducible first | exact HB.out | apply below_alloc | apply pw_below_drewN | apply below_drew1) | exact HB.out)⟩⟩
        · rw [if_neg c16] at H
          have c16b0 : decide (a1 < (-2147483648)) = false := decide_eq_false c16
          clear c16
          (first | rw [c16b0] | (simp only [i64_w, i32_w]; rw [c16b0]) | skip)
          by_cases c17 : a1 > a2
          · rw [if_pos c17] at H
            have c17b0 : decide (a2 < a1) = true := decide_eq_true c17
            clear c17
            have H' := Aside0.mk H
            clear H
            go_wp2
            go_meet
            case rel => exact ⟨_, (true), (by first | rfl | (simp; done) | (simp [*]; done)), H', ⟨by have := HJ4.out; first | omega | exact Nat.le_refl _⟩, ⟨by repeat (first | (with_reducible first | exact HB.out | apply below_alloc | apply pw_below_drewN | apply below_drew1) | exact HB.out)⟩⟩
          · rw [if_neg c17] at H
            have c17b0 : decide (a2 < a1) = false := decide_eq_false c17
            clear c17
            have H' := Aside0.mk H
            clear H
            go_wp2
            go_meet
            case rel => exact ⟨_, (decide (a2 > 2147483647)), (by first | rfl | (simp; done) | (simp [*]; done)), H', ⟨by have := HJ4.out; first | omega | exact Nat.le_refl _⟩, ⟨by repeat (first | (with_reducible first | exact HB.out | apply below_alloc | apply pw_below_drewN | apply below_drew1) | exact HB.out)⟩⟩
      case rest =>
        clear HC15
        try clear c1
        try clear c2
        try clear p2
        try clear c5
        try clear c6
        try clear c6b0
        try clear p6
        try clear c7
        try clear c7b0
        try clear c7b1
        try clear c8
        try clear c8b0
        try clear c8b1
        try clear c9
        try clear c9b0
        try clear c9b1
        try clear c10
        try clear c10b0
        try clear c11
        try clear c11b0
        try clear c12
        try clear c12b0
        try clear c13
        try clear c13b0
        try clear c16
        try clear c16b0
        try clear c17
        try clear c17b0
        try clear p2
        try clear p6
        obtain ⟨kq, x68_14, rfl, HA, HJ14, HB⟩ := hcut
        cases kq with
        | zero => exact absurd HA.out (by simp [weftlaw1_NumWords.j1])
        | succ kj14 =>
          have H := HA.out
          clear HA
          simp only [weftlaw1_NumWords.j1] at H
          by_cases c18 : x68_14 = true
          · subst c18
            have H1 : ((weftlaw1_nums.f kj14).bind fun t290 => (if t290 = true then ((num_Wrap.f a0).bind fun t291 => ((weftref1_Wrapped.f a0).bind fun t292 => (if t291 = t292 then (if t289 = 1 then (some (t288 == 0)) else (some false)) else (some false)))) else (some false))) = some r := by rw [if_pos rfl] at H; exact H
            clear H
            have H := H1
            clear H1
            replace H := Option.bind_eq_some_iff.mp H
            obtain ⟨t290, A190, H⟩ := H
            replace H : (if t290 = true then ((num_Wrap.f a0).bind fun t291 => ((weftref1_Wrapped.f a0).bind fun t292 => (if t291 = t292 then (if t289 = 1 then (some (t288 == 0)) else (some false)) else (some false)))) else (some false)) = some r := H
            have A19 := Aside0.mk A190
            clear A190
            by_cases c20 : t290 = true
            · subst c20
              have H1 : ((num_Wrap.f a0).bind fun t291 => ((weftref1_Wrapped.f a0).bind fun t292 => (if t291 = t292 then (if t289 = 1 then (some (t288 == 0)) else (some false)) else (some false)))) = some r := by rw [if_pos rfl] at H; exact H
              clear H
              have H := H1
              clear H1
              replace H := Option.bind_eq_some_iff.mp H
              obtain ⟨t291, A210, H⟩ := H
              replace H : ((weftref1_Wrapped.f a0).bind fun t292 => (if t291 = t292 then (if t289 = 1 then (some (t288 == 0)) else (some false)) else (some false))) = some r := H
              have A21 := Aside0.mk A210
              clear A210
              replace H := Option.bind_eq_some_iff.mp H
              obtain ⟨t292, A220, H⟩ := H
              replace H : (if t291 = t292 then (if t289 = 1 then (some (t288 == 0)) else (some false)) else (some false)) = some r := H
              have A22 := Aside0.mk A220
              clear A220
              by_cases c23 : t291 = t292
              · rw [if_pos c23] at H
                have c23b0 : (t291 == t292) = true := beq_iff_eq.mpr c23
                have c23b1 : (t291 != t292) = false := bne_eq_false_iff_eq.mpr c23
                clear c23
                by_cases c24 : t289 = 1
                · rw [if_pos c24] at H
                  have c24b0 : (t289 == 1) = true := beq_iff_eq.mpr c24
                  have c24b1 : (t289 != 1) = false := bne_eq_false_iff_eq.mpr c24
                  clear c24
                  obtain rfl := Option.some.inj H
                  go_wp2_with (first | ((with_reducible refine gate_callee (f := 20) rfl ?_); refine goesL_ (some 69) rfl rfl Tryz.func20 (by kernel_rfl) rfl #[] rfl (by (try simp only [List.map_toArray, List.map_cons, List.map_nil]); first | done | rfl | (simp only [List.length_drop, List.length_take]; rfl)) ?_; (with_reducible refine (weftlaw1_nums.calls kj14  true _ ?side1 A19.out).mono ?_); (case side1 => exact Tryz.Gl.below HG.out (by repeat (first | (with_reducible first | exact HB.out | apply below_alloc | apply pw_below_drewN | apply below_drew1) | exact HB.out))); rintro e w25 ⟨rfl, hb⟩; refine ⟨_, rfl, ?_⟩; have n0_ := Aside0.mk (below_step (by repeat (first | (with_reducible first | exact HB.out | apply below_alloc | apply pw_below_drewN | apply below_drew1) | exact HB.out)) hb); clear HB; have HB := n0_; clear n0_; (try clear hb); (try clear hb2); (try clear hk); (try clear hi)) | (go_at_call 28; (with_reducible refine (num_Wrap.calls a0 t291 _ A21.out).mono ?_); rintro e w' ⟨rfl, ⟨nd, rfl⟩⟩) | (go_at_call 29; (with_reducible refine (weftref1_Wrapped.calls a0 t292 _ A22.out).mono ?_); rintro e w' ⟨rfl, ⟨nd, rfl⟩⟩))
                  go_ret
                  exact ⟨by first | rfl | (simp [errW_none, errW_some] <;> rfl) | (simp [*, errW_none, errW_some] <;> rfl), by repeat (first | (with_reducible first | exact HB.out | apply below_alloc | apply pw_below_drewN | apply below_drew1) | exact HB.out)⟩
                · rw [if_neg c24] at H
                  have c24b0 : (t289 == 1) = false := beq_eq_false_iff_ne.mpr c24
                  have c24b1 : (t289 != 1) = true := bne_iff_ne.mpr c24
                  obtain rfl := Option.some.inj H
                  go_wp2_with (first | ((with_reducible refine gate_callee (f := 20) rfl ?_); refine goesL_ (some 69) rfl rfl Tryz.func20 (by kernel_rfl) rfl #[] rfl (by (try simp only [List.map_toArray, List.map_cons, List.map_nil]); first | done | rfl | (simp only [List.length_drop, List.length_take]; rfl)) ?_; (with_reducible refine (weftlaw1_nums.calls kj14  true _ ?side1 A19.out).mono ?_); (case side1 => exact Tryz.Gl.below HG.out (by repeat (first | (with_reducible first | exact HB.out | apply below_alloc | apply pw_below_drewN | apply below_drew1) | exact HB.out))); rintro e w26 ⟨rfl, hb⟩; refine ⟨_, rfl, ?_⟩; have n0_ := Aside0.mk (below_step (by repeat (first | (with_reducible first | exact HB.out | apply below_alloc | apply pw_below_drewN | apply below_drew1) | exact HB.out)) hb); clear HB; have HB := n0_; clear n0_; (try clear hb); (try clear hb2); (try clear hk); (try clear hi)) | (go_at_call 28; (with_reducible refine (num_Wrap.calls a0 t291 _ A21.out).mono ?_); rintro e w' ⟨rfl, ⟨nd, rfl⟩⟩) | (go_at_call 29; (with_reducible refine (weftref1_Wrapped.calls a0 t292 _ A22.out).mono ?_); rintro e w' ⟨rfl, ⟨nd, rfl⟩⟩))
                  go_ret
                  exact ⟨by first | rfl | (simp [errW_none, errW_some] <;> rfl) | (simp [*, errW_none, errW_some] <;> rfl), by repeat (first | (with_reducible first | exact HB.out | apply below_alloc | apply pw_below_drewN | apply below_drew1) | exact HB.out)⟩
              · rw [if_neg c23] at H
                have c23b0 : (t291 == t292) = false := beq_eq_false_iff_ne.mpr c23
                have c23b1 : (t291 != t292) = true := bne_iff_ne.mpr c23
                obtain rfl := Option.some.inj H
                go_wp2_with (first | ((with_reducible refine gate_callee (f := 20) rfl ?_); refine goesL_ (some 69) rfl rfl Tryz.func20 (by kernel_rfl) rfl #[] rfl (by (try simp only [List.map_toArray, List.map_cons, List.map_nil]); first | done | rfl | (simp only [List.length_drop, List.length_take]; rfl)) ?_; (with_reducible refine (weftlaw1_nums.calls kj14  true _ ?side1 A19.out).mono ?_); (case side1 => exact Tryz.Gl.below HG.out (by repeat (first | (with_reducible first | exact HB.out | apply below_alloc | apply pw_below_drewN | apply below_drew1) | exact HB.out))); rintro e w27 ⟨rfl, hb⟩; refine ⟨_, rfl, ?_⟩; have n0_ := Aside0.mk (below_step (by repeat (first | (with_reducible first | exact HB.out | apply below_alloc | apply pw_below_drewN | apply below_drew1) | exact HB.out)) hb); clear HB; have HB := n0_; clear n0_; (try clear hb); (try clear hb2); (try clear hk); (try clear hi)) | (go_at_call 28; (with_reducible refine (num_Wrap.calls a0 t291 _ A21.out).mono ?_); rintro e w' ⟨rfl, ⟨nd, rfl⟩⟩) | (go_at_call 29; (with_reducible refine (weftref1_Wrapped.calls a0 t292 _ A22.out).mono ?_); rintro e w' ⟨rfl, ⟨nd, rfl⟩⟩))
                go_ret
                exact ⟨by first | rfl | (simp [errW_none, errW_some] <;> rfl) | (simp [*, errW_none, errW_some] <;> rfl), by repeat (first | (with_reducible first | exact HB.out | apply below_alloc | apply pw_below_drewN | apply below_drew1) | exact HB.out)⟩
            · replace c20 := Bool.eq_false_iff.mpr c20
              subst c20
              have H1 : (some false) = some r := by rw [if_neg (show ¬ (false = true) by decide)] at H; exact H
              clear H
              have H := H1
              clear H1
              obtain rfl := Option.some.inj H
              go_wp2_with (first | ((with_reducible refine gate_callee (f := 20) rfl ?_); refine goesL_ (some 69) rfl rfl Tryz.func20 (by kernel_rfl) rfl #[] rfl (by (try simp only [List.map_toArray, List.map_cons, List.map_nil]); first | done | rfl | (simp only [List.length_drop, List.length_take]; rfl)) ?_; (with_reducible refine (weftlaw1_nums.calls kj14  false _ ?side1 A19.out).mono ?_); (case side1 => exact Tryz.Gl.below HG.out (by repeat (first | (with_reducible first | exact HB.out | apply below_alloc | apply pw_below_drewN | apply below_drew1) | exact HB.out))); rintro e w28 ⟨rfl, hb⟩; refine ⟨_, rfl, ?_⟩; have n0_ := Aside0.mk (below_step (by repeat (first | (with_reducible first | exact HB.out | apply below_alloc | apply pw_below_drewN | apply below_drew1) | exact HB.out)) hb); clear HB; have HB := n0_; clear n0_; (try clear hb); (try clear hb2); (try clear hk); (try clear hi)))
              go_ret
              exact ⟨by first | rfl | (simp [errW_none, errW_some] <;> rfl) | (simp [*, errW_none, errW_some] <;> rfl), by repeat (first | (with_reducible first | exact HB.out | apply below_alloc | apply pw_below_drewN | apply below_drew1) | exact HB.out)⟩
          · replace c18 := Bool.eq_false_iff.mpr c18
            subst c18
            have H1 : (weftlaw1_NumWords.l0 kj14 a0 a1 a2 t288 t289 1) = some r := by rw [if_neg (show ¬ (false = true) by decide)] at H; exact H
            clear H
            have H := H1
            clear H1
            have H' := Aside0.mk H
            clear H
            go_wp2
            go_loopg [11] kj14 (fun kq v11 w' => ∃ (x11_3 : Int), v11 = .int .i64 x11_3 ∧ Aside0 (weftlaw1_NumWords.l0 kq a0 a1 a2 t288 t289 x11_3 = some r) ∧ Aside0 (kq ≤ kj14) ∧ Aside0 (Below w.heap.size w w'))
            case atStart => exact ⟨(1), (by first | rfl | (simp; done) | (simp [*]; done)), H', ⟨Nat.le_refl _⟩, ⟨by repeat (first | (with_reducible first | exact HB.out | apply below_alloc | apply pw_below_drewN | apply below_drew1) | exact HB.out)⟩⟩
            case round =>
              clear H'
              try clear c1
              try clear c2
              try clear p2
              try clear c5
              try clear c6
              try clear c6b0
              try clear p6
              try clear c7
              try clear c7b0
              try clear c7b1
              try clear c8
              try clear c8b0
              try clear c8b1
              try clear c9
              try clear c9b0
              try clear c9b1
              try clear c10
              try clear c10b0
              try clear c11
              try clear c11b0
              try clear c12
              try clear c12b0
              try clear c13
              try clear c13b0
              try clear c16
              try clear c16b0
              try clear c17
              try clear c17b0
              try clear c18
              try clear c20
              try clear c23
              try clear c23b0
              try clear c23b1
              try clear c24
              try clear c24b0
              try clear c24b1
              try clear c26
              try clear c27
              try clear p2
              try clear p6
              obtain ⟨x11_3, rfl, HA, HK3, HB⟩ := hrel
              cases gk with
              | zero => exact absurd HA.out (by simp [weftlaw1_NumWords.l0])
              | succ k3 =>
                have H := HA.out
                clear HA
                simp only [weftlaw1_NumWords.l0] at H
                obtain ⟨ji29, hji29⟩ : ∃ j_ : Int, (wrap64 (x11_3 - 1)) = j_ := ⟨_, rfl⟩
                replace H : (if 0 ≤ (ji29) then (if a1 < (shl .i64 (-1) (ji29)) then (weftlaw1_NumWords.l0 k3 a0 a1 a2 t288 t289 (wrap64 (x11_3 + 1))) else (if a2 > (wrap64 ((shl .i64 1 (ji29)) - 1)) then (weftlaw1_NumWords.l0 k3 a0 a1 a2 t288 t289 (wrap64 (x11_3 + 1))) else ((weftlaw1_nums.f k3).bind fun t293 => (if t293 = true then ((num_Wrap.f a0).bind fun t294 => ((weftref1_Wrapped.f a0).bind fun t295 => (if t294 = t295 then (if t289 = 0 then (some (t288 == x11_3)) else (some false)) else (some false)))) else (some false))))) else (none)) = some r := by first | (rw [hji29] at H; exact H) | (simp only [hji29] at H ⊢; exact H)
                have hji29w : (IntKind.i64.wrap (x11_3 - 1)) = ji29 := (i64_w _).trans hji29
                by_cases c30 : 0 ≤ (ji29)
                · rw [if_pos c30] at H
                  have c30b0 := eq_true c30
                  have c30b1 : decide (0 ≤ (ji29)) = true := decide_eq_true c30
                  clear c30
                  obtain ⟨ji31, hji31⟩ : ∃ j_ : Int, (shl .i64 (-1) (ji29)) = j_ := ⟨_, rfl⟩
                  replace H : (if a1 < (ji31) then (weftlaw1_NumWords.l0 k3 a0 a1 a2 t288 t289 (wrap64 (x11_3 + 1))) else (if a2 > (wrap64 ((shl .i64 1 (ji29)) - 1)) then (weftlaw1_NumWords.l0 k3 a0 a1 a2 t288 t289 (wrap64 (x11_3 + 1))) else ((weftlaw1_nums.f k3).bind fun t293 => (if t293 = true then ((num_Wrap.f a0).bind fun t294 => ((weftref1_Wrapped.f a0).bind fun t295 => (if t294 = t295 then (if t289 = 0 then (some (t288 == x11_3)) else (some false)) else (some false)))) else (some false))))) = some r := by first | (rw [hji31] at H; exact H) | (simp only [hji31] at H ⊢; exact H)
                  have hji31_ : (IntKind.i64.wrap ((-1) * 2 ^ min (ji29).toNat 64)) = ji31 := hji31
                  have hji31z : (ji29) ≤ 64 → (IntKind.i64.wrap ((-1) * 2 ^ (ji29).toNat)) = ji31 := shl_small hji31
                  have hji31u : (IntKind.i64.wrap (-2 ^ min (ji29).toNat 64)) = ji31 := by have h_ := hji31_; rw [Int.neg_one_mul] at h_; exact h_
                  have hji31v : (ji29) ≤ 64 → (IntKind.i64.wrap (-2 ^ (ji29).toNat)) = ji31 := fun hle_ => by have h_ := hji31z hle_; rw [Int.neg_one_mul] at h_; exact h_
                  have hji31yu : (wrap64 (-2 ^ min (ji29).toNat 64)) = ji31 := (i64_w _).symm.trans hji31u
                  have hji31xu : (ji29) ≤ 64 → (wrap64 (-2 ^ (ji29).toNat)) = ji31 := fun h_ => (i64_w _).symm.trans (hji31v h_)
                  have hji31y : (wrap64 ((-1) * 2 ^ min (ji29).toNat 64)) = ji31 := (i64_w _).symm.trans hji31_
                  have hji31x : (ji29) ≤ 64 → (wrap64 ((-1) * 2 ^ (ji29).toNat)) = ji31 := fun h_ => (i64_w _).symm.trans (hji31z h_)
                  by_cases c32 : a1 < (ji31)
                  · rw [if_pos c32] at H
                    have c32b0 : decide (a1 < (ji31)) = true := decide_eq_true c32
                    clear c32
                    have H' := Aside0.mk H
                    clear H
                    go_wp2
                    go_roundg k3
                    case measure => have := HJ4.out; have := HJ14.out; have := HK3.out; omega
                    case rel => exact ⟨(wrap64 (x11_3 + 1)), (by first | rfl | (simp; done) | (simp [*]; done)), H', ⟨by have := HJ4.out; have := HJ14.out; have := HK3.out; omega⟩, ⟨by repeat (first | (with_reducible first | exact HB.out | apply below_alloc | apply pw_below_drewN | apply below_drew1) | exact HB.out)⟩⟩
                  · rw [if_neg c32] at H
                    have c32b0 : decide (a1 < (ji31)) = false := decide_eq_false c32
                    clear c32
                    have c33b0 := eq_true (of_decide_eq_true (by first | (with_reducible assumption) | assumption) : 0 ≤ (ji29))
                    obtain ⟨ji34, hji34⟩ : ∃ j_ : Int, (shl .i64 1 (ji29)) = j_ := ⟨_, rfl⟩
                    replace H : (if a2 > (wrap64 ((ji34) - 1)) then (weftlaw1_NumWords.l0 k3 a0 a1 a2 t288 t289 (wrap64 (x11_3 + 1))) else ((weftlaw1_nums.f k3).bind fun t293 => (if t293 = true then ((num_Wrap.f a0).bind fun t294 => ((weftref1_Wrapped.f a0).bind fun t295 => (if t294 = t295 then (if t289 = 0 then (some (t288 == x11_3)) else (some false)) else (some false)))) else (some false)))) = some r := by first | (rw [hji34] at H; exact H) | (simp only [hji34] at H ⊢; exact H)
                    have hji34_ : (IntKind.i64.wrap (1 * 2 ^ min (ji29).toNat 64)) = ji34 := hji34
                    have hji34z : (ji29) ≤ 64 → (IntKind.i64.wrap (1 * 2 ^ (ji29).toNat)) = ji34 := shl_small hji34
                    have hji34u : (IntKind.i64.wrap (2 ^ min (ji29).toNat 64)) = ji34 := by have h_ := hji34_; rw [Int.one_mul] at h_; exact h_
                    have hji34v : (ji29) ≤ 64 → (IntKind.i64.wrap (2 ^ (ji29).toNat)) = ji34 := fun hle_ => by have h_ := hji34z hle_; rw [Int.one_mul] at h_; exact h_
                    have hji34yu : (wrap64 (2 ^ min (ji29).toNat 64)) = ji34 := (i64_w _).symm.trans hji34u
                    have hji34xu : (ji29) ≤ 64 → (wrap64 (2 ^ (ji29).toNat)) = ji34 := fun h_ => (i64_w _).symm.trans (hji34v h_)
                    have hji34y : (wrap64 (1 * 2 ^ min (ji29).toNat 64)) = ji34 := (i64_w _).symm.trans hji34_
                    have hji34x : (ji29) ≤ 64 → (wrap64 (1 * 2 ^ (ji29).toNat)) = ji34 := fun h_ => (i64_w _).symm.trans (hji34z h_)
                    by_cases c35 : a2 > (wrap64 ((ji34) - 1))
                    · rw [if_pos c35] at H
                      have c35b0 : decide ((wrap64 ((ji34) - 1)) < a2) = true := decide_eq_true c35
                      clear c35
                      have H' := Aside0.mk H
                      clear H
                      go_wp2
                      go_roundg k3
                      case measure => have := HJ4.out; have := HJ14.out; have := HK3.out; omega
                      case rel => exact ⟨(wrap64 (x11_3 + 1)), (by first | rfl | (simp; done) | (simp [*]; done)), H', ⟨by have := HJ4.out; have := HJ14.out; have := HK3.out; omega⟩, ⟨by repeat (first | (with_reducible first | exact HB.out | apply below_alloc | apply pw_below_drewN | apply below_drew1) | exact HB.out)⟩⟩
                    · rw [if_neg c35] at H
                      have c35b0 : decide ((wrap64 ((ji34) - 1)) < a2) = false := decide_eq_false c35
                      clear c35
                      replace H := Option.bind_eq_some_iff.mp H
                      obtain ⟨t293, A360, H⟩ := H
                      replace H : (if t293 = true then ((num_Wrap.f a0).bind fun t294 => ((weftref1_Wrapped.f a0).bind fun t295 => (if t294 = t295 then (if t289 = 0 then (some (t288 == x11_3)) else (some false)) else (some false)))) else (some false)) = some r := H
                      have A36 := Aside0.mk A360
                      clear A360
                      by_cases c37 : t293 = true
                      · subst c37
                        have H1 : ((num_Wrap.f a0).bind fun t294 => ((weftref1_Wrapped.f a0).bind fun t295 => (if t294 = t295 then (if t289 = 0 then (some (t288 == x11_3)) else (some false)) else (some false)))) = some r := by rw [if_pos rfl] at H; exact H
                        clear H
                        have H := H1
                        clear H1
                        replace H := Option.bind_eq_some_iff.mp H
                        obtain ⟨t294, A380, H⟩ := H
                        replace H : ((weftref1_Wrapped.f a0).bind fun t295 => (if t294 = t295 then (if t289 = 0 then (some (t288 == x11_3)) else (some false)) else (some false))) = some r := H
                        have A38 := Aside0.mk A380
                        clear A380
                        replace H := Option.bind_eq_some_iff.mp H
                        obtain ⟨t295, A390, H⟩ := H
                        replace H : (if t294 = t295 then (if t289 = 0 then (some (t288 == x11_3)) else (some false)) else (some false)) = some r := H
                        have A39 := Aside0.mk A390
                        clear A390
                        by_cases c40 : t294 = t295
                        · rw [if_pos c40] at H
                          have c40b0 : (t294 == t295) = true := beq_iff_eq.mpr c40
                          have c40b1 : (t294 != t295) = false := bne_eq_false_iff_eq.mpr c40
                          clear c40
                          by_cases c41 : t289 = 0
                          · rw [if_pos c41] at H
                            have c41b0 : (t289 == 0) = true := beq_iff_eq.mpr c41
                            have c41b1 : (t289 != 0) = false := bne_eq_false_iff_eq.mpr c41
                            clear c41
                            obtain rfl := Option.some.inj H
                            go_wp2_with (first | ((with_reducible refine gate_callee (f := 20) rfl ?_); refine goesL_ (some 100) rfl rfl Tryz.func20 (by kernel_rfl) rfl #[] rfl (by (try simp only [List.map_toArray, List.map_cons, List.map_nil]); first | done | rfl | (simp only [List.length_drop, List.length_take]; rfl)) ?_; (with_reducible refine (weftlaw1_nums.calls k3  true _ ?side1 A36.out).mono ?_); (case side1 => exact Tryz.Gl.below HG.out (by repeat (first | (with_reducible first | exact HB.out | apply below_alloc | apply pw_below_drewN | apply below_drew1) | exact HB.out))); rintro e w42 ⟨rfl, hb⟩; refine ⟨_, rfl, ?_⟩; have n0_ := Aside0.mk (below_step (by repeat (first | (with_reducible first | exact HB.out | apply below_alloc | apply pw_below_drewN | apply below_drew1) | exact HB.out)) hb); clear HB; have HB := n0_; clear n0_; (try clear hb); (try clear hb2); (try clear hk); (try clear hi)) | (go_at_call 28; (with_reducible refine (num_Wrap.calls a0 t294 _ A38.out).mono ?_); rintro e w' ⟨rfl, ⟨nd, rfl⟩⟩) | (go_at_call 29; (with_reducible refine (weftref1_Wrapped.calls a0 t295 _ A39.out).mono ?_); rintro e w' ⟨rfl, ⟨nd, rfl⟩⟩))
                            go_ret
                            exact ⟨by first | rfl | (simp [errW_none, errW_some] <;> rfl) | (simp only [← hji29, ← hji31, ← hji34]; first | rfl | (simp [errW_none, errW_some] <;> rfl)) | (simp [*, errW_none, errW_some] <;> rfl), by repeat (first | (with_reducible first | exact HB.out | apply below_alloc | apply pw_below_drewN | apply below_drew1) | exact HB.out)⟩
                          · rw [if_neg c41] at H
                            have c41b0 : (t289 == 0) = false := beq_eq_false_iff_ne.mpr c41
                            have c41b1 : (t289 != 0) = true := bne_iff_ne.mpr c41
                            obtain rfl := Option.some.inj H
                            go_wp2_with (first | ((with_reducible refine gate_callee (f := 20) rfl ?_); refine goesL_ (some 100) rfl rfl Tryz.func20 (by kernel_rfl) rfl #[] rfl (by (try simp only [List.map_toArray, List.map_cons, List.map_nil]); first | done | rfl | (simp only [List.length_drop, List.length_take]; rfl)) ?_; (with_reducible refine (weftlaw1_nums.calls k3  true _ ?side1 A36.out).mono ?_); (case side1 => exact Tryz.Gl.below HG.out (by repeat (first | (with_reducible first | exact HB.out | apply below_alloc | apply pw_below_drewN | apply below_drew1) | exact HB.out))); rintro e w43 ⟨rfl, hb⟩; refine ⟨_, rfl, ?_⟩; have n0_ := Aside0.mk (below_step (by repeat (first | (with_reducible first | exact HB.out | apply below_alloc | apply pw_below_drewN | apply below_drew1) | exact HB.out)) hb); clear HB; have HB := n0_; clear n0_; (try clear hb); (try clear hb2); (try clear hk); (try clear hi)) | (go_at_call 28; (with_reducible refine (num_Wrap.calls a0 t294 _ A38.out).mono ?_); rintro e w' ⟨rfl, ⟨nd, rfl⟩⟩) | (go_at_call 29; (with_reducible refine (weftref1_Wrapped.calls a0 t295 _ A39.out).mono ?_); rintro e w' ⟨rfl, ⟨nd, rfl⟩⟩))
                            go_ret
                            exact ⟨by first | rfl | (simp [errW_none, errW_some] <;> rfl) | (simp only [← hji29, ← hji31, ← hji34]; first | rfl | (simp [errW_none, errW_some] <;> rfl)) | (simp [*, errW_none, errW_some] <;> rfl), by repeat (first | (with_reducible first | exact HB.out | apply below_alloc | apply pw_below_drewN | apply below_drew1) | exact HB.out)⟩
                        · rw [if_neg c40] at H
                          have c40b0 : (t294 == t295) = false := beq_eq_false_iff_ne.mpr c40
                          have c40b1 : (t294 != t295) = true := bne_iff_ne.mpr c40
                          obtain rfl := Option.some.inj H
                          go_wp2_with (first | ((with_reducible refine gate_callee (f := 20) rfl ?_); refine goesL_ (some 100) rfl rfl Tryz.func20 (by kernel_rfl) rfl #[] rfl (by (try simp only [List.map_toArray, List.map_cons, List.map_nil]); first | done | rfl | (simp only [List.length_drop, List.length_take]; rfl)) ?_; (with_reducible refine (weftlaw1_nums.calls k3  true _ ?side1 A36.out).mono ?_); (case side1 => exact Tryz.Gl.below HG.out (by repeat (first | (with_reducible first | exact HB.out | apply below_alloc | apply pw_below_drewN | apply below_drew1) | exact HB.out))); rintro e w44 ⟨rfl, hb⟩; refine ⟨_, rfl, ?_⟩; have n0_ := Aside0.mk (below_step (by repeat (first | (with_reducible first | exact HB.out | apply below_alloc | apply pw_below_drewN | apply below_drew1) | exact HB.out)) hb); clear HB; have HB := n0_; clear n0_; (try clear hb); (try clear hb2); (try clear hk); (try clear hi)) | (go_at_call 28; (with_reducible refine (num_Wrap.calls a0 t294 _ A38.out).mono ?_); rintro e w' ⟨rfl, ⟨nd, rfl⟩⟩) | (go_at_call 29; (with_reducible refine (weftref1_Wrapped.calls a0 t295 _ A39.out).mono ?_); rintro e w' ⟨rfl, ⟨nd, rfl⟩⟩))
                          go_ret
                          exact ⟨by first | rfl | (simp [errW_none, errW_some] <;> rfl) | (simp only [← hji29, ← hji31, ← hji34]; first | rfl | (simp [errW_none, errW_some] <;> rfl)) | (simp [*, errW_none, errW_some] <;> rfl), by repeat (first | (with_reducible first | exact HB.out | apply below_alloc | apply pw_below_drewN | apply below_drew1) | exact HB.out)⟩
                      · replace c37 := Bool.eq_false_iff.mpr c37
                        subst c37
                        have H1 : (some false) = some r := by rw [if_neg (show ¬ (false = true) by decide)] at H; exact H
                        clear H
                        have H := H1
                        clear H1
                        obtain rfl := Option.some.inj H
                        go_wp2_with (first | ((with_reducible refine gate_callee (f := 20) rfl ?_); refine goesL_ (some 100) rfl rfl Tryz.func20 (by kernel_rfl) rfl #[] rfl (by (try simp only [List.map_toArray, List.map_cons, List.map_nil]); first | done | rfl | (simp only [List.length_drop, List.length_take]; rfl)) ?_; (with_reducible refine (weftlaw1_nums.calls k3  false _ ?side1 A36.out).mono ?_); (case side1 => exact Tryz.Gl.below HG.out (by repeat (first | (with_reducible first | exact HB.out | apply below_alloc | apply pw_below_drewN | apply below_drew1) | exact HB.out))); rintro e w45 ⟨rfl, hb⟩; refine ⟨_, rfl, ?_⟩; have n0_ := Aside0.mk (below_step (by repeat (first | (with_reducible first | exact HB.out | apply below_alloc | apply pw_below_drewN | apply below_drew1) | exact HB.out)) hb); clear HB; have HB := n0_; clear n0_; (try clear hb); (try clear hb2); (try clear hk); (try clear hi)))
                        go_ret
                        exact ⟨by first | rfl | (simp [errW_none, errW_some] <;> rfl) | (simp only [← hji29, ← hji31, ← hji34]; first | rfl | (simp [errW_none, errW_some] <;> rfl)) | (simp [*, errW_none, errW_some] <;> rfl), by repeat (first | (with_reducible first | exact HB.out | apply below_alloc | apply pw_below_drewN | apply below_drew1) | exact HB.out)⟩
                · rw [if_neg c30] at H
                  exact absurd H (by simp)

/-- THE ONE PURE STATEMENT of weftlaw1_NumWords: yours. -/
def weftlaw1_NumWords.Pure : Prop := ∀ (a0 : Int) (a1 : Int) (a2 : Int), (Lit.int .i64 a0).wf = true → (Lit.int .i64 a1).wf = true → (Lit.int .i64 a2).wf = true → ∃ k, weftlaw1_NumWords.f k a0 a1 a2 = some true
theorem weftlaw1_NumWords.walk (P : weftlaw1_NumWords.Pure) (a0 : Int) (a1 : Int) (a2 : Int) (w : World) (w0 : (Lit.int .i64 a0).wf = true) (w1 : (Lit.int .i64 a1).wf = true) (w2 : (Lit.int .i64 a2).wf = true) (hG : Tryz.Gl w) :
    Calls Tryz.prog 5 #[.int .i64 a0, .int .i64 a1, .int .i64 a2] w fun e w' => e = .returned (.bool true) ∧ Below w.heap.size w w' := by
  obtain ⟨k, h⟩ := P a0 a1 a2 w0 w1 w2
  refine (weftlaw1_NumWords.calls k a0 a1 a2 true w hG h).mono ?_
  rintro e w' ⟨rfl, hd⟩
  exact ⟨rfl, hd⟩

end Go.Proofs.YtaffkbemjbfajaaGreatDoor.PNumWords
