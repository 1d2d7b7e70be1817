/-
  The pure statement of NumRounds: for all ints the rounding of the program and that of the reference agree (and the errors are as specified). No condition.
-/
import Derived.Test.YtaffkbemjbfajaaGreatDoorPNumRoundsx
import Derived.Test.YtaffkbemjbfajaaGreatDoorNum
namespace Go.Proofs.YtaffkbemjbfajaaGreatDoor.Pure
open Go.RowKit Go.Proofs.YtaffkbemjbfajaaGreatDoor.PNumRounds Go.Proofs.YtaffkbemjbfajaaGreatDoor.Num Go.Proofs.YtaffkbemjbfajaaGreatDoorW.PrintWords Go.Proofs.YtaffkbemjbfajaaGreatDoorW.PrintLast

set_option maxRecDepth 100000 in
theorem nums_true : weftlaw1_nums.f 40 = some true := by decide +kernel

/-- One rounding: what the program's shift and what the reference's division come to. -/
theorem round_one (x m s : Int) (hx0 : -2147483648 ≤ x) (hx1 : x ≤ 2147483647) (hm0 : 0 ≤ m) (hm1 : m ≤ 2147483647) (hs0 : 1 ≤ s) (hs1 : s ≤ 62) :
    ∃ v : Int, -9223372036854775808 ≤ v ∧ v ≤ 9223372036854775807 ∧
      num_Round.f x m s = some (mn (mx v (-2147483648)) 2147483647, 0) ∧ weftref1_Rounded.f x m s = some (mx (-2147483648) (mn v 2147483647)) := by
  have hb := mul_range (x := x) (m := m) (a := 2147483648) (b := 2147483647) (by omega) (by omega) hm0 hm1 (by omega)
  obtain ⟨n, rfl⟩ : ∃ n : Nat, s = (n : Int) + 1 := ⟨(s - 1).toNat, by omega⟩
  have hn : n ≤ 61 := by omega
  have hp0 := pow2_pos n
  have hp1 := pow2_le hn
  have hp1' : (2 : Int) ^ 61 = 2305843009213693952 := by decide
  rw [hp1'] at hp1
  have hps : (2 : Int) ^ (n + 1) = 2 * 2 ^ n := by rw [Int.pow_succ]; omega
  generalize hP : (2 : Int) ^ n = p at *
  have hw1 : wrap64 ((n : Int) + 1 - 1) = n := by unfold wrap64; omega
  have hsh1 : shl .i64 1 (n : Int) = p := by
    show IntKind.i64.wrap (1 * 2 ^ min (Int.toNat (n : Int)) 64) = p
    rw [i64w, Int.toNat_natCast, Nat.min_eq_left (by omega), hP, w64 (by omega) (by omega)]; omega
  have hsh2 : shl .i64 1 ((n : Int) + 1) = 2 * p := by
    show IntKind.i64.wrap (1 * 2 ^ min (Int.toNat ((n : Int) + 1)) 64) = 2 * p
    rw [i64w, show ((n : Int) + 1).toNat = n + 1 from by omega, Nat.min_eq_left (by omega), hps, w64 (by omega) (by omega)]; omega
  have hxm : wrap64 (x * m) = x * m := w64 (by omega) (by omega)
  have hsum : wrap64 (x * m + p) = x * m + p := w64 (by omega) (by omega)
  have hshr : shr .i64 (x * m + p) ((n : Int) + 1) = (x * m + p) / (2 * p) := by
    show (x * m + p) / 2 ^ min (Int.toNat ((n : Int) + 1)) 64 = _
    rw [show ((n : Int) + 1).toNat = n + 1 from by omega, Nat.min_eq_left (by omega), hps]
  have hfd := floor_tdiv (x * m + p) (2 * p) (by omega)
  have hr := tdiv_range (x * m + p) (2 * p) (by omega)
  refine ⟨(x * m + p) / (2 * p), ?_, ?_, ?_, ?_⟩
  · rw [← hfd]; split <;> omega
  · rw [← hfd]; split <;> omega
  · unfold num_Round.f num_isWord.f
    rw [if_pos (by omega)]
    simp only [Option.bind_some]
    rw [if_pos (by simp; omega), if_neg (by omega), if_neg (by omega), if_neg (by omega), if_neg (by omega), hw1, if_pos (by omega), if_pos (by omega), hsh1, hxm, hsum, hshr]
  · unfold weftref1_Rounded.f weftref1_floorDiv.f weftref1_Within.f
    rw [hw1, if_pos (by omega), if_pos (by omega), hsh1, hsh2, hxm, hsum, if_neg (by omega)]
    rw [show wrap64 (Int.tdiv (x * m + p) (2 * p)) = Int.tdiv (x * m + p) (2 * p) from w64 (by omega) (by omega)]
    rw [← hfd]
    by_cases c : Int.tmod (x * m + p) (2 * p) < 0
    · rw [if_pos c, if_pos c]
      rw [w64 (by omega) (by omega)]
      rfl
    · rw [if_neg c, if_neg c]
      rfl

theorem NumRounds : weftlaw1_NumRounds.Pure := by
  intro x m s wx wm ws
  have bx := wfb wx
  have bm := wfb wm
  have bs := wfb ws
  refine ⟨41, ?_⟩
  unfold weftlaw1_NumRounds.f
  by_cases c : -2147483648 ≤ x ∧ x ≤ 2147483647 ∧ 0 ≤ m ∧ m ≤ 2147483647 ∧ 1 ≤ s ∧ s ≤ 62
  · obtain ⟨h1, h2, h3, h4, h5, h6⟩ := c
    obtain ⟨v, _, _, e1, e2⟩ := round_one x m s h1 h2 h3 h4 h5 h6
    rw [e1]
    simp only [Option.bind_some]
    rw [if_neg (by omega), if_neg (by omega), if_neg (by omega), if_neg (by omega), if_neg (by omega), show decide (s > 62) = false from decide_eq_false (by omega)]
    simp only [weftlaw1_NumRounds.j0, nums_true, Option.bind_some, e2]
    have : mn (mx v (-2147483648)) 2147483647 = mx (-2147483648) (mn v 2147483647) := by unfold mn mx; omega
    simp [this]
  · have e1 : num_Round.f x m s = some (0, 1) := by
      unfold num_Round.f num_isWord.f
      by_cases h1 : x ≥ -2147483648
      · rw [if_pos h1]
        simp only [Option.bind_some]
        by_cases h2 : x ≤ 2147483647
        · rw [if_pos (by simpa using h2)]
          by_cases h3 : m < 0
          · rw [if_pos h3]
          rw [if_neg h3]
          by_cases h4 : m > 2147483647
          · rw [if_pos h4]
          rw [if_neg h4]
          by_cases h5 : s < 1
          · rw [if_pos h5]
          rw [if_neg h5, if_pos (by omega)]
        · rw [if_neg (by simpa using h2)]
      · rw [if_neg h1]; rfl
    rw [e1]
    simp only [Option.bind_some]
    have ej : weftlaw1_NumRounds.j0 41 x m s 0 1 true = some true := by
      simp [weftlaw1_NumRounds.j0, nums_true]
    by_cases h1 : x < -2147483648
    · rw [if_pos h1]; exact ej
    rw [if_neg h1]
    by_cases h2 : x > 2147483647
    · rw [if_pos h2]; exact ej
    rw [if_neg h2]
    by_cases h3 : m < 0
    · rw [if_pos h3]; exact ej
    rw [if_neg h3]
    by_cases h4 : m > 2147483647
    · rw [if_pos h4]; exact ej
    rw [if_neg h4]
    by_cases h5 : s < 1
    · rw [if_pos h5]; exact ej
    rw [if_neg h5, show decide (s > 62) = true from decide_eq_true (by omega)]
    exact ej

end Go.Proofs.YtaffkbemjbfajaaGreatDoor.Pure
