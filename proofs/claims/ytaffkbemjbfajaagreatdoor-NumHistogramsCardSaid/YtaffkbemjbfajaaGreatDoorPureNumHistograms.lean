/-
  The pure statement of NumHistograms: for all lists Histogram is as specified. No condition. No condition.
-/
import Derived.Test.YtaffkbemjbfajaaGreatDoorPNumHistogramsx
import Derived.Test.YtaffkbemjbfajaaGreatDoorNum
namespace Go.Proofs.YtaffkbemjbfajaaGreatDoor.Pure
open Go.RowKit Go.Proofs.YtaffkbemjbfajaaGreatDoor.PNumHistograms Go.Proofs.YtaffkbemjbfajaaGreatDoor.Num Go.Proofs.YtaffkbemjbfajaaGreatDoorW.PrintWords Go.Proofs.YtaffkbemjbfajaaGreatDoorW.PrintLast

set_option maxRecDepth 100000 in
theorem nums_true : weftlaw1_nums.f 40 = some true := by decide +kernel
theorem nums_up : ∀ d, weftlaw1_nums.f (40 + d) = some true
  | 0 => nums_true
  | d + 1 => weftlaw1_nums.mono (40 + d) _ (nums_up d)
theorem nums_at (k : Nat) (h : 40 ≤ k) : weftlaw1_nums.f k = some true := by
  obtain ⟨d, rfl⟩ : ∃ d, k = 40 + d := ⟨k - 40, by omega⟩
  exact nums_up d

theorem equal_self (xs : List Int) (hl : xs.length ≤ 140737488355328) : ∀ (d k : Nat) (i : Int), 0 ≤ i → i ≤ xs.length → (xs.length : Int) - i = d → d < k → slices_Equal_int_int.l0 k xs xs (xs.length : Int) i = some true := by
  intro d
  induction d with
  | zero =>
    intro k i h0 h1 hd hk
    obtain ⟨k, rfl⟩ : ∃ m, k = m + 1 := ⟨k - 1, by omega⟩
    simp only [slices_Equal_int_int.l0]
    rw [if_neg (by omega)]
  | succ d ih =>
    intro k i h0 h1 hd hk
    obtain ⟨k, rfl⟩ : ∃ m, k = m + 1 := ⟨k - 1, by omega⟩
    simp only [slices_Equal_int_int.l0]
    rw [if_pos (by omega), if_pos (by omega), if_pos (by omega), if_pos (by omega), if_pos trivial, w64 (by omega) (by omega)]
    exact ih k (i + 1) (by omega) (by omega) (by omega) (by omega)
theorem equal_f (xs : List Int) (hl : xs.length ≤ 140737488355328) (k : Nat) (hk : xs.length < k) : slices_Equal_int_int.f k xs xs = some true := by
  unfold slices_Equal_int_int.f
  rw [if_pos rfl]
  exact equal_self xs hl xs.length k 0 (by omega) (by omega) (by omega) hk

theorem hist_idx (lo hi bins x : Int) (h1 : -2147483648 ≤ lo) (h2 : hi ≤ 2147483647) (hx1 : lo ≤ x) (hx2 : x ≤ hi) (hb1 : 1 ≤ bins) (hb2 : bins ≤ 1024) :
    ∃ m : Nat, wrap64 (wrap64 (hi - lo) + 1) ≠ 0 ∧ wrap64 (Int.tdiv (wrap64 (wrap64 (x - lo) * bins)) (wrap64 (wrap64 (hi - lo) + 1))) = (m : Int) ∧ (m : Int) < bins := by
  obtain ⟨m1, m2⟩ := mul_range (x := x - lo) (m := bins) (a := 4294967295) (b := 1024) (by omega) (by omega) (by omega) (by omega) (by decide)
  have e1 : wrap64 (x - lo) = x - lo := w64 (by omega) (by omega)
  have e2 : wrap64 (hi - lo) = hi - lo := w64 (by omega) (by omega)
  have e3 : wrap64 (hi - lo + 1) = hi - lo + 1 := w64 (by omega) (by omega)
  have hn : 0 ≤ (x - lo) * bins := Int.mul_nonneg (by omega) (by omega)
  have e4 : wrap64 ((x - lo) * bins) = (x - lo) * bins := w64 (by omega) (by omega)
  rw [e1, e2, e3, e4, tdiv_nonneg_eq hn]
  have hq0 : 0 ≤ (x - lo) * bins / (hi - lo + 1) := Int.ediv_nonneg hn (by omega)
  have hq1 : (x - lo) * bins / (hi - lo + 1) < bins := by
    apply Int.ediv_lt_of_lt_mul (by omega)
    have a1 : (x - lo) * bins ≤ (hi - lo) * bins := Int.mul_le_mul_of_nonneg_right (by omega) (by omega)
    have a2 : (hi - lo) * bins < (hi - lo + 1) * bins := Int.mul_lt_mul_of_pos_right (by omega) (by omega)
    rw [Int.mul_comm bins]
    omega
  refine ⟨((x - lo) * bins / (hi - lo + 1)).toNat, by omega, ?_, by omega⟩
  rw [Int.toNat_of_nonneg hq0]
  exact w64 (by omega) (by omega)

theorem hist_loop (lo hi bins : Int) (h1 : -2147483648 ≤ lo) (_h12 : lo ≤ hi) (h2 : hi ≤ 2147483647) (hb1 : 1 ≤ bins) (hb2 : bins ≤ 1024) (xs : List Int) (hl : xs.length ≤ 17592186044416) (K : Nat) (hK : bins.toNat + 50 ≤ K) :
    ∀ (d k k' i : Nat) (out : List Int), xs.length - i = d → i ≤ xs.length → d < k → d + K < k' → (out.length : Int) = bins →
    ∃ res, num_Histogram.l0 k lo hi bins out xs (xs.length : Int) (i : Int) = some (res, 0) ∧ weftlaw1_NumHistograms.l0 k' lo hi bins res 0 out xs (xs.length : Int) (i : Int) = some true := by
  intro d
  induction d with
  | zero =>
    intro k k' i out hd hi' hk hk' hout
    obtain ⟨k, rfl⟩ : ∃ m, k = m + 1 := ⟨k - 1, by omega⟩
    obtain ⟨k', rfl⟩ : ∃ m, k' = m + 1 := ⟨k' - 1, by omega⟩
    refine ⟨out, ?_, ?_⟩
    · simp only [num_Histogram.l0]
      rw [if_neg (by omega)]
    · simp only [weftlaw1_NumHistograms.l0]
      rw [if_neg (by omega), nums_at k' (by omega)]
      simp only [Option.bind_some]
      rw [if_pos trivial, if_pos trivial, equal_f out (by omega) k' (by omega)]
      rfl
  | succ d ih =>
    intro k k' i out hd hi' hk hk' hout
    obtain ⟨k, rfl⟩ : ∃ m, k = m + 1 := ⟨k - 1, by omega⟩
    obtain ⟨k', rfl⟩ : ∃ m, k' = m + 1 := ⟨k' - 1, by omega⟩
    have g1 : -9223372036854775808 ≤ (i : Int) + 1 := by omega
    have g2 : (i : Int) + 1 ≤ 9223372036854775807 := by omega
    have g3 : d < k := by omega
    have g4 : d + K < k' := by omega
    have g5 : xs.length - (i + 1) = d := by omega
    have g6 : i + 1 ≤ xs.length := by omega
    have hA : (i : Int) < (xs.length : Int) := by omega
    have hB : 0 ≤ (i : Int) := by omega
    simp only [num_Histogram.l0, weftlaw1_NumHistograms.l0, if_pos hA, if_pos hB]
    generalize rd xs (i : Int) = x
    by_cases c1 : x ≥ lo
    · by_cases c2 : x ≤ hi
      · obtain ⟨m, z, e, hm⟩ := hist_idx lo hi bins x h1 h2 c1 c2 hb1 hb2
        have hC : 0 ≤ (m : Int) := by omega
        have hD : (m : Int) < (out.length : Int) := by omega
        simp only [if_pos c1, if_pos c2, if_neg z, e, if_pos hC, if_pos hD, w64 g1 g2]
        exact ih k k' (i + 1) _ g5 g6 g3 g4 (by rw [List.length_set]; exact hout)
      · simp only [if_pos c1, if_neg c2, w64 g1 g2]
        exact ih k k' (i + 1) _ g5 g6 g3 g4 hout
    · simp only [if_neg c1, w64 g1 g2]
      exact ih k k' (i + 1) _ g5 g6 g3 g4 hout

theorem bad_true (k : Nat) (hk : 42 ≤ k) (xs : List Int) (lo hi bins : Int) : weftlaw1_NumHistograms.j0 k xs lo hi bins [] 1 true = some true := by
  obtain ⟨k, rfl⟩ : ∃ m, k = m + 1 := ⟨k - 1, by omega⟩
  simp only [weftlaw1_NumHistograms.j0]
  rw [if_pos trivial, nums_at k (by omega)]
  rfl
theorem num_bad (k : Nat) (xs : List Int) (lo hi bins : Int) : num_Histogram.j0 (k + 1) xs lo hi bins true = some ([], 1) := by
  simp only [num_Histogram.j0]
  rw [if_pos trivial]

theorem NumHistograms : weftlaw1_NumHistograms.Pure := by
  intro xs lo hi bins _ h8 _ wlo whi wb
  have hL : xs.length ≤ 17592186044416 := by omega
  have := wfb wlo; have := wfb whi; have := wfb wb
  refine ⟨xs.length + (bins.toNat + 50) + 3, ?_⟩
  unfold weftlaw1_NumHistograms.f num_Histogram.f
  by_cases a : lo < -2147483648
  · simp only [if_pos a]; rw [num_bad]; exact bad_true (xs.length + (bins.toNat + 50) + 3) (by omega) xs lo hi bins
  simp only [if_neg a]
  by_cases b : lo > hi
  · simp only [if_pos b]; rw [num_bad]; exact bad_true (xs.length + (bins.toNat + 50) + 3) (by omega) xs lo hi bins
  simp only [if_neg b]
  by_cases c : hi > 2147483647
  · simp only [if_pos c]; rw [num_bad]; exact bad_true (xs.length + (bins.toNat + 50) + 3) (by omega) xs lo hi bins
  simp only [if_neg c]
  by_cases d : bins < 1
  · simp only [if_pos d]; rw [num_bad]; exact bad_true (xs.length + (bins.toNat + 50) + 3) (by omega) xs lo hi bins
  simp only [if_neg d]
  by_cases e : bins > 1024
  · rw [decide_eq_true e, num_bad]; exact bad_true (xs.length + (bins.toNat + 50) + 3) (by omega) xs lo hi bins
  rw [decide_eq_false e]
  generalize hF : xs.length + (bins.toNat + 50) + 3 = F
  obtain ⟨F, rfl⟩ : ∃ m, F = m + 1 := ⟨F - 1, by omega⟩
  have pe : slices_ContainsFunc_int_int_at_num_Histogram_1.p = slices_ContainsFunc_int_int_at_weftlaw1_NumHistograms_1.p := rfl
  simp only [num_Histogram.j0, weftlaw1_NumHistograms.j0, slices_ContainsFunc_int_int_at_num_Histogram_1.f, slices_ContainsFunc_int_int_at_weftlaw1_NumHistograms_1.f, pe]
  rw [if_pos (show xs.length < 35184372088832 by omega), if_neg (by decide)]
  generalize hq : xs.any slices_ContainsFunc_int_int_at_weftlaw1_NumHistograms_1.p = q
  cases q with
  | true =>
    simp only [Option.bind_some]
    rw [if_pos trivial]
    simp only [Option.bind_some]
    rw [if_neg (by decide), if_pos trivial, nums_at _ (by omega)]
    rfl
  | false =>
    simp only [Option.bind_some]
    rw [if_neg (by decide), if_pos (by omega), if_pos (by omega)]
    obtain ⟨res, e1, e2⟩ := hist_loop lo hi bins (by omega) (by omega) (by omega) (by omega) (by omega) xs hL (bins.toNat + 50) (by omega) xs.length F F 0 (List.replicate bins.toNat 0) (by omega) (by omega) (by omega) (by omega) (by rw [List.length_replicate]; omega)
    rw [show ((0 : Nat) : Int) = 0 from rfl] at e1 e2
    rw [e1]
    simp only [Option.bind_some]
    rw [if_neg (by decide), if_neg (by decide), if_pos (by omega), if_pos (by omega)]
    exact e2

end Go.Proofs.YtaffkbemjbfajaaGreatDoor.Pure
