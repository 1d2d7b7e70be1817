/-
  The pure statement of NumWords: for all ints Wrap, Root and Bits are as specified. No condition.
-/
import Derived.Test.YtaffkbemjbfajaaGreatDoorPNumWordsx
import Derived.Test.YtaffkbemjbfajaaGreatDoorNum
namespace Go.Proofs.YtaffkbemjbfajaaGreatDoor.Pure
open Go.RowKit Go.Proofs.YtaffkbemjbfajaaGreatDoor.PNumWords Go.Proofs.YtaffkbemjbfajaaGreatDoor.Num Go.Proofs.YtaffkbemjbfajaaGreatDoorW.PrintWords Go.Proofs.YtaffkbemjbfajaaGreatDoorW.PrintLast

set_option maxRecDepth 100000 in
theorem nums_true : weftlaw1_nums.f 40 = some true := by decide +kernel
theorem nums_up : ∀ d, weftlaw1_nums.f (40 + d) = some true
  | 0 => nums_true
  | d + 1 => weftlaw1_nums.mono (40 + d) _ (nums_up d)
theorem nums_at (k : Nat) (h : 40 ≤ k) : weftlaw1_nums.f k = some true := by
  obtain ⟨d, rfl⟩ : ∃ d, k = 40 + d := ⟨k - 40, by omega⟩
  exact nums_up d

theorem sq_le {a b : Int} (h0 : 0 ≤ a) (h : a ≤ b) : a * a ≤ b * b :=
  Int.le_trans (Int.mul_le_mul_of_nonneg_left h h0) (Int.mul_le_mul_of_nonneg_right h (by omega))
theorem root_small {r n : Int} (_h0 : 0 ≤ r) (h : r * r ≤ n) (hn : n ≤ 9223372036854775807) : r ≤ 3037000499 := by
  refine Int.not_lt.1 fun c => ?_
  have := sq_le (a := 3037000500) (b := r) (by omega) (by omega)
  omega
theorem root_loop (n : Int) (hn0 : 0 ≤ n) (hn1 : n ≤ 9223372036854775807) : ∀ (j : Nat), j ≤ 31 → ∀ (k : Nat) (r : Int), j + 1 < k → 0 ≤ r → r * r ≤ n → n < (r + 2 * 2 ^ j) * (r + 2 * 2 ^ j) →
    ∃ q, num_Root.l0 k n r (2 ^ j) = some (q, 0) ∧ 0 ≤ q ∧ q * q ≤ n ∧ n < (q + 1) * (q + 1) := by
  intro j
  induction j with
  | zero =>
    intro _ k r hk h0 h1 h2
    obtain ⟨k, rfl⟩ : ∃ m, k = m + 2 := ⟨k - 2, by omega⟩
    have hr := root_small h0 h1 hn1
    have hx : wrap64 (r + 1) = r + 1 := w64 (by omega) (by omega)
    have hb0 : 0 ≤ n / (r + 1) := Int.ediv_nonneg hn0 (by omega)
    have hb1 : n / (r + 1) ≤ n := Int.ediv_le_self _ hn0
    have hc : r + 1 ≤ n / (r + 1) ↔ (r + 1) * (r + 1) ≤ n := Int.le_ediv_iff_mul_le (by omega)
    simp only [num_Root.l0, Int.pow_zero]
    rw [if_pos (by omega), hx, if_neg (by omega), tdiv_nonneg_eq hn0, w64 (n := n / (r + 1)) (by omega) (by omega)]
    by_cases c : (r + 1) * (r + 1) ≤ n
    · rw [if_pos (hc.2 c), if_neg (by decide)]
      exact ⟨r + 1, rfl, by omega, c, by simpa [Int.add_assoc] using h2⟩
    · rw [if_neg (fun e => c (hc.1 e)), if_neg (by decide)]
      exact ⟨r, rfl, h0, h1, by omega⟩
  | succ j ih =>
    intro hj k r hk h0 h1 h2
    obtain ⟨k, rfl⟩ : ∃ m, k = m + 1 := ⟨k - 1, by omega⟩
    have hr := root_small h0 h1 hn1
    have hp0 := pow2_pos j
    have hp1 : (2 : Int) ^ j ≤ 2 ^ 30 := pow2_le (by omega)
    have hp1' : (2 : Int) ^ 30 = 1073741824 := by decide
    rw [hp1'] at hp1
    have hps : (2 : Int) ^ (j + 1) = 2 * 2 ^ j := by rw [Int.pow_succ]; omega
    have hdiv : (2 * (2 : Int) ^ j) / 2 = 2 ^ j := by omega
    rw [hps] at h2 ⊢
    have ih' := ih (by omega) k
    generalize (2 : Int) ^ j = p at *
    have hx : wrap64 (r + 2 * p) = r + 2 * p := w64 (by omega) (by omega)
    have hb0 : 0 ≤ n / (r + 2 * p) := Int.ediv_nonneg hn0 (by omega)
    have hb1 : n / (r + 2 * p) ≤ n := Int.ediv_le_self _ hn0
    have hc : r + 2 * p ≤ n / (r + 2 * p) ↔ (r + 2 * p) * (r + 2 * p) ≤ n := Int.le_ediv_iff_mul_le (by omega)
    simp only [num_Root.l0]
    rw [if_pos (by omega), hx, if_neg (by omega), tdiv_nonneg_eq hn0, w64 (n := n / (r + 2 * p)) (by omega) (by omega), hdiv]
    by_cases c : (r + 2 * p) * (r + 2 * p) ≤ n
    · rw [if_pos (hc.2 c)]
      exact ih' (r + 2 * p) (by omega) (by omega) c (by rw [show r + 2 * p + 2 * p = r + 2 * (2 * p) by omega]; exact h2)
    · rw [if_neg (fun e => c (hc.1 e))]
      exact ih' r (by omega) h0 h1 (by omega)
theorem root_f (n : Int) (hn0 : 0 ≤ n) (hn1 : n ≤ 9223372036854775807) (k : Nat) (hk : 33 < k) : ∃ q, num_Root.f k n = some (q, 0) ∧ 0 ≤ q ∧ q * q ≤ n ∧ n < (q + 1) * (q + 1) := by
  have := root_loop n hn0 hn1 31 (by omega) k 0 (by omega) (by omega) (by omega) (by
    have : (2 : Int) ^ 31 = 2147483648 := by decide
    rw [this]; omega)
  obtain ⟨q, e, h⟩ := this
  refine ⟨q, ?_, h⟩
  unfold num_Root.f
  rw [if_neg (by omega)]
  have e31 : (2 : Int) ^ 31 = 2147483648 := by decide
  rw [e31] at e
  exact e
theorem wrap_same (n : Int) : wrap64 (wrap32 n) = wrap64 (wrap32 (n % 4294967296)) := by unfold wrap64 wrap32; omega
theorem bits_loop (n lo hi : Int) (h1 : -2147483648 ≤ lo) (h2 : hi ≤ 2147483647) (K : Nat) (hK : 200 ≤ K) : ∀ (d k k' : Nat) (b : Int), 1 ≤ b → b ≤ 32 → 32 - b = d → d < k → d + K < k' →
    ∃ r, num_Bits.l0 k lo hi b = some (r, 0) ∧ weftlaw1_NumWords.l0 k' n lo hi r 0 b = some true := by
  intro d
  induction d with
  | zero =>
    intro k k' b hb0 hb1 hd hk hk'
    obtain rfl : b = 32 := by omega
    obtain ⟨k, rfl⟩ : ∃ m, k = m + 1 := ⟨k - 1, by omega⟩
    obtain ⟨k', rfl⟩ : ∃ m, k' = m + 1 := ⟨k' - 1, by omega⟩
    have s1 : shl .i64 (-1) 31 = -2147483648 := by decide
    have s2 : wrap64 (shl .i64 1 31 - 1) = 2147483647 := by rw [show shl .i64 1 31 = 2147483648 by decide]; unfold wrap64; omega
    have w31 : wrap64 (32 - 1) = 31 := by unfold wrap64; omega
    refine ⟨32, ?_, ?_⟩
    · simp only [num_Bits.l0]
      rw [w31, if_pos (by omega), s1, if_neg (by omega), s2, if_neg (by omega)]
    · simp only [weftlaw1_NumWords.l0]
      rw [w31, if_pos (by omega), s1, if_neg (by omega), s2, if_neg (by omega), nums_at k' (by omega)]
      simp only [Option.bind_some, num_Wrap.f, weftref1_Wrapped.f, if_true]
      rw [if_pos (wrap_same n)]
      rfl
  | succ d ih =>
    intro k k' b hb0 hb1 hd hk hk'
    obtain ⟨k, rfl⟩ : ∃ m, k = m + 1 := ⟨k - 1, by omega⟩
    obtain ⟨k', rfl⟩ : ∃ m, k' = m + 1 := ⟨k' - 1, by omega⟩
    have wb : wrap64 (b - 1) = b - 1 := w64 (by omega) (by omega)
    have wb1 : wrap64 (b + 1) = b + 1 := w64 (by omega) (by omega)
    obtain ⟨r, e1, e2⟩ := ih k k' (b + 1) (by omega) (by omega) (by omega) (by omega) (by omega)
    by_cases c1 : lo < shl .i64 (-1) (b - 1)
    · refine ⟨r, ?_, ?_⟩
      · simp only [num_Bits.l0]
        rw [wb, if_pos (by omega), if_pos c1, wb1]; exact e1
      · simp only [weftlaw1_NumWords.l0]
        rw [wb, if_pos (by omega), if_pos c1, wb1]; exact e2
    · by_cases c2 : hi > wrap64 (shl .i64 1 (b - 1) - 1)
      · refine ⟨r, ?_, ?_⟩
        · simp only [num_Bits.l0]
          rw [wb, if_pos (by omega), if_neg c1, if_pos c2, wb1]; exact e1
        · simp only [weftlaw1_NumWords.l0]
          rw [wb, if_pos (by omega), if_neg c1, if_pos c2, wb1]; exact e2
      · refine ⟨b, ?_, ?_⟩
        · simp only [num_Bits.l0]
          rw [wb, if_pos (by omega), if_neg c1, if_neg c2]
        · simp only [weftlaw1_NumWords.l0]
          rw [wb, if_pos (by omega), if_neg c1, if_neg c2, nums_at k' (by omega)]
          simp only [Option.bind_some, num_Wrap.f, weftref1_Wrapped.f, if_true]
          rw [if_pos (wrap_same n)]
          simp
theorem words_rest (n lo hi : Int) (k : Nat) (hk : 1000 ≤ k) : weftlaw1_NumWords.j0 k n lo hi = some true := by
  obtain ⟨k, rfl⟩ : ∃ m, k = m + 2 := ⟨k - 2, by omega⟩
  simp only [weftlaw1_NumWords.j0]
  by_cases c : -2147483648 ≤ lo ∧ lo ≤ hi ∧ hi ≤ 2147483647
  · obtain ⟨r, e1, e2⟩ := bits_loop n lo hi c.1 c.2.2 200 (by omega) 31 k k 1 (by omega) (by omega) (by omega) (by omega) (by omega)
    have ef : num_Bits.f (k + 1) lo hi = some (r, 0) := by
      unfold num_Bits.f
      rw [if_neg (by omega), if_neg (by omega), show decide (hi > 2147483647) = false from decide_eq_false (by omega)]
      simp only [num_Bits.j0]
      rw [if_neg (by simp)]
      exact e1
    rw [ef]
    simp only [Option.bind_some]
    rw [if_neg (by omega), if_neg (by omega), show decide (hi > 2147483647) = false from decide_eq_false (by omega)]
    simp only [weftlaw1_NumWords.j1]
    rw [if_neg (by simp)]
    exact e2
  · have ef : num_Bits.f (k + 1) lo hi = some (0, 1) := by
      unfold num_Bits.f
      by_cases a1 : lo < -2147483648
      · rw [if_pos a1]; simp only [num_Bits.j0]; rfl
      rw [if_neg a1]
      by_cases a2 : lo > hi
      · rw [if_pos a2]; simp only [num_Bits.j0]; rfl
      rw [if_neg a2, show decide (hi > 2147483647) = true from decide_eq_true (by omega)]; simp only [num_Bits.j0]; rfl
    rw [ef]
    simp only [Option.bind_some]
    have ej : weftlaw1_NumWords.j1 (k + 1) n lo hi 0 1 true = some true := by
      simp only [weftlaw1_NumWords.j1]
      rw [if_pos trivial, nums_at k (by omega)]
      simp only [Option.bind_some, num_Wrap.f, weftref1_Wrapped.f, if_true]
      rw [if_pos (wrap_same n)]
      rfl
    by_cases a1 : lo < -2147483648
    · rw [if_pos a1]; exact ej
    rw [if_neg a1]
    by_cases a2 : lo > hi
    · rw [if_pos a2]; exact ej
    rw [if_neg a2, show decide (hi > 2147483647) = true from decide_eq_true (by omega)]
    exact ej
theorem NumWords : weftlaw1_NumWords.Pure := by
  intro n lo hi wn _ _
  have bn := wfb wn
  refine ⟨1000, ?_⟩
  unfold weftlaw1_NumWords.f
  by_cases c : n < 0
  · have e : num_Root.f 1000 n = some (0, 1) := by unfold num_Root.f; rw [if_pos c]
    rw [e]
    simp only [Option.bind_some]
    rw [if_pos c, if_pos trivial, if_pos trivial]
    exact words_rest n lo hi 1000 (by omega)
  · obtain ⟨q, e, h0, h1, h2⟩ := root_f n (by omega) bn.2 1000 (by omega)
    have hq := root_small h0 h1 bn.2
    have hx : (q + 1) * (q + 1) = q * q + 2 * q + 1 := by
      rw [Int.add_mul, Int.mul_add, Int.one_mul, Int.mul_one]; omega
    rw [hx] at h2
    have hqq : 0 ≤ q * q := Int.mul_nonneg h0 h0
    rw [e]
    simp only [Option.bind_some]
    rw [if_neg c, if_pos trivial, if_neg (by omega), if_neg (by omega), w64 (n := q * q) (by omega) (by omega), if_neg (by omega), w64 (n := n - q * q) (by omega) (by omega), w64 (n := 2 * q) (by omega) (by omega), if_neg (by omega)]
    exact words_rest n lo hi 1000 (by omega)

end Go.Proofs.YtaffkbemjbfajaaGreatDoor.Pure
