/-
  The pure statement of NumDraws: for all ints Draw and Below are the reference's. No condition. No condition.
-/
import Derived.Test.YtaffkbemjbfajaaGreatDoorPNumDrawsx
import Derived.Test.YtaffkbemjbfajaaGreatDoorNum
namespace Go.Proofs.YtaffkbemjbfajaaGreatDoor.Pure
open Go.RowKit Go.Proofs.YtaffkbemjbfajaaGreatDoor.PNumDraws Go.Proofs.YtaffkbemjbfajaaGreatDoor.Num Go.Proofs.YtaffkbemjbfajaaGreatDoorW.PrintWords Go.Proofs.YtaffkbemjbfajaaGreatDoorW.PrintLast

set_option maxRecDepth 100000 in
theorem nums_true : weftlaw1_nums.f 40 = some true := by decide +kernel
theorem nums_up : ∀ d, weftlaw1_nums.f (40 + d) = some true
  | 0 => nums_true
  | d + 1 => weftlaw1_nums.mono (40 + d) _ (nums_up d)
theorem nums_at (k : Nat) (h : 40 ≤ k) : weftlaw1_nums.f k = some true := by
  obtain ⟨d, rfl⟩ : ∃ d, k = 40 + d := ⟨k - 40, by omega⟩
  exact nums_up d

theorem draw_same (a b : Int) : weftref1_Drawn.f a b = num_Draw.f a b := rfl
theorem draw_some (a b : Int) : ∃ t, num_Draw.f a b = some t := ⟨_, rfl⟩
theorem draw_nonneg {a b t : Int} (h : num_Draw.f a b = some t) : 0 ≤ t := by
  unfold num_Draw.f at h
  have e := Option.some.inj h
  rw [← e]
  generalize hx : Go.bits .xor .u64 _ _ = z
  have h0 : 0 ≤ z := by rw [← hx]; exact bits_lo_u64 _ _ _
  have h1 : z ≤ 18446744073709551615 := by rw [← hx]; exact bits_hi_u64 _ _ _
  clear hx e h
  unfold wrap64; omega
/-- The loops of the program and of the reference, from the same round on. -/
theorem below_loops (x0 x1 n lim : Int) (hn : 1 ≤ n) : ∀ (d : Nat) (k k' : Nat) (v i : Int), 0 ≤ i → i ≤ 63 → 64 - i = d → d < k → d < k' →
    ∃ t u, num_Below.l0 k x0 x1 n v i lim = some (Int.tmod t n, u, 0) ∧ weftref1_DrawnBelow.l0 k' x0 x1 n lim (i + 1) = some (Int.tmod t n, u) ∧ 0 ≤ t := by
  intro d
  induction d with
  | zero => intro k k' v i h0 h1 hd; omega
  | succ d ih =>
    intro k k' v i h0 h1 hd hk hk'
    obtain ⟨k, rfl⟩ : ∃ m, k = m + 1 := ⟨k - 1, by omega⟩
    obtain ⟨k', rfl⟩ : ∃ m, k' = m + 1 := ⟨k' - 1, by omega⟩
    obtain ⟨t, ht⟩ := draw_some x0 (wrap64 (x1 + i))
    have hw : wrap64 (wrap64 (x1 + (i + 1)) - 1) = wrap64 (x1 + i) := by unfold wrap64; omega
    have hi : wrap64 (i + 1) = i + 1 := w64 (by omega) (by omega)
    by_cases hl : t < lim
    · refine ⟨t, i + 1, ?_, ?_, draw_nonneg ht⟩
      · simp only [num_Below.l0]
        rw [if_pos (by omega), ht]
        simp only [Option.bind_some]
        rw [if_pos hl, if_neg (by omega), hi]
      · simp only [weftref1_DrawnBelow.l0]
        rw [hw, draw_same, ht]
        simp only [Option.bind_some]
        rw [if_pos hl, if_neg (by omega)]
    · by_cases h63 : i = 63
      · subst h63
        obtain ⟨k, rfl⟩ : ∃ m, k = m + 1 := ⟨k - 1, by omega⟩
        refine ⟨t, 64, ?_, ?_, draw_nonneg ht⟩
        · simp only [num_Below.l0]
          rw [if_pos (by omega), ht]
          simp only [Option.bind_some]
          rw [if_neg hl, hi, if_neg (by omega), if_neg (by omega)]
          rfl
        · simp only [weftref1_DrawnBelow.l0]
          rw [hw, draw_same, ht]
          simp only [Option.bind_some]
          rw [if_neg hl, if_pos (by omega), if_neg (by omega)]
          rfl
      · obtain ⟨t', u, e1, e2, e3⟩ := ih k k' t (i + 1) (by omega) (by omega) (by omega) (by omega) (by omega)
        refine ⟨t', u, ?_, ?_, e3⟩
        · simp only [num_Below.l0]
          rw [if_pos (by omega), ht]
          simp only [Option.bind_some]
          rw [if_neg hl, hi]
          exact e1
        · simp only [weftref1_DrawnBelow.l0]
          rw [hw, draw_same, ht]
          simp only [Option.bind_some]
          rw [if_neg hl, if_neg (by omega), w64 (by omega) (by omega)]
          exact e2
theorem limit_same (n : Int) (h1 : 1 ≤ n) (h2 : n ≤ 2147483647) : wrap64 (wrap64 (Int.tdiv 4294967296 n) * n) = wrap64 (4294967296 - (4294967296 : Int) % n) := by
  rw [tdiv_nonneg_eq (by omega)]
  have hd : (4294967296 : Int) / n * n = 4294967296 - 4294967296 % n := by
    have := Int.emod_add_mul_ediv 4294967296 n
    have hc := Int.mul_comm n (4294967296 / n)
    omega
  have hr0 := Int.emod_nonneg (4294967296 : Int) (show n ≠ 0 by omega)
  have hr1 := Int.emod_lt_of_pos (4294967296 : Int) (show 0 < n by omega)
  have hq0 : 0 ≤ (4294967296 : Int) / n := Int.ediv_nonneg (by omega) (by omega)
  have hq1 : (4294967296 : Int) / n ≤ 4294967296 := Int.ediv_le_self _ (by omega)
  rw [w64 (n := (4294967296 : Int) / n) (by omega) (by omega), hd]
/-- Below for a valid n is the reference's. -/
theorem below_all (x0 x1 n : Int) (h1 : 1 ≤ n) (h2 : n ≤ 2147483647) (k k' : Nat) (hk : 66 ≤ k) (hk' : 66 ≤ k') :
    ∃ t u, num_Below.f k x0 x1 n = some (Int.tmod t n, u, 0) ∧ weftref1_DrawnBelow.f k' x0 x1 n = some (Int.tmod t n, u) ∧ 0 ≤ t := by
  obtain ⟨k, rfl⟩ : ∃ m, k = m + 1 := ⟨k - 1, by omega⟩
  obtain ⟨t, u, e1, e2, e3⟩ := below_loops x0 x1 n (wrap64 (4294967296 - (4294967296 : Int) % n)) h1 64 k k' 0 0 (by omega) (by omega) (by omega) (by omega) (by omega)
  refine ⟨t, u, ?_, ?_, e3⟩
  · unfold num_Below.f
    rw [if_neg (by omega), show decide (n > 2147483647) = false from decide_eq_false (by omega)]
    simp only [num_Below.j0]
    rw [if_neg (by simp), if_neg (by omega)]
    exact e1
  · unfold weftref1_DrawnBelow.f
    rw [if_neg (by omega), limit_same n h1 h2]
    exact e2
theorem below_both (x0 x1 n : Int) (h1 : 1 ≤ n) (h2 : n ≤ 2147483647) (k k' : Nat) (hk : 66 ≤ k) (hk' : 66 ≤ k') :
    ∃ t u, num_Below.f k x0 x1 n = some (Int.tmod t n, u, 0) ∧ weftref1_DrawnBelow.f k' x0 x1 n = some (Int.tmod t n, u) := by
  obtain ⟨t, u, e1, e2, _⟩ := below_all x0 x1 n h1 h2 k k' hk hk'
  exact ⟨t, u, e1, e2⟩
theorem below_idx (x0 x1 n : Int) (h1 : 1 ≤ n) (h2 : n ≤ 2147483647) (k k' : Nat) (hk : 66 ≤ k) (hk' : 66 ≤ k') :
    ∃ v u, num_Below.f k x0 x1 n = some (v, u, 0) ∧ weftref1_DrawnBelow.f k' x0 x1 n = some (v, u) ∧ 0 ≤ v ∧ v < n := by
  obtain ⟨t, u, e1, e2, e3⟩ := below_all x0 x1 n h1 h2 k k' hk hk'
  exact ⟨_, u, e1, e2, Int.tmod_nonneg n e3, Int.tmod_lt_of_pos t (by omega)⟩
theorem below_bad (x0 x1 n : Int) (h : n < 1 ∨ n > 2147483647) (k : Nat) : num_Below.f (k + 1) x0 x1 n = some (0, 0, 1) := by
  unfold num_Below.f
  by_cases c : n < 1
  · rw [if_pos c]; simp only [num_Below.j0]; rfl
  · rw [if_neg c, show decide (n > 2147483647) = true from decide_eq_true (by omega)]; simp only [num_Below.j0]; rfl

theorem NumDraws : weftlaw1_NumDraws.Pure := by
  intro x0 x1 n _ _ _
  refine ⟨101, ?_⟩
  have nt : weftlaw1_nums.f 100 = some true := nums_at 100 (by omega)
  unfold weftlaw1_NumDraws.f
  obtain ⟨d, hd⟩ := draw_some x0 x1
  by_cases c : 1 ≤ n ∧ n ≤ 2147483647
  · obtain ⟨t, u, e1, _⟩ := below_both x0 x1 n c.1 c.2 101 100 (by omega) (by omega)
    obtain ⟨t', u', e1', e2⟩ := below_both x0 x1 n c.1 c.2 101 100 (by omega) (by omega)
    rw [e1] at e1'
    simp only [Option.some.injEq, Prod.mk.injEq] at e1'
    rw [e1]
    simp only [Option.bind_some]
    rw [if_neg (by omega), show decide (n > 2147483647) = false from decide_eq_false (by omega)]
    simp only [weftlaw1_NumDraws.j0, e2, Option.bind_some, nt, draw_same, hd]
    simp [e1'.1, e1'.2]
  · rw [below_bad x0 x1 n (by omega) 100]
    simp only [Option.bind_some]
    by_cases h : n < 1
    · rw [if_pos h]
      simp only [weftlaw1_NumDraws.j0, nt, Option.bind_some, draw_same, hd]
      simp
    · rw [if_neg h, show decide (n > 2147483647) = true from decide_eq_true (by omega)]
      simp only [weftlaw1_NumDraws.j0, nt, Option.bind_some, draw_same, hd]
      simp

end Go.Proofs.YtaffkbemjbfajaaGreatDoor.Pure
