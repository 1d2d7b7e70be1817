/-
  The pure statement of NumShares: for all ints Share is the reference's. No condition.
-/
import Derived.Test.YtaffkbemjbfajaaGreatDoorPNumSharesx
import Derived.Test.YtaffkbemjbfajaaGreatDoorNum
namespace Go.Proofs.YtaffkbemjbfajaaGreatDoor.Pure
open Go.RowKit Go.Proofs.YtaffkbemjbfajaaGreatDoor.PNumShares Go.Proofs.YtaffkbemjbfajaaGreatDoor.Num Go.Proofs.YtaffkbemjbfajaaGreatDoorW.PrintWords Go.Proofs.YtaffkbemjbfajaaGreatDoorW.PrintLast

set_option maxRecDepth 100000 in
theorem nums_true : weftlaw1_nums.f 40 = some true := by decide +kernel
theorem nums_up : ∀ d, weftlaw1_nums.f (40 + d) = some true
  | 0 => nums_true
  | d + 1 => weftlaw1_nums.mono (40 + d) _ (nums_up d)
theorem nums_at (k : Nat) (h : 40 ≤ k) : weftlaw1_nums.f k = some true := by
  obtain ⟨d, rfl⟩ : ∃ d, k = 40 + d := ⟨k - 40, by omega⟩
  exact nums_up d

theorem equal_self (xs : List Int) (hl : xs.length ≤ 140737488355328) : ∀ (d k : Nat) (i : Int), 0 ≤ i → i ≤ xs.length → (xs.length : Int) - i = d → d < k → slices_Equal_int_int.l0 k xs xs (xs.length : Int) i = some true := by
  intro d
  induction d with
  | zero =>
    intro k i h0 h1 hd hk
    obtain ⟨k, rfl⟩ : ∃ m, k = m + 1 := ⟨k - 1, by omega⟩
    simp only [slices_Equal_int_int.l0]
    rw [if_neg (by omega)]
  | succ d ih =>
    intro k i h0 h1 hd hk
    obtain ⟨k, rfl⟩ : ∃ m, k = m + 1 := ⟨k - 1, by omega⟩
    simp only [slices_Equal_int_int.l0]
    rw [if_pos (by omega), if_pos (by omega), if_pos (by omega), if_pos (by omega), if_pos trivial, w64 (by omega) (by omega)]
    exact ih k (i + 1) (by omega) (by omega) (by omega) (by omega)
theorem equal_f (xs : List Int) (hl : xs.length ≤ 140737488355328) (k : Nat) (hk : xs.length < k) : slices_Equal_int_int.f k xs xs = some true := by
  unfold slices_Equal_int_int.f
  rw [if_pos rfl]
  exact equal_self xs hl xs.length k 0 (by omega) (by omega) (by omega) hk

def part (n p : Int) (j : Nat) : Int := n / p + (if (j : Int) < n % p then 1 else 0)
theorem set_range (f : Nat → Int) (m i : Nat) (v : Int) : ((List.range m).map f).set i v = (List.range m).map (fun j => if j = i then v else f j) := by
  apply List.ext_getElem
  · simp
  · intro j h1 h2
    simp only [List.getElem_set, List.getElem_map, List.getElem_range]
    by_cases c : i = j
    · subst c; simp
    · rw [if_neg c, if_neg (fun e => c e.symm)]
theorem share_loop (n p : Int) (hn0 : 0 ≤ n) (hn1 : n ≤ 2147483647) (hp0 : 1 ≤ p) (hp1 : p ≤ 1024) : ∀ (d k : Nat) (i : Nat), (i : Int) ≤ p → p - i = d → d < k →
    num_Share.l0 k n p ((List.range p.toNat).map fun j => if j < i then part n p j else 0) p (i : Int) = some ((List.range p.toNat).map (part n p), 0) := by
  have hq0 : 0 ≤ n / p := Int.ediv_nonneg hn0 (by omega)
  have hq1 : n / p ≤ n := Int.ediv_le_self _ hn0
  intro d
  induction d with
  | zero =>
    intro k i h1 hd hk
    obtain ⟨k, rfl⟩ : ∃ m, k = m + 1 := ⟨k - 1, by omega⟩
    simp only [num_Share.l0]
    rw [if_neg (by omega)]
    congr 2
    apply List.map_congr_left
    intro j hj
    rw [List.mem_range] at hj
    rw [if_pos (by omega)]
  | succ d ih =>
    intro k i h1 hd hk
    obtain ⟨k, rfl⟩ : ∃ m, k = m + 1 := ⟨k - 1, by omega⟩
    simp only [num_Share.l0]
    rw [if_pos (by omega), if_neg (by omega), if_pos (by omega), if_pos (by simp; omega), tdiv_nonneg_eq hn0, w64 (n := n / p) (by omega) (by omega)]
    simp only [Option.bind_some]
    rw [Int.tmod_eq_emod_of_nonneg hn0, Int.toNat_natCast, w64 (n := (i : Int) + 1) (by omega) (by omega), set_range, show ((i : Int) + 1) = ((i + 1 : Nat) : Int) from rfl]
    have hnext := ih k (i + 1) (by omega) (by omega) (by omega)
    by_cases c : (i : Int) < n % p
    · rw [if_pos c]
      have hrd : rd ((List.range p.toNat).map fun j => if j = i then n / p else if j < i then part n p j else 0) (i : Int) = n / p := by
        simp only [rd, Int.toNat_natCast]
        rw [List.getD_eq_getElem?_getD, List.getElem?_map, List.getElem?_range (by omega)]
        simp
      rw [hrd, w64 (by omega) (by omega), set_range]
      rw [← hnext]
      congr 1
      apply List.map_congr_left
      intro j hj
      by_cases e : j = i
      · subst e; simp [part, c]
      · simp only [if_neg e]
        by_cases e2 : j < i
        · rw [if_pos e2, if_pos (by omega)]
        · rw [if_neg e2, if_neg (by omega)]
    · rw [if_neg c]
      rw [← hnext]
      congr 1
      apply List.map_congr_left
      intro j hj
      by_cases e : j = i
      · subst e; simp [part, c]
      · simp only [if_neg e]
        by_cases e2 : j < i
        · rw [if_pos e2, if_pos (by omega)]
        · rw [if_neg e2, if_neg (by omega)]
theorem shared_loop (n p : Int) (hn0 : 0 ≤ n) (hn1 : n ≤ 2147483647) (hp0 : 1 ≤ p) (hp1 : p ≤ 1024) : ∀ (d k : Nat) (i : Nat), (i : Int) ≤ p → p - i = d → d < k →
    weftref1_Shared.l0 k n p ((List.range i).map (part n p)) p (i : Int) = some ((List.range p.toNat).map (part n p)) := by
  have hq0 : 0 ≤ n / p := Int.ediv_nonneg hn0 (by omega)
  have hq1 : n / p ≤ n := Int.ediv_le_self _ hn0
  intro d
  induction d with
  | zero =>
    intro k i h1 hd hk
    obtain ⟨k, rfl⟩ : ∃ m, k = m + 1 := ⟨k - 1, by omega⟩
    simp only [weftref1_Shared.l0]
    rw [if_neg (by omega), show p.toNat = i by omega]
  | succ d ih =>
    intro k i h1 hd hk
    obtain ⟨k, rfl⟩ : ∃ m, k = m + 1 := ⟨k - 1, by omega⟩
    have hnext := ih k (i + 1) (by omega) (by omega) (by omega)
    simp only [weftref1_Shared.l0]
    rw [if_pos (by omega), if_neg (by omega), Int.tmod_eq_emod_of_nonneg hn0, tdiv_nonneg_eq hn0, w64 (n := n / p) (by omega) (by omega)]
    have ht : weftref1_truth.f (decide ((i : Int) < n % p)) = some (if (i : Int) < n % p then 1 else 0) := by
      unfold weftref1_truth.f
      by_cases c : (i : Int) < n % p <;> simp [c]
    rw [ht]
    simp only [Option.bind_some]
    rw [if_pos (by simp; omega), w64 (n := (i : Int) + 1) (by omega) (by omega), w64 (by split <;> omega) (by split <;> omega)]
    rw [List.range_succ, List.map_append] at hnext
    exact hnext
theorem NumShares : weftlaw1_NumShares.Pure := by
  intro n p _ _
  refine ⟨2001, ?_⟩
  have nt : weftlaw1_nums.f 2000 = some true := nums_at 2000 (by omega)
  unfold weftlaw1_NumShares.f
  by_cases c : 0 ≤ n ∧ n ≤ 2147483647 ∧ 1 ≤ p ∧ p ≤ 1024
  · obtain ⟨h1, h2, h3, h4⟩ := c
    have e1 : num_Share.f 2001 n p = some ((List.range p.toNat).map (part n p), 0) := by
      unfold num_Share.f
      rw [if_neg (by omega), if_neg (by omega), if_neg (by omega), show decide (p > 1024) = false from decide_eq_false (by omega)]
      simp only [num_Share.j0]
      rw [if_neg (by simp), if_pos (by omega), if_pos (by omega)]
      simp only [Option.bind_some]
      have := share_loop n p h1 h2 h3 h4 p.toNat 2000 0 (by omega) (by omega) (by omega)
      rw [show ((List.replicate p.toNat (0 : Int)).length : Int) = p by simp; omega]
      rw [← this]
      congr 1
      apply List.ext_getElem
      · simp
      · intro j hj1 hj2; simp
    have e2 : weftref1_Shared.f 2000 n p = some ((List.range p.toNat).map (part n p)) := by
      unfold weftref1_Shared.f
      exact shared_loop n p h1 h2 h3 h4 p.toNat 2000 0 (by omega) (by omega) (by omega)
    rw [e1]
    simp only [Option.bind_some]
    rw [if_neg (by omega), if_neg (by omega), if_neg (by omega), show decide (p > 1024) = false from decide_eq_false (by omega)]
    simp only [weftlaw1_NumShares.j0]
    rw [if_neg (by simp), nt]
    simp only [Option.bind_some, if_true]
    rw [e2]
    simp only [Option.bind_some]
    rw [equal_f _ (by simp; omega) 2000 (by simp; omega)]
    rfl
  · have e1 : num_Share.f 2001 n p = some ([], 1) := by
      unfold num_Share.f
      by_cases a1 : n < 0
      · rw [if_pos a1]; simp only [num_Share.j0]; rfl
      rw [if_neg a1]
      by_cases a2 : n > 2147483647
      · rw [if_pos a2]; simp only [num_Share.j0]; rfl
      rw [if_neg a2]
      by_cases a3 : p < 1
      · rw [if_pos a3]; simp only [num_Share.j0]; rfl
      rw [if_neg a3, show decide (p > 1024) = true from decide_eq_true (by omega)]; simp only [num_Share.j0]; rfl
    rw [e1]
    simp only [Option.bind_some]
    have ej : weftlaw1_NumShares.j0 2001 n p [] 1 true = some true := by
      simp only [weftlaw1_NumShares.j0]
      rw [if_pos trivial, nt]
      rfl
    by_cases a1 : n < 0
    · rw [if_pos a1]; exact ej
    rw [if_neg a1]
    by_cases a2 : n > 2147483647
    · rw [if_pos a2]; exact ej
    rw [if_neg a2]
    by_cases a3 : p < 1
    · rw [if_pos a3]; exact ej
    rw [if_neg a3, show decide (p > 1024) = true from decide_eq_true (by omega)]
    exact ej

end Go.Proofs.YtaffkbemjbfajaaGreatDoor.Pure
