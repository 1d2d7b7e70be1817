/-
  The pure statement of NumPermutes: for all ints Permute is as specified. No condition.
-/
import Derived.Test.YtaffkbemjbfajaaGreatDoorPNumPermutesx
import Derived.Test.YtaffkbemjbfajaaGreatDoorNum
namespace Go.Proofs.YtaffkbemjbfajaaGreatDoor.Pure
open Go.RowKit Go.Proofs.YtaffkbemjbfajaaGreatDoor.PNumPermutes Go.Proofs.YtaffkbemjbfajaaGreatDoor.Num Go.Proofs.YtaffkbemjbfajaaGreatDoorW.PrintWords Go.Proofs.YtaffkbemjbfajaaGreatDoorW.PrintLast

set_option maxRecDepth 100000 in
theorem nums_true : weftlaw1_nums.f 40 = some true := by decide +kernel
theorem nums_up : ∀ d, weftlaw1_nums.f (40 + d) = some true
  | 0 => nums_true
  | d + 1 => weftlaw1_nums.mono (40 + d) _ (nums_up d)
theorem nums_at (k : Nat) (h : 40 ≤ k) : weftlaw1_nums.f k = some true := by
  obtain ⟨d, rfl⟩ : ∃ d, k = 40 + d := ⟨k - 40, by omega⟩
  exact nums_up d

theorem draw_same (a b : Int) : weftref1_Drawn.f a b = num_Draw.f a b := rfl
theorem draw_some (a b : Int) : ∃ t, num_Draw.f a b = some t := ⟨_, rfl⟩
theorem draw_nonneg {a b t : Int} (h : num_Draw.f a b = some t) : 0 ≤ t := by
  unfold num_Draw.f at h
  have e := Option.some.inj h
  rw [← e]
  generalize hx : Go.bits .xor .u64 _ _ = z
  have h0 : 0 ≤ z := by rw [← hx]; exact bits_lo_u64 _ _ _
  have h1 : z ≤ 18446744073709551615 := by rw [← hx]; exact bits_hi_u64 _ _ _
  clear hx e h
  unfold wrap64; omega
/-- The loops of the program and of the reference, from the same round on. -/
theorem below_loops (x0 x1 n lim : Int) (hn : 1 ≤ n) : ∀ (d : Nat) (k k' : Nat) (v i : Int), 0 ≤ i → i ≤ 63 → 64 - i = d → d < k → d < k' →
    ∃ t u, num_Below.l0 k x0 x1 n v i lim = some (Int.tmod t n, u, 0) ∧ weftref1_DrawnBelow.l0 k' x0 x1 n lim (i + 1) = some (Int.tmod t n, u) ∧ 0 ≤ t := by
  intro d
  induction d with
  | zero => intro k k' v i h0 h1 hd; omega
  | succ d ih =>
    intro k k' v i h0 h1 hd hk hk'
    obtain ⟨k, rfl⟩ : ∃ m, k = m + 1 := ⟨k - 1, by omega⟩
    obtain ⟨k', rfl⟩ : ∃ m, k' = m + 1 := ⟨k' - 1, by omega⟩
    obtain ⟨t, ht⟩ := draw_some x0 (wrap64 (x1 + i))
    have hw : wrap64 (wrap64 (x1 + (i + 1)) - 1) = wrap64 (x1 + i) := by unfold wrap64; omega
    have hi : wrap64 (i + 1) = i + 1 := w64 (by omega) (by omega)
    by_cases hl : t < lim
    · refine ⟨t, i + 1, ?_, ?_, draw_nonneg ht⟩
      · simp only [num_Below.l0]
        rw [if_pos (by omega), ht]
        simp only [Option.bind_some]
        rw [if_pos hl, if_neg (by omega), hi]
      · simp only [weftref1_DrawnBelow.l0]
        rw [hw, draw_same, ht]
        simp only [Option.bind_some]
        rw [if_pos hl, if_neg (by omega)]
    · by_cases h63 : i = 63
      · subst h63
        obtain ⟨k, rfl⟩ : ∃ m, k = m + 1 := ⟨k - 1, by omega⟩
        refine ⟨t, 64, ?_, ?_, draw_nonneg ht⟩
        · simp only [num_Below.l0]
          rw [if_pos (by omega), ht]
          simp only [Option.bind_some]
          rw [if_neg hl, hi, if_neg (by omega), if_neg (by omega)]
          rfl
        · simp only [weftref1_DrawnBelow.l0]
          rw [hw, draw_same, ht]
          simp only [Option.bind_some]
          rw [if_neg hl, if_pos (by omega), if_neg (by omega)]
          rfl
      · obtain ⟨t', u, e1, e2, e3⟩ := ih k k' t (i + 1) (by omega) (by omega) (by omega) (by omega) (by omega)
        refine ⟨t', u, ?_, ?_, e3⟩
        · simp only [num_Below.l0]
          rw [if_pos (by omega), ht]
          simp only [Option.bind_some]
          rw [if_neg hl, hi]
          exact e1
        · simp only [weftref1_DrawnBelow.l0]
          rw [hw, draw_same, ht]
          simp only [Option.bind_some]
          rw [if_neg hl, if_neg (by omega), w64 (by omega) (by omega)]
          exact e2
theorem limit_same (n : Int) (h1 : 1 ≤ n) (h2 : n ≤ 2147483647) : wrap64 (wrap64 (Int.tdiv 4294967296 n) * n) = wrap64 (4294967296 - (4294967296 : Int) % n) := by
  rw [tdiv_nonneg_eq (by omega)]
  have hd : (4294967296 : Int) / n * n = 4294967296 - 4294967296 % n := by
    have := Int.emod_add_mul_ediv 4294967296 n
    have hc := Int.mul_comm n (4294967296 / n)
    omega
  have hr0 := Int.emod_nonneg (4294967296 : Int) (show n ≠ 0 by omega)
  have hr1 := Int.emod_lt_of_pos (4294967296 : Int) (show 0 < n by omega)
  have hq0 : 0 ≤ (4294967296 : Int) / n := Int.ediv_nonneg (by omega) (by omega)
  have hq1 : (4294967296 : Int) / n ≤ 4294967296 := Int.ediv_le_self _ (by omega)
  rw [w64 (n := (4294967296 : Int) / n) (by omega) (by omega), hd]
/-- Below for a valid n is the reference's. -/
theorem below_all (x0 x1 n : Int) (h1 : 1 ≤ n) (h2 : n ≤ 2147483647) (k k' : Nat) (hk : 66 ≤ k) (hk' : 66 ≤ k') :
    ∃ t u, num_Below.f k x0 x1 n = some (Int.tmod t n, u, 0) ∧ weftref1_DrawnBelow.f k' x0 x1 n = some (Int.tmod t n, u) ∧ 0 ≤ t := by
  obtain ⟨k, rfl⟩ : ∃ m, k = m + 1 := ⟨k - 1, by omega⟩
  obtain ⟨t, u, e1, e2, e3⟩ := below_loops x0 x1 n (wrap64 (4294967296 - (4294967296 : Int) % n)) h1 64 k k' 0 0 (by omega) (by omega) (by omega) (by omega) (by omega)
  refine ⟨t, u, ?_, ?_, e3⟩
  · unfold num_Below.f
    rw [if_neg (by omega), show decide (n > 2147483647) = false from decide_eq_false (by omega)]
    simp only [num_Below.j0]
    rw [if_neg (by simp), if_neg (by omega)]
    exact e1
  · unfold weftref1_DrawnBelow.f
    rw [if_neg (by omega), limit_same n h1 h2]
    exact e2
theorem below_both (x0 x1 n : Int) (h1 : 1 ≤ n) (h2 : n ≤ 2147483647) (k k' : Nat) (hk : 66 ≤ k) (hk' : 66 ≤ k') :
    ∃ t u, num_Below.f k x0 x1 n = some (Int.tmod t n, u, 0) ∧ weftref1_DrawnBelow.f k' x0 x1 n = some (Int.tmod t n, u) := by
  obtain ⟨t, u, e1, e2, _⟩ := below_all x0 x1 n h1 h2 k k' hk hk'
  exact ⟨t, u, e1, e2⟩
theorem below_idx (x0 x1 n : Int) (h1 : 1 ≤ n) (h2 : n ≤ 2147483647) (k k' : Nat) (hk : 66 ≤ k) (hk' : 66 ≤ k') :
    ∃ v u, num_Below.f k x0 x1 n = some (v, u, 0) ∧ weftref1_DrawnBelow.f k' x0 x1 n = some (v, u) ∧ 0 ≤ v ∧ v < n := by
  obtain ⟨t, u, e1, e2, e3⟩ := below_all x0 x1 n h1 h2 k k' hk hk'
  exact ⟨_, u, e1, e2, Int.tmod_nonneg n e3, Int.tmod_lt_of_pos t (by omega)⟩
theorem below_bad (x0 x1 n : Int) (h : n < 1 ∨ n > 2147483647) (k : Nat) : num_Below.f (k + 1) x0 x1 n = some (0, 0, 1) := by
  unfold num_Below.f
  by_cases c : n < 1
  · rw [if_pos c]; simp only [num_Below.j0]; rfl
  · rw [if_neg c, show decide (n > 2147483647) = true from decide_eq_true (by omega)]; simp only [num_Below.j0]; rfl

theorem equal_self (xs : List Int) (hl : xs.length ≤ 140737488355328) : ∀ (d k : Nat) (i : Int), 0 ≤ i → i ≤ xs.length → (xs.length : Int) - i = d → d < k → slices_Equal_int_int.l0 k xs xs (xs.length : Int) i = some true := by
  intro d
  induction d with
  | zero =>
    intro k i h0 h1 hd hk
    obtain ⟨k, rfl⟩ : ∃ m, k = m + 1 := ⟨k - 1, by omega⟩
    simp only [slices_Equal_int_int.l0]
    rw [if_neg (by omega)]
  | succ d ih =>
    intro k i h0 h1 hd hk
    obtain ⟨k, rfl⟩ : ∃ m, k = m + 1 := ⟨k - 1, by omega⟩
    simp only [slices_Equal_int_int.l0]
    rw [if_pos (by omega), if_pos (by omega), if_pos (by omega), if_pos (by omega), if_pos trivial, w64 (by omega) (by omega)]
    exact ih k (i + 1) (by omega) (by omega) (by omega) (by omega)
theorem equal_f (xs : List Int) (hl : xs.length ≤ 140737488355328) (k : Nat) (hk : xs.length < k) : slices_Equal_int_int.f k xs xs = some true := by
  unfold slices_Equal_int_int.f
  rw [if_pos rfl]
  exact equal_self xs hl xs.length k 0 (by omega) (by omega) (by omega) hk

theorem iota_loop (x0 x1 n : Int) (hn : n ≤ 4096) : ∀ (d k i : Nat), n - i = d → (i : Int) ≤ n → d < k →
    ∃ k', k = k' + 1 + d ∧ num_Permute.l0 k x0 x1 n ((List.range n.toNat).map fun (j : Nat) => if j < i then (j : Int) else 0) 0 n (i : Int) = num_Permute.l1 k' x0 x1 ((List.range n.toNat).map fun (j : Nat) => (j : Int)) 0 (wrap64 (n - 1)) := by
  intro d
  induction d with
  | zero =>
    intro k i hd hi hk
    obtain ⟨k, rfl⟩ : ∃ m, k = m + 1 := ⟨k - 1, by omega⟩
    refine ⟨k, rfl, ?_⟩
    simp only [num_Permute.l0]
    rw [if_neg (by omega)]
    congr 1
    apply List.map_congr_left
    intro j hj
    rw [List.mem_range] at hj
    rw [if_pos (by omega)]
  | succ d ih =>
    intro k i hd hi hk
    obtain ⟨k, rfl⟩ : ∃ m, k = m + 1 := ⟨k - 1, by omega⟩
    obtain ⟨k', hk', e⟩ := ih k (i + 1) (by omega) (by omega) (by omega)
    refine ⟨k', by omega, ?_⟩
    rw [← e]
    simp only [num_Permute.l0]
    rw [if_pos (by omega), if_pos (by omega), if_pos (by simp; omega), w64 (n := (i : Int) + 1) (by omega) (by omega), Int.toNat_natCast, show ((i : Int) + 1) = ((i + 1 : Nat) : Int) from rfl]
    congr 1
    apply List.ext_getElem
    · simp
    · intro j h1 h2
      simp only [List.getElem_set, List.getElem_map, List.getElem_range]
      by_cases c : i = j
      · subst c; simp
      · rw [if_neg c]
        by_cases c2 : j < i
        · rw [if_pos c2, if_pos (by omega)]
        · rw [if_neg c2, if_neg (by omega)]
theorem want_loop (x0 x1 n : Int) (hn : n ≤ 4096) (x7 : List Int) (x8 x9 : Int) : ∀ (d k i : Nat), n - i = d → (i : Int) ≤ n → d < k →
    ∃ k', k = k' + 1 + d ∧ weftlaw1_NumPermutes.l0 k x0 x1 n x7 x8 x9 ((List.range i).map fun (j : Nat) => (j : Int)) n (i : Int) = weftlaw1_NumPermutes.l1 k' x0 x1 x7 x8 x9 ((List.range n.toNat).map fun (j : Nat) => (j : Int)) 0 (wrap64 (n - 1)) := by
  intro d
  induction d with
  | zero =>
    intro k i hd hi hk
    obtain ⟨k, rfl⟩ : ∃ m, k = m + 1 := ⟨k - 1, by omega⟩
    refine ⟨k, rfl, ?_⟩
    simp only [weftlaw1_NumPermutes.l0]
    rw [if_neg (by omega), show n.toNat = i by omega]
  | succ d ih =>
    intro k i hd hi hk
    obtain ⟨k, rfl⟩ : ∃ m, k = m + 1 := ⟨k - 1, by omega⟩
    obtain ⟨k', hk', e⟩ := ih k (i + 1) (by omega) (by omega) (by omega)
    refine ⟨k', by omega, ?_⟩
    rw [← e]
    simp only [weftlaw1_NumPermutes.l0]
    rw [if_pos (by omega), if_pos (by simp; omega), w64 (n := (i : Int) + 1) (by omega) (by omega), List.range_succ, List.map_append]
    rfl
/-- The exchanges, in the program and in the law. -/
theorem swap_loop (x0 x1 : Int) : ∀ (i k k' : Nat) (xs : List Int) (u : Int), i < xs.length ∨ i = 0 → xs.length ≤ 4096 → i + 100 < k → i + xs.length + 100 < k' →
    ∃ res v, num_Permute.l1 k x0 x1 xs u (i : Int) = some (res, v, 0) ∧ weftlaw1_NumPermutes.l1 k' x0 x1 res v 0 xs u (i : Int) = some true := by
  intro i
  induction i with
  | zero =>
    intro k k' xs u _ hl hk hk'
    obtain ⟨k, rfl⟩ : ∃ m, k = m + 1 := ⟨k - 1, by omega⟩
    obtain ⟨k', rfl⟩ : ∃ m, k' = m + 1 := ⟨k' - 1, by omega⟩
    refine ⟨xs, u, ?_, ?_⟩
    · simp only [num_Permute.l1]
      rw [if_neg (by omega)]
    · simp only [weftlaw1_NumPermutes.l1]
      rw [if_neg (by omega), nums_at k' (by omega)]
      simp only [Option.bind_some, if_true]
      rw [equal_f xs (by omega) k' (by omega)]
      rfl
  | succ i ih =>
    intro k k' xs u hi hl hk hk'
    obtain ⟨k, rfl⟩ : ∃ m, k = m + 1 := ⟨k - 1, by omega⟩
    obtain ⟨k', rfl⟩ : ∃ m, k' = m + 1 := ⟨k' - 1, by omega⟩
    have hi' : i + 1 < xs.length := by omega
    have hw1 : wrap64 (((i + 1 : Nat) : Int) + 1) = (i : Int) + 2 := by rw [w64 (by omega) (by omega)]; omega
    have hw2 : wrap64 (((i + 1 : Nat) : Int) - 1) = (i : Int) := by rw [w64 (by omega) (by omega)]; omega
    obtain ⟨v, m, e1, e2, h0, h1⟩ := below_idx x0 (wrap64 (x1 + u)) ((i : Int) + 2) (by omega) (by omega) k k' (by omega) (by omega)
    obtain ⟨res, w, f1, f2⟩ := ih k k' ((xs.set ((i + 1 : Nat) : Int).toNat (rd xs v)).set v.toNat (rd xs ((i + 1 : Nat) : Int))) (wrap64 (u + m)) (by simp; omega) (by simp; omega) (by omega) (by simp; omega)
    refine ⟨res, w, ?_, ?_⟩
    · simp only [num_Permute.l1]
      rw [if_pos (by omega), hw1, e1]
      simp only [Option.bind_some]
      rw [if_pos h0, if_pos (by omega), if_pos (by omega), if_pos (by omega), hw2]
      exact f1
    · simp only [weftlaw1_NumPermutes.l1]
      rw [if_pos (by omega), hw1, e2]
      simp only [Option.bind_some]
      rw [if_pos h0, if_pos (by omega), if_pos (by omega), if_pos (by omega), hw2]
      exact f2
theorem NumPermutes : weftlaw1_NumPermutes.Pure := by
  intro x0 x1 n _ _ _
  obtain ⟨K, hK⟩ : ∃ K : Nat, 30000 ≤ K := ⟨30000, Nat.le_refl _⟩
  refine ⟨K + 1, ?_⟩
  unfold weftlaw1_NumPermutes.f
  by_cases c : 0 ≤ n ∧ n ≤ 4096
  · obtain ⟨ka, hka, ea⟩ := iota_loop x0 x1 n c.2 n.toNat K 0 (by omega) (by omega) (by omega)
    have hstart : ((List.range n.toNat).map fun (j : Nat) => if j < 0 then (j : Int) else 0) = List.replicate n.toNat 0 := by
      apply List.ext_getElem
      · simp
      · intro j h1 h2; simp
    rw [hstart] at ea
    have hlen : ((List.range n.toNat).map fun (j : Nat) => (j : Int)).length = n.toNat := by simp
    -- the loop over the places
    have hloop : ∀ kb, 20000 ≤ kb → ∃ res v, num_Permute.l1 ka x0 x1 ((List.range n.toNat).map fun (j : Nat) => (j : Int)) 0 (wrap64 (n - 1)) = some (res, v, 0) ∧ weftlaw1_NumPermutes.l1 kb x0 x1 res v 0 ((List.range n.toNat).map fun (j : Nat) => (j : Int)) 0 (wrap64 (n - 1)) = some true := by
      intro kb hkb
      by_cases z : n = 0
      · subst z
        obtain ⟨ka, rfl⟩ : ∃ m, ka = m + 1 := ⟨ka - 1, by omega⟩
        obtain ⟨kb, rfl⟩ : ∃ m, kb = m + 1 := ⟨kb - 1, by omega⟩
        have hw : wrap64 ((0 : Int) - 1) = -1 := by unfold wrap64; omega
        refine ⟨[], 0, ?_, ?_⟩
        · simp only [num_Permute.l1]
          rw [hw, if_neg (by omega)]
          rfl
        · simp only [weftlaw1_NumPermutes.l1]
          rw [hw, if_neg (by omega), nums_at kb (by omega)]
          simp only [Option.bind_some, if_true]
          rw [show (List.range (0 : Int).toNat).map (fun (j : Nat) => (j : Int)) = [] from rfl, equal_f [] (by simp) kb (by simp; omega)]
          rfl
      · obtain ⟨m, hm⟩ : ∃ m : Nat, n = (m : Int) + 1 := ⟨(n - 1).toNat, by omega⟩
        have hw : wrap64 (n - 1) = (m : Int) := by rw [w64 (by omega) (by omega)]; omega
        rw [hw]
        exact swap_loop x0 x1 m ka kb _ 0 (by rw [hlen]; omega) (by rw [hlen]; omega) (by omega) (by rw [hlen]; omega)
    obtain ⟨res, v, p1, _⟩ := hloop 20000 (by omega)
    have ef : num_Permute.f (K + 1) x0 x1 n = some (res, v, 0) := by
      unfold num_Permute.f
      rw [if_neg (by omega), show decide (n > 4096) = false from decide_eq_false (by omega)]
      simp only [num_Permute.j0]
      rw [if_neg (by simp), if_pos (by omega), if_pos (by omega)]
      simp only [Option.bind_some]
      rw [show ((List.replicate n.toNat (0 : Int)).length : Int) = n by simp; omega]
      exact ea.trans p1
    rw [ef]
    simp only [Option.bind_some]
    rw [if_neg (by omega), show decide (n > 4096) = false from decide_eq_false (by omega)]
    simp only [weftlaw1_NumPermutes.j0]
    rw [if_neg (by simp)]
    obtain ⟨kb, hkb, eb⟩ := want_loop x0 x1 n c.2 res v 0 n.toNat K 0 (by omega) (by omega) (by omega)
    refine eb.trans ?_
    obtain ⟨res', v', q1, q2⟩ := hloop kb (by omega)
    rw [p1] at q1
    simp only [Option.some.injEq, Prod.mk.injEq] at q1
    rw [q1.1, q1.2.1]
    exact q2
  · have ef : num_Permute.f (K + 1) x0 x1 n = some ([], 0, 1) := by
      unfold num_Permute.f
      by_cases a : n < 0
      · rw [if_pos a]; simp only [num_Permute.j0]; rfl
      · rw [if_neg a, show decide (n > 4096) = true from decide_eq_true (by omega)]; simp only [num_Permute.j0]; rfl
    rw [ef]
    simp only [Option.bind_some]
    have ej : weftlaw1_NumPermutes.j0 (K + 1) x0 x1 n [] 0 1 true = some true := by
      simp only [weftlaw1_NumPermutes.j0]
      rw [if_pos trivial, nums_at K (by omega)]
      rfl
    by_cases a : n < 0
    · rw [if_pos a]; exact ej
    · rw [if_neg a, show decide (n > 4096) = true from decide_eq_true (by omega)]; exact ej

end Go.Proofs.YtaffkbemjbfajaaGreatDoor.Pure
