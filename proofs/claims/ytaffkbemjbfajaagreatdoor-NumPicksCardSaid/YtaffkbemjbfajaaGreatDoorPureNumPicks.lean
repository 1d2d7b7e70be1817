/-
  The pure statement of NumPicks: for all weights Pick is as specified. No condition.
-/
import Derived.Test.YtaffkbemjbfajaaGreatDoorPNumPicksx
import Derived.Test.YtaffkbemjbfajaaGreatDoorNum
namespace Go.Proofs.YtaffkbemjbfajaaGreatDoor.Pure
open Go.RowKit Go.Proofs.YtaffkbemjbfajaaGreatDoor.PNumPicks Go.Proofs.YtaffkbemjbfajaaGreatDoor.Num Go.Proofs.YtaffkbemjbfajaaGreatDoorW.PrintWords Go.Proofs.YtaffkbemjbfajaaGreatDoorW.PrintLast

set_option maxRecDepth 100000 in
theorem nums_true : weftlaw1_nums.f 40 = some true := by decide +kernel
theorem nums_up : ∀ d, weftlaw1_nums.f (40 + d) = some true
  | 0 => nums_true
  | d + 1 => weftlaw1_nums.mono (40 + d) _ (nums_up d)
theorem nums_at (k : Nat) (h : 40 ≤ k) : weftlaw1_nums.f k = some true := by
  obtain ⟨d, rfl⟩ : ∃ d, k = 40 + d := ⟨k - 40, by omega⟩
  exact nums_up d

theorem draw_same (a b : Int) : weftref1_Drawn.f a b = num_Draw.f a b := rfl
theorem draw_some (a b : Int) : ∃ t, num_Draw.f a b = some t := ⟨_, rfl⟩
theorem draw_nonneg {a b t : Int} (h : num_Draw.f a b = some t) : 0 ≤ t := by
  unfold num_Draw.f at h
  have e := Option.some.inj h
  rw [← e]
  generalize hx : Go.bits .xor .u64 _ _ = z
  have h0 : 0 ≤ z := by rw [← hx]; exact bits_lo_u64 _ _ _
  have h1 : z ≤ 18446744073709551615 := by rw [← hx]; exact bits_hi_u64 _ _ _
  clear hx e h
  unfold wrap64; omega
/-- The loops of the program and of the reference, from the same round on. -/
theorem below_loops (x0 x1 n lim : Int) (hn : 1 ≤ n) : ∀ (d : Nat) (k k' : Nat) (v i : Int), 0 ≤ i → i ≤ 63 → 64 - i = d → d < k → d < k' →
    ∃ t u, num_Below.l0 k x0 x1 n v i lim = some (Int.tmod t n, u, 0) ∧ weftref1_DrawnBelow.l0 k' x0 x1 n lim (i + 1) = some (Int.tmod t n, u) ∧ 0 ≤ t := by
  intro d
  induction d with
  | zero => intro k k' v i h0 h1 hd; omega
  | succ d ih =>
    intro k k' v i h0 h1 hd hk hk'
    obtain ⟨k, rfl⟩ : ∃ m, k = m + 1 := ⟨k - 1, by omega⟩
    obtain ⟨k', rfl⟩ : ∃ m, k' = m + 1 := ⟨k' - 1, by omega⟩
    obtain ⟨t, ht⟩ := draw_some x0 (wrap64 (x1 + i))
    have hw : wrap64 (wrap64 (x1 + (i + 1)) - 1) = wrap64 (x1 + i) := by unfold wrap64; omega
    have hi : wrap64 (i + 1) = i + 1 := w64 (by omega) (by omega)
    by_cases hl : t < lim
    · refine ⟨t, i + 1, ?_, ?_, draw_nonneg ht⟩
      · simp only [num_Below.l0]
        rw [if_pos (by omega), ht]
        simp only [Option.bind_some]
        rw [if_pos hl, if_neg (by omega), hi]
      · simp only [weftref1_DrawnBelow.l0]
        rw [hw, draw_same, ht]
        simp only [Option.bind_some]
        rw [if_pos hl, if_neg (by omega)]
    · by_cases h63 : i = 63
      · subst h63
        obtain ⟨k, rfl⟩ : ∃ m, k = m + 1 := ⟨k - 1, by omega⟩
        refine ⟨t, 64, ?_, ?_, draw_nonneg ht⟩
        · simp only [num_Below.l0]
          rw [if_pos (by omega), ht]
          simp only [Option.bind_some]
          rw [if_neg hl, hi, if_neg (by omega), if_neg (by omega)]
          rfl
        · simp only [weftref1_DrawnBelow.l0]
          rw [hw, draw_same, ht]
          simp only [Option.bind_some]
          rw [if_neg hl, if_pos (by omega), if_neg (by omega)]
          rfl
      · obtain ⟨t', u, e1, e2, e3⟩ := ih k k' t (i + 1) (by omega) (by omega) (by omega) (by omega) (by omega)
        refine ⟨t', u, ?_, ?_, e3⟩
        · simp only [num_Below.l0]
          rw [if_pos (by omega), ht]
          simp only [Option.bind_some]
          rw [if_neg hl, hi]
          exact e1
        · simp only [weftref1_DrawnBelow.l0]
          rw [hw, draw_same, ht]
          simp only [Option.bind_some]
          rw [if_neg hl, if_neg (by omega), w64 (by omega) (by omega)]
          exact e2
theorem limit_same (n : Int) (h1 : 1 ≤ n) (h2 : n ≤ 2147483647) : wrap64 (wrap64 (Int.tdiv 4294967296 n) * n) = wrap64 (4294967296 - (4294967296 : Int) % n) := by
  rw [tdiv_nonneg_eq (by omega)]
  have hd : (4294967296 : Int) / n * n = 4294967296 - 4294967296 % n := by
    have := Int.emod_add_mul_ediv 4294967296 n
    have hc := Int.mul_comm n (4294967296 / n)
    omega
  have hr0 := Int.emod_nonneg (4294967296 : Int) (show n ≠ 0 by omega)
  have hr1 := Int.emod_lt_of_pos (4294967296 : Int) (show 0 < n by omega)
  have hq0 : 0 ≤ (4294967296 : Int) / n := Int.ediv_nonneg (by omega) (by omega)
  have hq1 : (4294967296 : Int) / n ≤ 4294967296 := Int.ediv_le_self _ (by omega)
  rw [w64 (n := (4294967296 : Int) / n) (by omega) (by omega), hd]
/-- Below for a valid n is the reference's. -/
theorem below_all (x0 x1 n : Int) (h1 : 1 ≤ n) (h2 : n ≤ 2147483647) (k k' : Nat) (hk : 66 ≤ k) (hk' : 66 ≤ k') :
    ∃ t u, num_Below.f k x0 x1 n = some (Int.tmod t n, u, 0) ∧ weftref1_DrawnBelow.f k' x0 x1 n = some (Int.tmod t n, u) ∧ 0 ≤ t := by
  obtain ⟨k, rfl⟩ : ∃ m, k = m + 1 := ⟨k - 1, by omega⟩
  obtain ⟨t, u, e1, e2, e3⟩ := below_loops x0 x1 n (wrap64 (4294967296 - (4294967296 : Int) % n)) h1 64 k k' 0 0 (by omega) (by omega) (by omega) (by omega) (by omega)
  refine ⟨t, u, ?_, ?_, e3⟩
  · unfold num_Below.f
    rw [if_neg (by omega), show decide (n > 2147483647) = false from decide_eq_false (by omega)]
    simp only [num_Below.j0]
    rw [if_neg (by simp), if_neg (by omega)]
    exact e1
  · unfold weftref1_DrawnBelow.f
    rw [if_neg (by omega), limit_same n h1 h2]
    exact e2
theorem below_both (x0 x1 n : Int) (h1 : 1 ≤ n) (h2 : n ≤ 2147483647) (k k' : Nat) (hk : 66 ≤ k) (hk' : 66 ≤ k') :
    ∃ t u, num_Below.f k x0 x1 n = some (Int.tmod t n, u, 0) ∧ weftref1_DrawnBelow.f k' x0 x1 n = some (Int.tmod t n, u) := by
  obtain ⟨t, u, e1, e2, _⟩ := below_all x0 x1 n h1 h2 k k' hk hk'
  exact ⟨t, u, e1, e2⟩
theorem below_idx (x0 x1 n : Int) (h1 : 1 ≤ n) (h2 : n ≤ 2147483647) (k k' : Nat) (hk : 66 ≤ k) (hk' : 66 ≤ k') :
    ∃ v u, num_Below.f k x0 x1 n = some (v, u, 0) ∧ weftref1_DrawnBelow.f k' x0 x1 n = some (v, u) ∧ 0 ≤ v ∧ v < n := by
  obtain ⟨t, u, e1, e2, e3⟩ := below_all x0 x1 n h1 h2 k k' hk hk'
  exact ⟨_, u, e1, e2, Int.tmod_nonneg n e3, Int.tmod_lt_of_pos t (by omega)⟩
theorem below_bad (x0 x1 n : Int) (h : n < 1 ∨ n > 2147483647) (k : Nat) : num_Below.f (k + 1) x0 x1 n = some (0, 0, 1) := by
  unfold num_Below.f
  by_cases c : n < 1
  · rw [if_pos c]; simp only [num_Below.j0]; rfl
  · rw [if_neg c, show decide (n > 2147483647) = true from decide_eq_true (by omega)]; simp only [num_Below.j0]; rfl

def Good (l : List Int) : Prop := ∀ x ∈ l, 0 ≤ x ∧ x ≤ 1000000
instance (l : List Int) : Decidable (Good l) := inferInstanceAs (Decidable (∀ x ∈ l, 0 ≤ x ∧ x ≤ 1000000))
theorem rd_at (ws : List Int) (i : Nat) (h : i < ws.length) : rd ws (i : Int) = ws[i] := by
  simp only [rd, Int.toNat_natCast]
  rw [List.getD_eq_getElem?_getD, List.getElem?_eq_getElem h]; rfl
theorem drop_at (ws : List Int) (i : Nat) (h : i < ws.length) : ws.drop i = ws[i] :: ws.drop (i + 1) := List.drop_eq_getElem_cons h
theorem sum_range (l : List Int) (h : Good l) : 0 ≤ l.sum ∧ l.sum ≤ 1000000 * l.length := by
  induction l with
  | nil => simp
  | cons a l ih =>
    have h1 := h a List.mem_cons_self
    have h2 := ih (fun x hx => h x (List.mem_cons_of_mem _ hx))
    simp only [List.sum_cons, List.length_cons]
    omega
/-- The walk to the index, in the program and in the law. -/
theorem walk_loop (ws : List Int) (hg : Good ws) (hl : ws.length ≤ 1024) (u : Int) (K : Nat) (hK : 40 ≤ K) : ∀ (d : Nat) (k k' i : Nat) (v : Int), ws.length - i = d → i ≤ ws.length → d < k → d + K < k' → v < (ws.drop i).sum → v ≤ 2000000000 → (0 ≤ v ∨ i < ws.length) →
    ∃ r, num_Pick.l1 k ws (i : Int) u v = some (r, u, 0) ∧ weftlaw1_NumPicks.l1 k' ws r u 0 v u (i : Int) = some true := by
  intro d
  induction d with
  | zero =>
    intro k k' i v hd hi hk hk' hv _ ho
    have : i = ws.length := by omega
    rw [this, List.drop_length] at hv
    simp only [List.sum_nil] at hv
    rcases ho with ho | ho <;> omega
  | succ d ih =>
    intro k k' i v hd hi hk hk' hv hvm _
    obtain ⟨k, rfl⟩ : ∃ m, k = m + 1 := ⟨k - 1, by omega⟩
    obtain ⟨k', rfl⟩ : ∃ m, k' = m + 1 := ⟨k' - 1, by omega⟩
    have hlt : i < ws.length := by omega
    have hw := hg ws[i] (List.getElem_mem _)
    have hr := rd_at ws i hlt
    have hwi : wrap64 ((i : Int) + 1) = ((i + 1 : Nat) : Int) := by rw [w64 (by omega) (by omega)]; rfl
    rw [drop_at ws i hlt, List.sum_cons] at hv
    have hsr := sum_range (ws.drop (i + 1)) (fun x hx => hg x (List.mem_of_mem_drop hx))
    generalize hwe : ws[i] = w at *
    by_cases c : v ≥ w
    · have hwv : wrap64 (v - w) = v - w := w64 (by omega) (by omega)
      obtain ⟨r, e1, e2⟩ := ih k k' (i + 1) (v - w) (by omega) (by omega) (by omega) (by omega) (by omega) (by omega) (.inl (by omega))
      refine ⟨r, ?_, ?_⟩
      · simp only [num_Pick.l1]
        rw [if_pos (by omega), if_pos (by omega), hr, if_pos c, hwi, hwv]; exact e1
      · simp only [weftlaw1_NumPicks.l1]
        rw [if_pos (by omega), if_pos (by omega), hr, if_pos c, hwi, hwv]; exact e2
    · refine ⟨i, ?_, ?_⟩
      · simp only [num_Pick.l1]
        rw [if_pos (by omega), if_pos (by omega), hr, if_neg c]
      · simp only [weftlaw1_NumPicks.l1]
        rw [if_pos (by omega), if_pos (by omega), hr, if_neg c, nums_at k' (by omega)]
        simp
def pickEnd (k : Nat) (x0 x1 : Int) (ws : List Int) (s : Int) : Option (Int × Int × Int) :=
  if s = 0 then some (0, 0, 23) else (num_Below.f k x0 x1 s).bind fun bt => num_Pick.l1 k ws 0 bt.2.1 bt.1
/-- The program's sum, from the index i on. -/
theorem sum_loop (x0 x1 : Int) (ws : List Int) (hl : ws.length ≤ 1024) (k : Nat) : ∀ (d i : Nat) (s : Int), ws.length - i = d → i ≤ ws.length → 0 ≤ s → s ≤ 1000000 * i →
    num_Pick.l0 (k + 1 + d) x0 x1 ws 0 s ws (ws.length : Int) (i : Int) = if Good (ws.drop i) then pickEnd k x0 x1 ws (s + (ws.drop i).sum) else some (0, 0, 9) := by
  intro d
  induction d with
  | zero =>
    intro i s hd hi _ _
    have : i = ws.length := by omega
    subst this
    rw [List.drop_length, if_pos (show Good [] from fun x hx => by cases hx), List.sum_nil, Int.add_zero]
    show num_Pick.l0 (k + 1) _ _ _ _ _ _ _ _ = _
    simp only [num_Pick.l0]
    rw [if_neg (by omega)]
    rfl
  | succ d ih =>
    intro i s hd hi hs0 hs1
    have hlt : i < ws.length := by omega
    have hr := rd_at ws i hlt
    have hwi : wrap64 ((i : Int) + 1) = ((i + 1 : Nat) : Int) := by rw [w64 (by omega) (by omega)]; rfl
    rw [drop_at ws i hlt]
    show num_Pick.l0 ((k + 1 + d) + 1) _ _ _ _ _ _ _ _ = _
    simp only [num_Pick.l0]
    have ih' := ih (i + 1)
    generalize hwe : ws[i] = w at *
    rw [if_pos (by omega), if_pos (by omega), if_pos (by omega), hr]
    by_cases c1 : w < 0
    · rw [if_pos c1, if_neg (show ¬ Good (w :: ws.drop (i + 1)) from fun h => by have := h w List.mem_cons_self; omega)]
    · rw [if_neg c1]
      by_cases c2 : w > 1000000
      · rw [if_pos c2, if_neg (show ¬ Good (w :: ws.drop (i + 1)) from fun h => by have := h w List.mem_cons_self; omega)]
      · rw [if_neg c2, hwi, w64 (n := s + w) (by omega) (by omega), ih' (s + w) (by omega) (by omega) (by omega) (by omega)]
        by_cases g : Good (ws.drop (i + 1))
        · rw [if_pos g, if_pos (show Good (w :: ws.drop (i + 1)) from fun x hx => (List.mem_cons.1 hx).elim (fun e => by omega) (fun hx => g x hx)), List.sum_cons, Int.add_assoc]
        · rw [if_neg g, if_neg (show ¬ Good (w :: ws.drop (i + 1)) from fun h => g fun x hx => h x (List.mem_cons_of_mem _ hx))]
/-- The law's sum: what follows it is asked at whatever sum and error it ends with. -/
theorem law_any (x0 x1 : Int) (ws : List Int) (hl : ws.length ≤ 17592186044416) (x7 x8 x9 : Int) (K : Nat) (hj : ∀ (k : Nat) (s f : Int), K ≤ k → (f = 0 ∨ f = 9) → weftlaw1_NumPicks.j1 k x0 x1 ws x7 x8 x9 s f = some true) : ∀ (d k i : Nat) (s : Int), ws.length - i = d → i ≤ ws.length → K + d < k →
    weftlaw1_NumPicks.l0 k x0 x1 ws x7 x8 x9 s 0 ws (ws.length : Int) (i : Int) = some true := by
  intro d
  induction d with
  | zero =>
    intro k i s hd hi hk
    obtain ⟨k, rfl⟩ : ∃ m, k = m + 1 := ⟨k - 1, by omega⟩
    simp only [weftlaw1_NumPicks.l0]
    rw [if_neg (by omega)]
    exact hj k s 0 (by omega) (.inl rfl)
  | succ d ih =>
    intro k i s hd hi hk
    obtain ⟨k, rfl⟩ : ∃ m, k = m + 1 := ⟨k - 1, by omega⟩
    have hlt : i < ws.length := by omega
    have hr := rd_at ws i hlt
    have hwi : wrap64 ((i : Int) + 1) = ((i + 1 : Nat) : Int) := by rw [w64 (by omega) (by omega)]; rfl
    simp only [weftlaw1_NumPicks.l0]
    rw [if_pos (by omega), if_pos (by omega), if_pos (by omega), hr]
    by_cases c1 : ws[i] < 0
    · rw [if_pos c1]; exact hj k s 9 (by omega) (.inr rfl)
    rw [if_neg c1]
    by_cases c2 : ws[i] > 1000000
    · rw [if_pos c2]; exact hj k s 9 (by omega) (.inr rfl)
    rw [if_neg c2, hwi]
    exact ih k (i + 1) _ (by omega) (by omega) (by omega)
/-- .. and where all is within bounds, it ends with the sum. -/
theorem law_sum (x0 x1 : Int) (ws : List Int) (hl : ws.length ≤ 1024) (x7 x8 x9 : Int) (K : Nat)
    (h9 : ¬ Good ws → ∀ (k : Nat) (s : Int), K ≤ k → weftlaw1_NumPicks.j1 k x0 x1 ws x7 x8 x9 s 9 = some true) (h0 : Good ws → ∀ k, K ≤ k → weftlaw1_NumPicks.j1 k x0 x1 ws x7 x8 x9 ws.sum 0 = some true) : ∀ (d k i : Nat) (s : Int), ws.length - i = d → i ≤ ws.length → K + d < k → 0 ≤ s → s ≤ 1000000 * i →
    (Good (ws.drop i) → Good ws ∧ s + (ws.drop i).sum = ws.sum) →
    weftlaw1_NumPicks.l0 k x0 x1 ws x7 x8 x9 s 0 ws (ws.length : Int) (i : Int) = some true := by
  intro d
  induction d with
  | zero =>
    intro k i s hd hi hk _ _ hs
    obtain ⟨k, rfl⟩ : ∃ m, k = m + 1 := ⟨k - 1, by omega⟩
    simp only [weftlaw1_NumPicks.l0]
    rw [if_neg (by omega)]
    have e : ws.drop i = [] := List.drop_eq_nil_of_le (by omega)
    rw [e] at hs
    obtain ⟨hg, hsum⟩ := hs (fun x hx => by cases hx)
    rw [List.sum_nil, Int.add_zero] at hsum
    rw [hsum]
    exact h0 hg k (by omega)
  | succ d ih =>
    intro k i s hd hi hk hs0 hs1 hs
    obtain ⟨k, rfl⟩ : ∃ m, k = m + 1 := ⟨k - 1, by omega⟩
    have hlt : i < ws.length := by omega
    have hr := rd_at ws i hlt
    have hm : ws[i] ∈ ws := List.getElem_mem _
    have hwi : wrap64 ((i : Int) + 1) = ((i + 1 : Nat) : Int) := by rw [w64 (by omega) (by omega)]; rfl
    rw [drop_at ws i hlt] at hs
    have ih' := ih k (i + 1)
    generalize hwe : ws[i] = w at *
    simp only [weftlaw1_NumPicks.l0]
    rw [if_pos (by omega), if_pos (by omega), if_pos (by omega), hr]
    by_cases c1 : w < 0
    · rw [if_pos c1]; exact h9 (fun g => by have := g w hm; omega) k s (by omega)
    rw [if_neg c1]
    by_cases c2 : w > 1000000
    · rw [if_pos c2]; exact h9 (fun g => by have := g w hm; omega) k s (by omega)
    rw [if_neg c2, hwi, w64 (n := s + w) (by omega) (by omega)]
    refine ih' (s + w) (by omega) (by omega) (by omega) (by omega) (by omega) fun g => ?_
    have := hs (fun x hx => (List.mem_cons.1 hx).elim (fun e => by omega) (fun hx => g x hx))
    rw [List.sum_cons] at this
    exact ⟨this.1, by omega⟩
theorem fault_true (k : Nat) (hk : 41 ≤ k) (x0 x1 : Int) (ws : List Int) (s f : Int) (hf : f ≠ 0) : weftlaw1_NumPicks.j2 k x0 x1 ws 0 0 f s f = some true := by
  obtain ⟨k, rfl⟩ : ∃ m, k = m + 1 := ⟨k - 1, by omega⟩
  simp only [weftlaw1_NumPicks.j2]
  rw [if_neg hf, nums_at k (by omega)]
  simp
theorem NumPicks : weftlaw1_NumPicks.Pure := by
  intro x0 x1 ws _ _ _ hlen _
  have hL : ws.length ≤ 17592186044416 := by omega
  obtain ⟨K, hK⟩ : ∃ K : Nat, 2999 ≤ K := ⟨2999, Nat.le_refl _⟩
  refine ⟨K + 1 + ws.length, ?_⟩
  unfold weftlaw1_NumPicks.f
  by_cases e0 : ws.length = 0
  · have e : num_Pick.f (K + 1 + ws.length) x0 x1 ws = some (0, 0, 11) := by unfold num_Pick.f; rw [if_pos (by omega)]
    rw [e]
    simp only [Option.bind_some]
    refine law_any x0 x1 ws hL 0 0 11 100 (fun k s f hk hf => ?_) ws.length _ 0 0 (by omega) (by omega) (by omega)
    obtain ⟨k, rfl⟩ : ∃ m, k = m + 1 := ⟨k - 1, by omega⟩
    simp only [weftlaw1_NumPicks.j1]
    rw [if_pos (by omega)]
    exact fault_true k (by omega) x0 x1 ws s 11 (by decide)
  by_cases e1 : ws.length > 1024
  · have e : num_Pick.f (K + 1 + ws.length) x0 x1 ws = some (0, 0, 2) := by unfold num_Pick.f; rw [if_neg (by omega), if_pos (by omega)]
    rw [e]
    simp only [Option.bind_some]
    refine law_any x0 x1 ws hL 0 0 2 100 (fun k s f hk hf => ?_) ws.length _ 0 0 (by omega) (by omega) (by omega)
    obtain ⟨k, rfl⟩ : ∃ m, k = m + 1 := ⟨k - 1, by omega⟩
    simp only [weftlaw1_NumPicks.j1]
    rw [if_neg (by omega), if_pos (by omega)]
    exact fault_true k (by omega) x0 x1 ws s 2 (by decide)
  have hf : num_Pick.f (K + 1 + ws.length) x0 x1 ws = if Good ws then pickEnd K x0 x1 ws ws.sum else some (0, 0, 9) := by
    unfold num_Pick.f
    rw [if_neg (by omega), if_neg (by omega)]
    have := sum_loop x0 x1 ws (by omega) K ws.length 0 0 (by omega) (by omega) (by omega) (by omega)
    rw [List.drop_zero, Int.zero_add] at this
    exact this
  by_cases g : Good ws
  · rw [if_pos g] at hf
    have hsr := sum_range ws g
    by_cases z : ws.sum = 0
    · rw [hf, pickEnd, if_pos z]
      simp only [Option.bind_some]
      refine law_sum x0 x1 ws (by omega) 0 0 23 100 (fun h => absurd g h) (fun _ k hk => ?_) ws.length _ 0 0 (by omega) (by omega) (by omega) (by omega) (by omega) (fun _ => ⟨g, by rw [List.drop_zero]; omega⟩)
      obtain ⟨k, rfl⟩ : ∃ m, k = m + 1 := ⟨k - 1, by omega⟩
      simp only [weftlaw1_NumPicks.j1]
      rw [if_neg (by omega), if_neg (by omega), if_pos trivial, if_pos z]
      exact fault_true k (by omega) x0 x1 ws _ 23 (by decide)
    · obtain ⟨t, u, b1, _⟩ := below_both x0 x1 ws.sum (by omega) (by omega) K 100 (by omega) (by omega)
      have hv := Int.tmod_lt_of_pos t (show 0 < ws.sum by omega)
      obtain ⟨r, l1, _⟩ := walk_loop ws g (by omega) u 100 (by omega) ws.length K (K + 2000) 0 (Int.tmod t ws.sum) (by omega) (by omega) (by omega) (by omega) (by rw [List.drop_zero]; exact hv) (by omega) (.inr (by omega))
      have hf2 : num_Pick.f (K + 1 + ws.length) x0 x1 ws = some (r, u, 0) := by
        rw [hf, pickEnd, if_neg z, b1]
        exact l1
      rw [hf2]
      simp only [Option.bind_some]
      refine law_sum x0 x1 ws (by omega) r u 0 2000 (fun h => absurd g h) (fun _ k hk => ?_) ws.length _ 0 0 (by omega) (by omega) (by omega) (by omega) (by omega) (fun _ => ⟨g, by rw [List.drop_zero]; omega⟩)
      obtain ⟨k, rfl⟩ : ∃ m, k = m + 2 := ⟨k - 2, by omega⟩
      simp only [weftlaw1_NumPicks.j1]
      rw [if_neg (by omega), if_neg (by omega), if_pos trivial, if_neg z]
      simp only [weftlaw1_NumPicks.j2]
      obtain ⟨t', u', b1', b2'⟩ := below_both x0 x1 ws.sum (by omega) (by omega) K k (by omega) (by omega)
      rw [b1] at b1'
      simp only [Option.some.injEq, Prod.mk.injEq] at b1'
      rw [if_pos trivial, b2']
      simp only [Option.bind_some]
      obtain ⟨r2, l1', l2'⟩ := walk_loop ws g (by omega) u 100 (by omega) ws.length K k 0 (Int.tmod t ws.sum) (by omega) (by omega) (by omega) (by omega) (by rw [List.drop_zero]; exact hv) (by omega) (.inr (by omega))
      rw [l1] at l1'
      simp only [Option.some.injEq, Prod.mk.injEq] at l1'
      rw [← b1'.1, ← b1'.2.1, l1'.1]
      exact l2'
  · rw [if_neg g] at hf
    rw [hf]
    simp only [Option.bind_some]
    refine law_sum x0 x1 ws (by omega) 0 0 9 100 (fun _ k s hk => ?_) (fun h => absurd h g) ws.length _ 0 0 (by omega) (by omega) (by omega) (by omega) (by omega) (fun h => absurd (by rw [List.drop_zero] at h; exact h) g)
    obtain ⟨k, rfl⟩ : ∃ m, k = m + 1 := ⟨k - 1, by omega⟩
    simp only [weftlaw1_NumPicks.j1]
    rw [if_neg (by omega), if_neg (by omega), if_neg (by decide)]
    exact fault_true k (by omega) x0 x1 ws s 9 (by decide)

end Go.Proofs.YtaffkbemjbfajaaGreatDoor.Pure
