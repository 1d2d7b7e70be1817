/-
  The pure statement of NumPoints: for all counts of small bulk Point is as specified. No condition.
-/
import Derived.Test.YtaffkbemjbfajaaGreatDoorPNumPointsx
import Derived.Test.YtaffkbemjbfajaaGreatDoorNum
namespace Go.Proofs.YtaffkbemjbfajaaGreatDoor.Pure
open Go.RowKit Go.Proofs.YtaffkbemjbfajaaGreatDoor.PNumPoints Go.Proofs.YtaffkbemjbfajaaGreatDoor.Num Go.Proofs.YtaffkbemjbfajaaGreatDoorW.PrintWords Go.Proofs.YtaffkbemjbfajaaGreatDoorW.PrintLast

set_option maxRecDepth 100000 in
theorem nums_true : weftlaw1_nums.f 40 = some true := by decide +kernel
theorem nums_up : ∀ d, weftlaw1_nums.f (40 + d) = some true
  | 0 => nums_true
  | d + 1 => weftlaw1_nums.mono (40 + d) _ (nums_up d)
theorem nums_at (k : Nat) (h : 40 ≤ k) : weftlaw1_nums.f k = some true := by
  obtain ⟨d, rfl⟩ : ∃ d, k = 40 + d := ⟨k - 40, by omega⟩
  exact nums_up d

def pre (xs : List Int) (k : Nat) : Int := (xs.take k).sum
theorem rd_at (xs : List Int) (i : Nat) (h : i < xs.length) : rd xs (i : Int) = xs[i] := by
  show xs.getD (i : Int).toNat 0 = xs[i]
  rw [Int.toNat_natCast, List.getD_eq_getElem?_getD, List.getElem?_eq_getElem h, Option.getD_some]
theorem pre_succ (xs : List Int) (k : Nat) (h : k < xs.length) : pre xs (k + 1) = pre xs k + rd xs (k : Int) := by
  unfold pre
  rw [rd_at xs k h, List.take_add_one, List.getElem?_eq_getElem h, Option.toList_some, List.sum_append]
  simp
def Small (xs : List Int) : Prop := xs.length ≤ 1048576 ∧ ∀ x ∈ xs, 0 ≤ x ∧ x ≤ 2147483647
theorem Small.rd {xs : List Int} (hs : Small xs) (k : Nat) (h : k < xs.length) : 0 ≤ rd xs (k : Int) ∧ rd xs (k : Int) ≤ 2147483647 := by
  rw [rd_at xs k h]; exact hs.2 _ (List.getElem_mem h)
theorem pre_zero (xs : List Int) : pre xs 0 = 0 := rfl
theorem pre_mono {xs : List Int} (hs : Small xs) (a : Nat) : ∀ d, a + d ≤ xs.length → pre xs a ≤ pre xs (a + d)
  | 0, _ => Int.le_refl _
  | d + 1, h => by
    have i1 := pre_mono hs a d (by omega)
    have i2 := pre_succ xs (a + d) (by omega)
    have i3 := (hs.rd (a + d) (by omega)).1
    rw [← Nat.add_assoc]; omega
theorem pre_le {xs : List Int} (hs : Small xs) {a b : Nat} (h : a ≤ b) (hb : b ≤ xs.length) : pre xs a ≤ pre xs b := by
  have := pre_mono hs a (b - a) (by omega)
  rwa [show a + (b - a) = b by omega] at this
theorem pre_hi {xs : List Int} (hs : Small xs) : ∀ k, k ≤ xs.length → pre xs k ≤ 2147483647 * (k : Int)
  | 0, _ => by rw [pre_zero]; omega
  | k + 1, h => by
    have i1 := pre_hi hs k (by omega)
    have i2 := pre_succ xs k (by omega)
    have i3 := (hs.rd k (by omega)).2
    omega
theorem pre_bd {xs : List Int} (hs : Small xs) (k : Nat) (h : k ≤ xs.length) : 0 ≤ pre xs k ∧ pre xs k ≤ 2251799813685248 := by
  have i1 := pre_le hs (Nat.zero_le k) h
  have i2 := pre_hi hs k h
  have i3 := hs.1
  rw [pre_zero] at i1
  exact ⟨i1, by omega⟩
/-- What lies outside of the stretch from a to b - 1. -/
def out (xs : List Int) (a b : Nat) : Int := pre xs xs.length - (pre xs b - pre xs a)
/-- The answer: a stretch that will do, and none is shorter, nor as short and earlier. -/
structure Best (xs : List Int) (most : Int) (N a b : Nat) : Prop where
  ab : a ≤ b
  bn : b < xs.length
  does : out xs a (b + 1) ≤ most
  least : ∀ i L, i < N → 1 ≤ L → i + L ≤ xs.length → out xs i (i + L) ≤ most → b + 1 - a < L ∨ (b + 1 - a = L ∧ a ≤ i)

theorem sum_loop {xs : List Int} (hs : Small xs) (most : Int) (k : Nat) : ∀ (d i : Nat), xs.length - i = d → i ≤ xs.length →
    num_Point.l0 (k + 1 + d) xs most (pre xs i) xs (xs.length : Int) (i : Int) = num_Point.l1 k xs most 0 (wrap64 ((xs.length : Int) - 1)) (pre xs xs.length) 0 (xs.length : Int) 0 := by
  intro d
  have hl := hs.1
  induction d with
  | zero =>
    intro i hd hi
    obtain rfl : i = xs.length := by omega
    simp only [num_Point.l0]
    rw [if_neg (by omega)]
  | succ d ih =>
    intro i hd hi
    have g1 := pre_bd hs (i + 1) (by omega)
    have e1 := pre_succ xs i (by omega)
    have g2 : -9223372036854775808 ≤ (i : Int) + 1 := by omega
    have g3 : (i : Int) + 1 ≤ 9223372036854775807 := by omega
    have hA : (i : Int) < (xs.length : Int) := by omega
    have hB : 0 ≤ (i : Int) := by omega
    have h2 := ih (i + 1) (by omega) (by omega)
    rw [show k + 1 + (d + 1) = (k + 1 + d) + 1 by omega]
    simp only [num_Point.l0, if_pos hA, if_pos hB]
    rw [← e1, w64 (by omega) (by omega), w64 g2 g3]
    exact h2

theorem end_loop {xs : List Int} (hs : Small xs) (most : Int) (f t : Int) (i : Nat) (hi : i < xs.length) : ∀ (d F e : Nat), xs.length - e = d → i ≤ e → e ≤ xs.length → d + 1 ≤ F →
    (∀ q, i < q → q < e → most < out xs i q) →
    ∃ e2 F', i < e2 ∧ e ≤ e2 ∧ e2 ≤ xs.length ∧ (∀ q, i < q → q < e2 → most < out xs i q) ∧ (e2 = xs.length ∨ out xs i e2 ≤ most) ∧ F = F' + 1 + (e2 - e) ∧
      num_Point.l2 F xs most f t (out xs i e) (e : Int) (i : Int) (xs.length : Int) (i : Int) = num_Point.j3 F' xs most f t (out xs i e2) (e2 : Int) (i : Int) (xs.length : Int) (i : Int) := by
  intro d
  have hl := hs.1
  induction d with
  | zero =>
    intro F e hd h1 h2 hF hq
    obtain rfl : e = xs.length := by omega
    obtain ⟨F, rfl⟩ : ∃ m, F = m + 1 := ⟨F - 1, by omega⟩
    refine ⟨xs.length, F, hi, Nat.le_refl _, Nat.le_refl _, hq, .inl rfl, by omega, ?_⟩
    simp only [num_Point.l2]
    rw [if_neg (by omega)]
  | succ d ih =>
    intro F e hd h1 h2 hF hq
    obtain ⟨F, rfl⟩ : ∃ m, F = m + 1 := ⟨F - 1, by omega⟩
    have hA : (e : Int) < (xs.length : Int) := by omega
    have hB : 0 ≤ (e : Int) := by omega
    have e1 := pre_succ xs e (by omega)
    have b0 := pre_bd hs e (by omega)
    have b1 := pre_bd hs (e + 1) (by omega)
    have b2 := pre_bd hs i (by omega)
    have b3 := pre_bd hs xs.length (Nat.le_refl _)
    have eo : out xs i e - rd xs (e : Int) = out xs i (e + 1) := by unfold out; omega
    have bo1 : -9223372036854775808 ≤ out xs i (e + 1) := by unfold out; omega
    have bo2 : out xs i (e + 1) ≤ 9223372036854775807 := by unfold out; omega
    have g2 : -9223372036854775808 ≤ (e : Int) + 1 := by omega
    have g3 : (e : Int) + 1 ≤ 9223372036854775807 := by omega
    have next : (∀ q, i < q → q < e + 1 → most < out xs i q) → _ := fun hq' => ih F (e + 1) (by omega) (by omega) (by omega) (by omega) hq'
    by_cases c1 : (e : Int) ≤ (i : Int)
    · obtain ⟨e2, F', r1, r2, r3, r4, r5, r6, r7⟩ := next (fun q z1 z2 => by omega)
      refine ⟨e2, F', r1, by omega, r3, r4, r5, by omega, ?_⟩
      simp only [num_Point.l2, if_pos hA, if_pos c1, if_pos hB, eo]
      rw [w64 bo1 bo2, w64 g2 g3]
      exact r7
    · by_cases c2 : out xs i e > most
      · obtain ⟨e2, F', r1, r2, r3, r4, r5, r6, r7⟩ := next (fun q z1 z2 => by
          rcases Nat.lt_or_ge q e with z | z
          · exact hq q z1 z
          · obtain rfl : q = e := by omega
            exact c2)
        refine ⟨e2, F', r1, by omega, r3, r4, r5, by omega, ?_⟩
        simp only [num_Point.l2, if_pos hA, if_neg c1, if_pos c2, if_pos hB, eo]
        rw [w64 bo1 bo2, w64 g2 g3]
        exact r7
      · refine ⟨e, F, by omega, Nat.le_refl _, h2, hq, .inr (by omega), by omega, ?_⟩
        simp only [num_Point.l2, if_pos hA, if_neg c1, if_neg c2]

theorem outer_loop {xs : List Int} (hs : Small xs) (most : Int) : ∀ (d F i e f t : Nat), xs.length - i = d → i ≤ xs.length → 3 * d + (xs.length - e) + 2 ≤ F → i ≤ e → e ≤ xs.length →
    Best xs most i f t → f ≤ i → (∀ q, i < q → q < e → most < out xs i q) →
    ∃ a b : Nat, Best xs most xs.length a b ∧ num_Point.l1 F xs most (f : Int) (t : Int) (out xs i e) (e : Int) (xs.length : Int) (i : Int) = some ((a : Int), (b : Int), 0) := by
  intro d
  have hl := hs.1
  induction d with
  | zero =>
    intro F i e f t hd hi hF h1 h2 hb hf hq
    obtain rfl : i = xs.length := by omega
    obtain ⟨F, rfl⟩ : ∃ m, F = m + 1 := ⟨F - 1, by omega⟩
    refine ⟨f, t, hb, ?_⟩
    simp only [num_Point.l1]
    rw [if_neg (by omega)]
  | succ d ih =>
    intro F i e f t hd hi hF h1 h2 hb hf hq
    obtain ⟨F, rfl⟩ : ∃ m, F = m + 1 := ⟨F - 1, by omega⟩
    have hlt : i < xs.length := by omega
    have hA : (i : Int) < (xs.length : Int) := by omega
    have hB : 0 ≤ (i : Int) := by omega
    obtain ⟨e2, F', r1, r2, r3, r4, r5, r6, r7⟩ := end_loop hs most f t i hlt (xs.length - e) F e rfl h1 h2 (by omega) hq
    have r7' := r7
    simp only [num_Point.l1, if_pos hA]
    rw [r7']
    clear r7 r7'
    obtain ⟨F', rfl⟩ : ∃ m, F' = m + 1 := ⟨F' - 1, by omega⟩
    by_cases c1 : out xs i e2 > most
    · refine ⟨f, t, ⟨hb.ab, hb.bn, hb.does, ?_⟩, ?_⟩
      · intro j L hj hL hjL ho
        rcases Nat.lt_or_ge j i with z | z
        · exact hb.least j L z hL hjL ho
        · exfalso
          have e2n : e2 = xs.length := by rcases r5 with r5 | r5 <;> omega
          subst e2n
          have m1 := pre_le hs z (by omega)
          have m2 := pre_le hs hjL (Nat.le_refl _)
          unfold out at ho c1
          omega
      · simp only [num_Point.j3]
        rw [if_pos c1]
    · have e1 := pre_succ xs i hlt
      have b0 := pre_bd hs e2 r3
      have b1 := pre_bd hs (i + 1) (by omega)
      have b3 := pre_bd hs xs.length (Nat.le_refl _)
      have eo : out xs i e2 + rd xs (i : Int) = out xs (i + 1) e2 := by unfold out; omega
      have bo1 : -9223372036854775808 ≤ out xs (i + 1) e2 := by unfold out; omega
      have bo2 : out xs (i + 1) e2 ≤ 9223372036854775807 := by unfold out; omega
      have g2 : -9223372036854775808 ≤ (i : Int) + 1 := by omega
      have g3 : (i : Int) + 1 ≤ 9223372036854775807 := by omega
      have tb := hb.bn
      have ta := hb.ab
      have k1 : wrap64 ((e2 : Int) - (i : Int)) = (e2 : Int) - (i : Int) := w64 (by omega) (by omega)
      have k2 : wrap64 ((t : Int) - (f : Int)) = (t : Int) - (f : Int) := w64 (by omega) (by omega)
      have k3 : wrap64 ((t : Int) - (f : Int) + 1) = (t : Int) - (f : Int) + 1 := w64 (by omega) (by omega)
      have k4 : wrap64 ((e2 : Int) - 1) = ((e2 - 1 : Nat) : Int) := by
        rw [Int.ofNat_sub (by omega)]; exact w64 (by omega) (by omega)
      have far : ∀ q, i + 1 < q → q < e2 → most < out xs (i + 1) q := by
        intro q z1 z2
        have w1 := r4 q (by omega) z2
        have w2 := pre_le hs (show i ≤ i + 1 by omega) (by omega)
        unfold out at w1 ⊢
        omega
      have lo : ∀ L, 1 ≤ L → i + L ≤ xs.length → out xs i (i + L) ≤ most → e2 - i ≤ L := by
        intro L z1 z2 z3
        rcases Nat.lt_or_ge (i + L) e2 with z | z
        · have := r4 (i + L) (by omega) z
          omega
        · omega
      by_cases c2 : (e2 : Int) - (i : Int) < (t : Int) - (f : Int) + 1
      · have hb' : Best xs most (i + 1) i (e2 - 1) := by
          refine ⟨by omega, by omega, by rw [show e2 - 1 + 1 = e2 by omega]; omega, ?_⟩
          intro j L hj hL hjL ho
          rcases Nat.lt_or_ge j i with z | z
          · rcases hb.least j L z hL hjL ho with y | y <;> omega
          · obtain rfl : j = i := by omega
            have := lo L hL hjL ho
            omega
        obtain ⟨a, b, q1, q2⟩ := ih F' (i + 1) e2 i (e2 - 1) (by omega) (by omega) (by omega) (by omega) r3 hb' (by omega) far
        refine ⟨a, b, q1, ?_⟩
        simp only [num_Point.j3]
        rw [if_neg c1, k1, k2, k3, if_pos c2, if_pos hB, if_pos hA, w64 g2 g3]
        rw [eo, w64 bo1 bo2, k4]
        exact q2
      · have hb' : Best xs most (i + 1) f t := by
          refine ⟨hb.ab, hb.bn, hb.does, ?_⟩
          intro j L hj hL hjL ho
          rcases Nat.lt_or_ge j i with z | z
          · exact hb.least j L z hL hjL ho
          · obtain rfl : j = i := by omega
            have := lo L hL hjL ho
            omega
        obtain ⟨a, b, q1, q2⟩ := ih F' (i + 1) e2 f t (by omega) (by omega) (by omega) (by omega) r3 hb' (by omega) far
        refine ⟨a, b, q1, ?_⟩
        simp only [num_Point.j3]
        rw [if_neg c1, k1, k2, k3, if_neg c2, if_pos hB, if_pos hA, w64 g2 g3]
        rw [eo, w64 bo1 bo2]
        exact q2

def tail (k : Nat) (a b : Int) (L i : Nat) : Option Bool :=
  (weftlaw1_nums.f k).bind fun t302 => (if t302 = true then (if (0 : Int) = 0 then (if a = (i : Int) then (some (b == (wrap64 ((wrap64 ((i : Int) + (L : Int))) - 1)))) else (some false)) else (some false)) else (some false))

theorem sub_len (xs : List Int) (i L : Nat) (h : i + L ≤ xs.length) : ((xs.take (i + L)).drop i).length = L := by
  rw [List.length_drop, List.length_take]; omega
theorem sub_rd (xs : List Int) (i L t : Nat) (h : i + L ≤ xs.length) (ht : t < L) : rd ((xs.take (i + L)).drop i) (t : Int) = rd xs ((i + t : Nat) : Int) := by
  rw [rd_at _ t (by rw [sub_len xs i L h]; exact ht), rd_at xs (i + t) (by omega), List.getElem_drop, List.getElem_take]

theorem in_loop {xs : List Int} (hs : Small xs) (most a b : Int) (i L k : Nat) (h : i + L ≤ xs.length) : ∀ (d t : Nat), L - t = d → t ≤ L →
    weftlaw1_NumPoints.l3 (k + 1 + d) xs most a b 0 (pre xs xs.length) (L : Int) (i : Int) (pre xs (i + t) - pre xs i) ((xs.take (i + L)).drop i) (L : Int) (t : Int) =
      if out xs i (i + L) ≤ most then tail k a b L i else weftlaw1_NumPoints.l2 k xs most a b 0 (pre xs xs.length) (L : Int) ((i + 1 : Nat) : Int) := by
  intro d
  have hl := hs.1
  induction d with
  | zero =>
    intro t hd ht
    obtain rfl : t = L := by omega
    have b0 := pre_bd hs (i + t) h
    have b1 := pre_bd hs i (by omega)
    have b3 := pre_bd hs xs.length (Nat.le_refl _)
    have g2 : -9223372036854775808 ≤ (i : Int) + 1 := by omega
    have g3 : (i : Int) + 1 ≤ 9223372036854775807 := by omega
    simp only [weftlaw1_NumPoints.l3]
    rw [if_neg (by omega), w64 (n := pre xs xs.length - (pre xs (i + t) - pre xs i)) (by omega) (by omega), w64 g2 g3]
    rfl
  | succ d ih =>
    intro t hd ht
    have hlt : t < L := by omega
    have b0 := pre_bd hs (i + (t + 1)) (by omega)
    have b1 := pre_bd hs i (by omega)
    have e1 := pre_succ xs (i + t) (by omega)
    have hA : (t : Int) < (L : Int) := by omega
    have hB : 0 ≤ (t : Int) := by omega
    have hC : (t : Int) < (((xs.take (i + L)).drop i).length : Int) := by rw [sub_len xs i L h]; exact hA
    have g2 : -9223372036854775808 ≤ (t : Int) + 1 := by omega
    have g3 : (t : Int) + 1 ≤ 9223372036854775807 := by omega
    have h2 := ih (t + 1) (by omega) (by omega)
    have e2 : pre xs (i + t) - pre xs i + rd xs ((i + t : Nat) : Int) = pre xs (i + (t + 1)) - pre xs i := by rw [show i + (t + 1) = i + t + 1 by omega, e1]; omega
    rw [show k + 1 + (d + 1) = (k + 1 + d) + 1 by omega]
    simp only [weftlaw1_NumPoints.l3, if_pos hA, if_pos hB, if_pos hC]
    rw [sub_rd xs i L t h hlt, e2, w64 (n := pre xs (i + (t + 1)) - pre xs i) (by omega) (by omega), w64 g2 g3]
    exact h2

theorem try_at {xs : List Int} (hs : Small xs) (most a b : Int) (i L k : Nat) (h : i + L ≤ xs.length) :
    weftlaw1_NumPoints.l2 (k + 1 + L + 1) xs most a b 0 (pre xs xs.length) (L : Int) (i : Int) =
      if out xs i (i + L) ≤ most then tail k a b L i else weftlaw1_NumPoints.l2 k xs most a b 0 (pre xs xs.length) (L : Int) ((i + 1 : Nat) : Int) := by
  have hl := hs.1
  have e1 : wrap64 ((i : Int) + (L : Int)) = ((i + L : Nat) : Int) := by rw [Int.natCast_add]; exact w64 (by omega) (by omega)
  have hA : ((i + L : Nat) : Int) ≤ (xs.length : Int) := by omega
  have hB : 0 ≤ (i : Int) := by omega
  have hC : (i : Int) ≤ ((i + L : Nat) : Int) := by omega
  have h2 := in_loop hs most a b i L k h L 0 (by omega) (by omega)
  rw [show pre xs (i + 0) - pre xs i = 0 from Int.sub_self _] at h2
  rw [← h2]
  simp only [weftlaw1_NumPoints.l2, e1, if_pos hA, if_pos hB, if_pos hC, Int.toNat_natCast, sub_len xs i L h]
  rfl

theorem tail_true (k : Nat) (hk : 40 ≤ k) (a b : Nat) (hab : a ≤ b) (hb : b ≤ 1048576) : tail k (a : Int) (b : Int) (b + 1 - a) a = some true := by
  unfold tail
  rw [nums_at k hk]
  simp only [Option.bind_some]
  have e1 : wrap64 ((a : Int) + ((b + 1 - a : Nat) : Int)) = (b : Int) + 1 := by rw [w64 (by omega) (by omega)]; omega
  rw [if_pos trivial, if_pos trivial, if_pos trivial, e1, w64 (by omega) (by omega)]
  simp

theorem row_hit {xs : List Int} (hs : Small xs) (most : Int) (a b : Nat) (B : Best xs most xs.length a b) : ∀ j, j ≤ a → ∃ F, weftlaw1_NumPoints.l2 F xs most (a : Int) (b : Int) 0 (pre xs xs.length) ((b + 1 - a : Nat) : Int) ((a - j : Nat) : Int) = some true := by
  have hl := hs.1
  have ab := B.ab
  have bn := B.bn
  intro j
  induction j with
  | zero =>
    intro _
    refine ⟨40 + 1 + (b + 1 - a) + 1, ?_⟩
    rw [Nat.sub_zero, try_at hs most a b a (b + 1 - a) 40 (by omega), if_pos (by rw [show a + (b + 1 - a) = b + 1 by omega]; exact B.does)]
    exact tail_true 40 (Nat.le_refl _) a b ab (by omega)
  | succ j ih =>
    intro hj
    obtain ⟨F, hF⟩ := ih (by omega)
    refine ⟨F + 1 + (b + 1 - a) + 1, ?_⟩
    rw [try_at hs most a b (a - (j + 1)) (b + 1 - a) F (by omega), if_neg (fun ho => by rcases B.least (a - (j + 1)) (b + 1 - a) (by omega) (by omega) (by omega) ho with y | y <;> omega), show a - (j + 1) + 1 = a - j by omega]
    exact hF

theorem row_pass {xs : List Int} (hs : Small xs) (most : Int) (a b L : Nat) (B : Best xs most xs.length a b) (h1 : 1 ≤ L) (hL : L < b + 1 - a) (F0 : Nat)
    (h0 : weftlaw1_NumPoints.l1 F0 xs most (a : Int) (b : Int) 0 (pre xs xs.length) ((L + 1 : Nat) : Int) = some true) : ∀ (d i : Nat), xs.length + 1 - i = d → i ≤ xs.length →
    ∃ F, weftlaw1_NumPoints.l2 F xs most (a : Int) (b : Int) 0 (pre xs xs.length) (L : Int) (i : Int) = some true := by
  have hl := hs.1
  have bn := B.bn
  intro d
  induction d with
  | zero => intro i hd hi; omega
  | succ d ih =>
    intro i hd hi
    by_cases c : i + L ≤ xs.length
    · obtain ⟨F, hF⟩ := ih (i + 1) (by omega) (by omega)
      refine ⟨F + 1 + L + 1, ?_⟩
      rw [try_at hs most a b i L F c, if_neg (fun ho => by rcases B.least i L (by omega) h1 c ho with y | y <;> omega)]
      exact hF
    · refine ⟨F0 + 1, ?_⟩
      have e1 : wrap64 ((i : Int) + (L : Int)) = ((i + L : Nat) : Int) := by rw [Int.natCast_add]; exact w64 (by omega) (by omega)
      have e2 : wrap64 ((L : Int) + 1) = ((L + 1 : Nat) : Int) := by rw [Int.natCast_add]; exact w64 (by omega) (by omega)
      simp only [weftlaw1_NumPoints.l2, e1, e2]
      rw [if_neg (by omega)]
      exact h0

theorem col {xs : List Int} (hs : Small xs) (most : Int) (a b : Nat) (B : Best xs most xs.length a b) : ∀ j, j < b + 1 - a → ∃ F, weftlaw1_NumPoints.l1 F xs most (a : Int) (b : Int) 0 (pre xs xs.length) ((b + 1 - a - j : Nat) : Int) = some true := by
  have ab := B.ab
  have bn := B.bn
  intro j
  induction j with
  | zero =>
    intro _
    obtain ⟨F, hF⟩ := row_hit hs most a b B a (Nat.le_refl _)
    refine ⟨F + 1, ?_⟩
    simp only [weftlaw1_NumPoints.l1]
    rw [if_pos (by omega)]
    rw [Nat.sub_self] at hF
    exact hF
  | succ j ih =>
    intro hj
    obtain ⟨F0, h0⟩ := ih (by omega)
    obtain ⟨F, hF⟩ := row_pass hs most a b (b + 1 - a - (j + 1)) B (by omega) (by omega) F0 (by rw [show b + 1 - a - (j + 1) + 1 = b + 1 - a - j by omega]; exact h0) (xs.length + 1) 0 (by omega) (by omega)
    refine ⟨F + 1, ?_⟩
    simp only [weftlaw1_NumPoints.l1]
    rw [if_pos (by omega)]
    exact hF

theorem law_sum {xs : List Int} (hs : Small xs) (most a b : Int) (k : Nat) : ∀ (d i : Nat), xs.length - i = d → i ≤ xs.length →
    weftlaw1_NumPoints.l0 (k + 1 + d) xs most a b 0 (pre xs i) xs (xs.length : Int) (i : Int) = weftlaw1_NumPoints.l1 k xs most a b 0 (pre xs xs.length) 1 := by
  intro d
  have hl := hs.1
  induction d with
  | zero =>
    intro i hd hi
    obtain rfl : i = xs.length := by omega
    simp only [weftlaw1_NumPoints.l0]
    rw [if_neg (by omega)]
  | succ d ih =>
    intro i hd hi
    have g1 := pre_bd hs (i + 1) (by omega)
    have e1 := pre_succ xs i (by omega)
    have g2 : -9223372036854775808 ≤ (i : Int) + 1 := by omega
    have g3 : (i : Int) + 1 ≤ 9223372036854775807 := by omega
    have hA : (i : Int) < (xs.length : Int) := by omega
    have hB : 0 ≤ (i : Int) := by omega
    have h2 := ih (i + 1) (by omega) (by omega)
    rw [show k + 1 + (d + 1) = (k + 1 + d) + 1 by omega]
    simp only [weftlaw1_NumPoints.l0, if_pos hA, if_pos hB]
    rw [← e1, w64 (by omega) (by omega), w64 g2 g3]
    exact h2

theorem law_up (xs : List Int) (most a b : Int) (r : Bool) (F : Nat) (h : weftlaw1_NumPoints.l0 F xs most a b 0 0 xs (xs.length : Int) 0 = some r) : ∀ d, weftlaw1_NumPoints.l0 (F + d) xs most a b 0 0 xs (xs.length : Int) 0 = some r
  | 0 => h
  | d + 1 => (weftlaw1_NumPoints.mono_l (F + d)).1 _ _ _ _ _ _ _ _ _ _ (law_up xs most a b r F h d)

theorem num_up (xs : List Int) (most : Int) (r : Int × Int × Int) (F : Nat) (h : num_Point.l0 F xs most 0 xs (xs.length : Int) 0 = some r) : ∀ d, num_Point.l0 (F + d) xs most 0 xs (xs.length : Int) 0 = some r
  | 0 => h
  | d + 1 => (num_Point.mono_l (F + d)).1 _ _ _ _ _ _ _ (num_up xs most r F h d)

theorem fault (k : Nat) (hk : 40 ≤ k) (c : Int) : (weftlaw1_nums.f k).bind (fun t295 => (if t295 = true then (if c = c then (if (0 : Int) = 0 then (some ((0 : Int) == 0)) else (some false)) else (some false)) else (some false))) = some true := by
  rw [nums_at k hk]
  simp

theorem NumPoints_small (xs : List Int) (most : Int) (hl : xs.length ≤ 1048576) (_wm : (Lit.int .i64 most).wf = true) : ∃ k, weftlaw1_NumPoints.f k xs most = some true := by
  have pe : slices_ContainsFunc_int_int_at_num_Point_1.p = slices_ContainsFunc_int_int_at_weftlaw1_NumPoints_1.p := rfl
  unfold weftlaw1_NumPoints.f num_Point.f
  simp only [slices_ContainsFunc_int_int_at_num_Point_1.f, slices_ContainsFunc_int_int_at_weftlaw1_NumPoints_1.f, pe]
  by_cases z : (xs.length : Int) = 0
  · refine ⟨40, ?_⟩
    simp only [if_pos z, Option.bind_some]
    exact fault 40 (Nat.le_refl _) 11
  simp only [if_neg z]
  rw [if_pos (show xs.length < 35184372088832 by omega)]
  generalize hq : xs.any slices_ContainsFunc_int_int_at_weftlaw1_NumPoints_1.p = q
  cases q with
  | true =>
    refine ⟨40, ?_⟩
    simp only [Option.bind_some, if_pos]
    exact fault 40 (Nat.le_refl _) 9
  | false =>
    simp only [Option.bind_some, Bool.false_eq_true, if_false]
    by_cases y : most < 0
    · refine ⟨40, ?_⟩
      simp only [if_pos y, Option.bind_some]
      exact fault 40 (Nat.le_refl _) 1
    simp only [if_neg y]
    have hs : Small xs := by
      refine ⟨hl, fun x hx => ?_⟩
      have := List.any_eq_false.mp hq x hx
      unfold slices_ContainsFunc_int_int_at_weftlaw1_NumPoints_1.p at this
      simp at this
      omega
    have B0 : Best xs most 0 0 (xs.length - 1) := by
      refine ⟨by omega, by omega, ?_, fun i L hi => by omega⟩
      rw [show xs.length - 1 + 1 = xs.length by omega]
      unfold out
      rw [pre_zero]; omega
    obtain ⟨a, b, B, hnum⟩ := outer_loop hs most xs.length (4 * xs.length + 2) 0 0 0 (xs.length - 1) (by omega) (by omega) (by omega) (by omega) (by omega) B0 (by omega) (fun q z1 z2 => by omega)
    have eo : out xs 0 0 = pre xs xs.length := by unfold out; omega
    have ew : wrap64 ((xs.length : Int) - 1) = ((xs.length - 1 : Nat) : Int) := by rw [Int.ofNat_sub (by omega)]; exact w64 (by omega) (by omega)
    have h1 := sum_loop hs most (4 * xs.length + 2) xs.length 0 (by omega) (by omega)
    rw [ew] at h1
    rw [eo] at hnum
    have h2 : num_Point.l0 (4 * xs.length + 2 + 1 + xs.length) xs most 0 xs (xs.length : Int) 0 = some ((a : Int), (b : Int), 0) := h1.trans hnum
    obtain ⟨F, hF⟩ := col hs most a b B (b + 1 - a - 1) (by have := B.ab; omega)
    rw [show b + 1 - a - (b + 1 - a - 1) = 1 by have := B.ab; omega] at hF
    have h3 : weftlaw1_NumPoints.l0 (F + 1 + xs.length) xs most (a : Int) (b : Int) 0 0 xs (xs.length : Int) 0 = some true := (law_sum hs most a b F xs.length 0 (by omega) (by omega)).trans hF
    refine ⟨4 * xs.length + 2 + 1 + xs.length + (F + 1 + xs.length), ?_⟩
    rw [num_up xs most _ _ h2 (F + 1 + xs.length)]
    simp only [Option.bind_some]
    rw [Nat.add_comm (4 * xs.length + 2 + 1 + xs.length)]
    exact law_up xs most a b true _ h3 _

theorem NumPoints_walk (a0 : Option Addr) (len0 cap0 : Nat) (z0 : List Int) (a1 : Int) (w : World) (w0 : (a0 = none ∧ len0 = 0 ∧ cap0 = 0 ∧ z0 = []) ∨ ∃ x, a0 = some x ∧ len0 ≤ cap0 ∧ cap0 ≤ maxLen ∧ z0.length = cap0 ∧ (∀ i, i < z0.length → w.cell? (x.add i) = some (.int .i64 (z0.getD i 0))) ∧ ∀ n ∈ z0, (Lit.int .i64 n).wf = true) (y0 : len0 ≤ 1048576) (w1 : (Lit.int .i64 a1).wf = true) (hG : Tryz.Gl w) :
    Calls Tryz.prog 9 #[.slice a0 len0 cap0, .int .i64 a1] w fun e w' => e = .returned (.bool true) ∧ Below w.heap.size w w' := by
  obtain ⟨l0, rfl, hr0, hm0, hw0, hc0⟩ := ReadsInt.ofRowC w0
  obtain ⟨k, h⟩ := NumPoints_small l0 a1 y0 w1
  refine (weftlaw1_NumPoints.calls k _ _ l0 a1 true w (Kd.C_of_reads (d := (0 : Int)) (h1 := fun _ => rfl) hr0) hc0 hG h).mono ?_
  rintro e w' ⟨rfl, hd⟩
  exact ⟨rfl, hd⟩

end Go.Proofs.YtaffkbemjbfajaaGreatDoor.Pure
