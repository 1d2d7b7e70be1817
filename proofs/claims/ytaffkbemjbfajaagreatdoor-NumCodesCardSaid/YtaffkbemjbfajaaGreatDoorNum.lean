/-
  Plain laws on whole numbers (no program in sight) that the pure statements use. No condition.
-/
import Derived.WalkArith
import Derived.RowKit
import Derived.Laws.Closers25b
import Derived.Test.YtaffkbemjbfajaaGreatDoorWMore
namespace Go.Proofs.YtaffkbemjbfajaaGreatDoor.Num
open Go Go.RowKit Go.Proofs.YtaffkbemjbfajaaGreatDoorW.PrintWords Go.Proofs.YtaffkbemjbfajaaGreatDoorW.PrintLast

theorem wfb {n : Int} (h : (Lit.int .i64 n).wf = true) : -9223372036854775808 ≤ n ∧ n ≤ 9223372036854775807 := by
  simp [Lit.wf, IntKind.min, IntKind.max, IntKind.signed, IntKind.bits] at h
  omega
theorem w64 {n : Int} (h0 : -9223372036854775808 ≤ n) (h1 : n ≤ 9223372036854775807) : wrap64 n = n := by unfold wrap64; omega
theorem i64w (n : Int) : IntKind.i64.wrap n = wrap64 n := i64_w n
theorem u64w (n : Int) : IntKind.u64.wrap n = n % 18446744073709551616 := by
  simp [IntKind.wrap, IntKind.bits, IntKind.signed]
theorem u32w (n : Int) : IntKind.u32.wrap n = n % 4294967296 := by
  simp [IntKind.wrap, IntKind.bits, IntKind.signed]
theorem wrap64_range (n : Int) : -9223372036854775808 ≤ wrap64 n ∧ wrap64 n ≤ 9223372036854775807 := by unfold wrap64; omega
theorem mx_eq (a b : Int) : mx a b = max a b := by unfold mx; omega
theorem mn_eq (a b : Int) : mn a b = min a b := by unfold mn; omega

theorem mul_range {x m a b : Int} (hx0 : -a ≤ x) (hx1 : x ≤ a) (hm0 : 0 ≤ m) (hm1 : m ≤ b) (ha : 0 ≤ a) : -(a * b) ≤ x * m ∧ x * m ≤ a * b := by
  have h1 : x * m ≤ a * m := Int.mul_le_mul_of_nonneg_right hx1 hm0
  have h2 : a * m ≤ a * b := Int.mul_le_mul_of_nonneg_left hm1 ha
  have h3 : -a * m ≤ x * m := Int.mul_le_mul_of_nonneg_right hx0 hm0
  have h4 : -a * m = -(a * m) := Int.neg_mul a m
  omega
theorem pow2_pos (n : Nat) : (1 : Int) ≤ 2 ^ n := by have := @Int.pow_pos 2 n (by decide); omega
theorem pow2_le {n m : Nat} (h : n ≤ m) : (2 : Int) ^ n ≤ 2 ^ m := by
  have h1 := Nat.pow_le_pow_right (n := 2) (by decide) h
  have e1 : ((2 ^ n : Nat) : Int) = (2 : Int) ^ n := by rw [Int.natCast_pow]; rfl
  have e2 : ((2 ^ m : Nat) : Int) = (2 : Int) ^ m := by rw [Int.natCast_pow]; rfl
  rw [← e1, ← e2]; exact Int.ofNat_le.2 h1
theorem floor_tdiv (a b : Int) (h : 0 < b) : (if a.tmod b < 0 then a.tdiv b - 1 else a.tdiv b) = a / b := by
  have hm := Int.emod_nonneg a (show b ≠ 0 by omega)
  have hl := Int.emod_lt_of_pos a h
  have hs : b.sign = 1 := Int.sign_eq_one_of_pos h
  have hn : (b.natAbs : Int) = b := Int.natAbs_of_nonneg (by omega)
  rw [Int.tdiv_eq_ediv, Int.tmod_eq_emod]
  by_cases c : 0 ≤ a ∨ b ∣ a
  · rw [if_pos c, if_pos c, if_neg (by omega)]; omega
  · rw [if_neg c, if_neg c, hs, hn, if_pos (by omega)]; omega
theorem tdiv_range (a b : Int) (_h : 0 < b) : -(a.natAbs : Int) ≤ a.tdiv b ∧ a.tdiv b ≤ a.natAbs := by
  have h1 := Int.natAbs_tdiv a b
  have h2 : (a.tdiv b).natAbs ≤ a.natAbs := by rw [h1]; exact Nat.div_le_self _ _
  omega
theorem tdiv_nonneg_eq {a b : Int} (h : 0 ≤ a) : a.tdiv b = a / b := Int.tdiv_eq_ediv_of_nonneg h
end Go.Proofs.YtaffkbemjbfajaaGreatDoor.Num
