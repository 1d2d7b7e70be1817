-- By a program of this session (a changed copy of the kit's printer): functions of the seat as plain Lean functions, each with its proof over the machine.
import Derived.Test.YtaffkbemjbfajaaGreatDoorPNumFormsx0
import Derived.Test.YtaffkbemjbfajaaGreatDoorPNumFormsx8
import Derived.Test.YtaffkbemjbfajaaGreatDoorPNumFormsx9
import Derived.Test.YtaffkbemjbfajaaGreatDoorPNumFormsx11
import Derived.Test.YtaffkbemjbfajaaGreatDoorPNumFormsx13
namespace Go.Proofs.YtaffkbemjbfajaaGreatDoor.PNumForms
open Go.RowKit Go.Proofs.YtaffkbemjbfajaaGreatDoorW.PrintWords Go.Proofs.YtaffkbemjbfajaaGreatDoorW.PrintLast Go.Proofs.YtaffkbemjbfajaaGreatDoorW.PrintMore
attribute [local go_sem] max2_int min2_int max_two min_two max_three min_three max_four min_four   -- for this text's walks alone
set_option linter.unusedVariables false
set_option linter.unusedSimpArgs false

def weftref1_RatFault.j0 : Nat → ByteArray → Bool → ByteArray → ByteArray → Option (Int)
 | 0, _, _, _, _ => none
 | k + 1, x3, x37, x432000, x432001 => if x37 = true then (some 3) else ((weftref1_natRead.f k x3).bind fun t436 => ((weftref1_natRead.f k x432001).bind fun t439 => ((weftref1_natGCD.f k t436 t439).bind fun t442 => (if (t442.length : Int) = 1 then (if 0 < (t442.length : Int) then (if (rd t442 0) = 1 then (some 0) else (some 3)) else (none)) else (some 3)))))
def weftref1_RatFault.f (k : Nat) (a0_0 : ByteArray) (a0_1 : ByteArray) : Option (Int) := (strings_CutPrefix.f a0_0 (⟨#[45]⟩ : ByteArray)).bind fun bt432 => ((weftref1_digits.f k bt432.1).bind fun t434 => (if t434 = true then ((weftref1_digits.f k a0_1).bind fun t435 => (if t435 = true then (if a0_1.toList = ([48] : List UInt8) then (weftref1_RatFault.j0 k bt432.1 true a0_0 a0_1) else (if bt432.1.toList = ([48] : List UInt8) then (if bt432.2 = true then (weftref1_RatFault.j0 k bt432.1 true a0_0 a0_1) else (weftref1_RatFault.j0 k bt432.1 (a0_1.toList != ([49] : List UInt8)) a0_0 a0_1)) else (weftref1_RatFault.j0 k bt432.1 false a0_0 a0_1))) else (weftref1_RatFault.j0 k bt432.1 true a0_0 a0_1))) else (weftref1_RatFault.j0 k bt432.1 true a0_0 a0_1)))
theorem weftref1_RatFault.mono_l : ∀ k, (∀ y0 y1 y2 y3, LeO (weftref1_RatFault.j0 k y0 y1 y2 y3) (weftref1_RatFault.j0 (k + 1) y0 y1 y2 y3))
 | 0 => fun _ _ _ _ r h => by simp [weftref1_RatFault.j0] at h
 | k + 1 => by
  have ih0 := weftref1_RatFault.mono_l k
  ·intro y0 y1 y2 y3
   unfold weftref1_RatFault.j0
   have m0 := weftref1_digits.mono
   have m1 := weftref1_natGCD.mono
   have m2 := weftref1_natRead.mono
   exact zM
theorem weftref1_RatFault.mono : ∀ a0 a1 k, LeO (weftref1_RatFault.f k a0 a1) (weftref1_RatFault.f (k + 1) a0 a1) := by
 intro a0 a1 k
 have ih0 := weftref1_RatFault.mono_l k
 unfold weftref1_RatFault.f
 have m0 := weftref1_digits.mono
 have m1 := weftref1_natGCD.mono
 have m2 := weftref1_natRead.mono
 exact zM
set_option maxHeartbeats 8000000 in
set_option maxRecDepth 100000 in
theorem weftref1_RatFault.calls (k : Nat) (a0_0 : ByteArray) (a0_1 : ByteArray) (r : Int) (w : World) (h : weftref1_RatFault.f k a0_0 a0_1 = some r) :
  Calls Tryz.prog 53 #[.agg #[.string a0_0, .string a0_1]] w fun e w' => e = .returned (.int .i64 r) ∧ Below w.heap.size w w' := by
 have hu61 := Tryz.underlying61
 have HB := Aside0.mk (Below.refl w.heap.size w)
 have H : ((strings_CutPrefix.f a0_0 (⟨#[45]⟩ : ByteArray)).bind fun bt432 => ((weftref1_digits.f k bt432.1).bind fun t434 => (if t434 = true then ((weftref1_digits.f k a0_1).bind fun t435 => (if t435 = true then (if a0_1.toList = ([48] : List UInt8) then (weftref1_RatFault.j0 k bt432.1 true a0_0 a0_1) else (if bt432.1.toList = ([48] : List UInt8) then (if bt432.2 = true then (weftref1_RatFault.j0 k bt432.1 true a0_0 a0_1) else (weftref1_RatFault.j0 k bt432.1 (a0_1.toList != ([49] : List UInt8)) a0_0 a0_1)) else (weftref1_RatFault.j0 k bt432.1 false a0_0 a0_1))) else (weftref1_RatFault.j0 k bt432.1 true a0_0 a0_1))) else (weftref1_RatFault.j0 k bt432.1 true a0_0 a0_1)))) = some r := h
 clear h
 replace H := Option.bind_eq_some_iff.mp H
 obtain ⟨⟨t432, t433⟩, A20, H⟩ := H
 replace H : ((weftref1_digits.f k t432).bind fun t434 => (if t434 = true then ((weftref1_digits.f k a0_1).bind fun t435 => (if t435 = true then (if a0_1.toList = ([48] : List UInt8) then (weftref1_RatFault.j0 k t432 true a0_0 a0_1) else (if t432.toList = ([48] : List UInt8) then (if t433 = true then (weftref1_RatFault.j0 k t432 true a0_0 a0_1) else (weftref1_RatFault.j0 k t432 (a0_1.toList != ([49] : List UInt8)) a0_0 a0_1)) else (weftref1_RatFault.j0 k t432 false a0_0 a0_1))) else (weftref1_RatFault.j0 k t432 true a0_0 a0_1))) else (weftref1_RatFault.j0 k t432 true a0_0 a0_1))) = some r := H
 have A2 := Aside0.mk A20
 clear A20
 have HC3 := Aside0.mk H
 clear H
 go_enter Tryz.func53, Tryz.ntmps53
 go_upto_region 2 with (first | ((with_reducible refine gate_dst (N := 1) rfl ?_); refine box_ev 1 #[.string a0_0, .string a0_1] 61 ?_; intro gb431 hg w4 hbox hb; have BK431 := Aside0.mk (hbox); have GW431 := sG hg; have GE431 := sG hg; replace HB := sB hb; clear hb hbox hg; obtain ⟨hcz5_0, hfz5_0⟩ := zc BK431 0 (.string a0_0) rfl; obtain ⟨hcz5_1, hfz5_1⟩ := zc BK431 1 (.string a0_1) rfl) | (refine zg (some 9) Tryz.func102 #[.string a0_0, .string (⟨#[45]⟩ : ByteArray)] ?_; (with_reducible refine (strings_CutPrefix.calls a0_0 (⟨#[45]⟩ : ByteArray) t432 t433 _ A2.out).mono ?_); rintro e w' ⟨rfl, ⟨nd, rfl⟩⟩; refine ⟨_, rfl, ?_⟩))
 (try simp only [Act.put, List.setIfInBounds_toArray, List.set_cons_zero, List.set_cons_succ])
 go_cut [37] (fun v37 wc => ∃ (kq : Nat) (x37_2 : Bool), v37 = .bool x37_2 ∧ Aside0 (weftref1_RatFault.j0 kq t432 x37_2 a0_0 a0_1 = some r) ∧ Aside0 (kq ≤ k) ∧ Aside0 (wc.heap[gb431]? = some (.cells #[.string a0_0, .string a0_1] 61 (0, 0))) ∧ Aside0 (Below w.heap.size w wc))
 case first =>
  have H := HC3.out
  clear HC3
  obtain ⟨t434, A6, H⟩ := zB H
  by_cases c7 : t434 = true
  ·subst c7
   have H1 : ((weftref1_digits.f k a0_1).bind fun t435 => (if t435 = true then (if a0_1.toList = ([48] : List UInt8) then (weftref1_RatFault.j0 k t432 true a0_0 a0_1) else (if t432.toList = ([48] : List UInt8) then (if t433 = true then (weftref1_RatFault.j0 k t432 true a0_0 a0_1) else (weftref1_RatFault.j0 k t432 (a0_1.toList != ([49] : List UInt8)) a0_0 a0_1)) else (weftref1_RatFault.j0 k t432 false a0_0 a0_1))) else (weftref1_RatFault.j0 k t432 true a0_0 a0_1))) = some r := by rw [if_pos rfl] at H; exact H
   clear H
   have H := H1
   clear H1
   obtain ⟨t435, A8, H⟩ := zB H
   by_cases c9 : t435 = true
   ·subst c9
    have H1 : (if a0_1.toList = ([48] : List UInt8) then (weftref1_RatFault.j0 k t432 true a0_0 a0_1) else (if t432.toList = ([48] : List UInt8) then (if t433 = true then (weftref1_RatFault.j0 k t432 true a0_0 a0_1) else (weftref1_RatFault.j0 k t432 (a0_1.toList != ([49] : List UInt8)) a0_0 a0_1)) else (weftref1_RatFault.j0 k t432 false a0_0 a0_1))) = some r := by rw [if_pos rfl] at H; exact H
    clear H
    have H := H1
    clear H1
    by_cases c10 : a0_1.toList = ([48] : List UInt8)
    ·rw [if_pos c10] at H
     have c10b0 : (a0_1.toList == ([48] : List UInt8)) = true := beq_iff_eq.mpr c10
     have c10b1 : (a0_1.toList != ([48] : List UInt8)) = false := bne_eq_false_iff_eq.mpr c10
     clear c10
     (first | rw [c10b0] | (simp only [i64_w, i32_w]; rw [c10b0]) | skip)
     have H' := Aside0.mk H
     clear H
     go_wp2_with (first | (refine zg (some 13) Tryz.func103 #[.string t432] ?_; (with_reducible refine (weftref1_digits.calls k t432 true _ A6.out).mono ?_); rintro e w' ⟨rfl, ⟨nd, rfl⟩⟩; refine ⟨_, rfl, ?_⟩; obtain ⟨hcz11_0, hfz11_0⟩ := zc BK431 0 (.string a0_0) rfl; obtain ⟨hcz11_1, hfz11_1⟩ := zc BK431 1 (.string a0_1) rfl) | (go_at_call 103; (with_reducible refine (weftref1_digits.calls k a0_1 true _ A8.out).mono ?_); rintro e w' ⟨rfl, ⟨nd, rfl⟩⟩))
     go_meet
     case rel => exact ⟨_, (true), zs, H', ⟨by first | omega | exact Nat.le_refl _⟩, ⟨by (with_reducible repeat (first | refine blk_drewN ?_ _ | refine blk_drew ?_ | refine blk_alloc ?_ _)); exact BK431.out⟩, ⟨bw⟩⟩
    ·rw [if_neg c10] at H
     have c10b0 : (a0_1.toList == ([48] : List UInt8)) = false := beq_eq_false_iff_ne.mpr c10
     have c10b1 : (a0_1.toList != ([48] : List UInt8)) = true := bne_iff_ne.mpr c10
     (first | rw [c10b0] | (simp only [i64_w, i32_w]; rw [c10b0]) | skip)
     by_cases c12 : t432.toList = ([48] : List UInt8)
     ·rw [if_pos c12] at H
      have c12b0 : (t432.toList == ([48] : List UInt8)) = true := beq_iff_eq.mpr c12
      have c12b1 : (t432.toList != ([48] : List UInt8)) = false := bne_eq_false_iff_eq.mpr c12
      clear c12
      by_cases c13 : t433 = true
      ·subst c13
       have H1 : (weftref1_RatFault.j0 k t432 true a0_0 a0_1) = some r := by rw [if_pos rfl] at H; exact H
       clear H
       have H := H1
       clear H1
       have H' := Aside0.mk H
       clear H
       go_wp2_with (first | (refine zg (some 13) Tryz.func103 #[.string t432] ?_; (with_reducible refine (weftref1_digits.calls k t432 true _ A6.out).mono ?_); rintro e w' ⟨rfl, ⟨nd, rfl⟩⟩; refine ⟨_, rfl, ?_⟩; obtain ⟨hcz14_0, hfz14_0⟩ := zc BK431 0 (.string a0_0) rfl; obtain ⟨hcz14_1, hfz14_1⟩ := zc BK431 1 (.string a0_1) rfl) | (go_at_call 103; (with_reducible refine (weftref1_digits.calls k a0_1 true _ A8.out).mono ?_); rintro e w' ⟨rfl, ⟨nd, rfl⟩⟩))
       go_meet
       case rel => exact ⟨_, (true), zs, H', ⟨by first | omega | exact Nat.le_refl _⟩, ⟨by (with_reducible repeat (first | refine blk_drewN ?_ _ | refine blk_drew ?_ | refine blk_alloc ?_ _)); exact BK431.out⟩, ⟨bw⟩⟩
      ·replace c13 := Bool.eq_false_iff.mpr c13
       subst c13
       have H1 : (weftref1_RatFault.j0 k t432 (a0_1.toList != ([49] : List UInt8)) a0_0 a0_1) = some r := by rw [if_neg (show ¬ (false = true) by decide)] at H; exact H
       clear H
       have H := H1
       clear H1
       have H' := Aside0.mk H
       clear H
       go_wp2_with (first | (refine zg (some 13) Tryz.func103 #[.string t432] ?_; (with_reducible refine (weftref1_digits.calls k t432 true _ A6.out).mono ?_); rintro e w' ⟨rfl, ⟨nd, rfl⟩⟩; refine ⟨_, rfl, ?_⟩; obtain ⟨hcz15_0, hfz15_0⟩ := zc BK431 0 (.string a0_0) rfl; obtain ⟨hcz15_1, hfz15_1⟩ := zc BK431 1 (.string a0_1) rfl) | (go_at_call 103; (with_reducible refine (weftref1_digits.calls k a0_1 true _ A8.out).mono ?_); rintro e w' ⟨rfl, ⟨nd, rfl⟩⟩))
       go_meet
       case rel => exact ⟨_, ((a0_1.toList != ([49] : List UInt8))), zs, H', ⟨by first | omega | exact Nat.le_refl _⟩, ⟨by (with_reducible repeat (first | refine blk_drewN ?_ _ | refine blk_drew ?_ | refine blk_alloc ?_ _)); exact BK431.out⟩, ⟨bw⟩⟩
     ·rw [if_neg c12] at H
      have c12b0 : (t432.toList == ([48] : List UInt8)) = false := beq_eq_false_iff_ne.mpr c12
      have c12b1 : (t432.toList != ([48] : List UInt8)) = true := bne_iff_ne.mpr c12
      have H' := Aside0.mk H
      clear H
      go_wp2_with (first | (refine zg (some 13) Tryz.func103 #[.string t432] ?_; (with_reducible refine (weftref1_digits.calls k t432 true _ A6.out).mono ?_); rintro e w' ⟨rfl, ⟨nd, rfl⟩⟩; refine ⟨_, rfl, ?_⟩; obtain ⟨hcz16_0, hfz16_0⟩ := zc BK431 0 (.string a0_0) rfl; obtain ⟨hcz16_1, hfz16_1⟩ := zc BK431 1 (.string a0_1) rfl) | (go_at_call 103; (with_reducible refine (weftref1_digits.calls k a0_1 true _ A8.out).mono ?_); rintro e w' ⟨rfl, ⟨nd, rfl⟩⟩))
      go_meet
      case rel => exact ⟨_, (false), zs, H', ⟨by first | omega | exact Nat.le_refl _⟩, ⟨by (with_reducible repeat (first | refine blk_drewN ?_ _ | refine blk_drew ?_ | refine blk_alloc ?_ _)); exact BK431.out⟩, ⟨bw⟩⟩
   ·replace c9 := Bool.eq_false_iff.mpr c9
    subst c9
    have H1 : (weftref1_RatFault.j0 k t432 true a0_0 a0_1) = some r := by rw [if_neg (show ¬ (false = true) by decide)] at H; exact H
    clear H
    have H := H1
    clear H1
    have H' := Aside0.mk H
    clear H
    go_wp2_with (first | (refine zg (some 13) Tryz.func103 #[.string t432] ?_; (with_reducible refine (weftref1_digits.calls k t432 true _ A6.out).mono ?_); rintro e w' ⟨rfl, ⟨nd, rfl⟩⟩; refine ⟨_, rfl, ?_⟩; obtain ⟨hcz17_0, hfz17_0⟩ := zc BK431 0 (.string a0_0) rfl; obtain ⟨hcz17_1, hfz17_1⟩ := zc BK431 1 (.string a0_1) rfl) | (go_at_call 103; (with_reducible refine (weftref1_digits.calls k a0_1 false _ A8.out).mono ?_); rintro e w' ⟨rfl, ⟨nd, rfl⟩⟩))
    go_meet
    case rel => exact ⟨_, (true), zs, H', ⟨by first | omega | exact Nat.le_refl _⟩, ⟨by (with_reducible repeat (first | refine blk_drewN ?_ _ | refine blk_drew ?_ | refine blk_alloc ?_ _)); exact BK431.out⟩, ⟨bw⟩⟩
  ·replace c7 := Bool.eq_false_iff.mpr c7
   subst c7
   have H1 : (weftref1_RatFault.j0 k t432 true a0_0 a0_1) = some r := by rw [if_neg (show ¬ (false = true) by decide)] at H; exact H
   clear H
   have H := H1
   clear H1
   have H' := Aside0.mk H
   clear H
   go_wp2_with (first | (refine zg (some 13) Tryz.func103 #[.string t432] ?_; (with_reducible refine (weftref1_digits.calls k t432 false _ A6.out).mono ?_); rintro e w' ⟨rfl, ⟨nd, rfl⟩⟩; refine ⟨_, rfl, ?_⟩))
   go_meet
   case rel => exact ⟨_, (true), zs, H', ⟨by first | omega | exact Nat.le_refl _⟩, ⟨by (with_reducible repeat (first | refine blk_drewN ?_ _ | refine blk_drew ?_ | refine blk_alloc ?_ _)); exact BK431.out⟩, ⟨bw⟩⟩
 case rest =>
  clear HC3
  try clear c1
  try clear p2
  try clear c5
  try clear c7
  try clear c9
  try clear c10
  try clear c10b0
  try clear c10b1
  try clear c12
  try clear c12b0
  try clear c12b1
  try clear c13
  try clear hcz11_0
  try clear hcz11_1
  try clear hcz14_0
  try clear hcz14_1
  try clear hcz15_0
  try clear hcz15_1
  try clear hcz16_0
  try clear hcz16_1
  try clear hcz17_0
  try clear hcz17_1
  try clear hcz5_0
  try clear hcz5_1
  try clear hfz11_0
  try clear hfz11_1
  try clear hfz14_0
  try clear hfz14_1
  try clear hfz15_0
  try clear hfz15_1
  try clear hfz16_0
  try clear hfz16_1
  try clear hfz17_0
  try clear hfz17_1
  try clear hfz5_0
  try clear hfz5_1
  obtain ⟨kq, x37_2, rfl, HA, HJ2, BK431, HB⟩ := hcut
  cases kq with
  | zero => exact absurd HA.out (by simp [weftref1_RatFault.j0])
  | succ kj2 =>
   have H := HA.out
   clear HA
   simp only [weftref1_RatFault.j0] at H
   by_cases c18 : x37_2 = true
   ·subst c18
    have H1 : (some 3) = some r := by rw [if_pos rfl] at H; exact H
    clear H
    have H := H1
    clear H1
    obtain rfl := Option.some.inj H
    go_wp2
    go_ret
    exact ⟨ze, bw⟩
   ·replace c18 := Bool.eq_false_iff.mpr c18
    subst c18
    have H1 : ((weftref1_natRead.f kj2 t432).bind fun t436 => ((weftref1_natRead.f kj2 a0_1).bind fun t439 => ((weftref1_natGCD.f kj2 t436 t439).bind fun t442 => (if (t442.length : Int) = 1 then (if 0 < (t442.length : Int) then (if (rd t442 0) = 1 then (some 0) else (some 3)) else (none)) else (some 3))))) = some r := by rw [if_neg (show ¬ (false = true) by decide)] at H; exact H
    clear H
    have H := H1
    clear H1
    obtain ⟨t436, A19, H⟩ := zB H
    obtain ⟨t439, A20, H⟩ := zB H
    obtain ⟨t442, A21, H⟩ := zB H
    by_cases c22 : (t442.length : Int) = 1
    ·rw [if_pos c22] at H
     have c22b0 : ((t442.length : Int) == 1) = true := beq_iff_eq.mpr c22
     have c22b1 : ((t442.length : Int) != 1) = false := bne_eq_false_iff_eq.mpr c22
     clear c22
     by_cases c23 : 0 < (t442.length : Int)
     ·rw [if_pos c23] at H
      have c23b0 : decide (0 < (t442.length : Int)) = true := decide_eq_true c23
      have c23b1 : decide (0 < t442.length) = true := decide_eq_true (by omega)
      clear c23
      by_cases c24 : (rd t442 0) = 1
      ·rw [if_pos c24] at H
       have c24b0 : ((rd t442 0) == 1) = true := beq_iff_eq.mpr c24
       have c24b1 : ((rd t442 0) != 1) = false := bne_eq_false_iff_eq.mpr c24
       clear c24
       obtain rfl := Option.some.inj H
       try go_wp2
       have n0_ := Aside0.mk (blk_drew BK431.out)
       have n1_ := Aside0.mk (below_drew1 HB.out)
       clear BK431
       clear HB
       have BK431 := n0_
       have HB := n1_
       clear n0_ n1_
       refine start_ (n := 7) (S := fun w' => w'.cell? ⟨gb431, 0, none⟩ = some (.string a0_0) ∧ w'.cell? ⟨gb431, 1, none⟩ = some (.string a0_1)) (ds := []) #[false, false, false, false, false, false, false] (by kernel_rfl) rfl rfl ⟨(blk_cell BK431.out 0).trans rfl, (blk_cell BK431.out 1).trans rfl⟩ (fun hHeld => ?_)
       generalize wc.drew = w25 at BK431 HB hHeld ⊢
       refine pure_ (i := 0) (N := some 38) (v := ?_) (a' := ?_) #[true, false, false, false, false, false, false] rfl rfl (by kernel_rfl) (fun _ _ _ h => h) (Or.inl ⟨by rfl, ?_⟩) ?_ ?_
       rotate_left
       ·intro w'
        go_simp
        with_reducible rfl
       rotate_left
       ·simp only [Act.put, List.setIfInBounds_toArray, List.set_cons_zero, List.set_cons_succ, i64_w, i32_w]
        rfl
       refine pure_ (i := 2) (N := some 40) (v := ?_) (a' := ?_) #[true, false, true, false, false, false, false] rfl rfl (by kernel_rfl) (fun _ _ _ h => h) (Or.inl ⟨by rfl, ?_⟩) ?_ ?_
       rotate_left
       ·intro w'
        go_simp
        with_reducible rfl
       rotate_left
       ·simp only [Act.put, List.setIfInBounds_toArray, List.set_cons_zero, List.set_cons_succ, i64_w, i32_w]
        rfl
       refine take_ (i := 3) (N := some 41) (v := ?_) (a' := ?_) #[true, false, true, true, false, false, false] rfl rfl (by kernel_rfl) (fun _ _ _ h => h) (Or.inl ⟨by rfl, ?_⟩) hHeld ?_ ?_
       rotate_left
       ·rintro w' ⟨s0, s1⟩
        go_simp
        with_reducible rfl
       rotate_left
       ·simp only [Act.put, List.setIfInBounds_toArray, List.set_cons_zero, List.set_cons_succ, i64_w, i32_w]
        rfl
       refine one_ (i := 1) (N := some 39) #[true, true, true, true, false, false, false] rfl rfl (by kernel_rfl) (by decide) (fun K hK => ?_)
       refine goes_ Tryz.func105 (by kernel_rfl) rfl #[.string t432] (by rfl) rfl rfl zm ?_
       with_reducible refine (weftref1_natRead.calls kj2 t432 t436 _ A19.out).mono ?_
       rintro e w26 ⟨v437, rfl, ho0, hb⟩
       refine ⟨_, rfl, ?_⟩
       have n0_ := Aside0.mk (Kd.V_lower (Kd.V_mono (ok' := fun k_ => k_ ≠ gb431) ho0 (fun k_ hk_ => (Kd.freshB (g := gb431) (o := .cells #[.string a0_0, .string a0_1] 61 (0, 0)) (zb BK431) k_ hk_))) bs)
       have n1_ := sK BK431 hb
       have n2_ := sB hb
       clear BK431
       clear HB
       have HO438 := n0_
       have BK431 := n1_
       have HB := n2_
       clear n0_ n1_ n2_
       (try clear hb)
       (try clear hb2)
       (try clear hk)
       (try clear hi)
       (try clear ho0)
       refine hK.out _ _ ⟨(blk_cell BK431.out 0).trans rfl, (blk_cell BK431.out 1).trans rfl⟩ (fun hHeld => ?_)
       clear hK K
       refine norm_ (a' := ?_) ?_ ?_
       rotate_left
       ·show Act.put _ (some 39) _ = _
        simp only [Act.put, List.setIfInBounds_toArray, List.set_cons_zero, List.set_cons_succ, i64_w, i32_w]
        rfl
       refine one_ (i := 4) (N := some 42) #[true, true, true, true, true, false, false] rfl rfl (by kernel_rfl) (by decide) (fun K hK => ?_)
       refine goes_ Tryz.func105 (by kernel_rfl) rfl #[.string a0_1] (by rfl) rfl rfl zm ?_
       with_reducible refine (weftref1_natRead.calls kj2 a0_1 t439 _ A20.out).mono ?_
       rintro e w27 ⟨v440, rfl, ho0, hb⟩
       refine ⟨_, rfl, ?_⟩
       have n0_ := Aside0.mk (Kd.V_below (zV HO438) hb)
       have n1_ := Aside0.mk (Kd.V_lower (Kd.V_mono (ok' := fun k_ => k_ ≠ gb431) ho0 (fun k_ hk_ => (Kd.freshB (g := gb431) (o := .cells #[.string a0_0, .string a0_1] 61 (0, 0)) (zb BK431) k_ hk_))) bs)
       have n2_ := sK BK431 hb
       have n3_ := sB hb
       clear HO438
       clear BK431
       clear HB
       have HO438 := n0_
       have HO441 := n1_
       have BK431 := n2_
       have HB := n3_
       clear n0_ n1_ n2_ n3_
       (try clear hb)
       (try clear hb2)
       (try clear hk)
       (try clear hi)
       (try clear ho0)
       obtain ⟨Ao28, co28, eo28⟩ := Kd.V_slice HO438.out
       (first | subst eo28 | (injection eo28 with f1_ f2_ f3_; have f4_ := f1_.symm; have f5_ := f3_.symm; clear f1_ f2_ f3_; subst f4_; subst f5_))
       obtain ⟨Ao29, co29, eo29⟩ := Kd.V_slice HO441.out
       (first | subst eo29 | (injection eo29 with f1_ f2_ f3_; have f4_ := f1_.symm; have f5_ := f3_.symm; clear f1_ f2_ f3_; subst f4_; subst f5_))
       refine hK.out _ _ ⟨(blk_cell BK431.out 0).trans rfl, (blk_cell BK431.out 1).trans rfl⟩ (fun hHeld => ?_)
       clear hK K
       refine norm_ (a' := ?_) ?_ ?_
       rotate_left
       ·show Act.put _ (some 42) _ = _
        simp only [Act.put, List.setIfInBounds_toArray, List.set_cons_zero, List.set_cons_succ, i64_w, i32_w]
        rfl
       refine one_ (i := 5) (N := some 43) #[true, true, true, true, true, true, false] rfl rfl (by kernel_rfl) (by decide) (fun K hK => ?_)
       refine goes_ Tryz.func104 (by kernel_rfl) rfl #[.slice Ao28 t436.length co28, .slice Ao29 t439.length co29] (by rfl) rfl rfl zm ?_
       with_reducible refine (weftref1_natGCD.calls kj2 (fun k_ => k_ ≠ gb431) _ _ t436 (fun k_ => k_ ≠ gb431) _ _ t439 t442 _ ?side1 ?side2 A21.out).mono ?_
       (case side1 => exact HO438.out)
       (case side2 => exact HO441.out)
       rintro e w30 ⟨v443, rfl, ho0, hb⟩
       refine ⟨_, rfl, ?_⟩
       have n0_ := Aside0.mk (Kd.V_below (zV HO438) hb)
       have n1_ := Aside0.mk (Kd.V_below (zV HO441) hb)
       have n2_ := Aside0.mk (Kd.V_lower (Kd.V_mono (ok' := fun k_ => k_ ≠ gb431) ho0 (fun k_ hk_ => Or.elim hk_ (fun hs_ => Or.elim hs_ (fun hs_ => hs_) (fun hs_ => hs_)) (fun hn_ => (Kd.freshB (g := gb431) (o := .cells #[.string a0_0, .string a0_1] 61 (0, 0)) (zb BK431) k_ hn_)))) bs)
       have n3_ := sK BK431 hb
       have n4_ := sB hb
       clear HO438
       clear HO441
       clear BK431
       clear HB
       have HO438 := n0_
       have HO441 := n1_
       have HO444 := n2_
       have BK431 := n3_
       have HB := n4_
       clear n0_ n1_ n2_ n3_ n4_
       (try clear hb)
       (try clear hb2)
       (try clear hk)
       (try clear hi)
       (try clear ho0)
       refine hK.out _ _ ⟨(blk_cell BK431.out 0).trans rfl, (blk_cell BK431.out 1).trans rfl⟩ (fun hHeld => ?_)
       clear hK K
       refine norm_ (a' := ?_) ?_ ?_
       rotate_left
       ·show Act.put _ (some 43) _ = _
        simp only [Act.put, List.setIfInBounds_toArray, List.set_cons_zero, List.set_cons_succ, i64_w, i32_w]
        rfl
       refine pure_ (i := 6) (N := some 5) (v := ?_) (a' := ?_) #[true, true, true, true, true, true, true] rfl rfl (by kernel_rfl) (fun _ _ _ h => h) (Or.inl ⟨by rfl, ?_⟩) ?_ ?_
       rotate_left
       ·intro w'
        go_simp
        with_reducible rfl
       rotate_left
       ·simp only [Act.put, List.setIfInBounds_toArray, List.set_cons_zero, List.set_cons_succ, i64_w, i32_w]
        rfl
       refine done_ (by kernel_rfl) ?_
       obtain ⟨Ao31, co31, rfl⟩ := Kd.V_slice HO444.out
       have p445 : 0 ≤ (0 : Int) := (by omega)
       have q445 : 0 < (t442.length : Int) := zd
       obtain ⟨ad445, e445, hx445_0⟩ := Kd.at_int (Kd.V_reads' HO444.out).2.2 0 p445 q445
       cases e445
       have qi445 : (0 < t442.length) = True := eq_true (by omega)
       (try rw [show ((0 : Int)).toNat = 0 from rfl] at hx445_0)
       (try rw [Addr.add_zero'] at hx445_0)
       replace p445 := eq_true p445
       replace q445 := eq_true q445
       try go_wp2
       go_ret
       exact ⟨ze, bw⟩
      ·rw [if_neg c24] at H
       have c24b0 : ((rd t442 0) == 1) = false := beq_eq_false_iff_ne.mpr c24
       have c24b1 : ((rd t442 0) != 1) = true := bne_iff_ne.mpr c24
       obtain rfl := Option.some.inj H
       try go_wp2
       have n0_ := Aside0.mk (blk_drew BK431.out)
       have n1_ := Aside0.mk (below_drew1 HB.out)
       clear BK431
       clear HB
       have BK431 := n0_
       have HB := n1_
       clear n0_ n1_
       refine start_ (n := 7) (S := fun w' => w'.cell? ⟨gb431, 0, none⟩ = some (.string a0_0) ∧ w'.cell? ⟨gb431, 1, none⟩ = some (.string a0_1)) (ds := []) #[false, false, false, false, false, false, false] (by kernel_rfl) rfl rfl ⟨(blk_cell BK431.out 0).trans rfl, (blk_cell BK431.out 1).trans rfl⟩ (fun hHeld => ?_)
       generalize wc.drew = w32 at BK431 HB hHeld ⊢
       refine pure_ (i := 0) (N := some 38) (v := ?_) (a' := ?_) #[true, false, false, false, false, false, false] rfl rfl (by kernel_rfl) (fun _ _ _ h => h) (Or.inl ⟨by rfl, ?_⟩) ?_ ?_
       rotate_left
       ·intro w'
        go_simp
        with_reducible rfl
       rotate_left
       ·simp only [Act.put, List.setIfInBounds_toArray, List.set_cons_zero, List.set_cons_succ, i64_w, i32_w]
        rfl
       refine pure_ (i := 2) (N := some 40) (v := ?_) (a' := ?_) #[true, false, true, false, false, false, false] rfl rfl (by kernel_rfl) (fun _ _ _ h => h) (Or.inl ⟨by rfl, ?_⟩) ?_ ?_
       rotate_left
       ·intro w'
        go_simp
        with_reducible rfl
       rotate_left
       ·simp only [Act.put, List.setIfInBounds_toArray, List.set_cons_zero, List.set_cons_succ, i64_w, i32_w]
        rfl
       refine take_ (i := 3) (N := some 41) (v := ?_) (a' := ?_) #[true, false, true, true, false, false, false] rfl rfl (by kernel_rfl) (fun _ _ _ h => h) (Or.inl ⟨by rfl, ?_⟩) hHeld ?_ ?_
       rotate_left
       ·rintro w' ⟨s0, s1⟩
        go_simp
        with_reducible rfl
       rotate_left
       ·simp only [Act.put, List.setIfInBounds_toArray, List.set_cons_zero, List.set_cons_succ, i64_w, i32_w]
        rfl
       refine one_ (i := 1) (N := some 39) #[true, true, true, true, false, false, false] rfl rfl (by kernel_rfl) (by decide) (fun K hK => ?_)
       refine goes_ Tryz.func105 (by kernel_rfl) rfl #[.string t432] (by rfl) rfl rfl zm ?_
       with_reducible refine (weftref1_natRead.calls kj2 t432 t436 _ A19.out).mono ?_
       rintro e w33 ⟨v437, rfl, ho0, hb⟩
       refine ⟨_, rfl, ?_⟩
       have n0_ := Aside0.mk (Kd.V_lower (Kd.V_mono (ok' := fun k_ => k_ ≠ gb431) ho0 (fun k_ hk_ => (Kd.freshB (g := gb431) (o := .cells #[.string a0_0, .string a0_1] 61 (0, 0)) (zb BK431) k_ hk_))) bs)
       have n1_ := sK BK431 hb
       have n2_ := sB hb
       clear BK431
       clear HB
       have HO438 := n0_
       have BK431 := n1_
       have HB := n2_
       clear n0_ n1_ n2_
       (try clear hb)
       (try clear hb2)
       (try clear hk)
       (try clear hi)
       (try clear ho0)
       refine hK.out _ _ ⟨(blk_cell BK431.out 0).trans rfl, (blk_cell BK431.out 1).trans rfl⟩ (fun hHeld => ?_)
       clear hK K
       refine norm_ (a' := ?_) ?_ ?_
       rotate_left
       ·show Act.put _ (some 39) _ = _
        simp only [Act.put, List.setIfInBounds_toArray, List.set_cons_zero, List.set_cons_succ, i64_w, i32_w]
        rfl
       refine one_ (i := 4) (N := some 42) #[true, true, true, true, true, false, false] rfl rfl (by kernel_rfl) (by decide) (fun K hK => ?_)
       refine goes_ Tryz.func105 (by kernel_rfl) rfl #[.string a0_1] (by rfl) rfl rfl zm ?_
       with_reducible refine (weftref1_natRead.calls kj2 a0_1 t439 _ A20.out).mono ?_
       rintro e w34 ⟨v440, rfl, ho0, hb⟩
       refine ⟨_, rfl, ?_⟩
       have n0_ := Aside0.mk (Kd.V_below (zV HO438) hb)
       have n1_ := Aside0.mk (Kd.V_lower (Kd.V_mono (ok' := fun k_ => k_ ≠ gb431) ho0 (fun k_ hk_ => (Kd.freshB (g := gb431) (o := .cells #[.string a0_0, .string a0_1] 61 (0, 0)) (zb BK431) k_ hk_))) bs)
       have n2_ := sK BK431 hb
       have n3_ := sB hb
       clear HO438
       clear BK431
       clear HB
       have HO438 := n0_
       have HO441 := n1_
       have BK431 := n2_
       have HB := n3_
       clear n0_ n1_ n2_ n3_
       (try clear hb)
       (try clear hb2)
       (try clear hk)
       (try clear hi)
       (try clear ho0)
       obtain ⟨Ao35, co35, eo35⟩ := Kd.V_slice HO438.out
       (first | subst eo35 | (injection eo35 with f1_ f2_ f3_; have f4_ := f1_.symm; have f5_ := f3_.symm; clear f1_ f2_ f3_; subst f4_; subst f5_))
       obtain ⟨Ao36, co36, eo36⟩ := Kd.V_slice HO441.out
       (first | subst eo36 | (injection eo36 with f1_ f2_ f3_; have f4_ := f1_.symm; have f5_ := f3_.symm; clear f1_ f2_ f3_; subst f4_; subst f5_))
       refine hK.out _ _ ⟨(blk_cell BK431.out 0).trans rfl, (blk_cell BK431.out 1).trans rfl⟩ (fun hHeld => ?_)
       clear hK K
       refine norm_ (a' := ?_) ?_ ?_
       rotate_left
       ·show Act.put _ (some 42) _ = _
        simp only [Act.put, List.setIfInBounds_toArray, List.set_cons_zero, List.set_cons_succ, i64_w, i32_w]
        rfl
       refine one_ (i := 5) (N := some 43) #[true, true, true, true, true, true, false] rfl rfl (by kernel_rfl) (by decide) (fun K hK => ?_)
       refine goes_ Tryz.func104 (by kernel_rfl) rfl #[.slice Ao35 t436.length co35, .slice Ao36 t439.length co36] (by rfl) rfl rfl zm ?_
       with_reducible refine (weftref1_natGCD.calls kj2 (fun k_ => k_ ≠ gb431) _ _ t436 (fun k_ => k_ ≠ gb431) _ _ t439 t442 _ ?side1 ?side2 A21.out).mono ?_
       (case side1 => exact HO438.out)
       (case side2 => exact HO441.out)
       rintro e w37 ⟨v443, rfl, ho0, hb⟩
       refine ⟨_, rfl, ?_⟩
       have n0_ := Aside0.mk (Kd.V_below (zV HO438) hb)
       have n1_ := Aside0.mk (Kd.V_below (zV HO441) hb)
       have n2_ := Aside0.mk (Kd.V_lower (Kd.V_mono (ok' := fun k_ => k_ ≠ gb431) ho0 (fun k_ hk_ => Or.elim hk_ (fun hs_ => Or.elim hs_ (fun hs_ => hs_) (fun hs_ => hs_)) (fun hn_ => (Kd.freshB (g := gb431) (o := .cells #[.string a0_0, .string a0_1] 61 (0, 0)) (zb BK431) k_ hn_)))) bs)
       have n3_ := sK BK431 hb
       have n4_ := sB hb
       clear HO438
       clear HO441
       clear BK431
       clear HB
       have HO438 := n0_
       have HO441 := n1_
       have HO444 := n2_
       have BK431 := n3_
       have HB := n4_
       clear n0_ n1_ n2_ n3_ n4_
       (try clear hb)
       (try clear hb2)
       (try clear hk)
       (try clear hi)
       (try clear ho0)
       refine hK.out _ _ ⟨(blk_cell BK431.out 0).trans rfl, (blk_cell BK431.out 1).trans rfl⟩ (fun hHeld => ?_)
       clear hK K
       refine norm_ (a' := ?_) ?_ ?_
       rotate_left
       ·show Act.put _ (some 43) _ = _
        simp only [Act.put, List.setIfInBounds_toArray, List.set_cons_zero, List.set_cons_succ, i64_w, i32_w]
        rfl
       refine pure_ (i := 6) (N := some 5) (v := ?_) (a' := ?_) #[true, true, true, true, true, true, true] rfl rfl (by kernel_rfl) (fun _ _ _ h => h) (Or.inl ⟨by rfl, ?_⟩) ?_ ?_
       rotate_left
       ·intro w'
        go_simp
        with_reducible rfl
       rotate_left
       ·simp only [Act.put, List.setIfInBounds_toArray, List.set_cons_zero, List.set_cons_succ, i64_w, i32_w]
        rfl
       refine done_ (by kernel_rfl) ?_
       obtain ⟨Ao38, co38, rfl⟩ := Kd.V_slice HO444.out
       have p445 : 0 ≤ (0 : Int) := (by omega)
       have q445 : 0 < (t442.length : Int) := zd
       obtain ⟨ad445, e445, hx445_0⟩ := Kd.at_int (Kd.V_reads' HO444.out).2.2 0 p445 q445
       cases e445
       have qi445 : (0 < t442.length) = True := eq_true (by omega)
       (try rw [show ((0 : Int)).toNat = 0 from rfl] at hx445_0)
       (try rw [Addr.add_zero'] at hx445_0)
       replace p445 := eq_true p445
       replace q445 := eq_true q445
       try go_wp2
       go_ret
       exact ⟨ze, bw⟩
     ·rw [if_neg c23] at H
      cases H
    ·rw [if_neg c22] at H
     have c22b0 : ((t442.length : Int) == 1) = false := beq_eq_false_iff_ne.mpr c22
     have c22b1 : ((t442.length : Int) != 1) = true := bne_iff_ne.mpr c22
     obtain rfl := Option.some.inj H
     try go_wp2
     have n0_ := Aside0.mk (blk_drew BK431.out)
     have n1_ := Aside0.mk (below_drew1 HB.out)
     clear BK431
     clear HB
     have BK431 := n0_
     have HB := n1_
     clear n0_ n1_
     refine start_ (n := 7) (S := fun w' => w'.cell? ⟨gb431, 0, none⟩ = some (.string a0_0) ∧ w'.cell? ⟨gb431, 1, none⟩ = some (.string a0_1)) (ds := []) #[false, false, false, false, false, false, false] (by kernel_rfl) rfl rfl ⟨(blk_cell BK431.out 0).trans rfl, (blk_cell BK431.out 1).trans rfl⟩ (fun hHeld => ?_)
     generalize wc.drew = w39 at BK431 HB hHeld ⊢
     refine pure_ (i := 0) (N := some 38) (v := ?_) (a' := ?_) #[true, false, false, false, false, false, false] rfl rfl (by kernel_rfl) (fun _ _ _ h => h) (Or.inl ⟨by rfl, ?_⟩) ?_ ?_
     rotate_left
     ·intro w'
      go_simp
      with_reducible rfl
     rotate_left
     ·simp only [Act.put, List.setIfInBounds_toArray, List.set_cons_zero, List.set_cons_succ, i64_w, i32_w]
      rfl
     refine pure_ (i := 2) (N := some 40) (v := ?_) (a' := ?_) #[true, false, true, false, false, false, false] rfl rfl (by kernel_rfl) (fun _ _ _ h => h) (Or.inl ⟨by rfl, ?_⟩) ?_ ?_
     rotate_left
     ·intro w'
      go_simp
      with_reducible rfl
     rotate_left
     ·simp only [Act.put, List.setIfInBounds_toArray, List.set_cons_zero, List.set_cons_succ, i64_w, i32_w]
      rfl
     refine take_ (i := 3) (N := some 41) (v := ?_) (a' := ?_) #[true, false, true, true, false, false, false] rfl rfl (by kernel_rfl) (fun _ _ _ h => h) (Or.inl ⟨by rfl, ?_⟩) hHeld ?_ ?_
     rotate_left
     ·rintro w' ⟨s0, s1⟩
      go_simp
      with_reducible rfl
     rotate_left
     ·simp only [Act.put, List.setIfInBounds_toArray, List.set_cons_zero, List.set_cons_succ, i64_w, i32_w]
      rfl
     refine one_ (i := 1) (N := some 39) #[true, true, true, true, false, false, false] rfl rfl (by kernel_rfl) (by decide) (fun K hK => ?_)
     refine goes_ Tryz.func105 (by kernel_rfl) rfl #[.string t432] (by rfl) rfl rfl zm ?_
     with_reducible refine (weftref1_natRead.calls kj2 t432 t436 _ A19.out).mono ?_
     rintro e w40 ⟨v437, rfl, ho0, hb⟩
     refine ⟨_, rfl, ?_⟩
     have n0_ := Aside0.mk (Kd.V_lower (Kd.V_mono (ok' := fun k_ => k_ ≠ gb431) ho0 (fun k_ hk_ => (Kd.freshB (g := gb431) (o := .cells #[.string a0_0, .string a0_1] 61 (0, 0)) (zb BK431) k_ hk_))) bs)
     have n1_ := sK BK431 hb
     have n2_ := sB hb
     clear BK431
     clear HB
     have HO438 := n0_
     have BK431 := n1_
     have HB := n2_
     clear n0_ n1_ n2_
     (try clear hb)
     (try clear hb2)
     (try clear hk)
     (try clear hi)
     (try clear ho0)
     refine hK.out _ _ ⟨(blk_cell BK431.out 0).trans rfl, (blk_cell BK431.out 1).trans rfl⟩ (fun hHeld => ?_)
     clear hK K
     refine norm_ (a' := ?_) ?_ ?_
     rotate_left
     ·show Act.put _ (some 39) _ = _
      simp only [Act.put, List.setIfInBounds_toArray, List.set_cons_zero, List.set_cons_succ, i64_w, i32_w]
      rfl
     refine one_ (i := 4) (N := some 42) #[true, true, true, true, true, false, false] rfl rfl (by kernel_rfl) (by decide) (fun K hK => ?_)
     refine goes_ Tryz.func105 (by kernel_rfl) rfl #[.string a0_1] (by rfl) rfl rfl zm ?_
     with_reducible refine (weftref1_natRead.calls kj2 a0_1 t439 _ A20.out).mono ?_
     rintro e w41 ⟨v440, rfl, ho0, hb⟩
     refine ⟨_, rfl, ?_⟩
     have n0_ := Aside0.mk (Kd.V_below (zV HO438) hb)
     have n1_ := Aside0.mk (Kd.V_lower (Kd.V_mono (ok' := fun k_ => k_ ≠ gb431) ho0 (fun k_ hk_ => (Kd.freshB (g := gb431) (o := .cells #[.string a0_0, .string a0_1] 61 (0, 0)) (zb BK431) k_ hk_))) bs)
     have n2_ := sK BK431 hb
     have n3_ := sB hb
     clear HO438
     clear BK431
     clear HB
     have HO438 := n0_
     have HO441 := n1_
     have BK431 := n2_
     have HB := n3_
     clear n0_ n1_ n2_ n3_
     (try clear hb)
     (try clear hb2)
     (try clear hk)
     (try clear hi)
     (try clear ho0)
     obtain ⟨Ao42, co42, eo42⟩ := Kd.V_slice HO438.out
     (first | subst eo42 | (injection eo42 with f1_ f2_ f3_; have f4_ := f1_.symm; have f5_ := f3_.symm; clear f1_ f2_ f3_; subst f4_; subst f5_))
     obtain ⟨Ao43, co43, eo43⟩ := Kd.V_slice HO441.out
     (first | subst eo43 | (injection eo43 with f1_ f2_ f3_; have f4_ := f1_.symm; have f5_ := f3_.symm; clear f1_ f2_ f3_; subst f4_; subst f5_))
     refine hK.out _ _ ⟨(blk_cell BK431.out 0).trans rfl, (blk_cell BK431.out 1).trans rfl⟩ (fun hHeld => ?_)
     clear hK K
     refine norm_ (a' := ?_) ?_ ?_
     rotate_left
     ·show Act.put _ (some 42) _ = _
      simp only [Act.put, List.setIfInBounds_toArray, List.set_cons_zero, List.set_cons_succ, i64_w, i32_w]
      rfl
     refine one_ (i := 5) (N := some 43) #[true, true, true, true, true, true, false] rfl rfl (by kernel_rfl) (by decide) (fun K hK => ?_)
     refine goes_ Tryz.func104 (by kernel_rfl) rfl #[.slice Ao42 t436.length co42, .slice Ao43 t439.length co43] (by rfl) rfl rfl zm ?_
     with_reducible refine (weftref1_natGCD.calls kj2 (fun k_ => k_ ≠ gb431) _ _ t436 (fun k_ => k_ ≠ gb431) _ _ t439 t442 _ ?side1 ?side2 A21.out).mono ?_
     (case side1 => exact HO438.out)
     (case side2 => exact HO441.out)
     rintro e w44 ⟨v443, rfl, ho0, hb⟩
     refine ⟨_, rfl, ?_⟩
     have n0_ := Aside0.mk (Kd.V_below (zV HO438) hb)
     have n1_ := Aside0.mk (Kd.V_below (zV HO441) hb)
     have n2_ := Aside0.mk (Kd.V_lower (Kd.V_mono (ok' := fun k_ => k_ ≠ gb431) ho0 (fun k_ hk_ => Or.elim hk_ (fun hs_ => Or.elim hs_ (fun hs_ => hs_) (fun hs_ => hs_)) (fun hn_ => (Kd.freshB (g := gb431) (o := .cells #[.string a0_0, .string a0_1] 61 (0, 0)) (zb BK431) k_ hn_)))) bs)
     have n3_ := sK BK431 hb
     have n4_ := sB hb
     clear HO438
     clear HO441
     clear BK431
     clear HB
     have HO438 := n0_
     have HO441 := n1_
     have HO444 := n2_
     have BK431 := n3_
     have HB := n4_
     clear n0_ n1_ n2_ n3_ n4_
     (try clear hb)
     (try clear hb2)
     (try clear hk)
     (try clear hi)
     (try clear ho0)
     refine hK.out _ _ ⟨(blk_cell BK431.out 0).trans rfl, (blk_cell BK431.out 1).trans rfl⟩ (fun hHeld => ?_)
     clear hK K
     refine norm_ (a' := ?_) ?_ ?_
     rotate_left
     ·show Act.put _ (some 43) _ = _
      simp only [Act.put, List.setIfInBounds_toArray, List.set_cons_zero, List.set_cons_succ, i64_w, i32_w]
      rfl
     refine pure_ (i := 6) (N := some 5) (v := ?_) (a' := ?_) #[true, true, true, true, true, true, true] rfl rfl (by kernel_rfl) (fun _ _ _ h => h) (Or.inl ⟨by rfl, ?_⟩) ?_ ?_
     rotate_left
     ·intro w'
      go_simp
      with_reducible rfl
     rotate_left
     ·simp only [Act.put, List.setIfInBounds_toArray, List.set_cons_zero, List.set_cons_succ, i64_w, i32_w]
      rfl
     refine done_ (by kernel_rfl) ?_
     obtain ⟨Ao45, co45, rfl⟩ := Kd.V_slice HO444.out
     try go_wp2
     go_ret
     exact ⟨ze, bw⟩

def num_Text.f (k : Nat) (a0_0 : ByteArray) (a0_1 : ByteArray) : Option (ByteArray × Int) := (num_Check.f k a0_0 a0_1).bind fun t447 => (if t447 = 0 then (if a0_1.toList = ([49] : List UInt8) then (some (a0_0, 0)) else (if a0_0.size + 1 ≤ 9223372036854775807 then (if (a0_0 ++ (⟨#[47]⟩ : ByteArray)).size + a0_1.size ≤ 9223372036854775807 then (some ((a0_0 ++ (⟨#[47]⟩ : ByteArray)) ++ a0_1, 0)) else (none)) else (none))) else (some ((⟨#[]⟩ : ByteArray), t447)))
theorem num_Text.mono : ∀ a0 a1 k, LeO (num_Text.f k a0 a1) (num_Text.f (k + 1) a0 a1) := by
 intro a0 a1 k
 unfold num_Text.f
 have m0 := num_Check.mono
 exact zM
set_option maxHeartbeats 8000000 in
set_option maxRecDepth 100000 in
theorem num_Text.calls (k : Nat) (a0_0 : ByteArray) (a0_1 : ByteArray) (r1 : ByteArray) (r2 : Int) (w : World) (h : num_Text.f k a0_0 a0_1 = some (r1, r2)) :
  Calls Tryz.prog 54 #[.agg #[.string a0_0, .string a0_1]] w fun e w' => e = .returned (.tuple #[.string r1, .int .i64 r2]) ∧ Below w.heap.size w w' := by
 have hu61 := Tryz.underlying61
 have HB := Aside0.mk (Below.refl w.heap.size w)
 have H : ((num_Check.f k a0_0 a0_1).bind fun t447 => (if t447 = 0 then (if a0_1.toList = ([49] : List UInt8) then (some (a0_0, 0)) else (if a0_0.size + 1 ≤ 9223372036854775807 then (if (a0_0 ++ (⟨#[47]⟩ : ByteArray)).size + a0_1.size ≤ 9223372036854775807 then (some ((a0_0 ++ (⟨#[47]⟩ : ByteArray)) ++ a0_1, 0)) else (none)) else (none))) else (some ((⟨#[]⟩ : ByteArray), t447)))) = some (r1, r2) := h
 clear h
 obtain ⟨t447, A2, H⟩ := zB H
 by_cases c3 : t447 = 0
 ·rw [if_pos c3] at H
  have c3b0 : (t447 == 0) = true := beq_iff_eq.mpr c3
  have c3b1 : (t447 != 0) = false := bne_eq_false_iff_eq.mpr c3
  clear c3
  by_cases c4 : a0_1.toList = ([49] : List UInt8)
  ·rw [if_pos c4] at H
   have c4b0 : (a0_1.toList == ([49] : List UInt8)) = true := beq_iff_eq.mpr c4
   have c4b1 : (a0_1.toList != ([49] : List UInt8)) = false := bne_eq_false_iff_eq.mpr c4
   clear c4
   simp only [Option.some.injEq, Prod.mk.injEq] at H
   obtain ⟨rfl, rfl⟩ := H
   go_enter Tryz.func54, Tryz.ntmps54
   go_wp2_with (first | ((with_reducible refine gate_dst (N := 1) rfl ?_); refine box_ev 1 #[.string a0_0, .string a0_1] 61 ?_; intro gb446 hg w5 hbox hb; have BK446 := Aside0.mk (hbox); have GW446 := sG hg; have GE446 := sG hg; replace HB := sB hb; clear hb hbox hg; obtain ⟨hcz6_0, hfz6_0⟩ := zc BK446 0 (.string a0_0) rfl; obtain ⟨hcz6_1, hfz6_1⟩ := zc BK446 1 (.string a0_1) rfl) | (refine zg (some 6) Tryz.func56 #[.agg #[.string a0_0, .string a0_1]] ?_; (with_reducible refine (num_Check.calls k a0_0 a0_1 t447 _ A2.out).mono ?_); rintro e w7 ⟨rfl, hb⟩; refine ⟨_, rfl, ?_⟩; replace BK446 := sK BK446 hb; replace HB := sB hb; clear hb; obtain ⟨hcz8_0, hfz8_0⟩ := zc BK446 0 (.string a0_0) rfl; obtain ⟨hcz8_1, hfz8_1⟩ := zc BK446 1 (.string a0_1) rfl))
   go_ret2
   exact ⟨ze, bw⟩
  ·rw [if_neg c4] at H
   have c4b0 : (a0_1.toList == ([49] : List UInt8)) = false := beq_eq_false_iff_ne.mpr c4
   have c4b1 : (a0_1.toList != ([49] : List UInt8)) = true := bne_iff_ne.mpr c4
   by_cases c9 : a0_0.size + 1 ≤ 9223372036854775807
   ·rw [if_pos c9] at H
    have c9b0 := eq_true c9
    have c9b1 : decide (a0_0.size + 1 ≤ 9223372036854775807) = true := decide_eq_true c9
    try have c9b2 : (9223372036854775807 < a0_0.size + 1) = False := eq_false (Nat.not_lt.2 c9)
    by_cases c10 : (a0_0 ++ (⟨#[47]⟩ : ByteArray)).size + a0_1.size ≤ 9223372036854775807
    ·rw [if_pos c10] at H
     have c10b0 := eq_true c10
     have c10b1 : decide ((a0_0 ++ (⟨#[47]⟩ : ByteArray)).size + a0_1.size ≤ 9223372036854775807) = true := decide_eq_true c10
     try have c10b2 : (9223372036854775807 < (a0_0 ++ (⟨#[47]⟩ : ByteArray)).size + a0_1.size) = False := eq_false (Nat.not_lt.2 c10)
     simp only [Option.some.injEq, Prod.mk.injEq] at H
     obtain ⟨rfl, rfl⟩ := H
     go_enter Tryz.func54, Tryz.ntmps54
     go_wp2_with (first | ((with_reducible refine gate_dst (N := 1) rfl ?_); refine box_ev 1 #[.string a0_0, .string a0_1] 61 ?_; intro gb446 hg w11 hbox hb; have BK446 := Aside0.mk (hbox); have GW446 := sG hg; have GE446 := sG hg; replace HB := sB hb; clear hb hbox hg; obtain ⟨hcz12_0, hfz12_0⟩ := zc BK446 0 (.string a0_0) rfl; obtain ⟨hcz12_1, hfz12_1⟩ := zc BK446 1 (.string a0_1) rfl) | (refine zg (some 6) Tryz.func56 #[.agg #[.string a0_0, .string a0_1]] ?_; (with_reducible refine (num_Check.calls k a0_0 a0_1 t447 _ A2.out).mono ?_); rintro e w13 ⟨rfl, hb⟩; refine ⟨_, rfl, ?_⟩; replace BK446 := sK BK446 hb; replace HB := sB hb; clear hb; obtain ⟨hcz14_0, hfz14_0⟩ := zc BK446 0 (.string a0_0) rfl; obtain ⟨hcz14_1, hfz14_1⟩ := zc BK446 1 (.string a0_1) rfl))
     go_ret2
     exact ⟨ze, bw⟩
    ·rw [if_neg c10] at H
     cases H
   ·rw [if_neg c9] at H
    cases H
 ·rw [if_neg c3] at H
  have c3b0 : (t447 == 0) = false := beq_eq_false_iff_ne.mpr c3
  have c3b1 : (t447 != 0) = true := bne_iff_ne.mpr c3
  simp only [Option.some.injEq, Prod.mk.injEq] at H
  obtain ⟨rfl, rfl⟩ := H
  go_enter Tryz.func54, Tryz.ntmps54
  go_wp2_with (first | ((with_reducible refine gate_dst (N := 1) rfl ?_); refine box_ev 1 #[.string a0_0, .string a0_1] 61 ?_; intro gb446 hg w15 hbox hb; have BK446 := Aside0.mk (hbox); have GW446 := sG hg; have GE446 := sG hg; replace HB := sB hb; clear hb hbox hg; obtain ⟨hcz16_0, hfz16_0⟩ := zc BK446 0 (.string a0_0) rfl; obtain ⟨hcz16_1, hfz16_1⟩ := zc BK446 1 (.string a0_1) rfl) | (refine zg (some 6) Tryz.func56 #[.agg #[.string a0_0, .string a0_1]] ?_; (with_reducible refine (num_Check.calls k a0_0 a0_1 t447 _ A2.out).mono ?_); rintro e w17 ⟨rfl, hb⟩; refine ⟨_, rfl, ?_⟩; replace BK446 := sK BK446 hb; replace HB := sB hb; clear hb))
  go_ret2
  exact ⟨ze, bw⟩

def weftref1_RatText.f (a0_0 : ByteArray) (a0_1 : ByteArray) : Option (ByteArray) := if a0_1.toList = ([49] : List UInt8) then (some a0_0) else (if a0_0.size + 1 ≤ 9223372036854775807 then (if (a0_0 ++ (⟨#[47]⟩ : ByteArray)).size + a0_1.size ≤ 9223372036854775807 then (some ((a0_0 ++ (⟨#[47]⟩ : ByteArray)) ++ a0_1)) else (none)) else (none))
set_option maxHeartbeats 8000000 in
set_option maxRecDepth 100000 in
theorem weftref1_RatText.calls (a0_0 : ByteArray) (a0_1 : ByteArray) (r : ByteArray) (w : World) (h : weftref1_RatText.f a0_0 a0_1 = some r) :
  Calls Tryz.prog 55 #[.agg #[.string a0_0, .string a0_1]] w fun e w' => e = .returned (.string r) ∧ Below w.heap.size w w' := by
 have hu61 := Tryz.underlying61
 have HB := Aside0.mk (Below.refl w.heap.size w)
 have H : (if a0_1.toList = ([49] : List UInt8) then (some a0_0) else (if a0_0.size + 1 ≤ 9223372036854775807 then (if (a0_0 ++ (⟨#[47]⟩ : ByteArray)).size + a0_1.size ≤ 9223372036854775807 then (some ((a0_0 ++ (⟨#[47]⟩ : ByteArray)) ++ a0_1)) else (none)) else (none))) = some r := h
 clear h
 by_cases c2 : a0_1.toList = ([49] : List UInt8)
 ·rw [if_pos c2] at H
  have c2b0 : (a0_1.toList == ([49] : List UInt8)) = true := beq_iff_eq.mpr c2
  have c2b1 : (a0_1.toList != ([49] : List UInt8)) = false := bne_eq_false_iff_eq.mpr c2
  clear c2
  obtain rfl := Option.some.inj H
  go_enter Tryz.func55, Tryz.ntmps55
  go_wp2_with (first | ((with_reducible refine gate_dst (N := 1) rfl ?_); refine box_ev 1 #[.string a0_0, .string a0_1] 61 ?_; intro gb448 hg w3 hbox hb; have BK448 := Aside0.mk (hbox); have GW448 := sG hg; have GE448 := sG hg; replace HB := sB hb; clear hb hbox hg; obtain ⟨hcz4_0, hfz4_0⟩ := zc BK448 0 (.string a0_0) rfl; obtain ⟨hcz4_1, hfz4_1⟩ := zc BK448 1 (.string a0_1) rfl))
  go_ret
  exact ⟨ze, bw⟩
 ·rw [if_neg c2] at H
  have c2b0 : (a0_1.toList == ([49] : List UInt8)) = false := beq_eq_false_iff_ne.mpr c2
  have c2b1 : (a0_1.toList != ([49] : List UInt8)) = true := bne_iff_ne.mpr c2
  by_cases c5 : a0_0.size + 1 ≤ 9223372036854775807
  ·rw [if_pos c5] at H
   have c5b0 := eq_true c5
   have c5b1 : decide (a0_0.size + 1 ≤ 9223372036854775807) = true := decide_eq_true c5
   try have c5b2 : (9223372036854775807 < a0_0.size + 1) = False := eq_false (Nat.not_lt.2 c5)
   by_cases c6 : (a0_0 ++ (⟨#[47]⟩ : ByteArray)).size + a0_1.size ≤ 9223372036854775807
   ·rw [if_pos c6] at H
    have c6b0 := eq_true c6
    have c6b1 : decide ((a0_0 ++ (⟨#[47]⟩ : ByteArray)).size + a0_1.size ≤ 9223372036854775807) = true := decide_eq_true c6
    try have c6b2 : (9223372036854775807 < (a0_0 ++ (⟨#[47]⟩ : ByteArray)).size + a0_1.size) = False := eq_false (Nat.not_lt.2 c6)
    obtain rfl := Option.some.inj H
    go_enter Tryz.func55, Tryz.ntmps55
    go_wp2_with (first | ((with_reducible refine gate_dst (N := 1) rfl ?_); refine box_ev 1 #[.string a0_0, .string a0_1] 61 ?_; intro gb448 hg w7 hbox hb; have BK448 := Aside0.mk (hbox); have GW448 := sG hg; have GE448 := sG hg; replace HB := sB hb; clear hb hbox hg; obtain ⟨hcz8_0, hfz8_0⟩ := zc BK448 0 (.string a0_0) rfl; obtain ⟨hcz8_1, hfz8_1⟩ := zc BK448 1 (.string a0_1) rfl))
    go_ret
    exact ⟨ze, bw⟩
   ·rw [if_neg c6] at H
    cases H
  ·rw [if_neg c5] at H
   cases H

end Go.Proofs.YtaffkbemjbfajaaGreatDoor.PNumForms
