-- By a program of this session (a changed copy of the kit's printer): functions of the seat as plain Lean functions, each with its proof over the machine.
import Derived.Test.YtaffkbemjbfajaaGreatDoorPNumFormsx0
import Derived.Test.YtaffkbemjbfajaaGreatDoorPNumFormsx1
import Derived.Test.YtaffkbemjbfajaaGreatDoorPNumFormsx6
import Derived.Test.YtaffkbemjbfajaaGreatDoorPNumFormsx8
namespace Go.Proofs.YtaffkbemjbfajaaGreatDoor.PNumForms
open Go.RowKit Go.Proofs.YtaffkbemjbfajaaGreatDoorW.PrintWords Go.Proofs.YtaffkbemjbfajaaGreatDoorW.PrintLast Go.Proofs.YtaffkbemjbfajaaGreatDoorW.PrintMore
attribute [local go_sem] max2_int min2_int max_two min_two max_three min_three max_four min_four   -- for this text's walks alone
set_option linter.unusedVariables false
set_option linter.unusedSimpArgs false

attribute [local go_sem high] eqA61
def num_Check.j0 : Nat → ByteArray → Bool → Bool → ByteArray → ByteArray → Option (Int)
 | 0, _, _, _, _, _ => none
 | k + 1, x3, x4, x11, x281000, x281001 => if x11 = true then (some 3) else (if x3.toList = ([48] : List UInt8) then (if x4 = true then (some 3) else (if x281001.toList = ([49] : List UInt8) then (some 0) else (some 3))) else (if x281001.toList = ([49] : List UInt8) then (some 0) else ((nat_Parse.f k x3).bind fun t285 => ((nat_Parse.f k x281001).bind fun t288 => ((nat_Gcd.f k t285 t288).bind fun t291 => ((nat_Nat_One.f t291).bind fun t294 => (if t294 = true then (some 0) else (some 3))))))))
def num_Check.f (k : Nat) (a0_0 : ByteArray) (a0_1 : ByteArray) : Option (Int) := (strings_CutPrefix.f a0_0 (⟨#[45]⟩ : ByteArray)).bind fun bt281 => ((num_digits.f bt281.1).bind fun t283 => (if t283 = true then ((num_digits.f a0_1).bind fun t284 => (if t284 = true then (num_Check.j0 k bt281.1 bt281.2 (a0_1.toList == ([48] : List UInt8)) a0_0 a0_1) else (num_Check.j0 k bt281.1 bt281.2 true a0_0 a0_1))) else (num_Check.j0 k bt281.1 bt281.2 true a0_0 a0_1)))
theorem num_Check.mono_l : ∀ k, (∀ y0 y1 y2 y3 y4, LeO (num_Check.j0 k y0 y1 y2 y3 y4) (num_Check.j0 (k + 1) y0 y1 y2 y3 y4))
 | 0 => fun _ _ _ _ _ r h => by simp [num_Check.j0] at h
 | k + 1 => by
  have ih0 := num_Check.mono_l k
  ·intro y0 y1 y2 y3 y4
   unfold num_Check.j0
   have m0 := nat_Gcd.mono
   have m1 := nat_Parse.mono
   exact zM
theorem num_Check.mono : ∀ a0 a1 k, LeO (num_Check.f k a0 a1) (num_Check.f (k + 1) a0 a1) := by
 intro a0 a1 k
 have ih0 := num_Check.mono_l k
 unfold num_Check.f
 have m0 := nat_Gcd.mono
 have m1 := nat_Parse.mono
 exact zM
def num_Check.T7 : Bool × List (List Nat × List Nat) := (true, [([], []), ([0], [0]), ([1], [1]), ([2], [2]), ([3], [3]), ([4, 3, 3], [3, 4]), ([3], [3]), ([6, 3], [3, 6]), ([7, 5, 3], [3, 7]), ([5, 8, 8, 3], [3, 5, 8]), ([9, 9, 3], [3, 9]), ([10, 3], [3, 10]), ([3, 11], [3, 11]), ([12, 10], [12])])
def num_Check.B7 : List Nat := [0, 1, 3, 7, 15, 31, 15, 79, 255, 511, 1023, 2047, 4095, 8191]
theorem num_Check.tab7 : rtab .any (opsOf Tryz.f56 7) = num_Check.T7 := by kernel_rfl
theorem num_Check.bits7 : waitsOk num_Check.T7.2 num_Check.B7 = true := by kernel_rfl
set_option maxHeartbeats 8000000 in
set_option maxRecDepth 100000 in
theorem num_Check.calls (k : Nat) (a0_0 : ByteArray) (a0_1 : ByteArray) (r : Int) (w : World) (h : num_Check.f k a0_0 a0_1 = some r) :
  Calls Tryz.prog 56 #[.agg #[.string a0_0, .string a0_1]] w fun e w' => e = .returned (.int .i64 r) ∧ Below w.heap.size w w' := by
 have hu61 := Tryz.underlying61
 have HB := Aside0.mk (Below.refl w.heap.size w)
 have H : ((strings_CutPrefix.f a0_0 (⟨#[45]⟩ : ByteArray)).bind fun bt281 => ((num_digits.f bt281.1).bind fun t283 => (if t283 = true then ((num_digits.f a0_1).bind fun t284 => (if t284 = true then (num_Check.j0 k bt281.1 bt281.2 (a0_1.toList == ([48] : List UInt8)) a0_0 a0_1) else (num_Check.j0 k bt281.1 bt281.2 true a0_0 a0_1))) else (num_Check.j0 k bt281.1 bt281.2 true a0_0 a0_1)))) = some r := h
 clear h
 replace H := Option.bind_eq_some_iff.mp H
 obtain ⟨⟨t281, t282⟩, A20, H⟩ := H
 replace H : ((num_digits.f t281).bind fun t283 => (if t283 = true then ((num_digits.f a0_1).bind fun t284 => (if t284 = true then (num_Check.j0 k t281 t282 (a0_1.toList == ([48] : List UInt8)) a0_0 a0_1) else (num_Check.j0 k t281 t282 true a0_0 a0_1))) else (num_Check.j0 k t281 t282 true a0_0 a0_1))) = some r := H
 have A2 := Aside0.mk A20
 clear A20
 have HC3 := Aside0.mk H
 clear H
 go_enter Tryz.func56, Tryz.ntmps56
 go_upto_region 2 with (first | ((with_reducible refine gate_dst (N := 1) rfl ?_); refine box_ev 1 #[.string a0_0, .string a0_1] 61 ?_; intro gb280 hg w4 hbox hb; have BK280 := Aside0.mk (hbox); have GW280 := sG hg; have GE280 := sG hg; replace HB := sB hb; clear hb hbox hg; obtain ⟨hcz5_0, hfz5_0⟩ := zc BK280 0 (.string a0_0) rfl; obtain ⟨hcz5_1, hfz5_1⟩ := zc BK280 1 (.string a0_1) rfl) | (refine zg (some 8) Tryz.func102 #[.string a0_0, .string (⟨#[45]⟩ : ByteArray)] ?_; (with_reducible refine (strings_CutPrefix.calls a0_0 (⟨#[45]⟩ : ByteArray) t281 t282 _ A2.out).mono ?_); rintro e w' ⟨rfl, ⟨nd, rfl⟩⟩; refine ⟨_, rfl, ?_⟩))
 (try simp only [Act.put, List.setIfInBounds_toArray, List.set_cons_zero, List.set_cons_succ])
 go_cut [11] (fun v11 wc => ∃ (kq : Nat) (x11_2 : Bool), v11 = .bool x11_2 ∧ Aside0 (num_Check.j0 kq t281 t282 x11_2 a0_0 a0_1 = some r) ∧ Aside0 (kq ≤ k) ∧ Aside0 (wc.heap[gb280]? = some (.cells #[.string a0_0, .string a0_1] 61 (0, 0))) ∧ Aside0 (Below w.heap.size w wc))
 case first =>
  have H := HC3.out
  clear HC3
  obtain ⟨t283, A6, H⟩ := zB H
  by_cases c7 : t283 = true
  ·subst c7
   have H1 : ((num_digits.f a0_1).bind fun t284 => (if t284 = true then (num_Check.j0 k t281 t282 (a0_1.toList == ([48] : List UInt8)) a0_0 a0_1) else (num_Check.j0 k t281 t282 true a0_0 a0_1))) = some r := by rw [if_pos rfl] at H; exact H
   clear H
   have H := H1
   clear H1
   obtain ⟨t284, A8, H⟩ := zB H
   by_cases c9 : t284 = true
   ·subst c9
    have H1 : (num_Check.j0 k t281 t282 (a0_1.toList == ([48] : List UInt8)) a0_0 a0_1) = some r := by rw [if_pos rfl] at H; exact H
    clear H
    have H := H1
    clear H1
    have H' := Aside0.mk H
    clear H
    go_wp2_with (first | (refine zg (some 13) Tryz.func106 #[.string t281] ?_; (with_reducible refine (num_digits.calls t281 true _ A6.out).mono ?_); rintro e w10 ⟨rfl, hb⟩; refine ⟨_, rfl, ?_⟩; replace BK280 := sK BK280 hb; replace HB := sB hb; clear hb; obtain ⟨hcz11_0, hfz11_0⟩ := zc BK280 0 (.string a0_0) rfl; obtain ⟨hcz11_1, hfz11_1⟩ := zc BK280 1 (.string a0_1) rfl) | (go_at_call 106; (with_reducible refine (num_digits.calls a0_1 true _ A8.out).mono ?_); rintro e w12 ⟨rfl, hb⟩; replace BK280 := sK BK280 hb; replace HB := sB hb; clear hb; obtain ⟨hcz13_0, hfz13_0⟩ := zc BK280 0 (.string a0_0) rfl; obtain ⟨hcz13_1, hfz13_1⟩ := zc BK280 1 (.string a0_1) rfl))
    go_meet
    case rel => exact ⟨_, ((a0_1.toList == ([48] : List UInt8))), zs, H', ⟨by first | omega | exact Nat.le_refl _⟩, ⟨by (with_reducible repeat (first | refine blk_drewN ?_ _ | refine blk_drew ?_ | refine blk_alloc ?_ _)); exact BK280.out⟩, ⟨bw⟩⟩
   ·replace c9 := Bool.eq_false_iff.mpr c9
    subst c9
    have H1 : (num_Check.j0 k t281 t282 true a0_0 a0_1) = some r := by rw [if_neg (show ¬ (false = true) by decide)] at H; exact H
    clear H
    have H := H1
    clear H1
    have H' := Aside0.mk H
    clear H
    go_wp2_with (first | (refine zg (some 13) Tryz.func106 #[.string t281] ?_; (with_reducible refine (num_digits.calls t281 true _ A6.out).mono ?_); rintro e w14 ⟨rfl, hb⟩; refine ⟨_, rfl, ?_⟩; replace BK280 := sK BK280 hb; replace HB := sB hb; clear hb; obtain ⟨hcz15_0, hfz15_0⟩ := zc BK280 0 (.string a0_0) rfl; obtain ⟨hcz15_1, hfz15_1⟩ := zc BK280 1 (.string a0_1) rfl) | (go_at_call 106; (with_reducible refine (num_digits.calls a0_1 false _ A8.out).mono ?_); rintro e w16 ⟨rfl, hb⟩; replace BK280 := sK BK280 hb; replace HB := sB hb; clear hb))
    go_meet
    case rel => exact ⟨_, (true), zs, H', ⟨by first | omega | exact Nat.le_refl _⟩, ⟨by (with_reducible repeat (first | refine blk_drewN ?_ _ | refine blk_drew ?_ | refine blk_alloc ?_ _)); exact BK280.out⟩, ⟨bw⟩⟩
  ·replace c7 := Bool.eq_false_iff.mpr c7
   subst c7
   have H1 : (num_Check.j0 k t281 t282 true a0_0 a0_1) = some r := by rw [if_neg (show ¬ (false = true) by decide)] at H; exact H
   clear H
   have H := H1
   clear H1
   have H' := Aside0.mk H
   clear H
   go_wp2_with (first | (refine zg (some 13) Tryz.func106 #[.string t281] ?_; (with_reducible refine (num_digits.calls t281 false _ A6.out).mono ?_); rintro e w17 ⟨rfl, hb⟩; refine ⟨_, rfl, ?_⟩; replace BK280 := sK BK280 hb; replace HB := sB hb; clear hb))
   go_meet
   case rel => exact ⟨_, (true), zs, H', ⟨by first | omega | exact Nat.le_refl _⟩, ⟨by (with_reducible repeat (first | refine blk_drewN ?_ _ | refine blk_drew ?_ | refine blk_alloc ?_ _)); exact BK280.out⟩, ⟨bw⟩⟩
 case rest =>
  clear HC3
  try clear c1
  try clear p2
  try clear c5
  try clear c7
  try clear c9
  try clear c10
  try clear hcz11_0
  try clear hcz11_1
  try clear hcz13_0
  try clear hcz13_1
  try clear hcz15_0
  try clear hcz15_1
  try clear hcz5_0
  try clear hcz5_1
  try clear hfz11_0
  try clear hfz11_1
  try clear hfz13_0
  try clear hfz13_1
  try clear hfz15_0
  try clear hfz15_1
  try clear hfz5_0
  try clear hfz5_1
  obtain ⟨kq, x11_2, rfl, HA, HJ2, BK280, HB⟩ := hcut
  cases kq with
  | zero => exact absurd HA.out (by simp [num_Check.j0])
  | succ kj2 =>
   have H := HA.out
   clear HA
   simp only [num_Check.j0] at H
   by_cases c18 : x11_2 = true
   ·subst c18
    have H1 : (some 3) = some r := by rw [if_pos rfl] at H; exact H
    clear H
    have H := H1
    clear H1
    obtain rfl := Option.some.inj H
    go_wp2
    go_ret
    exact ⟨ze, bw⟩
   ·replace c18 := Bool.eq_false_iff.mpr c18
    subst c18
    have H1 : (if t281.toList = ([48] : List UInt8) then (if t282 = true then (some 3) else (if a0_1.toList = ([49] : List UInt8) then (some 0) else (some 3))) else (if a0_1.toList = ([49] : List UInt8) then (some 0) else ((nat_Parse.f kj2 t281).bind fun t285 => ((nat_Parse.f kj2 a0_1).bind fun t288 => ((nat_Gcd.f kj2 t285 t288).bind fun t291 => ((nat_Nat_One.f t291).bind fun t294 => (if t294 = true then (some 0) else (some 3)))))))) = some r := by rw [if_neg (show ¬ (false = true) by decide)] at H; exact H
    clear H
    have H := H1
    clear H1
    by_cases c19 : t281.toList = ([48] : List UInt8)
    ·rw [if_pos c19] at H
     have c19b0 : (t281.toList == ([48] : List UInt8)) = true := beq_iff_eq.mpr c19
     have c19b1 : (t281.toList != ([48] : List UInt8)) = false := bne_eq_false_iff_eq.mpr c19
     clear c19
     by_cases c20 : t282 = true
     ·subst c20
      have H1 : (some 3) = some r := by rw [if_pos rfl] at H; exact H
      clear H
      have H := H1
      clear H1
      obtain rfl := Option.some.inj H
      go_wp2
      go_ret
      exact ⟨ze, bw⟩
     ·replace c20 := Bool.eq_false_iff.mpr c20
      subst c20
      have H1 : (if a0_1.toList = ([49] : List UInt8) then (some 0) else (some 3)) = some r := by rw [if_neg (show ¬ (false = true) by decide)] at H; exact H
      clear H
      have H := H1
      clear H1
      by_cases c21 : a0_1.toList = ([49] : List UInt8)
      ·rw [if_pos c21] at H
       have c21b0 : (a0_1.toList == ([49] : List UInt8)) = true := beq_iff_eq.mpr c21
       have c21b1 : (a0_1.toList != ([49] : List UInt8)) = false := bne_eq_false_iff_eq.mpr c21
       clear c21
       obtain rfl := Option.some.inj H
       have hcz22_0 : wc.cell? ⟨gb280, 0, none⟩ = some (.string a0_0) := (blk_cell BK280.out 0).trans rfl
       have hcz22_1 : wc.cell? ⟨gb280, 1, none⟩ = some (.string a0_1) := (blk_cell BK280.out 1).trans rfl
       have hfz22_0 := blk_frozen BK280.out 0
       have hfz22_1 := blk_frozen BK280.out 1
       go_wp2
       go_ret
       exact ⟨ze, bw⟩
      ·rw [if_neg c21] at H
       have c21b0 : (a0_1.toList == ([49] : List UInt8)) = false := beq_eq_false_iff_ne.mpr c21
       have c21b1 : (a0_1.toList != ([49] : List UInt8)) = true := bne_iff_ne.mpr c21
       obtain rfl := Option.some.inj H
       have hcz23_0 : wc.cell? ⟨gb280, 0, none⟩ = some (.string a0_0) := (blk_cell BK280.out 0).trans rfl
       have hcz23_1 : wc.cell? ⟨gb280, 1, none⟩ = some (.string a0_1) := (blk_cell BK280.out 1).trans rfl
       have hfz23_0 := blk_frozen BK280.out 0
       have hfz23_1 := blk_frozen BK280.out 1
       go_wp2
       go_ret
       exact ⟨ze, bw⟩
    ·rw [if_neg c19] at H
     have c19b0 : (t281.toList == ([48] : List UInt8)) = false := beq_eq_false_iff_ne.mpr c19
     have c19b1 : (t281.toList != ([48] : List UInt8)) = true := bne_iff_ne.mpr c19
     by_cases c24 : a0_1.toList = ([49] : List UInt8)
     ·rw [if_pos c24] at H
      have c24b0 : (a0_1.toList == ([49] : List UInt8)) = true := beq_iff_eq.mpr c24
      have c24b1 : (a0_1.toList != ([49] : List UInt8)) = false := bne_eq_false_iff_eq.mpr c24
      clear c24
      obtain rfl := Option.some.inj H
      try go_wp2
      have n0_ := Aside0.mk (blk_drew BK280.out)
      have n1_ := Aside0.mk (below_drew1 HB.out)
      clear BK280
      clear HB
      have BK280 := n0_
      have HB := n1_
      clear n0_ n1_
      refine start_ (n := 14) (S := fun w' => w'.cell? ⟨gb280, 0, none⟩ = some (.string a0_0) ∧ w'.cell? ⟨gb280, 1, none⟩ = some (.string a0_1)) (ds := []) #[false, false, false, false, false, false, false, false, false, false, false, false, false, false] (by kernel_rfl) rfl rfl ⟨(blk_cell BK280.out 0).trans rfl, (blk_cell BK280.out 1).trans rfl⟩ (fun hHeld => ?_); refine with_tabW num_Check.tab7 num_Check.bits7 (fun HT_ HW_ => ?_)
      generalize wc.drew = w25 at BK280 HB hHeld ⊢
      refine pure_ (i := 0) (N := some 36) (v := ?_) (a' := ?_) #[true, false, false, false, false, false, false, false, false, false, false, false, false, false] rfl rfl (any_of HT_.out (by kernel_rfl)) (fun _ _ _ h => h) (Or.inl ⟨by rfl, ?_⟩) ?_ ?_
      rotate_left
      ·intro w'
       go_simp
       with_reducible rfl
      rotate_left
      ·simp only [Act.put, List.setIfInBounds_toArray, List.set_cons_zero, List.set_cons_succ, i64_w, i32_w]
       rfl
      refine take_ (i := 1) (N := some 37) (v := ?_) (a' := ?_) #[true, true, false, false, false, false, false, false, false, false, false, false, false, false] rfl rfl (take_ofW HT_.out HW_.out (by kernel_rfl)) (fun _ _ _ h => h) (Or.inl ⟨by rfl, ?_⟩) hHeld ?_ ?_
      rotate_left
      ·rintro w' ⟨s0, s1⟩
       go_simp
       with_reducible rfl
      rotate_left
      ·simp only [Act.put, List.setIfInBounds_toArray, List.set_cons_zero, List.set_cons_succ, i64_w, i32_w]
       rfl
      refine pure_ (i := 2) (N := some 38) (v := ?_) (a' := ?_) #[true, true, true, false, false, false, false, false, false, false, false, false, false, false] rfl rfl (any_of HT_.out (by kernel_rfl)) (fun _ _ _ h => h) (Or.inl ⟨by rfl, ?_⟩) ?_ ?_
      rotate_left
      ·intro w'
       go_simp
       with_reducible rfl
      rotate_left
      ·simp only [Act.put, List.setIfInBounds_toArray, List.set_cons_zero, List.set_cons_succ, i64_w, i32_w]
       rfl
      refine pure_ (i := 3) (N := some 39) (v := ?_) (a' := ?_) #[true, true, true, true, false, false, false, false, false, false, false, false, false, false] rfl rfl (any_of HT_.out (by kernel_rfl)) (fun _ _ _ h => h) (Or.inl ⟨by rfl, ?_⟩) ?_ ?_
      rotate_left
      ·intro w'
       go_simp
       with_reducible rfl
      rotate_left
      ·simp only [Act.put, List.setIfInBounds_toArray, List.set_cons_zero, List.set_cons_succ, i64_w, i32_w]
       rfl
      refine pure_ (i := 4) (N := some 40) (v := undef) (a' := ?_) #[true, true, true, true, true, false, false, false, false, false, false, false, false, false] rfl rfl (any_of HT_.out (by kernel_rfl)) (fun _ _ _ h => h) (Or.inr ⟨by rfl, rfl⟩) ?_ ?_
      rotate_left
      ·simp only [Act.put, List.setIfInBounds_toArray, List.set_cons_zero, List.set_cons_succ, i64_w, i32_w]
       rfl
      refine pure_ (i := 5) (N := some 41) (v := undef) (a' := ?_) #[true, true, true, true, true, true, false, false, false, false, false, false, false, false] rfl rfl (any_of HT_.out (by kernel_rfl)) (fun _ _ _ h => h) (Or.inr ⟨by rfl, rfl⟩) ?_ ?_
      rotate_left
      ·simp only [Act.put, List.setIfInBounds_toArray, List.set_cons_zero, List.set_cons_succ, i64_w, i32_w]
       rfl
      refine pure_ (i := 6) (N := some 42) (v := undef) (a' := ?_) #[true, true, true, true, true, true, true, false, false, false, false, false, false, false] rfl rfl (any_of HT_.out (by kernel_rfl)) (fun _ _ _ h => h) (Or.inr ⟨by rfl, rfl⟩) ?_ ?_
      rotate_left
      ·simp only [Act.put, List.setIfInBounds_toArray, List.set_cons_zero, List.set_cons_succ, i64_w, i32_w]
       rfl
      refine pure_ (i := 7) (N := some 43) (v := undef) (a' := ?_) #[true, true, true, true, true, true, true, true, false, false, false, false, false, false] rfl rfl (any_of HT_.out (by kernel_rfl)) (fun _ _ _ h => h) (Or.inr ⟨by rfl, rfl⟩) ?_ ?_
      rotate_left
      ·simp only [Act.put, List.setIfInBounds_toArray, List.set_cons_zero, List.set_cons_succ, i64_w, i32_w]
       rfl
      refine pure_ (i := 8) (N := some 44) (v := undef) (a' := ?_) #[true, true, true, true, true, true, true, true, true, false, false, false, false, false] rfl rfl (any_of HT_.out (by kernel_rfl)) (fun _ _ _ h => h) (Or.inr ⟨by rfl, rfl⟩) ?_ ?_
      rotate_left
      ·simp only [Act.put, List.setIfInBounds_toArray, List.set_cons_zero, List.set_cons_succ, i64_w, i32_w]
       rfl
      refine pure_ (i := 9) (N := some 45) (v := undef) (a' := ?_) #[true, true, true, true, true, true, true, true, true, true, false, false, false, false] rfl rfl (any_of HT_.out (by kernel_rfl)) (fun _ _ _ h => h) (Or.inr ⟨by rfl, rfl⟩) ?_ ?_
      rotate_left
      ·simp only [Act.put, List.setIfInBounds_toArray, List.set_cons_zero, List.set_cons_succ, i64_w, i32_w]
       rfl
      refine pure_ (i := 10) (N := some 46) (v := undef) (a' := ?_) #[true, true, true, true, true, true, true, true, true, true, true, false, false, false] rfl rfl (any_of HT_.out (by kernel_rfl)) (fun _ _ _ h => h) (Or.inr ⟨by rfl, rfl⟩) ?_ ?_
      rotate_left
      ·simp only [Act.put, List.setIfInBounds_toArray, List.set_cons_zero, List.set_cons_succ, i64_w, i32_w]
       rfl
      refine pure_ (i := 11) (N := some 47) (v := undef) (a' := ?_) #[true, true, true, true, true, true, true, true, true, true, true, true, false, false] rfl rfl (any_of HT_.out (by kernel_rfl)) (fun _ _ _ h => h) (Or.inr ⟨by rfl, rfl⟩) ?_ ?_
      rotate_left
      ·simp only [Act.put, List.setIfInBounds_toArray, List.set_cons_zero, List.set_cons_succ, i64_w, i32_w]
       rfl
      refine pure_ (i := 12) (N := some 48) (v := ?_) (a' := ?_) #[true, true, true, true, true, true, true, true, true, true, true, true, true, false] rfl rfl (any_of HT_.out (by kernel_rfl)) (fun _ _ _ h => h) (Or.inl ⟨by rfl, ?_⟩) ?_ ?_
      rotate_left
      ·intro w'
       go_simp
       with_reducible rfl
      rotate_left
      ·simp only [Act.put, List.setIfInBounds_toArray, List.set_cons_zero, List.set_cons_succ, i64_w, i32_w]
       rfl
      refine pure_ (i := 13) (N := some 35) (v := ?_) (a' := ?_) #[true, true, true, true, true, true, true, true, true, true, true, true, true, true] rfl rfl (any_of HT_.out (by kernel_rfl)) (fun _ _ _ h => h) (Or.inl ⟨by rfl, ?_⟩) ?_ ?_
      rotate_left
      ·intro w'
       go_simp
       with_reducible rfl
      rotate_left
      ·simp only [Act.put, List.setIfInBounds_toArray, List.set_cons_zero, List.set_cons_succ, i64_w, i32_w]
       rfl
      refine done_ (done_of HT_.out (by kernel_rfl)) ?_
      try go_wp2
      go_ret
      exact ⟨ze, bw⟩
     ·rw [if_neg c24] at H
      have c24b0 : (a0_1.toList == ([49] : List UInt8)) = false := beq_eq_false_iff_ne.mpr c24
      have c24b1 : (a0_1.toList != ([49] : List UInt8)) = true := bne_iff_ne.mpr c24
      obtain ⟨t285, A26, H⟩ := zB H
      obtain ⟨t288, A27, H⟩ := zB H
      obtain ⟨t291, A28, H⟩ := zB H
      obtain ⟨t294, A29, H⟩ := zB H
      by_cases c30 : t294 = true
      ·subst c30
       have H1 : (some 0) = some r := by rw [if_pos rfl] at H; exact H
       clear H
       have H := H1
       clear H1
       obtain rfl := Option.some.inj H
       try go_wp2
       have n0_ := Aside0.mk (blk_drew BK280.out)
       have n1_ := Aside0.mk (below_drew1 HB.out)
       clear BK280
       clear HB
       have BK280 := n0_
       have HB := n1_
       clear n0_ n1_
       refine start_ (n := 14) (S := fun w' => w'.cell? ⟨gb280, 0, none⟩ = some (.string a0_0) ∧ w'.cell? ⟨gb280, 1, none⟩ = some (.string a0_1)) (ds := []) #[false, false, false, false, false, false, false, false, false, false, false, false, false, false] (by kernel_rfl) rfl rfl ⟨(blk_cell BK280.out 0).trans rfl, (blk_cell BK280.out 1).trans rfl⟩ (fun hHeld => ?_); refine with_tabW num_Check.tab7 num_Check.bits7 (fun HT_ HW_ => ?_)
       generalize wc.drew = w31 at BK280 HB hHeld ⊢
       refine pure_ (i := 0) (N := some 36) (v := ?_) (a' := ?_) #[true, false, false, false, false, false, false, false, false, false, false, false, false, false] rfl rfl (any_of HT_.out (by kernel_rfl)) (fun _ _ _ h => h) (Or.inl ⟨by rfl, ?_⟩) ?_ ?_
       rotate_left
       ·intro w'
        go_simp
        with_reducible rfl
       rotate_left
       ·simp only [Act.put, List.setIfInBounds_toArray, List.set_cons_zero, List.set_cons_succ, i64_w, i32_w]
        rfl
       refine take_ (i := 1) (N := some 37) (v := ?_) (a' := ?_) #[true, true, false, false, false, false, false, false, false, false, false, false, false, false] rfl rfl (take_ofW HT_.out HW_.out (by kernel_rfl)) (fun _ _ _ h => h) (Or.inl ⟨by rfl, ?_⟩) hHeld ?_ ?_
       rotate_left
       ·rintro w' ⟨s0, s1⟩
        go_simp
        with_reducible rfl
       rotate_left
       ·simp only [Act.put, List.setIfInBounds_toArray, List.set_cons_zero, List.set_cons_succ, i64_w, i32_w]
        rfl
       refine pure_ (i := 2) (N := some 38) (v := ?_) (a' := ?_) #[true, true, true, false, false, false, false, false, false, false, false, false, false, false] rfl rfl (any_of HT_.out (by kernel_rfl)) (fun _ _ _ h => h) (Or.inl ⟨by rfl, ?_⟩) ?_ ?_
       rotate_left
       ·intro w'
        go_simp
        with_reducible rfl
       rotate_left
       ·simp only [Act.put, List.setIfInBounds_toArray, List.set_cons_zero, List.set_cons_succ, i64_w, i32_w]
        rfl
       refine pure_ (i := 3) (N := some 39) (v := ?_) (a' := ?_) #[true, true, true, true, false, false, false, false, false, false, false, false, false, false] rfl rfl (any_of HT_.out (by kernel_rfl)) (fun _ _ _ h => h) (Or.inl ⟨by rfl, ?_⟩) ?_ ?_
       rotate_left
       ·intro w'
        go_simp
        with_reducible rfl
       rotate_left
       ·simp only [Act.put, List.setIfInBounds_toArray, List.set_cons_zero, List.set_cons_succ, i64_w, i32_w]
        rfl
       refine pure_ (i := 4) (N := some 40) (v := ?_) (a' := ?_) #[true, true, true, true, true, false, false, false, false, false, false, false, false, false] rfl rfl (any_of HT_.out (by kernel_rfl)) (fun _ _ _ h => h) (Or.inl ⟨by rfl, ?_⟩) ?_ ?_
       rotate_left
       ·intro w'
        go_simp
        with_reducible rfl
       rotate_left
       ·simp only [Act.put, List.setIfInBounds_toArray, List.set_cons_zero, List.set_cons_succ, i64_w, i32_w]
        rfl
       refine pure_ (i := 6) (N := some 42) (v := ?_) (a' := ?_) #[true, true, true, true, true, false, true, false, false, false, false, false, false, false] rfl rfl (any_of HT_.out (by kernel_rfl)) (fun _ _ _ h => h) (Or.inl ⟨by rfl, ?_⟩) ?_ ?_
       rotate_left
       ·intro w'
        go_simp
        with_reducible rfl
       rotate_left
       ·simp only [Act.put, List.setIfInBounds_toArray, List.set_cons_zero, List.set_cons_succ, i64_w, i32_w]
        rfl
       refine take_ (i := 7) (N := some 43) (v := ?_) (a' := ?_) #[true, true, true, true, true, false, true, true, false, false, false, false, false, false] rfl rfl (take_ofW HT_.out HW_.out (by kernel_rfl)) (fun _ _ _ h => h) (Or.inl ⟨by rfl, ?_⟩) hHeld ?_ ?_
       rotate_left
       ·rintro w' ⟨s0, s1⟩
        go_simp
        with_reducible rfl
       rotate_left
       ·simp only [Act.put, List.setIfInBounds_toArray, List.set_cons_zero, List.set_cons_succ, i64_w, i32_w]
        rfl
       refine one_ (i := 5) (N := some 41) #[true, true, true, true, true, true, true, true, false, false, false, false, false, false] rfl rfl (one_of HT_.out (by kernel_rfl)) (by decide) (fun K hK => ?_)
       refine goes_ Tryz.func108 (by kernel_rfl) rfl #[.string t281] (by rfl) rfl rfl zm ?_
       with_reducible refine (nat_Parse.calls kj2 t281 t285 _ A26.out).mono ?_
       rintro e w32 ⟨v286, rfl, ho0, hb⟩
       refine ⟨_, rfl, ?_⟩
       have n0_ := Aside0.mk (Kd.V_lower (Kd.V_mono (ok' := fun k_ => k_ ≠ gb280) ho0 (fun k_ hk_ => (Kd.freshB (g := gb280) (o := .cells #[.string a0_0, .string a0_1] 61 (0, 0)) (zb BK280) k_ hk_))) bs)
       have n1_ := sK BK280 hb
       have n2_ := sB hb
       clear BK280
       clear HB
       have HO287 := n0_
       have BK280 := n1_
       have HB := n2_
       clear n0_ n1_ n2_
       (try clear hb)
       (try clear hb2)
       (try clear hk)
       (try clear hi)
       (try clear ho0)
       refine hK.out _ _ ⟨(blk_cell BK280.out 0).trans rfl, (blk_cell BK280.out 1).trans rfl⟩ (fun hHeld => ?_)
       clear hK K
       refine norm_ (a' := ?_) ?_ ?_
       rotate_left
       ·show Act.put _ (some 41) _ = _
        simp only [Act.put, List.setIfInBounds_toArray, List.set_cons_zero, List.set_cons_succ, i64_w, i32_w]
        rfl
       refine one_ (i := 8) (N := some 44) #[true, true, true, true, true, true, true, true, true, false, false, false, false, false] rfl rfl (one_of HT_.out (by kernel_rfl)) (by decide) (fun K hK => ?_)
       refine goes_ Tryz.func108 (by kernel_rfl) rfl #[.string a0_1] (by rfl) rfl rfl zm ?_
       with_reducible refine (nat_Parse.calls kj2 a0_1 t288 _ A27.out).mono ?_
       rintro e w33 ⟨v289, rfl, ho0, hb⟩
       refine ⟨_, rfl, ?_⟩
       have n0_ := Aside0.mk (Kd.V_below (zV HO287) hb)
       have n1_ := Aside0.mk (Kd.V_lower (Kd.V_mono (ok' := fun k_ => k_ ≠ gb280) ho0 (fun k_ hk_ => (Kd.freshB (g := gb280) (o := .cells #[.string a0_0, .string a0_1] 61 (0, 0)) (zb BK280) k_ hk_))) bs)
       have n2_ := sK BK280 hb
       have n3_ := sB hb
       clear HO287
       clear BK280
       clear HB
       have HO287 := n0_
       have HO290 := n1_
       have BK280 := n2_
       have HB := n3_
       clear n0_ n1_ n2_ n3_
       (try clear hb)
       (try clear hb2)
       (try clear hk)
       (try clear hi)
       (try clear ho0)
       obtain ⟨Ao34, co34, eo34⟩ := Kd.V_slice HO287.out
       (first | subst eo34 | (injection eo34 with f1_ f2_ f3_; have f4_ := f1_.symm; have f5_ := f3_.symm; clear f1_ f2_ f3_; subst f4_; subst f5_))
       obtain ⟨Ao35, co35, eo35⟩ := Kd.V_slice HO290.out
       (first | subst eo35 | (injection eo35 with f1_ f2_ f3_; have f4_ := f1_.symm; have f5_ := f3_.symm; clear f1_ f2_ f3_; subst f4_; subst f5_))
       refine hK.out _ _ ⟨(blk_cell BK280.out 0).trans rfl, (blk_cell BK280.out 1).trans rfl⟩ (fun hHeld => ?_)
       clear hK K
       refine norm_ (a' := ?_) ?_ ?_
       rotate_left
       ·show Act.put _ (some 44) _ = _
        simp only [Act.put, List.setIfInBounds_toArray, List.set_cons_zero, List.set_cons_succ, i64_w, i32_w]
        rfl
       refine one_ (i := 9) (N := some 45) #[true, true, true, true, true, true, true, true, true, true, false, false, false, false] rfl rfl (one_of HT_.out (by kernel_rfl)) (by decide) (fun K hK => ?_)
       refine goes_ Tryz.func107 (by kernel_rfl) rfl #[.slice Ao34 t285.length co34, .slice Ao35 t288.length co35] (by rfl) rfl rfl zm ?_
       with_reducible refine (nat_Gcd.calls kj2 (fun k_ => k_ ≠ gb280) _ _ t285 (fun k_ => k_ ≠ gb280) _ _ t288 t291 _ ?side1 ?side2 A28.out).mono ?_
       (case side1 => exact HO287.out)
       (case side2 => exact HO290.out)
       rintro e w36 ⟨v292, rfl, ho0, hb⟩
       refine ⟨_, rfl, ?_⟩
       have n0_ := Aside0.mk (Kd.V_elder' (zV HO287) (Kd.R_base ho0) hb)
       have n1_ := Aside0.mk (Kd.V_elder' (zV HO290) (Kd.R_base ho0) hb)
       have n2_ := Aside0.mk (Kd.R_lower (Kd.R_mono (ok' := fun k_ => True) ho0 (fun _ hk_ => trivial)) bs)
       have n3_ := sK BK280 hb
       have n4_ := sB hb
       clear HO287
       clear HO290
       clear BK280
       clear HB
       have HO287 := n0_
       have HO290 := n1_
       have HO293 := n2_
       have BK280 := n3_
       have HB := n4_
       clear n0_ n1_ n2_ n3_ n4_
       (try clear hb)
       (try clear hb2)
       (try clear hk)
       (try clear hi)
       (try clear ho0)
       obtain ⟨Ao37, co37, eo37⟩ := Kd.R_slice HO293.out
       (first | subst eo37 | (injection eo37 with f1_ f2_ f3_; have f4_ := f1_.symm; have f5_ := f3_.symm; clear f1_ f2_ f3_; subst f4_; subst f5_))
       refine hK.out _ _ ⟨(blk_cell BK280.out 0).trans rfl, (blk_cell BK280.out 1).trans rfl⟩ (fun hHeld => ?_)
       clear hK K
       refine norm_ (a' := ?_) ?_ ?_
       rotate_left
       ·show Act.put _ (some 45) _ = _
        simp only [Act.put, List.setIfInBounds_toArray, List.set_cons_zero, List.set_cons_succ, i64_w, i32_w]
        rfl
       refine one_ (i := 10) (N := some 46) #[true, true, true, true, true, true, true, true, true, true, true, false, false, false] rfl rfl (one_of HT_.out (by kernel_rfl)) (by decide) (fun K hK => ?_)
       refine goes_ Tryz.func109 (by kernel_rfl) rfl #[.slice Ao37 t291.length co37] (by rfl) rfl rfl zm ?_
       with_reducible refine (nat_Nat_One.calls _ _ t291 true _ ?side1 ?side2 A29.out).mono ?_
       (case side1 => exact zC (Kd.R_reads' HO293.out).2.2)
       (case side2 => exact (Kd.R_reads' HO293.out).2.1)
       rintro e w' ⟨rfl, ⟨nd, rfl⟩⟩
       refine ⟨_, rfl, ?_⟩
       refine hK.out _ _ ⟨(blk_cell BK280.out 0).trans rfl, (blk_cell BK280.out 1).trans rfl⟩ (fun hHeld => ?_)
       clear hK K
       refine norm_ (a' := ?_) ?_ ?_
       rotate_left
       ·show Act.put _ (some 46) _ = _
        simp only [Act.put, List.setIfInBounds_toArray, List.set_cons_zero, List.set_cons_succ, i64_w, i32_w]
        rfl
       refine pure_ (i := 11) (N := some 47) (v := ?_) (a' := ?_) #[true, true, true, true, true, true, true, true, true, true, true, true, false, false] rfl rfl (any_of HT_.out (by kernel_rfl)) (fun _ _ _ h => h) (Or.inl ⟨by rfl, ?_⟩) ?_ ?_
       rotate_left
       ·intro w'
        go_simp
        with_reducible rfl
       rotate_left
       ·simp only [Act.put, List.setIfInBounds_toArray, List.set_cons_zero, List.set_cons_succ, i64_w, i32_w]
        rfl
       refine pure_ (i := 12) (N := some 48) (v := ?_) (a' := ?_) #[true, true, true, true, true, true, true, true, true, true, true, true, true, false] rfl rfl (any_of HT_.out (by kernel_rfl)) (fun _ _ _ h => h) (Or.inl ⟨by rfl, ?_⟩) ?_ ?_
       rotate_left
       ·intro w'
        go_simp
        with_reducible rfl
       rotate_left
       ·simp only [Act.put, List.setIfInBounds_toArray, List.set_cons_zero, List.set_cons_succ, i64_w, i32_w]
        rfl
       refine pure_ (i := 13) (N := some 35) (v := ?_) (a' := ?_) #[true, true, true, true, true, true, true, true, true, true, true, true, true, true] rfl rfl (any_of HT_.out (by kernel_rfl)) (fun _ _ _ h => h) (Or.inl ⟨by rfl, ?_⟩) ?_ ?_
       rotate_left
       ·intro w'
        go_simp
        with_reducible rfl
       rotate_left
       ·simp only [Act.put, List.setIfInBounds_toArray, List.set_cons_zero, List.set_cons_succ, i64_w, i32_w]
        rfl
       refine done_ (done_of HT_.out (by kernel_rfl)) ?_
       try go_wp2
       go_ret
       exact ⟨ze, bw⟩
      ·replace c30 := Bool.eq_false_iff.mpr c30
       subst c30
       have H1 : (some 3) = some r := by rw [if_neg (show ¬ (false = true) by decide)] at H; exact H
       clear H
       have H := H1
       clear H1
       obtain rfl := Option.some.inj H
       try go_wp2
       have n0_ := Aside0.mk (blk_drew BK280.out)
       have n1_ := Aside0.mk (below_drew1 HB.out)
       clear BK280
       clear HB
       have BK280 := n0_
       have HB := n1_
       clear n0_ n1_
       refine start_ (n := 14) (S := fun w' => w'.cell? ⟨gb280, 0, none⟩ = some (.string a0_0) ∧ w'.cell? ⟨gb280, 1, none⟩ = some (.string a0_1)) (ds := []) #[false, false, false, false, false, false, false, false, false, false, false, false, false, false] (by kernel_rfl) rfl rfl ⟨(blk_cell BK280.out 0).trans rfl, (blk_cell BK280.out 1).trans rfl⟩ (fun hHeld => ?_); refine with_tabW num_Check.tab7 num_Check.bits7 (fun HT_ HW_ => ?_)
       generalize wc.drew = w38 at BK280 HB hHeld ⊢
       refine pure_ (i := 0) (N := some 36) (v := ?_) (a' := ?_) #[true, false, false, false, false, false, false, false, false, false, false, false, false, false] rfl rfl (any_of HT_.out (by kernel_rfl)) (fun _ _ _ h => h) (Or.inl ⟨by rfl, ?_⟩) ?_ ?_
       rotate_left
       ·intro w'
        go_simp
        with_reducible rfl
       rotate_left
       ·simp only [Act.put, List.setIfInBounds_toArray, List.set_cons_zero, List.set_cons_succ, i64_w, i32_w]
        rfl
       refine take_ (i := 1) (N := some 37) (v := ?_) (a' := ?_) #[true, true, false, false, false, false, false, false, false, false, false, false, false, false] rfl rfl (take_ofW HT_.out HW_.out (by kernel_rfl)) (fun _ _ _ h => h) (Or.inl ⟨by rfl, ?_⟩) hHeld ?_ ?_
       rotate_left
       ·rintro w' ⟨s0, s1⟩
        go_simp
        with_reducible rfl
       rotate_left
       ·simp only [Act.put, List.setIfInBounds_toArray, List.set_cons_zero, List.set_cons_succ, i64_w, i32_w]
        rfl
       refine pure_ (i := 2) (N := some 38) (v := ?_) (a' := ?_) #[true, true, true, false, false, false, false, false, false, false, false, false, false, false] rfl rfl (any_of HT_.out (by kernel_rfl)) (fun _ _ _ h => h) (Or.inl ⟨by rfl, ?_⟩) ?_ ?_
       rotate_left
       ·intro w'
        go_simp
        with_reducible rfl
       rotate_left
       ·simp only [Act.put, List.setIfInBounds_toArray, List.set_cons_zero, List.set_cons_succ, i64_w, i32_w]
        rfl
       refine pure_ (i := 3) (N := some 39) (v := ?_) (a' := ?_) #[true, true, true, true, false, false, false, false, false, false, false, false, false, false] rfl rfl (any_of HT_.out (by kernel_rfl)) (fun _ _ _ h => h) (Or.inl ⟨by rfl, ?_⟩) ?_ ?_
       rotate_left
       ·intro w'
        go_simp
        with_reducible rfl
       rotate_left
       ·simp only [Act.put, List.setIfInBounds_toArray, List.set_cons_zero, List.set_cons_succ, i64_w, i32_w]
        rfl
       refine pure_ (i := 4) (N := some 40) (v := ?_) (a' := ?_) #[true, true, true, true, true, false, false, false, false, false, false, false, false, false] rfl rfl (any_of HT_.out (by kernel_rfl)) (fun _ _ _ h => h) (Or.inl ⟨by rfl, ?_⟩) ?_ ?_
       rotate_left
       ·intro w'
        go_simp
        with_reducible rfl
       rotate_left
       ·simp only [Act.put, List.setIfInBounds_toArray, List.set_cons_zero, List.set_cons_succ, i64_w, i32_w]
        rfl
       refine pure_ (i := 6) (N := some 42) (v := ?_) (a' := ?_) #[true, true, true, true, true, false, true, false, false, false, false, false, false, false] rfl rfl (any_of HT_.out (by kernel_rfl)) (fun _ _ _ h => h) (Or.inl ⟨by rfl, ?_⟩) ?_ ?_
       rotate_left
       ·intro w'
        go_simp
        with_reducible rfl
       rotate_left
       ·simp only [Act.put, List.setIfInBounds_toArray, List.set_cons_zero, List.set_cons_succ, i64_w, i32_w]
        rfl
       refine take_ (i := 7) (N := some 43) (v := ?_) (a' := ?_) #[true, true, true, true, true, false, true, true, false, false, false, false, false, false] rfl rfl (take_ofW HT_.out HW_.out (by kernel_rfl)) (fun _ _ _ h => h) (Or.inl ⟨by rfl, ?_⟩) hHeld ?_ ?_
       rotate_left
       ·rintro w' ⟨s0, s1⟩
        go_simp
        with_reducible rfl
       rotate_left
       ·simp only [Act.put, List.setIfInBounds_toArray, List.set_cons_zero, List.set_cons_succ, i64_w, i32_w]
        rfl
       refine one_ (i := 5) (N := some 41) #[true, true, true, true, true, true, true, true, false, false, false, false, false, false] rfl rfl (one_of HT_.out (by kernel_rfl)) (by decide) (fun K hK => ?_)
       refine goes_ Tryz.func108 (by kernel_rfl) rfl #[.string t281] (by rfl) rfl rfl zm ?_
       with_reducible refine (nat_Parse.calls kj2 t281 t285 _ A26.out).mono ?_
       rintro e w39 ⟨v286, rfl, ho0, hb⟩
       refine ⟨_, rfl, ?_⟩
       have n0_ := Aside0.mk (Kd.V_lower (Kd.V_mono (ok' := fun k_ => k_ ≠ gb280) ho0 (fun k_ hk_ => (Kd.freshB (g := gb280) (o := .cells #[.string a0_0, .string a0_1] 61 (0, 0)) (zb BK280) k_ hk_))) bs)
       have n1_ := sK BK280 hb
       have n2_ := sB hb
       clear BK280
       clear HB
       have HO287 := n0_
       have BK280 := n1_
       have HB := n2_
       clear n0_ n1_ n2_
       (try clear hb)
       (try clear hb2)
       (try clear hk)
       (try clear hi)
       (try clear ho0)
       refine hK.out _ _ ⟨(blk_cell BK280.out 0).trans rfl, (blk_cell BK280.out 1).trans rfl⟩ (fun hHeld => ?_)
       clear hK K
       refine norm_ (a' := ?_) ?_ ?_
       rotate_left
       ·show Act.put _ (some 41) _ = _
        simp only [Act.put, List.setIfInBounds_toArray, List.set_cons_zero, List.set_cons_succ, i64_w, i32_w]
        rfl
       refine one_ (i := 8) (N := some 44) #[true, true, true, true, true, true, true, true, true, false, false, false, false, false] rfl rfl (one_of HT_.out (by kernel_rfl)) (by decide) (fun K hK => ?_)
       refine goes_ Tryz.func108 (by kernel_rfl) rfl #[.string a0_1] (by rfl) rfl rfl zm ?_
       with_reducible refine (nat_Parse.calls kj2 a0_1 t288 _ A27.out).mono ?_
       rintro e w40 ⟨v289, rfl, ho0, hb⟩
       refine ⟨_, rfl, ?_⟩
       have n0_ := Aside0.mk (Kd.V_below (zV HO287) hb)
       have n1_ := Aside0.mk (Kd.V_lower (Kd.V_mono (ok' := fun k_ => k_ ≠ gb280) ho0 (fun k_ hk_ => (Kd.freshB (g := gb280) (o := .cells #[.string a0_0, .string a0_1] 61 (0, 0)) (zb BK280) k_ hk_))) bs)
       have n2_ := sK BK280 hb
       have n3_ := sB hb
       clear HO287
       clear BK280
       clear HB
       have HO287 := n0_
       have HO290 := n1_
       have BK280 := n2_
       have HB := n3_
       clear n0_ n1_ n2_ n3_
       (try clear hb)
       (try clear hb2)
       (try clear hk)
       (try clear hi)
       (try clear ho0)
       obtain ⟨Ao41, co41, eo41⟩ := Kd.V_slice HO287.out
       (first | subst eo41 | (injection eo41 with f1_ f2_ f3_; have f4_ := f1_.symm; have f5_ := f3_.symm; clear f1_ f2_ f3_; subst f4_; subst f5_))
       obtain ⟨Ao42, co42, eo42⟩ := Kd.V_slice HO290.out
       (first | subst eo42 | (injection eo42 with f1_ f2_ f3_; have f4_ := f1_.symm; have f5_ := f3_.symm; clear f1_ f2_ f3_; subst f4_; subst f5_))
       refine hK.out _ _ ⟨(blk_cell BK280.out 0).trans rfl, (blk_cell BK280.out 1).trans rfl⟩ (fun hHeld => ?_)
       clear hK K
       refine norm_ (a' := ?_) ?_ ?_
       rotate_left
       ·show Act.put _ (some 44) _ = _
        simp only [Act.put, List.setIfInBounds_toArray, List.set_cons_zero, List.set_cons_succ, i64_w, i32_w]
        rfl
       refine one_ (i := 9) (N := some 45) #[true, true, true, true, true, true, true, true, true, true, false, false, false, false] rfl rfl (one_of HT_.out (by kernel_rfl)) (by decide) (fun K hK => ?_)
       refine goes_ Tryz.func107 (by kernel_rfl) rfl #[.slice Ao41 t285.length co41, .slice Ao42 t288.length co42] (by rfl) rfl rfl zm ?_
       with_reducible refine (nat_Gcd.calls kj2 (fun k_ => k_ ≠ gb280) _ _ t285 (fun k_ => k_ ≠ gb280) _ _ t288 t291 _ ?side1 ?side2 A28.out).mono ?_
       (case side1 => exact HO287.out)
       (case side2 => exact HO290.out)
       rintro e w43 ⟨v292, rfl, ho0, hb⟩
       refine ⟨_, rfl, ?_⟩
       have n0_ := Aside0.mk (Kd.V_elder' (zV HO287) (Kd.R_base ho0) hb)
       have n1_ := Aside0.mk (Kd.V_elder' (zV HO290) (Kd.R_base ho0) hb)
       have n2_ := Aside0.mk (Kd.R_lower (Kd.R_mono (ok' := fun k_ => True) ho0 (fun _ hk_ => trivial)) bs)
       have n3_ := sK BK280 hb
       have n4_ := sB hb
       clear HO287
       clear HO290
       clear BK280
       clear HB
       have HO287 := n0_
       have HO290 := n1_
       have HO293 := n2_
       have BK280 := n3_
       have HB := n4_
       clear n0_ n1_ n2_ n3_ n4_
       (try clear hb)
       (try clear hb2)
       (try clear hk)
       (try clear hi)
       (try clear ho0)
       obtain ⟨Ao44, co44, eo44⟩ := Kd.R_slice HO293.out
       (first | subst eo44 | (injection eo44 with f1_ f2_ f3_; have f4_ := f1_.symm; have f5_ := f3_.symm; clear f1_ f2_ f3_; subst f4_; subst f5_))
       refine hK.out _ _ ⟨(blk_cell BK280.out 0).trans rfl, (blk_cell BK280.out 1).trans rfl⟩ (fun hHeld => ?_)
       clear hK K
       refine norm_ (a' := ?_) ?_ ?_
       rotate_left
       ·show Act.put _ (some 45) _ = _
        simp only [Act.put, List.setIfInBounds_toArray, List.set_cons_zero, List.set_cons_succ, i64_w, i32_w]
        rfl
       refine one_ (i := 10) (N := some 46) #[true, true, true, true, true, true, true, true, true, true, true, false, false, false] rfl rfl (one_of HT_.out (by kernel_rfl)) (by decide) (fun K hK => ?_)
       refine goes_ Tryz.func109 (by kernel_rfl) rfl #[.slice Ao44 t291.length co44] (by rfl) rfl rfl zm ?_
       with_reducible refine (nat_Nat_One.calls _ _ t291 false _ ?side1 ?side2 A29.out).mono ?_
       (case side1 => exact zC (Kd.R_reads' HO293.out).2.2)
       (case side2 => exact (Kd.R_reads' HO293.out).2.1)
       rintro e w' ⟨rfl, ⟨nd, rfl⟩⟩
       refine ⟨_, rfl, ?_⟩
       refine hK.out _ _ ⟨(blk_cell BK280.out 0).trans rfl, (blk_cell BK280.out 1).trans rfl⟩ (fun hHeld => ?_)
       clear hK K
       refine norm_ (a' := ?_) ?_ ?_
       rotate_left
       ·show Act.put _ (some 46) _ = _
        simp only [Act.put, List.setIfInBounds_toArray, List.set_cons_zero, List.set_cons_succ, i64_w, i32_w]
        rfl
       refine pure_ (i := 11) (N := some 47) (v := ?_) (a' := ?_) #[true, true, true, true, true, true, true, true, true, true, true, true, false, false] rfl rfl (any_of HT_.out (by kernel_rfl)) (fun _ _ _ h => h) (Or.inl ⟨by rfl, ?_⟩) ?_ ?_
       rotate_left
       ·intro w'
        go_simp
        with_reducible rfl
       rotate_left
       ·simp only [Act.put, List.setIfInBounds_toArray, List.set_cons_zero, List.set_cons_succ, i64_w, i32_w]
        rfl
       refine pure_ (i := 12) (N := some 48) (v := ?_) (a' := ?_) #[true, true, true, true, true, true, true, true, true, true, true, true, true, false] rfl rfl (any_of HT_.out (by kernel_rfl)) (fun _ _ _ h => h) (Or.inl ⟨by rfl, ?_⟩) ?_ ?_
       rotate_left
       ·intro w'
        go_simp
        with_reducible rfl
       rotate_left
       ·simp only [Act.put, List.setIfInBounds_toArray, List.set_cons_zero, List.set_cons_succ, i64_w, i32_w]
        rfl
       refine pure_ (i := 13) (N := some 35) (v := ?_) (a' := ?_) #[true, true, true, true, true, true, true, true, true, true, true, true, true, true] rfl rfl (any_of HT_.out (by kernel_rfl)) (fun _ _ _ h => h) (Or.inl ⟨by rfl, ?_⟩) ?_ ?_
       rotate_left
       ·intro w'
        go_simp
        with_reducible rfl
       rotate_left
       ·simp only [Act.put, List.setIfInBounds_toArray, List.set_cons_zero, List.set_cons_succ, i64_w, i32_w]
        rfl
       refine done_ (done_of HT_.out (by kernel_rfl)) ?_
       try go_wp2
       go_ret
       exact ⟨ze, bw⟩

def weftlaw1_nums.f (k : Nat)  : Option (Bool) := (num_Make.f k 6 (-4)).bind fun bt295 => (if bt295.2.2 = 0 then (if (bt295.1.toList == ([45, 51] : List UInt8) && (bt295.2.1.toList == ([50] : List UInt8))) = true then ((num_Check.f k bt295.1 bt295.2.1).bind fun t299 => (if t299 = 0 then ((num_Check.f k (⟨#[]⟩ : ByteArray) (⟨#[]⟩ : ByteArray)).bind fun t300 => (some (t300 == 3))) else (some false))) else (some false)) else (some false))
theorem weftlaw1_nums.mono : ∀ k, LeO (weftlaw1_nums.f k ) (weftlaw1_nums.f (k + 1) ) := by
 intro  k
 unfold weftlaw1_nums.f
 have m0 := num_Check.mono
 have m1 := num_Make.mono
 exact zM
set_option maxHeartbeats 8000000 in
set_option maxRecDepth 100000 in
theorem weftlaw1_nums.calls (k : Nat)  (r : Bool) (w : World) (hG : Tryz.Gl w) (h : weftlaw1_nums.f k  = some r) :
  Calls Tryz.prog 20 #[] w fun e w' => e = .returned (.bool r) ∧ Below w.heap.size w w' := by
 have hu61 := Tryz.underlying61
 have HG := Aside0.mk hG
 clear hG
 have HB := Aside0.mk (Below.refl w.heap.size w)
 have H : ((num_Make.f k 6 (-4)).bind fun bt295 => (if bt295.2.2 = 0 then (if (bt295.1.toList == ([45, 51] : List UInt8) && (bt295.2.1.toList == ([50] : List UInt8))) = true then ((num_Check.f k bt295.1 bt295.2.1).bind fun t299 => (if t299 = 0 then ((num_Check.f k (⟨#[]⟩ : ByteArray) (⟨#[]⟩ : ByteArray)).bind fun t300 => (some (t300 == 3))) else (some false))) else (some false)) else (some false))) = some r := h
 clear h
 replace H := Option.bind_eq_some_iff.mp H
 obtain ⟨⟨t295, t296, t297⟩, A10, H⟩ := H
 replace H : (if t297 = 0 then (if (t295.toList == ([45, 51] : List UInt8) && (t296.toList == ([50] : List UInt8))) = true then ((num_Check.f k t295 t296).bind fun t299 => (if t299 = 0 then ((num_Check.f k (⟨#[]⟩ : ByteArray) (⟨#[]⟩ : ByteArray)).bind fun t300 => (some (t300 == 3))) else (some false))) else (some false)) else (some false)) = some r := H
 have A1 := Aside0.mk A10
 clear A10
 by_cases c2 : t297 = 0
 ·rw [if_pos c2] at H
  have c2b0 : (t297 == 0) = true := beq_iff_eq.mpr c2
  have c2b1 : (t297 != 0) = false := bne_eq_false_iff_eq.mpr c2
  clear c2
  by_cases c3 : (t295.toList == ([45, 51] : List UInt8) && (t296.toList == ([50] : List UInt8))) = true
  ·rw [if_pos c3] at H
   have c3b0 : (t295.toList == ([45, 51] : List UInt8) && (t296.toList == ([50] : List UInt8))) = true := c3
   (try (have c3b1 : decide (t295.toList = ([45, 51] : List UInt8) && (t296.toList == ([50] : List UInt8))) = true := by simpa using c3))
   (try (have c3b2 : (t295.toList == ([45, 51] : List UInt8) && (t296.toList == ([50] : List UInt8))) = true := by simpa using c3))
   clear c3
   obtain ⟨t299, A4, H⟩ := zB H
   by_cases c5 : t299 = 0
   ·rw [if_pos c5] at H
    have c5b0 : (t299 == 0) = true := beq_iff_eq.mpr c5
    have c5b1 : (t299 != 0) = false := bne_eq_false_iff_eq.mpr c5
    clear c5
    obtain ⟨t300, A6, H⟩ := zB H
    obtain rfl := Option.some.inj H
    go_enter Tryz.func20, Tryz.ntmps20
    go_wp2_with (first | (refine zg (some 4) Tryz.func46 #[.int .i64 6, .int .i64 (-4)] ?_; (with_reducible refine (num_Make.calls k 6 (-4) t295 t296 t297 _ ?side1 A1.out).mono ?_); (case side1 => exact Tryz.Gl.below HG.out bw); rintro e w7 ⟨rfl, hb⟩; refine ⟨_, rfl, ?_⟩; replace HB := sB hb; clear hb) | ((with_reducible refine gate_dst (N := 1) rfl ?_); refine box_ev 1 #[.string (⟨#[]⟩ : ByteArray), .string (⟨#[]⟩ : ByteArray)] 61 ?_; intro gb298 hg w8 hbox hb; have BK298 := Aside0.mk (hbox); have GW298 := sG hg; have GE298 := sG hg; replace HB := sB hb; clear hb hbox hg; obtain ⟨hcz9_0, hfz9_0⟩ := zc BK298 0 (.string (⟨#[]⟩ : ByteArray)) rfl; obtain ⟨hcz9_1, hfz9_1⟩ := zc BK298 1 (.string (⟨#[]⟩ : ByteArray)) rfl) | (go_at_call 56; (with_reducible refine (num_Check.calls k t295 t296 t299 _ A4.out).mono ?_); rintro e w10 ⟨rfl, hb⟩; replace BK298 := sP (.cells #[.string t295, .string t296] 61 (0, 0)) BK298 hb; replace HB := sB hb; clear hb) | (go_at_call 56; (with_reducible refine (num_Check.calls k (⟨#[]⟩ : ByteArray) (⟨#[]⟩ : ByteArray) t300 _ A6.out).mono ?_); rintro e w11 ⟨rfl, hb⟩; replace BK298 := sK BK298 hb; replace HB := sB hb; clear hb))
    go_ret
    exact ⟨ze, bw⟩
   ·rw [if_neg c5] at H
    have c5b0 : (t299 == 0) = false := beq_eq_false_iff_ne.mpr c5
    have c5b1 : (t299 != 0) = true := bne_iff_ne.mpr c5
    obtain rfl := Option.some.inj H
    go_enter Tryz.func20, Tryz.ntmps20
    go_wp2_with (first | (refine zg (some 4) Tryz.func46 #[.int .i64 6, .int .i64 (-4)] ?_; (with_reducible refine (num_Make.calls k 6 (-4) t295 t296 t297 _ ?side1 A1.out).mono ?_); (case side1 => exact Tryz.Gl.below HG.out bw); rintro e w12 ⟨rfl, hb⟩; refine ⟨_, rfl, ?_⟩; replace HB := sB hb; clear hb) | ((with_reducible refine gate_dst (N := 1) rfl ?_); refine box_ev 1 #[.string (⟨#[]⟩ : ByteArray), .string (⟨#[]⟩ : ByteArray)] 61 ?_; intro gb298 hg w13 hbox hb; have BK298 := Aside0.mk (hbox); have GW298 := sG hg; have GE298 := sG hg; replace HB := sB hb; clear hb hbox hg; obtain ⟨hcz14_0, hfz14_0⟩ := zc BK298 0 (.string (⟨#[]⟩ : ByteArray)) rfl; obtain ⟨hcz14_1, hfz14_1⟩ := zc BK298 1 (.string (⟨#[]⟩ : ByteArray)) rfl) | (go_at_call 56; (with_reducible refine (num_Check.calls k t295 t296 t299 _ A4.out).mono ?_); rintro e w15 ⟨rfl, hb⟩; replace BK298 := sP (.cells #[.string t295, .string t296] 61 (0, 0)) BK298 hb; replace HB := sB hb; clear hb))
    go_ret
    exact ⟨ze, bw⟩
  ·rw [if_neg c3] at H
   have c3b0 : (t295.toList == ([45, 51] : List UInt8) && (t296.toList == ([50] : List UInt8))) = false := by simpa using c3
   (try (have c3b1 : decide (t295.toList = ([45, 51] : List UInt8) && (t296.toList == ([50] : List UInt8))) = false := by simpa using c3))
   (try (have c3b2 : (t295.toList == ([45, 51] : List UInt8) && (t296.toList == ([50] : List UInt8))) = false := by simpa using c3))
   (try (have c3b3 : ¬ (t295.toList = ([45, 51] : List UInt8) && (t296.toList == ([50] : List UInt8))) := by simpa using c3))
   clear c3
   obtain rfl := Option.some.inj H
   go_enter Tryz.func20, Tryz.ntmps20
   go_wp2_with (first | (refine zg (some 4) Tryz.func46 #[.int .i64 6, .int .i64 (-4)] ?_; (with_reducible refine (num_Make.calls k 6 (-4) t295 t296 t297 _ ?side1 A1.out).mono ?_); (case side1 => exact Tryz.Gl.below HG.out bw); rintro e w16 ⟨rfl, hb⟩; refine ⟨_, rfl, ?_⟩; replace HB := sB hb; clear hb) | ((with_reducible refine gate_dst (N := 1) rfl ?_); refine box_ev 1 #[.string (⟨#[]⟩ : ByteArray), .string (⟨#[]⟩ : ByteArray)] 61 ?_; intro gb298 hg w17 hbox hb; have BK298 := Aside0.mk (hbox); have GW298 := sG hg; have GE298 := sG hg; replace HB := sB hb; clear hb hbox hg; obtain ⟨hcz18_0, hfz18_0⟩ := zc BK298 0 (.string (⟨#[]⟩ : ByteArray)) rfl; obtain ⟨hcz18_1, hfz18_1⟩ := zc BK298 1 (.string (⟨#[]⟩ : ByteArray)) rfl))
   go_ret
   exact ⟨ze, bw⟩
 ·rw [if_neg c2] at H
  have c2b0 : (t297 == 0) = false := beq_eq_false_iff_ne.mpr c2
  have c2b1 : (t297 != 0) = true := bne_iff_ne.mpr c2
  obtain rfl := Option.some.inj H
  go_enter Tryz.func20, Tryz.ntmps20
  go_wp2_with (first | (refine zg (some 4) Tryz.func46 #[.int .i64 6, .int .i64 (-4)] ?_; (with_reducible refine (num_Make.calls k 6 (-4) t295 t296 t297 _ ?side1 A1.out).mono ?_); (case side1 => exact Tryz.Gl.below HG.out bw); rintro e w19 ⟨rfl, hb⟩; refine ⟨_, rfl, ?_⟩; replace HB := sB hb; clear hb) | ((with_reducible refine gate_dst (N := 1) rfl ?_); refine box_ev 1 #[.string (⟨#[]⟩ : ByteArray), .string (⟨#[]⟩ : ByteArray)] 61 ?_; intro gb298 hg w20 hbox hb; have BK298 := Aside0.mk (hbox); have GW298 := sG hg; have GE298 := sG hg; replace HB := sB hb; clear hb hbox hg; obtain ⟨hcz21_0, hfz21_0⟩ := zc BK298 0 (.string (⟨#[]⟩ : ByteArray)) rfl; obtain ⟨hcz21_1, hfz21_1⟩ := zc BK298 1 (.string (⟨#[]⟩ : ByteArray)) rfl))
  go_ret
  exact ⟨ze, bw⟩

def weftmake_Below.f (a0 : Int) (a1 : Int) : Option (Int) := if a1 < 1 then (some 0) else (if a1 = 0 then (none) else (if (Int.tmod a0 a1) < 0 then (some (wrap64 ((Int.tmod a0 a1) + a1))) else (some (Int.tmod a0 a1))))
set_option maxHeartbeats 8000000 in
set_option maxRecDepth 100000 in
theorem weftmake_Below.calls (a0 : Int) (a1 : Int) (r : Int) (w : World) (h : weftmake_Below.f a0 a1 = some r) :
  Calls Tryz.prog 91 #[.int .i64 a0, .int .i64 a1] w fun e w' => e = .returned (.int .i64 r) ∧ Drawn0 w w' := by
 have H : (if a1 < 1 then (some 0) else (if a1 = 0 then (none) else (if (Int.tmod a0 a1) < 0 then (some (wrap64 ((Int.tmod a0 a1) + a1))) else (some (Int.tmod a0 a1))))) = some r := h
 clear h
 by_cases c3 : a1 < 1
 ·rw [if_pos c3] at H
  have c3b0 : decide (a1 < 1) = true := decide_eq_true c3
  clear c3
  obtain rfl := Option.some.inj H
  go_enter Tryz.func91, Tryz.ntmps91
  go_wp2
  go_ret
  exact ⟨zs, by repeat (first | exact Drawn0.refl _ | apply Drawn0.step)⟩
 ·rw [if_neg c3] at H
  have c3b0 : decide (a1 < 1) = false := decide_eq_false c3
  clear c3
  by_cases c4 : a1 = 0
  ·rw [if_pos c4] at H
   cases H
  ·rw [if_neg c4] at H
   have c4b0 : (a1 == 0) = false := beq_eq_false_iff_ne.mpr c4
   have c4b1 : (a1 != 0) = true := bne_iff_ne.mpr c4
   by_cases c5 : (Int.tmod a0 a1) < 0
   ·rw [if_pos c5] at H
    have c5b0 : decide ((Int.tmod a0 a1) < 0) = true := decide_eq_true c5
    clear c5
    obtain rfl := Option.some.inj H
    go_enter Tryz.func91, Tryz.ntmps91
    go_wp2
    go_ret
    exact ⟨zs, by repeat (first | exact Drawn0.refl _ | apply Drawn0.step)⟩
   ·rw [if_neg c5] at H
    have c5b0 : decide ((Int.tmod a0 a1) < 0) = false := decide_eq_false c5
    clear c5
    obtain rfl := Option.some.inj H
    go_enter Tryz.func91, Tryz.ntmps91
    go_wp2
    go_ret
    exact ⟨zs, by repeat (first | exact Drawn0.refl _ | apply Drawn0.step)⟩

end Go.Proofs.YtaffkbemjbfajaaGreatDoor.PNumForms
