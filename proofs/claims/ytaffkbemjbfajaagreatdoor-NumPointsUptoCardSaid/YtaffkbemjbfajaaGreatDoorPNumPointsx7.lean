-- By a program of this session (a changed copy of the kit's printer): functions of the seat as plain Lean functions, each with its proof over the machine.
import Derived.Test.YtaffkbemjbfajaaGreatDoorPNumPointsx0
namespace Go.Proofs.YtaffkbemjbfajaaGreatDoor.PNumPoints
open Go.RowKit Go.Proofs.YtaffkbemjbfajaaGreatDoorW.PrintWords Go.Proofs.YtaffkbemjbfajaaGreatDoorW.PrintLast Go.Proofs.YtaffkbemjbfajaaGreatDoorW.PrintMore
attribute [local go_sem] max2_int min2_int max_two min_two max_three min_three max_four min_four   -- for this text's walks alone
set_option linter.unusedVariables false
set_option linter.unusedSimpArgs false

/-! ### slices_ContainsFunc_int_int_at_num_Point_1: function 40 -/
section
def slices_ContainsFunc_int_int_at_num_Point_1.p (x : Int) : Bool := decide (x < 0) || decide (x > 2147483647)
def slices_ContainsFunc_int_int_at_num_Point_1.f (l0 : List Int) : Option Bool := if l0.length < 35184372088832 then some (l0.any slices_ContainsFunc_int_int_at_num_Point_1.p) else none
theorem slices_ContainsFunc_int_int_at_num_Point_1.pred (x : Int) (w : World) : Calls Tryz.prog 94 #[.int .i64 x] w fun e w' => e = .returned (.bool (slices_ContainsFunc_int_int_at_num_Point_1.p x)) ∧ Drawn0 w w' := by
  unfold slices_ContainsFunc_int_int_at_num_Point_1.p
  by_cases c1 : x < 0
  · have c1b0 : decide (x < 0) = true := decide_eq_true c1
    go_enter Tryz.func94, Tryz.ntmps94
    go_wp2
    go_ret
    exact ⟨by first | rfl | (simp; done) | (simp [*]; done), by repeat (first | exact Drawn0.refl _ | apply Drawn0.step)⟩
  · have c1b0 : decide (x < 0) = false := decide_eq_false c1
    go_enter Tryz.func94, Tryz.ntmps94
    go_wp2
    go_ret
    exact ⟨by first | rfl | (simp; done) | (simp [*]; done), by repeat (first | exact Drawn0.refl _ | apply Drawn0.step)⟩
set_option maxHeartbeats 8000000 in
set_option maxRecDepth 100000 in
theorem slices_ContainsFunc_int_int_at_num_Point_1.idx (A0 : Option Addr) (c0 : Nat) (l0 : List Int) (w : World) (hr0 : Kd.C (Kd.int .i64) w A0 l0.length l0) (hc0 : l0.length ≤ c0) (hl : l0.length < 35184372088832) :
    Calls Tryz.prog 93 #[.slice A0 l0.length c0, .func (.func 94) #[] #[]] w fun e w' => (∃ i : Int, e = .returned (.int .i64 i) ∧ decide (0 ≤ i) = l0.any slices_ContainsFunc_int_int_at_num_Point_1.p) ∧ Drawn0 w w' := by
  have HR0 := Aside0.mk hr0
  have HC0 := Aside0.mk hc0
  have HL0 := Aside0.mk hl
  clear hr0 hc0 hl
  go_enter Tryz.func93, Tryz.ntmps93
  go_wp2
  go_loopg [8] l0.length (fun kq v8 w' => ∃ i : Nat, v8 = .int .i64 (i : Int) ∧ Aside0 (i ≤ l0.length) ∧ Aside0 (l0.length - i ≤ kq) ∧ Aside0 (∀ x ∈ l0.take i, slices_ContainsFunc_int_int_at_num_Point_1.p x = false) ∧ Drawn0 w w')
  case atStart => exact ⟨0, rfl, ⟨Nat.zero_le _⟩, ⟨by omega⟩, ⟨fun x hx => by cases hx⟩, Drawn0.refl _⟩
  case round =>
    obtain ⟨i, rfl, HI, HQ, HP, ⟨m1, rfl⟩⟩ := hrel
    by_cases c4 : (i : Int) < (l0.length : Int)
    · have c4b0 : decide ((i : Int) < (l0.length : Int)) = true := decide_eq_true c4
      have hi : i < l0.length := by omega
      have p287 : 0 ≤ (i : Int) := by omega
      obtain ⟨ad287, e287, hx287_0⟩ := Kd.at_int HR0.out (i : Int) p287 c4
      cases e287
      have hx287_1 : w.cell? (ad287.add i) = some (.int .i64 (rd l0 (i : Int))) := by rw [Int.toNat_natCast] at hx287_0; exact hx287_0
      have hrd : l0[i]? = some (rd l0 (i : Int)) := by show l0[i]? = some (l0.getD (i : Int).toNat 0); rw [Int.toNat_natCast, List.getD_eq_getElem?_getD, List.getElem?_eq_getElem hi, Option.getD_some]
      replace p287 := eq_true p287
      have q287 := eq_true c4
      have HI' := Aside0.mk hi
      have HRD := Aside0.mk hrd
      have hcall := fun (W : World) => slices_ContainsFunc_int_int_at_num_Point_1.pred (rd l0 (i : Int)) W
      clear hrd hi
      cases hq : slices_ContainsFunc_int_int_at_num_Point_1.p (rd l0 (i : Int)) with
      | true =>
        rw [hq] at hcall
        go_wp2_with (refine (hcall _).mono ?_; rintro e w' ⟨rfl, ⟨nd, rfl⟩⟩)
        go_ret
        refine ⟨⟨_, rfl, ?_⟩, by repeat (first | exact Drawn0.refl _ | apply Drawn0.step)⟩
        have h1 : l0.any slices_ContainsFunc_int_int_at_num_Point_1.p = true := List.any_eq_true.mpr ⟨_, List.mem_of_getElem? HRD.out, hq⟩
        rw [h1]; simp
      | false =>
        rw [hq] at hcall
        go_wp2_with (refine (hcall _).mono ?_; rintro e w' ⟨rfl, ⟨nd, rfl⟩⟩)
        go_roundg (l0.length - (i + 1))
        case measure => have := HQ.out; have := HI'.out; omega
        case rel =>
          refine ⟨i + 1, ?_, ⟨by have := HI'.out; omega⟩, ⟨by omega⟩, ⟨?_⟩, by repeat (first | exact Drawn0.refl _ | apply Drawn0.step)⟩
          · have := HI'.out; have := HL0.out
            congr 1
            unfold wrap64; omega
          · intro x hx
            rw [List.take_add_one, HRD.out] at hx
            rcases List.mem_append.mp hx with hx | hx
            · exact HP.out x hx
            · have hx' : x = rd l0 (i : Int) := by simpa using hx
              rw [hx']; exact hq
    · have c4b0 : decide ((i : Int) < (l0.length : Int)) = false := decide_eq_false c4
      go_wp2
      go_ret
      refine ⟨⟨_, rfl, ?_⟩, by repeat (first | exact Drawn0.refl _ | apply Drawn0.step)⟩
      have hi : i = l0.length := by have := HI.out; omega
      have hp := HP.out
      rw [hi, List.take_length] at hp
      have h1 : l0.any slices_ContainsFunc_int_int_at_num_Point_1.p = false := List.any_eq_false.mpr fun x hx => by rw [hp x hx]; simp
      rw [h1]; simp
set_option maxHeartbeats 8000000 in
set_option maxRecDepth 100000 in
theorem slices_ContainsFunc_int_int_at_num_Point_1.calls (A0 : Option Addr) (c0 : Nat) (l0 : List Int) (r : Bool) (w : World) (hr0 : Kd.C (Kd.int .i64) w A0 l0.length l0) (hc0 : l0.length ≤ c0) (h : slices_ContainsFunc_int_int_at_num_Point_1.f l0 = some r) :
    Calls Tryz.prog 40 #[.slice A0 l0.length c0, .func (.func 94) #[] #[]] w fun e w' => e = .returned (.bool r) ∧ Drawn0 w w' := by
  unfold slices_ContainsFunc_int_int_at_num_Point_1.f at h
  by_cases c2 : l0.length < 35184372088832
  case neg => rw [if_neg c2] at h; cases h
  rw [if_pos c2] at h
  obtain rfl := Option.some.inj h
  clear h
  have hcall := fun (W : World) (hr : Kd.C (Kd.int .i64) W A0 l0.length l0) => slices_ContainsFunc_int_int_at_num_Point_1.idx A0 c0 l0 W hr hc0 c2
  have HR0 := Aside0.mk hr0
  clear hr0 hc0 c2
  go_enter Tryz.func40, Tryz.ntmps40
  go_wp2_with (go_at_call 93; refine (hcall _ ?hr).mono ?_; (case hr => first | exact HR0.out | exact (by (with_reducible repeat (first | apply Kd.C_alloc | apply Kd.C_drewN | apply Kd.C_drew)); exact HR0.out)); rintro e w' ⟨⟨i, rfl, hi⟩, ⟨nd, rfl⟩⟩)
  go_ret
  exact ⟨by rw [← hi]; rfl, by repeat (first | exact Drawn0.refl _ | apply Drawn0.step)⟩

end
/-! ### num_Point: function 42 -/
mutual
def num_Point.l0 : Nat → List Int → Int → Int → List Int → Int → Int → Option (Int × Int × Int)
  | 0, _, _, _, _, _, _ => none
  | k + 1, x0, x1, x7, x22, x23, x24 => if x24 < x23 then (if 0 ≤ x24 then (if x24 < (x22.length : Int) then (num_Point.l0 k x0 x1 (wrap64 (x7 + (rd x22 x24))) x22 x23 (wrap64 (x24 + 1))) else (none)) else (none)) else (num_Point.l1 k x0 x1 0 (wrap64 ((x0.length : Int) - 1)) x7 0 (x0.length : Int) 0)
def num_Point.l1 : Nat → List Int → Int → Int → Int → Int → Int → Int → Int → Option (Int × Int × Int)
  | 0, _, _, _, _, _, _, _, _ => none
  | k + 1, x0, x1, x4, x5, x7, x10, x36, x37 => if x37 < x36 then (num_Point.l2 k x0 x1 x4 x5 x7 x10 x37 x36 x37) else (some (x4, x5, 0))
def num_Point.j3 : Nat → List Int → Int → Int → Int → Int → Int → Int → Int → Int → Option (Int × Int × Int)
  | 0, _, _, _, _, _, _, _, _, _ => none
  | k + 1, x0, x1, x4, x5, x7, x10, x11, x36, x37 => if x7 > x1 then (some (x4, x5, 0)) else (if (wrap64 (x10 - x11)) < (wrap64 ((wrap64 (x5 - x4)) + 1)) then (if 0 ≤ x11 then (if x11 < (x0.length : Int) then (num_Point.l1 k x0 x1 x11 (wrap64 (x10 - 1)) (wrap64 (x7 + (rd x0 x11))) x10 x36 (wrap64 (x37 + 1))) else (none)) else (none)) else (if 0 ≤ x11 then (if x11 < (x0.length : Int) then (num_Point.l1 k x0 x1 x4 x5 (wrap64 (x7 + (rd x0 x11))) x10 x36 (wrap64 (x37 + 1))) else (none)) else (none)))
def num_Point.l2 : Nat → List Int → Int → Int → Int → Int → Int → Int → Int → Int → Option (Int × Int × Int)
  | 0, _, _, _, _, _, _, _, _, _ => none
  | k + 1, x0, x1, x4, x5, x7, x10, x11, x36, x37 => if x10 < (x0.length : Int) then (if x10 ≤ x11 then (if 0 ≤ x10 then (num_Point.l2 k x0 x1 x4 x5 (wrap64 (x7 - (rd x0 x10))) (wrap64 (x10 + 1)) x11 x36 x37) else (none)) else (if x7 > x1 then (if 0 ≤ x10 then (num_Point.l2 k x0 x1 x4 x5 (wrap64 (x7 - (rd x0 x10))) (wrap64 (x10 + 1)) x11 x36 x37) else (none)) else (num_Point.j3 k x0 x1 x4 x5 x7 x10 x11 x36 x37))) else (num_Point.j3 k x0 x1 x4 x5 x7 x10 x11 x36 x37)
end
def num_Point.f (k : Nat) (l0 : List Int) (a1 : Int) : Option (Int × Int × Int) := if (l0.length : Int) = 0 then (some (0, 0, 11)) else ((slices_ContainsFunc_int_int_at_num_Point_1.f l0).bind fun t286 => (if t286 = true then (some (0, 0, 9)) else (if a1 < 0 then (some (0, 0, 1)) else (num_Point.l0 k l0 a1 0 l0 (l0.length : Int) 0))))
theorem num_Point.mono_l : ∀ k, (∀ y0 y1 y2 y3 y4 y5, LeO (num_Point.l0 k y0 y1 y2 y3 y4 y5) (num_Point.l0 (k + 1) y0 y1 y2 y3 y4 y5)) ∧ (∀ y0 y1 y2 y3 y4 y5 y6 y7, LeO (num_Point.l1 k y0 y1 y2 y3 y4 y5 y6 y7) (num_Point.l1 (k + 1) y0 y1 y2 y3 y4 y5 y6 y7)) ∧ (∀ y0 y1 y2 y3 y4 y5 y6 y7 y8, LeO (num_Point.j3 k y0 y1 y2 y3 y4 y5 y6 y7 y8) (num_Point.j3 (k + 1) y0 y1 y2 y3 y4 y5 y6 y7 y8)) ∧ (∀ y0 y1 y2 y3 y4 y5 y6 y7 y8, LeO (num_Point.l2 k y0 y1 y2 y3 y4 y5 y6 y7 y8) (num_Point.l2 (k + 1) y0 y1 y2 y3 y4 y5 y6 y7 y8))
  | 0 => ⟨fun _ _ _ _ _ _ r h => by simp [num_Point.l0] at h, fun _ _ _ _ _ _ _ _ r h => by simp [num_Point.l1] at h, fun _ _ _ _ _ _ _ _ _ r h => by simp [num_Point.j3] at h, fun _ _ _ _ _ _ _ _ _ r h => by simp [num_Point.l2] at h⟩
  | k + 1 => by
    obtain ⟨ih0, ih1, ih2, ih3⟩ := num_Point.mono_l k
    refine ⟨?_, ?_, ?_, ?_⟩
    · intro y0 y1 y2 y3 y4 y5
      unfold num_Point.l0
      repeat' first
      | (with_reducible exact ih0 _ _ _ _ _ _)
      | (with_reducible exact ih1 _ _ _ _ _ _ _ _)
      | (with_reducible exact ih2 _ _ _ _ _ _ _ _ _)
      | (with_reducible exact ih3 _ _ _ _ _ _ _ _ _)
      | (with_reducible exact LeO.refl _)
      | (with_reducible exact LeO.none _)
      | (with_reducible refine LeO.ite ?_ ?_)
      | (with_reducible refine LeO.bind ?_ (fun _ => ?_))
      | exact ih0 _ _ _ _ _ _
      | exact ih1 _ _ _ _ _ _ _ _
      | exact ih2 _ _ _ _ _ _ _ _ _
      | exact ih3 _ _ _ _ _ _ _ _ _
      | exact LeO.none _
      | refine LeO.ite ?_ ?_
      | refine LeO.bind ?_ (fun _ => ?_)
    · intro y0 y1 y2 y3 y4 y5 y6 y7
      unfold num_Point.l1
      repeat' first
      | (with_reducible exact ih0 _ _ _ _ _ _)
      | (with_reducible exact ih1 _ _ _ _ _ _ _ _)
      | (with_reducible exact ih2 _ _ _ _ _ _ _ _ _)
      | (with_reducible exact ih3 _ _ _ _ _ _ _ _ _)
      | (with_reducible exact LeO.refl _)
      | (with_reducible exact LeO.none _)
      | (with_reducible refine LeO.ite ?_ ?_)
      | (with_reducible refine LeO.bind ?_ (fun _ => ?_))
      | exact ih0 _ _ _ _ _ _
      | exact ih1 _ _ _ _ _ _ _ _
      | exact ih2 _ _ _ _ _ _ _ _ _
      | exact ih3 _ _ _ _ _ _ _ _ _
      | exact LeO.none _
      | refine LeO.ite ?_ ?_
      | refine LeO.bind ?_ (fun _ => ?_)
    · intro y0 y1 y2 y3 y4 y5 y6 y7 y8
      unfold num_Point.j3
      repeat' first
      | (with_reducible exact ih0 _ _ _ _ _ _)
      | (with_reducible exact ih1 _ _ _ _ _ _ _ _)
      | (with_reducible exact ih2 _ _ _ _ _ _ _ _ _)
      | (with_reducible exact ih3 _ _ _ _ _ _ _ _ _)
      | (with_reducible exact LeO.refl _)
      | (with_reducible exact LeO.none _)
      | (with_reducible refine LeO.ite ?_ ?_)
      | (with_reducible refine LeO.bind ?_ (fun _ => ?_))
      | exact ih0 _ _ _ _ _ _
      | exact ih1 _ _ _ _ _ _ _ _
      | exact ih2 _ _ _ _ _ _ _ _ _
      | exact ih3 _ _ _ _ _ _ _ _ _
      | exact LeO.none _
      | refine LeO.ite ?_ ?_
      | refine LeO.bind ?_ (fun _ => ?_)
    · intro y0 y1 y2 y3 y4 y5 y6 y7 y8
      unfold num_Point.l2
      repeat' first
      | (with_reducible exact ih0 _ _ _ _ _ _)
      | (with_reducible exact ih1 _ _ _ _ _ _ _ _)
      | (with_reducible exact ih2 _ _ _ _ _ _ _ _ _)
      | (with_reducible exact ih3 _ _ _ _ _ _ _ _ _)
      | (with_reducible exact LeO.refl _)
      | (with_reducible exact LeO.none _)
      | (with_reducible refine LeO.ite ?_ ?_)
      | (with_reducible refine LeO.bind ?_ (fun _ => ?_))
      | exact ih0 _ _ _ _ _ _
      | exact ih1 _ _ _ _ _ _ _ _
      | exact ih2 _ _ _ _ _ _ _ _ _
      | exact ih3 _ _ _ _ _ _ _ _ _
      | exact LeO.none _
      | refine LeO.ite ?_ ?_
      | refine LeO.bind ?_ (fun _ => ?_)
theorem num_Point.mono : ∀ a0 a1 k, LeO (num_Point.f k a0 a1) (num_Point.f (k + 1) a0 a1) := by
  intro a0 a1 k
  obtain ⟨ih0, ih1, ih2, ih3⟩ := num_Point.mono_l k
  unfold num_Point.f
  repeat' first
      | (with_reducible exact ih0 _ _ _ _ _ _)
      | (with_reducible exact ih1 _ _ _ _ _ _ _ _)
      | (with_reducible exact ih2 _ _ _ _ _ _ _ _ _)
      | (with_reducible exact ih3 _ _ _ _ _ _ _ _ _)
      | (with_reducible exact LeO.refl _)
      | (with_reducible exact LeO.none _)
      | (with_reducible refine LeO.ite ?_ ?_)
      | (with_reducible refine LeO.bind ?_ (fun _ => ?_))
      | exact ih0 _ _ _ _ _ _
      | exact ih1 _ _ _ _ _ _ _ _
      | exact ih2 _ _ _ _ _ _ _ _ _
      | exact ih3 _ _ _ _ _ _ _ _ _
      | exact LeO.none _
      | refine LeO.ite ?_ ?_
      | refine LeO.bind ?_ (fun _ => ?_)
set_option maxHeartbeats 8000000 in
set_option maxRecDepth 100000 in
theorem num_Point.calls (k : Nat) (A0 : Option Addr) (c0 : Nat) (l0 : List Int) (a1 : Int) (r1 : Int) (r2 : Int) (r3 : Int) (w : World) (hr0 : Kd.C (Kd.int .i64) w A0 l0.length l0) (hc0 : l0.length ≤ c0) (h : num_Point.f k l0 a1 = some (r1, r2, r3)) :
    Calls Tryz.prog 42 #[.slice A0 l0.length c0, .int .i64 a1] w fun e w' => e = .returned (.tuple #[.int .i64 r1, .int .i64 r2, .int .i64 r3]) ∧ Drawn0 w w' := by
  have HR0 := Aside0.mk hr0
  have HC0 := Aside0.mk hc0
  clear hr0 hc0
  have H : (if (l0.length : Int) = 0 then (some (0, 0, 11)) else ((slices_ContainsFunc_int_int_at_num_Point_1.f l0).bind fun t286 => (if t286 = true then (some (0, 0, 9)) else (if a1 < 0 then (some (0, 0, 1)) else (num_Point.l0 k l0 a1 0 l0 (l0.length : Int) 0))))) = some (r1, r2, r3) := h
  clear h
  by_cases c3 : (l0.length : Int) = 0
  · rw [if_pos c3] at H
    have c3b0 : ((l0.length : Int) == 0) = true := beq_iff_eq.mpr c3
    have c3b1 : ((l0.length : Int) != 0) = false := bne_eq_false_iff_eq.mpr c3
    clear c3
    simp only [Option.some.injEq, Prod.mk.injEq] at H
    obtain ⟨rfl, rfl, rfl⟩ := H
    go_enter Tryz.func42, Tryz.ntmps42
    go_wp2
    go_ret3
    exact ⟨by first | rfl | (simp; done) | (simp [*]; done), by repeat (first | exact Drawn0.refl _ | apply Drawn0.step)⟩
  · rw [if_neg c3] at H
    have c3b0 : ((l0.length : Int) == 0) = false := beq_eq_false_iff_ne.mpr c3
    have c3b1 : ((l0.length : Int) != 0) = true := bne_iff_ne.mpr c3
    have c3b2 : ¬ (l0 = []) := fun h_ => c3 (by rw [h_]; rfl)
    replace H := Option.bind_eq_some_iff.mp H
    obtain ⟨t286, A40, H⟩ := H
    replace H : (if t286 = true then (some (0, 0, 9)) else (if a1 < 0 then (some (0, 0, 1)) else (num_Point.l0 k l0 a1 0 l0 (l0.length : Int) 0))) = some (r1, r2, r3) := H
    have A4 := Aside0.mk A40
    clear A40
    by_cases c5 : t286 = true
    · subst c5
      have H1 : (some (0, 0, 9)) = some (r1, r2, r3) := by rw [if_pos rfl] at H; exact H
      clear H
      have H := H1
      clear H1
      simp only [Option.some.injEq, Prod.mk.injEq] at H
      obtain ⟨rfl, rfl, rfl⟩ := H
      go_enter Tryz.func42, Tryz.ntmps42
      go_wp2_with (first | ((with_reducible refine gate_callee (f := 40) rfl ?_); refine goesL_ (some 18) rfl rfl Tryz.func40 (by kernel_rfl) rfl #[.slice A0 l0.length c0, .func (.func 94) #[] #[]] rfl (by (try simp only [List.map_toArray, List.map_cons, List.map_nil]); first | done | rfl | (simp only [List.length_drop, List.length_take]; rfl)) ?_; (with_reducible refine (slices_ContainsFunc_int_int_at_num_Point_1.calls _ _ l0 true _ ?side1 ?side2 A4.out).mono ?_); (case side1 => repeat (first | exact HR0.out | (with_reducible refine Kd.C_alloc ?_ _) | (with_reducible refine Kd.C_drewN ?_ _) | (with_reducible refine Kd.C_drew ?_))); (case side2 => exact HC0.out); rintro e w' ⟨rfl, ⟨nd, rfl⟩⟩; refine ⟨_, rfl, ?_⟩))
      go_ret3
      exact ⟨by first | rfl | (simp; done) | (simp [*]; done), by repeat (first | exact Drawn0.refl _ | apply Drawn0.step)⟩
    · replace c5 := Bool.eq_false_iff.mpr c5
      subst c5
      have H1 : (if a1 < 0 then (some (0, 0, 1)) else (num_Point.l0 k l0 a1 0 l0 (l0.length : Int) 0)) = some (r1, r2, r3) := by rw [if_neg (show ¬ (false = true) by decide)] at H; exact H
      clear H
      have H := H1
      clear H1
      by_cases c6 : a1 < 0
      · rw [if_pos c6] at H
        have c6b0 : decide (a1 < 0) = true := decide_eq_true c6
        clear c6
        simp only [Option.some.injEq, Prod.mk.injEq] at H
        obtain ⟨rfl, rfl, rfl⟩ := H
        go_enter Tryz.func42, Tryz.ntmps42
        go_wp2_with (first | ((with_reducible refine gate_callee (f := 40) rfl ?_); refine goesL_ (some 18) rfl rfl Tryz.func40 (by kernel_rfl) rfl #[.slice A0 l0.length c0, .func (.func 94) #[] #[]] rfl (by (try simp only [List.map_toArray, List.map_cons, List.map_nil]); first | done | rfl | (simp only [List.length_drop, List.length_take]; rfl)) ?_; (with_reducible refine (slices_ContainsFunc_int_int_at_num_Point_1.calls _ _ l0 false _ ?side1 ?side2 A4.out).mono ?_); (case side1 => repeat (first | exact HR0.out | (with_reducible refine Kd.C_alloc ?_ _) | (with_reducible refine Kd.C_drewN ?_ _) | (with_reducible refine Kd.C_drew ?_))); (case side2 => exact HC0.out); rintro e w' ⟨rfl, ⟨nd, rfl⟩⟩; refine ⟨_, rfl, ?_⟩))
        go_ret3
        exact ⟨by first | rfl | (simp; done) | (simp [*]; done), by repeat (first | exact Drawn0.refl _ | apply Drawn0.step)⟩
      · rw [if_neg c6] at H
        have c6b0 : decide (a1 < 0) = false := decide_eq_false c6
        clear c6
        have H' := Aside0.mk H
        clear H
        go_enter Tryz.func42, Tryz.ntmps42
        go_wp2_with (first | ((with_reducible refine gate_callee (f := 40) rfl ?_); refine goesL_ (some 18) rfl rfl Tryz.func40 (by kernel_rfl) rfl #[.slice A0 l0.length c0, .func (.func 94) #[] #[]] rfl (by (try simp only [List.map_toArray, List.map_cons, List.map_nil]); first | done | rfl | (simp only [List.length_drop, List.length_take]; rfl)) ?_; (with_reducible refine (slices_ContainsFunc_int_int_at_num_Point_1.calls _ _ l0 false _ ?side1 ?side2 A4.out).mono ?_); (case side1 => repeat (first | exact HR0.out | (with_reducible refine Kd.C_alloc ?_ _) | (with_reducible refine Kd.C_drewN ?_ _) | (with_reducible refine Kd.C_drew ?_))); (case side2 => exact HC0.out); rintro e w' ⟨rfl, ⟨nd, rfl⟩⟩; refine ⟨_, rfl, ?_⟩))
        go_loopg [7, 24] k (fun kq v7 v24 w' => ∃ (x7_1 : Int) (x24_1 : Int), v7 = .int .i64 x7_1 ∧ v24 = .int .i64 x24_1 ∧ Aside0 (num_Point.l0 kq l0 a1 x7_1 l0 (l0.length : Int) x24_1 = some (r1, r2, r3)) ∧ Aside0 (kq ≤ k) ∧ Drawn0 w w')
        case atStart => exact ⟨(0), (0), (by first | rfl | (simp; done) | (simp [*]; done)), (by first | rfl | (simp; done) | (simp [*]; done)), H', ⟨Nat.le_refl _⟩, by repeat (first | exact Drawn0.refl _ | apply Drawn0.step)⟩
        case round =>
          clear H'
          try clear p2
          try clear c3
          try clear c3b0
          try clear c3b1
          try clear c3b2
          try clear c4
          try clear c5
          try clear c6
          try clear c6b0
          obtain ⟨x7_1, x24_1, rfl, rfl, HA, HK1, ⟨m1, rfl⟩⟩ := hrel
          cases gk with
          | zero => exact absurd HA.out (by simp [num_Point.l0])
          | succ k1 =>
            have H := HA.out
            clear HA
            simp only [num_Point.l0] at H
            by_cases c7 : x24_1 < (l0.length : Int)
            · rw [if_pos c7] at H
              have c7b0 : decide (x24_1 < (l0.length : Int)) = true := decide_eq_true c7
              clear c7
              by_cases c8 : 0 ≤ x24_1
              · rw [if_pos c8] at H
                have c8b0 : decide (0 ≤ x24_1) = true := decide_eq_true c8
                clear c8
                by_cases c9 : x24_1 < (l0.length : Int)
                · rw [if_pos c9] at H
                  have c9b0 : decide (x24_1 < (l0.length : Int)) = true := decide_eq_true c9
                  clear c9
                  have H' := Aside0.mk H
                  clear H
                  have p287 : 0 ≤ (x24_1 : Int) := of_decide_eq_true (by first | (with_reducible assumption) | assumption)
                  have q287 : x24_1 < (l0.length : Int) := of_decide_eq_true (by first | (with_reducible assumption) | assumption)
                  obtain ⟨ad287, e287, hx287_0⟩ := Kd.at_int HR0.out x24_1 p287 q287
                  cases e287
                  replace p287 := eq_true p287
                  replace q287 := eq_true q287
                  go_wp2
                  go_roundg k1
                  case measure => have := HK1.out; omega
                  case rel => exact ⟨(wrap64 (x7_1 + (rd l0 x24_1))), (wrap64 (x24_1 + 1)), (by first | rfl | (simp; done) | (simp [*]; done)), (by first | rfl | (simp; done) | (simp [*]; done)), H', ⟨by have := HK1.out; omega⟩, by repeat (first | exact Drawn0.refl _ | apply Drawn0.step)⟩
                · rw [if_neg c9] at H
                  exact absurd H (by simp)
              · rw [if_neg c8] at H
                exact absurd H (by simp)
            · rw [if_neg c7] at H
              have c7b0 : decide (x24_1 < (l0.length : Int)) = false := decide_eq_false c7
              clear c7
              have H' := Aside0.mk H
              clear H
              go_wp2
              go_loopg [4, 5, 7, 10, 37] k1 (fun kq v4 v5 v7 v10 v37 w' => ∃ (x4_2 : Int) (x5_2 : Int) (x7_2 : Int) (x10_2 : Int) (x37_2 : Int), v4 = .int .i64 x4_2 ∧ v5 = .int .i64 x5_2 ∧ v7 = .int .i64 x7_2 ∧ v10 = .int .i64 x10_2 ∧ v37 = .int .i64 x37_2 ∧ Aside0 (num_Point.l1 kq l0 a1 x4_2 x5_2 x7_2 x10_2 (l0.length : Int) x37_2 = some (r1, r2, r3)) ∧ Aside0 (kq ≤ k1) ∧ Drawn0 w w')
              case atStart => exact ⟨(0), (wrap64 ((l0.length : Int) - 1)), (x7_1), (0), (0), (by first | rfl | (simp; done) | (simp [*]; done)), (by first | rfl | (simp; done) | (simp [*]; done)), (by first | rfl | (simp; done) | (simp [*]; done)), (by first | rfl | (simp; done) | (simp [*]; done)), (by first | rfl | (simp; done) | (simp [*]; done)), H', ⟨Nat.le_refl _⟩, by repeat (first | exact Drawn0.refl _ | apply Drawn0.step)⟩
              case round =>
                clear H'
                try clear p2
                try clear q2
                try clear hx2
                try clear c3
                try clear c3b0
                try clear c3b1
                try clear c3b2
                try clear c4
                try clear c5
                try clear c6
                try clear c6b0
                try clear p6
                try clear c7
                try clear c7b0
                try clear c8
                try clear c8b0
                try clear c9
                try clear c9b0
                try clear hx287_0
                try clear p2
                try clear p287
                try clear q287
                obtain ⟨x4_2, x5_2, x7_2, x10_2, x37_2, rfl, rfl, rfl, rfl, rfl, HA, HK2, ⟨m2, rfl⟩⟩ := hrel
                cases gk with
                | zero => exact absurd HA.out (by simp [num_Point.l1])
                | succ k2 =>
                  have H := HA.out
                  clear HA
                  simp only [num_Point.l1] at H
                  by_cases c10 : x37_2 < (l0.length : Int)
                  · rw [if_pos c10] at H
                    have c10b0 : decide (x37_2 < (l0.length : Int)) = true := decide_eq_true c10
                    clear c10
                    have HC11 := Aside0.mk H
                    clear H
                    go_upto_block 5 with (fail)
                    go_cut [7, 10] (fun v7 v10 wc => ∃ (kq : Nat) (x7_10 : Int) (x10_10 : Int), v7 = .int .i64 x7_10 ∧ v10 = .int .i64 x10_10 ∧ Aside0 (num_Point.j3 kq l0 a1 x4_2 x5_2 x7_10 x10_10 x37_2 (l0.length : Int) x37_2 = some (r1, r2, r3)) ∧ Aside0 (kq ≤ k2) ∧ Drawn0 w wc)
                    case first =>
                      have H := HC11.out
                      clear HC11
                      have H' := Aside0.mk H
                      clear H
                      go_wp2
                      go_loopg [7, 10] k2 (fun kq v7 v10 w' => ∃ (x7_3 : Int) (x10_3 : Int), v7 = .int .i64 x7_3 ∧ v10 = .int .i64 x10_3 ∧ Aside0 (num_Point.l2 kq l0 a1 x4_2 x5_2 x7_3 x10_3 x37_2 (l0.length : Int) x37_2 = some (r1, r2, r3)) ∧ Aside0 (kq ≤ k2) ∧ Drawn0 w w')
                      case atStart => exact ⟨(x7_2), (x10_2), (by first | rfl | (simp; done) | (simp [*]; done)), (by first | rfl | (simp; done) | (simp [*]; done)), H', ⟨Nat.le_refl _⟩, by repeat (first | exact Drawn0.refl _ | apply Drawn0.step)⟩
                      case round =>
                        clear H'
                        try clear c1
                        try clear p2
                        try clear q2
                        try clear hx2
                        try clear c3
                        try clear c3b0
                        try clear c3b1
                        try clear c3b2
                        try clear c4
                        try clear c5
                        try clear c6
                        try clear c6b0
                        try clear p6
                        try clear c7
                        try clear c7b0
                        try clear c8
                        try clear c8b0
                        try clear c9
                        try clear c9b0
                        try clear c10
                        try clear c10b0
                        try clear hx287_0
                        try clear p2
                        try clear p287
                        try clear p6
                        try clear q2
                        try clear q287
                        obtain ⟨x7_3, x10_3, rfl, rfl, HA, HK3, ⟨m3, rfl⟩⟩ := hrel
                        cases gk with
                        | zero => exact absurd HA.out (by simp [num_Point.l2])
                        | succ k3 =>
                          have H := HA.out
                          clear HA
                          simp only [num_Point.l2] at H
                          by_cases c12 : x10_3 < (l0.length : Int)
                          · rw [if_pos c12] at H
                            have c12b0 : decide (x10_3 < (l0.length : Int)) = true := decide_eq_true c12
                            clear c12
                            (first | rw [c12b0] | (simp only [i64_w, i32_w]; rw [c12b0]) | skip)
                            by_cases c13 : x10_3 ≤ x37_2
                            · rw [if_pos c13] at H
                              have c13b0 : decide (x10_3 ≤ x37_2) = true := decide_eq_true c13
                              clear c13
                              by_cases c14 : 0 ≤ x10_3
                              · rw [if_pos c14] at H
                                have c14b0 : decide (0 ≤ x10_3) = true := decide_eq_true c14
                                clear c14
                                have H' := Aside0.mk H
                                clear H
                                have p288 : 0 ≤ (x10_3 : Int) := of_decide_eq_true (by first | (with_reducible assumption) | assumption)
                                have q288 : x10_3 < (l0.length : Int) := of_decide_eq_true (by first | (with_reducible assumption) | assumption)
                                obtain ⟨ad288, e288, hx288_0⟩ := Kd.at_int HR0.out x10_3 p288 q288
                                cases e288
                                replace p288 := eq_true p288
                                replace q288 := eq_true q288
                                go_wp2
                                go_roundg k3
                                case measure => have := HK1.out; have := HK2.out; have := HK3.out; omega
                                case rel => exact ⟨(wrap64 (x7_3 - (rd l0 x10_3))), (wrap64 (x10_3 + 1)), (by first | rfl | (simp; done) | (simp [*]; done)), (by first | rfl | (simp; done) | (simp [*]; done)), H', ⟨by have := HK1.out; have := HK2.out; have := HK3.out; omega⟩, by repeat (first | exact Drawn0.refl _ | apply Drawn0.step)⟩
                              · rw [if_neg c14] at H
                                exact absurd H (by simp)
                            · rw [if_neg c13] at H
                              have c13b0 : decide (x10_3 ≤ x37_2) = false := decide_eq_false c13
                              clear c13
                              by_cases c15 : x7_3 > a1
                              · rw [if_pos c15] at H
                                have c15b0 : decide (a1 < x7_3) = true := decide_eq_true c15
                                clear c15
                                by_cases c16 : 0 ≤ x10_3
                                · rw [if_pos c16] at H
                                  have c16b0 : decide (0 ≤ x10_3) = true := decide_eq_true c16
                                  clear c16
                                  have H' := Aside0.mk H
                                  clear H
                                  have p289 : 0 ≤ (x10_3 : Int) := of_decide_eq_true (by first | (with_reducible assumption) | assumption)
                                  have q289 : x10_3 < (l0.length : Int) := of_decide_eq_true (by first | (with_reducible assumption) | assumption)
                                  obtain ⟨ad289, e289, hx289_0⟩ := Kd.at_int HR0.out x10_3 p289 q289
                                  cases e289
                                  replace p289 := eq_true p289
                                  replace q289 := eq_true q289
                                  go_wp2
                                  go_roundg k3
                                  case measure => have := HK1.out; have := HK2.out; have := HK3.out; omega
                                  case rel => exact ⟨(wrap64 (x7_3 - (rd l0 x10_3))), (wrap64 (x10_3 + 1)), (by first | rfl | (simp; done) | (simp [*]; done)), (by first | rfl | (simp; done) | (simp [*]; done)), H', ⟨by have := HK1.out; have := HK2.out; have := HK3.out; omega⟩, by repeat (first | exact Drawn0.refl _ | apply Drawn0.step)⟩
                                · rw [if_neg c16] at H
                                  exact absurd H (by simp)
                              · rw [if_neg c15] at H
                                have c15b0 : decide (a1 < x7_3) = false := decide_eq_false c15
                                clear c15
                                have H' := Aside0.mk H
                                clear H
                                go_wp2
                                go_meet
                                case rel => exact ⟨_, (x7_3), (x10_3), (by first | rfl | (simp; done) | (simp [*]; done)), (by first | rfl | (simp; done) | (simp [*]; done)), H', ⟨by have := HK1.out; have := HK2.out; have := HK3.out; first | omega | exact Nat.le_refl _⟩, by repeat (first | exact Drawn0.refl _ | apply Drawn0.step)⟩
                          · rw [if_neg c12] at H
                            have c12b0 : decide (x10_3 < (l0.length : Int)) = false := decide_eq_false c12
                            clear c12
                            (first | rw [c12b0] | (simp only [i64_w, i32_w]; rw [c12b0]) | skip)
                            have H' := Aside0.mk H
                            clear H
                            go_wp2
                            go_meet
                            case rel => exact ⟨_, (x7_3), (x10_3), (by first | rfl | (simp; done) | (simp [*]; done)), (by first | rfl | (simp; done) | (simp [*]; done)), H', ⟨by have := HK1.out; have := HK2.out; have := HK3.out; first | omega | exact Nat.le_refl _⟩, by repeat (first | exact Drawn0.refl _ | apply Drawn0.step)⟩
                    case rest =>
                      clear HC11
                      try clear c1
                      try clear p2
                      try clear q2
                      try clear hx2
                      try clear c3
                      try clear c3b0
                      try clear c3b1
                      try clear c3b2
                      try clear c4
                      try clear c5
                      try clear c6
                      try clear c6b0
                      try clear p6
                      try clear c7
                      try clear c7b0
                      try clear c8
                      try clear c8b0
                      try clear c9
                      try clear c9b0
                      try clear c10
                      try clear c10b0
                      try clear c12
                      try clear c12b0
                      try clear c13
                      try clear c13b0
                      try clear c14
                      try clear c14b0
                      try clear c15
                      try clear c15b0
                      try clear c16
                      try clear c16b0
                      try clear hx287_0
                      try clear hx288_0
                      try clear hx289_0
                      try clear p2
                      try clear p287
                      try clear p288
                      try clear p289
                      try clear p6
                      try clear q2
                      try clear q287
                      try clear q288
                      try clear q289
                      obtain ⟨kq, x7_10, x10_10, rfl, rfl, HA, HJ10, ⟨mc10, rfl⟩⟩ := hcut
                      cases kq with
                      | zero => exact absurd HA.out (by simp [num_Point.j3])
                      | succ kj10 =>
                        have H := HA.out
                        clear HA
                        simp only [num_Point.j3] at H
                        by_cases c17 : x7_10 > a1
                        · rw [if_pos c17] at H
                          have c17b0 : decide (a1 < x7_10) = true := decide_eq_true c17
                          clear c17
                          simp only [Option.some.injEq, Prod.mk.injEq] at H
                          obtain ⟨rfl, rfl, rfl⟩ := H
                          go_wp2
                          go_ret3
                          exact ⟨by first | rfl | (simp; done) | (simp [*]; done), by repeat (first | exact Drawn0.refl _ | apply Drawn0.step)⟩
                        · rw [if_neg c17] at H
                          have c17b0 : decide (a1 < x7_10) = false := decide_eq_false c17
                          clear c17
                          by_cases c18 : (wrap64 (x10_10 - x37_2)) < (wrap64 ((wrap64 (x5_2 - x4_2)) + 1))
                          · rw [if_pos c18] at H
                            have c18b0 : decide ((wrap64 (x10_10 - x37_2)) < (wrap64 ((wrap64 (x5_2 - x4_2)) + 1))) = true := decide_eq_true c18
                            clear c18
                            by_cases c19 : 0 ≤ x37_2
                            · rw [if_pos c19] at H
                              have c19b0 : decide (0 ≤ x37_2) = true := decide_eq_true c19
                              clear c19
                              by_cases c20 : x37_2 < (l0.length : Int)
                              · rw [if_pos c20] at H
                                have c20b0 : decide (x37_2 < (l0.length : Int)) = true := decide_eq_true c20
                                clear c20
                                have H' := Aside0.mk H
                                clear H
                                have p290 : 0 ≤ (x37_2 : Int) := of_decide_eq_true (by first | (with_reducible assumption) | assumption)
                                have q290 : x37_2 < (l0.length : Int) := of_decide_eq_true (by first | (with_reducible assumption) | assumption)
                                obtain ⟨ad290, e290, hx290_0⟩ := Kd.at_int HR0.out x37_2 p290 q290
                                cases e290
                                replace p290 := eq_true p290
                                replace q290 := eq_true q290
                                go_wp2
                                go_roundg kj10
                                case measure => have := HK1.out; have := HK2.out; have := HJ10.out; omega
                                case rel => exact ⟨(x37_2), (wrap64 (x10_10 - 1)), (wrap64 (x7_10 + (rd l0 x37_2))), (x10_10), (wrap64 (x37_2 + 1)), (by first | rfl | (simp; done) | (simp [*]; done)), (by first | rfl | (simp; done) | (simp [*]; done)), (by first | rfl | (simp; done) | (simp [*]; done)), (by first | rfl | (simp; done) | (simp [*]; done)), (by first | rfl | (simp; done) | (simp [*]; done)), H', ⟨by have := HK1.out; have := HK2.out; have := HJ10.out; omega⟩, by repeat (first | exact Drawn0.refl _ | apply Drawn0.step)⟩
                              · rw [if_neg c20] at H
                                exact absurd H (by simp)
                            · rw [if_neg c19] at H
                              exact absurd H (by simp)
                          · rw [if_neg c18] at H
                            have c18b0 : decide ((wrap64 (x10_10 - x37_2)) < (wrap64 ((wrap64 (x5_2 - x4_2)) + 1))) = false := decide_eq_false c18
                            clear c18
                            by_cases c21 : 0 ≤ x37_2
                            · rw [if_pos c21] at H
                              have c21b0 : decide (0 ≤ x37_2) = true := decide_eq_true c21
                              clear c21
                              by_cases c22 : x37_2 < (l0.length : Int)
                              · rw [if_pos c22] at H
                                have c22b0 : decide (x37_2 < (l0.length : Int)) = true := decide_eq_true c22
                                clear c22
                                have H' := Aside0.mk H
                                clear H
                                have p291 : 0 ≤ (x37_2 : Int) := of_decide_eq_true (by first | (with_reducible assumption) | assumption)
                                have q291 : x37_2 < (l0.length : Int) := of_decide_eq_true (by first | (with_reducible assumption) | assumption)
                                obtain ⟨ad291, e291, hx291_0⟩ := Kd.at_int HR0.out x37_2 p291 q291
                                cases e291
                                replace p291 := eq_true p291
                                replace q291 := eq_true q291
                                go_wp2
                                go_roundg kj10
                                case measure => have := HK1.out; have := HK2.out; have := HJ10.out; omega
                                case rel => exact ⟨(x4_2), (x5_2), (wrap64 (x7_10 + (rd l0 x37_2))), (x10_10), (wrap64 (x37_2 + 1)), (by first | rfl | (simp; done) | (simp [*]; done)), (by first | rfl | (simp; done) | (simp [*]; done)), (by first | rfl | (simp; done) | (simp [*]; done)), (by first | rfl | (simp; done) | (simp [*]; done)), (by first | rfl | (simp; done) | (simp [*]; done)), H', ⟨by have := HK1.out; have := HK2.out; have := HJ10.out; omega⟩, by repeat (first | exact Drawn0.refl _ | apply Drawn0.step)⟩
                              · rw [if_neg c22] at H
                                exact absurd H (by simp)
                            · rw [if_neg c21] at H
                              exact absurd H (by simp)
                  · rw [if_neg c10] at H
                    have c10b0 : decide (x37_2 < (l0.length : Int)) = false := decide_eq_false c10
                    clear c10
                    simp only [Option.some.injEq, Prod.mk.injEq] at H
                    obtain ⟨rfl, rfl, rfl⟩ := H
                    go_wp2
                    go_ret3
                    exact ⟨by first | rfl | (simp; done) | (simp [*]; done), by repeat (first | exact Drawn0.refl _ | apply Drawn0.step)⟩

/-! ### slices_ContainsFunc_int_int_at_weftlaw1_NumPoints_1: function 40 -/
section
def slices_ContainsFunc_int_int_at_weftlaw1_NumPoints_1.p (x : Int) : Bool := decide (x < 0) || decide (x > 2147483647)
def slices_ContainsFunc_int_int_at_weftlaw1_NumPoints_1.f (l0 : List Int) : Option Bool := if l0.length < 35184372088832 then some (l0.any slices_ContainsFunc_int_int_at_weftlaw1_NumPoints_1.p) else none
theorem slices_ContainsFunc_int_int_at_weftlaw1_NumPoints_1.pred (x : Int) (w : World) : Calls Tryz.prog 43 #[.int .i64 x] w fun e w' => e = .returned (.bool (slices_ContainsFunc_int_int_at_weftlaw1_NumPoints_1.p x)) ∧ Drawn0 w w' := by
  unfold slices_ContainsFunc_int_int_at_weftlaw1_NumPoints_1.p
  by_cases c1 : x < 0
  · have c1b0 : decide (x < 0) = true := decide_eq_true c1
    go_enter Tryz.func43, Tryz.ntmps43
    go_wp2
    go_ret
    exact ⟨by first | rfl | (simp; done) | (simp [*]; done), by repeat (first | exact Drawn0.refl _ | apply Drawn0.step)⟩
  · have c1b0 : decide (x < 0) = false := decide_eq_false c1
    go_enter Tryz.func43, Tryz.ntmps43
    go_wp2
    go_ret
    exact ⟨by first | rfl | (simp; done) | (simp [*]; done), by repeat (first | exact Drawn0.refl _ | apply Drawn0.step)⟩
set_option maxHeartbeats 8000000 in
set_option maxRecDepth 100000 in
theorem slices_ContainsFunc_int_int_at_weftlaw1_NumPoints_1.idx (A0 : Option Addr) (c0 : Nat) (l0 : List Int) (w : World) (hr0 : Kd.C (Kd.int .i64) w A0 l0.length l0) (hc0 : l0.length ≤ c0) (hl : l0.length < 35184372088832) :
    Calls Tryz.prog 93 #[.slice A0 l0.length c0, .func (.func 43) #[] #[]] w fun e w' => (∃ i : Int, e = .returned (.int .i64 i) ∧ decide (0 ≤ i) = l0.any slices_ContainsFunc_int_int_at_weftlaw1_NumPoints_1.p) ∧ Drawn0 w w' := by
  have HR0 := Aside0.mk hr0
  have HC0 := Aside0.mk hc0
  have HL0 := Aside0.mk hl
  clear hr0 hc0 hl
  go_enter Tryz.func93, Tryz.ntmps93
  go_wp2
  go_loopg [8] l0.length (fun kq v8 w' => ∃ i : Nat, v8 = .int .i64 (i : Int) ∧ Aside0 (i ≤ l0.length) ∧ Aside0 (l0.length - i ≤ kq) ∧ Aside0 (∀ x ∈ l0.take i, slices_ContainsFunc_int_int_at_weftlaw1_NumPoints_1.p x = false) ∧ Drawn0 w w')
  case atStart => exact ⟨0, rfl, ⟨Nat.zero_le _⟩, ⟨by omega⟩, ⟨fun x hx => by cases hx⟩, Drawn0.refl _⟩
  case round =>
    obtain ⟨i, rfl, HI, HQ, HP, ⟨m1, rfl⟩⟩ := hrel
    by_cases c4 : (i : Int) < (l0.length : Int)
    · have c4b0 : decide ((i : Int) < (l0.length : Int)) = true := decide_eq_true c4
      have hi : i < l0.length := by omega
      have p287 : 0 ≤ (i : Int) := by omega
      obtain ⟨ad287, e287, hx287_0⟩ := Kd.at_int HR0.out (i : Int) p287 c4
      cases e287
      have hx287_1 : w.cell? (ad287.add i) = some (.int .i64 (rd l0 (i : Int))) := by rw [Int.toNat_natCast] at hx287_0; exact hx287_0
      have hrd : l0[i]? = some (rd l0 (i : Int)) := by show l0[i]? = some (l0.getD (i : Int).toNat 0); rw [Int.toNat_natCast, List.getD_eq_getElem?_getD, List.getElem?_eq_getElem hi, Option.getD_some]
      replace p287 := eq_true p287
      have q287 := eq_true c4
      have HI' := Aside0.mk hi
      have HRD := Aside0.mk hrd
      have hcall := fun (W : World) => slices_ContainsFunc_int_int_at_weftlaw1_NumPoints_1.pred (rd l0 (i : Int)) W
      clear hrd hi
      cases hq : slices_ContainsFunc_int_int_at_weftlaw1_NumPoints_1.p (rd l0 (i : Int)) with
      | true =>
        rw [hq] at hcall
        go_wp2_with (refine (hcall _).mono ?_; rintro e w' ⟨rfl, ⟨nd, rfl⟩⟩)
        go_ret
        refine ⟨⟨_, rfl, ?_⟩, by repeat (first | exact Drawn0.refl _ | apply Drawn0.step)⟩
        have h1 : l0.any slices_ContainsFunc_int_int_at_weftlaw1_NumPoints_1.p = true := List.any_eq_true.mpr ⟨_, List.mem_of_getElem? HRD.out, hq⟩
        rw [h1]; simp
      | false =>
        rw [hq] at hcall
        go_wp2_with (refine (hcall _).mono ?_; rintro e w' ⟨rfl, ⟨nd, rfl⟩⟩)
        go_roundg (l0.length - (i + 1))
        case measure => have := HQ.out; have := HI'.out; omega
        case rel =>
          refine ⟨i + 1, ?_, ⟨by have := HI'.out; omega⟩, ⟨by omega⟩, ⟨?_⟩, by repeat (first | exact Drawn0.refl _ | apply Drawn0.step)⟩
          · have := HI'.out; have := HL0.out
            congr 1
            unfold wrap64; omega
          · intro x hx
            rw [List.take_add_one, HRD.out] at hx
            rcases List.mem_append.mp hx with hx | hx
            · exact HP.out x hx
            · have hx' : x = rd l0 (i : Int) := by simpa using hx
              rw [hx']; exact hq
    · have c4b0 : decide ((i : Int) < (l0.length : Int)) = false := decide_eq_false c4
      go_wp2
      go_ret
      refine ⟨⟨_, rfl, ?_⟩, by repeat (first | exact Drawn0.refl _ | apply Drawn0.step)⟩
      have hi : i = l0.length := by have := HI.out; omega
      have hp := HP.out
      rw [hi, List.take_length] at hp
      have h1 : l0.any slices_ContainsFunc_int_int_at_weftlaw1_NumPoints_1.p = false := List.any_eq_false.mpr fun x hx => by rw [hp x hx]; simp
      rw [h1]; simp
set_option maxHeartbeats 8000000 in
set_option maxRecDepth 100000 in
theorem slices_ContainsFunc_int_int_at_weftlaw1_NumPoints_1.calls (A0 : Option Addr) (c0 : Nat) (l0 : List Int) (r : Bool) (w : World) (hr0 : Kd.C (Kd.int .i64) w A0 l0.length l0) (hc0 : l0.length ≤ c0) (h : slices_ContainsFunc_int_int_at_weftlaw1_NumPoints_1.f l0 = some r) :
    Calls Tryz.prog 40 #[.slice A0 l0.length c0, .func (.func 43) #[] #[]] w fun e w' => e = .returned (.bool r) ∧ Drawn0 w w' := by
  unfold slices_ContainsFunc_int_int_at_weftlaw1_NumPoints_1.f at h
  by_cases c2 : l0.length < 35184372088832
  case neg => rw [if_neg c2] at h; cases h
  rw [if_pos c2] at h
  obtain rfl := Option.some.inj h
  clear h
  have hcall := fun (W : World) (hr : Kd.C (Kd.int .i64) W A0 l0.length l0) => slices_ContainsFunc_int_int_at_weftlaw1_NumPoints_1.idx A0 c0 l0 W hr hc0 c2
  have HR0 := Aside0.mk hr0
  clear hr0 hc0 c2
  go_enter Tryz.func40, Tryz.ntmps40
  go_wp2_with (go_at_call 93; refine (hcall _ ?hr).mono ?_; (case hr => first | exact HR0.out | exact (by (with_reducible repeat (first | apply Kd.C_alloc | apply Kd.C_drewN | apply Kd.C_drew)); exact HR0.out)); rintro e w' ⟨⟨i, rfl, hi⟩, ⟨nd, rfl⟩⟩)
  go_ret
  exact ⟨by rw [← hi]; rfl, by repeat (first | exact Drawn0.refl _ | apply Drawn0.step)⟩

end
end Go.Proofs.YtaffkbemjbfajaaGreatDoor.PNumPoints
