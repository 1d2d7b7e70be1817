-- By a program of this session (a changed copy of the kit's printer): functions of the seat as plain Lean functions, each with its proof over the machine.
import Derived.Test.YtaffkbemjbfajaaGreatDoorPNumFormsx0
import Derived.Test.YtaffkbemjbfajaaGreatDoorPNumFormsx3
namespace Go.Proofs.YtaffkbemjbfajaaGreatDoor.PNumForms
open Go.RowKit Go.Proofs.YtaffkbemjbfajaaGreatDoorW.PrintWords Go.Proofs.YtaffkbemjbfajaaGreatDoorW.PrintLast Go.Proofs.YtaffkbemjbfajaaGreatDoorW.PrintMore
attribute [local go_sem] max2_int min2_int max_two min_two max_three min_three max_four min_four   -- for this text's walks alone
set_option linter.unusedVariables false
set_option linter.unusedSimpArgs false

mutual
def nat_digit.j1 : Nat → List Int → List Int → Int → Option (Int × List Int)
 | 0, _, _, _ => none
 | k + 1, x0, x1, x7 => (nat_less.f k x0 x1 x7).bind fun bt164 => (if bt164.1 = true then ((nat_more.f k bt164.2 x1).bind fun t166 => (some (IntKind.u64.wrap (x7 - 1), t166))) else (some (x7, bt164.2)))
def nat_digit.l0 : Nat → List Int → List Int → Int → Int → Int → Option (Int × List Int)
 | 0, _, _, _, _, _ => none
 | k + 1, x0, x1, x5, x7, x8 => if x8 < 1000000000 then (if 0 ≤ (wrap64 (x5 - 2)) then (if (wrap64 (x5 - 2)) < (x1.length : Int) then (if (wrap64 (x5 - 2)) < (x0.length : Int) then (if (IntKind.u64.wrap (x7 * (IntKind.u64.wrap (rd x1 (wrap64 (x5 - 2)))))) > (IntKind.u64.wrap ((IntKind.u64.wrap (x8 * 1000000000)) + (IntKind.u64.wrap (rd x0 (wrap64 (x5 - 2)))))) then (if 0 ≤ (wrap64 (x5 - 1)) then (if (wrap64 (x5 - 1)) < (x1.length : Int) then (nat_digit.l0 k x0 x1 x5 (IntKind.u64.wrap (x7 - 1)) (IntKind.u64.wrap (x8 + (IntKind.u64.wrap (rd x1 (wrap64 (x5 - 1))))))) else (none)) else (none)) else (nat_digit.j1 k x0 x1 x7)) else (none)) else (none)) else (none)) else (nat_digit.j1 k x0 x1 x7)
end
def nat_digit.f (k : Nat) (l0 : List Int) (l1 : List Int) : Option (Int × List Int) := if 0 ≤ (l1.length : Int) then (if (l1.length : Int) < (l0.length : Int) then (if 0 ≤ (wrap64 ((l1.length : Int) - 1)) then (if (wrap64 ((l1.length : Int) - 1)) < (l0.length : Int) then (if (wrap64 ((l1.length : Int) - 1)) < (l1.length : Int) then (if (IntKind.u64.wrap (rd l1 (wrap64 ((l1.length : Int) - 1)))) = 0 then (none) else (nat_digit.l0 k l0 l1 (l1.length : Int) (mn (IntKind.u64.wrap (Int.tdiv (IntKind.u64.wrap ((IntKind.u64.wrap ((IntKind.u64.wrap (rd l0 (l1.length : Int))) * 1000000000)) + (IntKind.u64.wrap (rd l0 (wrap64 ((l1.length : Int) - 1)))))) (IntKind.u64.wrap (rd l1 (wrap64 ((l1.length : Int) - 1)))))) 999999999) (IntKind.u64.wrap ((IntKind.u64.wrap ((IntKind.u64.wrap ((IntKind.u64.wrap (rd l0 (l1.length : Int))) * 1000000000)) + (IntKind.u64.wrap (rd l0 (wrap64 ((l1.length : Int) - 1)))))) - (IntKind.u64.wrap ((mn (IntKind.u64.wrap (Int.tdiv (IntKind.u64.wrap ((IntKind.u64.wrap ((IntKind.u64.wrap (rd l0 (l1.length : Int))) * 1000000000)) + (IntKind.u64.wrap (rd l0 (wrap64 ((l1.length : Int) - 1)))))) (IntKind.u64.wrap (rd l1 (wrap64 ((l1.length : Int) - 1)))))) 999999999) * (IntKind.u64.wrap (rd l1 (wrap64 ((l1.length : Int) - 1)))))))))) else (none)) else (none)) else (none)) else (none)) else (none)
theorem nat_digit.mono_l : ∀ k, (∀ y0 y1 y2, LeO (nat_digit.j1 k y0 y1 y2) (nat_digit.j1 (k + 1) y0 y1 y2)) ∧ (∀ y0 y1 y2 y3 y4, LeO (nat_digit.l0 k y0 y1 y2 y3 y4) (nat_digit.l0 (k + 1) y0 y1 y2 y3 y4))
 | 0 => ⟨fun _ _ _ r h => by simp [nat_digit.j1] at h, fun _ _ _ _ _ r h => by simp [nat_digit.l0] at h⟩
 | k + 1 => by
  obtain ⟨ih0, ih1⟩ := nat_digit.mono_l k
  refine ⟨?_, ?_⟩
  ·intro y0 y1 y2
   unfold nat_digit.j1
   have m0 := nat_less.mono
   have m1 := nat_more.mono
   exact zM
  ·intro y0 y1 y2 y3 y4
   unfold nat_digit.l0
   have m0 := nat_less.mono
   have m1 := nat_more.mono
   exact zM
theorem nat_digit.mono : ∀ a0 a1 k, LeO (nat_digit.f k a0 a1) (nat_digit.f (k + 1) a0 a1) := by
 intro a0 a1 k
 obtain ⟨ih0, ih1⟩ := nat_digit.mono_l k
 unfold nat_digit.f
 have m0 := nat_less.mono
 have m1 := nat_more.mono
 exact zM
set_option maxHeartbeats 8000000 in
set_option maxRecDepth 100000 in
theorem nat_digit.calls (k : Nat) (P0_ : Nat → Prop) (u9000_ : Value) (l0 : List Int) (A1 : Option Addr) (c1 : Nat) (l1 : List Int) (r1 : Int) (r2 : List Int) (w0 w : World) (hB : Below w0.heap.size w0 w) (ho0 : Kd.R (Kd.int .u32) 97 w w0.heap.size P0_ u9000_ l0) (hr1 : ∀ W_, Kept w W_ (fun k_ => P0_ k_) → Kd.C (Kd.int .u32) W_ A1 l1.length l1) (hc1 : l1.length ≤ c1) (h : nat_digit.f k l0 l1 = some (r1, r2)) :
  Calls Tryz.prog 180 #[u9000_, .slice A1 l1.length c1] w fun e w' => e = .returned (.int .u64 r1) ∧ Kd.R (Kd.int .u32) 97 w' w0.heap.size (fun k_ => (P0_ k_ ∨ w.heap.size ≤ k_)) u9000_ r2 ∧ Below w0.heap.size w0 w' ∧ Kept w w' (fun k_ => P0_ k_) := by
 have HO0 := Aside0.mk (show Kd.R (Kd.int .u32) 97 w w0.heap.size (fun k_ => (P0_ k_ ∨ w.heap.size ≤ k_)) u9000_ l0 from Kd.R_mono ho0 (fun k_ hk => (.inl hk)))
 have HR1 := Aside0.mk hr1
 have HC1 := Aside0.mk hc1
 clear hr1 hc1
 have HK := Aside0.mk (Kept.refl w (fun k_ => P0_ k_))
 have HW0 := Aside0.mk hB.size
 have HB := Aside0.mk hB
 clear hB
 have H : (if 0 ≤ (l1.length : Int) then (if (l1.length : Int) < (l0.length : Int) then (if 0 ≤ (wrap64 ((l1.length : Int) - 1)) then (if (wrap64 ((l1.length : Int) - 1)) < (l0.length : Int) then (if (wrap64 ((l1.length : Int) - 1)) < (l1.length : Int) then (if (IntKind.u64.wrap (rd l1 (wrap64 ((l1.length : Int) - 1)))) = 0 then (none) else (nat_digit.l0 k l0 l1 (l1.length : Int) (mn (IntKind.u64.wrap (Int.tdiv (IntKind.u64.wrap ((IntKind.u64.wrap ((IntKind.u64.wrap (rd l0 (l1.length : Int))) * 1000000000)) + (IntKind.u64.wrap (rd l0 (wrap64 ((l1.length : Int) - 1)))))) (IntKind.u64.wrap (rd l1 (wrap64 ((l1.length : Int) - 1)))))) 999999999) (IntKind.u64.wrap ((IntKind.u64.wrap ((IntKind.u64.wrap ((IntKind.u64.wrap (rd l0 (l1.length : Int))) * 1000000000)) + (IntKind.u64.wrap (rd l0 (wrap64 ((l1.length : Int) - 1)))))) - (IntKind.u64.wrap ((mn (IntKind.u64.wrap (Int.tdiv (IntKind.u64.wrap ((IntKind.u64.wrap ((IntKind.u64.wrap (rd l0 (l1.length : Int))) * 1000000000)) + (IntKind.u64.wrap (rd l0 (wrap64 ((l1.length : Int) - 1)))))) (IntKind.u64.wrap (rd l1 (wrap64 ((l1.length : Int) - 1)))))) 999999999) * (IntKind.u64.wrap (rd l1 (wrap64 ((l1.length : Int) - 1)))))))))) else (none)) else (none)) else (none)) else (none)) else (none)) = some (r1, r2) := h
 clear h
 by_cases c3 : 0 ≤ (l1.length : Int)
 ·rw [if_pos c3] at H
  have c3b0 : decide (0 ≤ (l1.length : Int)) = true := decide_eq_true c3
  have c3b1 : decide (0 ≤ l1.length) = true := decide_eq_true (by omega)
  clear c3
  by_cases c4 : (l1.length : Int) < (l0.length : Int)
  ·rw [if_pos c4] at H
   have c4b0 : decide ((l1.length : Int) < (l0.length : Int)) = true := decide_eq_true c4
   have c4b1 : decide (l1.length < l0.length) = true := decide_eq_true (Int.ofNat_lt.mp c4)
   clear c4
   obtain ⟨ji5, hji5⟩ : ∃ j_ : Int, (wrap64 ((l1.length : Int) - 1)) = j_ := ⟨_, rfl⟩
   replace H : (if 0 ≤ (ji5) then (if (ji5) < (l0.length : Int) then (if (ji5) < (l1.length : Int) then (if (IntKind.u64.wrap (rd l1 (ji5))) = 0 then (none) else (nat_digit.l0 k l0 l1 (l1.length : Int) (mn (IntKind.u64.wrap (Int.tdiv (IntKind.u64.wrap ((IntKind.u64.wrap ((IntKind.u64.wrap (rd l0 (l1.length : Int))) * 1000000000)) + (IntKind.u64.wrap (rd l0 (ji5))))) (IntKind.u64.wrap (rd l1 (ji5))))) 999999999) (IntKind.u64.wrap ((IntKind.u64.wrap ((IntKind.u64.wrap ((IntKind.u64.wrap (rd l0 (l1.length : Int))) * 1000000000)) + (IntKind.u64.wrap (rd l0 (ji5))))) - (IntKind.u64.wrap ((mn (IntKind.u64.wrap (Int.tdiv (IntKind.u64.wrap ((IntKind.u64.wrap ((IntKind.u64.wrap (rd l0 (l1.length : Int))) * 1000000000)) + (IntKind.u64.wrap (rd l0 (ji5))))) (IntKind.u64.wrap (rd l1 (ji5))))) 999999999) * (IntKind.u64.wrap (rd l1 (ji5))))))))) else (none)) else (none)) else (none)) = some (r1, r2) := by first | (rw [hji5] at H; exact H) | (simp only [hji5] at H ⊢; exact H)
   have hji5w : (IntKind.i64.wrap ((l1.length : Int) - 1)) = ji5 := (i64_w _).trans hji5
   by_cases c6 : 0 ≤ (ji5)
   ·rw [if_pos c6] at H
    have c6b0 : decide (0 ≤ (ji5)) = true := decide_eq_true c6
    clear c6
    by_cases c7 : (ji5) < (l0.length : Int)
    ·rw [if_pos c7] at H
     have c7b0 : decide ((ji5) < (l0.length : Int)) = true := decide_eq_true c7
     clear c7
     by_cases c8 : (ji5) < (l1.length : Int)
     ·rw [if_pos c8] at H
      have c8b0 : decide ((ji5) < (l1.length : Int)) = true := decide_eq_true c8
      clear c8
      by_cases c9 : (IntKind.u64.wrap (rd l1 (ji5))) = 0
      ·rw [if_pos c9] at H
       cases H
      ·rw [if_neg c9] at H
       have c9b0 : ((IntKind.u64.wrap (rd l1 (ji5))) == 0) = false := beq_eq_false_iff_ne.mpr c9
       have c9b1 : ((IntKind.u64.wrap (rd l1 (ji5))) != 0) = true := bne_iff_ne.mpr c9
       obtain ⟨ji10, hji10⟩ : ∃ j_ : Int, (mn (IntKind.u64.wrap (Int.tdiv (IntKind.u64.wrap ((IntKind.u64.wrap ((IntKind.u64.wrap (rd l0 (l1.length : Int))) * 1000000000)) + (IntKind.u64.wrap (rd l0 (ji5))))) (IntKind.u64.wrap (rd l1 (ji5))))) 999999999) = j_ := ⟨_, rfl⟩
       replace H : (nat_digit.l0 k l0 l1 (l1.length : Int) ji10 (IntKind.u64.wrap ((IntKind.u64.wrap ((IntKind.u64.wrap ((IntKind.u64.wrap (rd l0 (l1.length : Int))) * 1000000000)) + (IntKind.u64.wrap (rd l0 (ji5))))) - (IntKind.u64.wrap ((ji10) * (IntKind.u64.wrap (rd l1 (ji5)))))))) = some (r1, r2) := by first | (rw [hji10] at H; exact H) | (simp only [hji10] at H ⊢; exact H)
       have hji10_ : (if 999999999 < (IntKind.u64.wrap (Int.tdiv (IntKind.u64.wrap ((IntKind.u64.wrap ((IntKind.u64.wrap (rd l0 (l1.length : Int))) * 1000000000)) + (IntKind.u64.wrap (rd l0 (ji5))))) (IntKind.u64.wrap (rd l1 (ji5))))) then 999999999 else (IntKind.u64.wrap (Int.tdiv (IntKind.u64.wrap ((IntKind.u64.wrap ((IntKind.u64.wrap (rd l0 (l1.length : Int))) * 1000000000)) + (IntKind.u64.wrap (rd l0 (ji5))))) (IntKind.u64.wrap (rd l1 (ji5)))))) = ji10 := hji10
       have HC11 := Aside0.mk H
       clear H
       obtain ⟨Ao12, co12, rfl⟩ := Kd.R_slice HO0.out
       have p157 : 0 ≤ ((l1.length : Int) : Int) := zd
       have q157 : (l1.length : Int) < (l0.length : Int) := zd
       obtain ⟨ad157, e157, hx157_0⟩ := Kd.at_int (Kd.R_reads' HO0.out).2.2 (l1.length : Int) p157 q157
       cases e157
       (try simp only [Go.IntWalk.toNatUp] at hx157_0)
       replace p157 := eq_true p157
       replace q157 := eq_true q157
       have p158 : 0 ≤ ((ji5) : Int) := zd
       have q158 : (ji5) < (l0.length : Int) := zd
       obtain ⟨ad158, e158, hx158_0⟩ := Kd.at_int (Kd.R_reads' HO0.out).2.2 (ji5) p158 q158
       obtain rfl : ad157 = ad158 := (by injection e158)
       replace p158 := eq_true p158
       replace q158 := eq_true q158
       have p159 : 0 ≤ ((ji5) : Int) := zd
       have q159 : (ji5) < (l1.length : Int) := zd
       obtain ⟨ad159, e159, hx159_0⟩ := Kd.at_int (Kd.C_kept_now HR1.out HK.out) (ji5) p159 q159
       cases e159
       replace p159 := eq_true p159
       replace q159 := eq_true q159
       have p160 : 0 ≤ ((ji5) : Int) := zd
       have q160 : (ji5) < (l1.length : Int) := zd
       obtain ⟨ad160, e160, hx160_0⟩ := Kd.at_int (Kd.C_kept_now HR1.out HK.out) (ji5) p160 q160
       obtain rfl : ad159 = ad160 := (by injection e160)
       replace p160 := eq_true p160
       replace q160 := eq_true q160
       go_enter Tryz.func180, Tryz.ntmps180
       go_upto_block 0 with (fail)
       repeat (go_quiet (fail); go_upto_block 0 with (fail))
       go_cut [7] (fun v7 wc => ∃ (kq : Nat) (x7_10 : Int), v7 = .int .u64 x7_10 ∧ Aside0 (nat_digit.j1 kq l0 l1 x7_10 = some (r1, r2)) ∧ Aside0 (kq ≤ k) ∧ Aside0 (Kd.R (Kd.int .u32) 97 wc w0.heap.size (fun k_ => (P0_ k_ ∨ w.heap.size ≤ k_)) (.slice (some ad157) l0.length co12) l0) ∧ Aside0 (Kept w wc (fun k_ => P0_ k_)) ∧ Aside0 (Below w0.heap.size w0 wc))
       case first =>
        have H := HC11.out
        clear HC11
        have H' := Aside0.mk H
        clear H
        go_wp2
        repeat (go_quiet (fail); try go_wp2)
        go_loopg [7, 8] k (fun kq v7 v8 w' => ∃ (x7_1 : Int) (x8_1 : Int), v7 = .int .u64 x7_1 ∧ v8 = .int .u64 x8_1 ∧ Aside0 (nat_digit.l0 kq l0 l1 (l1.length : Int) x7_1 x8_1 = some (r1, r2)) ∧ Aside0 (kq ≤ k) ∧ Aside0 (Kd.R (Kd.int .u32) 97 w' w0.heap.size (fun k_ => (P0_ k_ ∨ w.heap.size ≤ k_)) (.slice (some ad157) l0.length co12) l0) ∧ Aside0 (Kept w w' (fun k_ => P0_ k_)) ∧ Aside0 (Below w0.heap.size w0 w'))
        case atStart => exact ⟨(ji10), (IntKind.u64.wrap ((IntKind.u64.wrap ((IntKind.u64.wrap ((IntKind.u64.wrap (rd l0 (l1.length : Int))) * 1000000000)) + (IntKind.u64.wrap (rd l0 (ji5))))) - (IntKind.u64.wrap ((ji10) * (IntKind.u64.wrap (rd l1 (ji5))))))), (by first | rfl | (simp; done) | (simp only [← hji10] <;> (first | rfl | simp)) | (simp [*]; done)), (by first | rfl | (simp; done) | (simp only [← hji5, ← hji10] <;> (first | rfl | simp)) | (simp [*]; done)), H', ⟨Nat.le_refl _⟩, ⟨zR HO0⟩, ⟨kw⟩, ⟨bw⟩⟩
        case round =>
         clear H'
         try clear c1
         try clear p1
         try clear q1
         try clear hx1
         try clear p2
         try clear c3
         try clear c3b0
         try clear c3b1
         try clear c4
         try clear c4b0
         try clear c4b1
         try clear c6
         try clear c6b0
         try clear p6
         try clear c7
         try clear c7b0
         try clear c8
         try clear c8b0
         try clear c9
         try clear c9b0
         try clear c9b1
         try clear hx157_0
         try clear hx158_0
         try clear hx159_0
         try clear hx160_0
         try clear p157
         try clear p158
         try clear p159
         try clear p160
         try clear q157
         try clear q158
         try clear q159
         try clear q160
         obtain ⟨x7_1, x8_1, rfl, rfl, HA, HK1, HO_0, HK, HB⟩ := hrel
         cases gk with
         | zero => exact absurd HA.out (by simp [nat_digit.l0])
         | succ k1 =>
          have H := HA.out
          clear HA
          simp only [nat_digit.l0] at H
          by_cases c13 : x8_1 < 1000000000
          ·rw [if_pos c13] at H
           have c13b0 : decide (x8_1 < 1000000000) = true := decide_eq_true c13
           clear c13
           (first | rw [c13b0] | (simp only [i64_w, i32_w]; rw [c13b0]) | skip)
           obtain ⟨ji14, hji14⟩ : ∃ j_ : Int, (wrap64 ((l1.length : Int) - 2)) = j_ := ⟨_, rfl⟩
           replace H : (if 0 ≤ (ji14) then (if (ji14) < (l1.length : Int) then (if (ji14) < (l0.length : Int) then (if (IntKind.u64.wrap (x7_1 * (IntKind.u64.wrap (rd l1 (ji14))))) > (IntKind.u64.wrap ((IntKind.u64.wrap (x8_1 * 1000000000)) + (IntKind.u64.wrap (rd l0 (ji14))))) then (if 0 ≤ (wrap64 ((l1.length : Int) - 1)) then (if (wrap64 ((l1.length : Int) - 1)) < (l1.length : Int) then (nat_digit.l0 k1 l0 l1 (l1.length : Int) (IntKind.u64.wrap (x7_1 - 1)) (IntKind.u64.wrap (x8_1 + (IntKind.u64.wrap (rd l1 (wrap64 ((l1.length : Int) - 1))))))) else (none)) else (none)) else (nat_digit.j1 k1 l0 l1 x7_1)) else (none)) else (none)) else (none)) = some (r1, r2) := by first | (rw [hji14] at H; exact H) | (simp only [hji14] at H ⊢; exact H)
           have hji14w : (IntKind.i64.wrap ((l1.length : Int) - 2)) = ji14 := (i64_w _).trans hji14
           by_cases c15 : 0 ≤ (ji14)
           ·rw [if_pos c15] at H
            have c15b0 : decide (0 ≤ (ji14)) = true := decide_eq_true c15
            clear c15
            by_cases c16 : (ji14) < (l1.length : Int)
            ·rw [if_pos c16] at H
             have c16b0 : decide ((ji14) < (l1.length : Int)) = true := decide_eq_true c16
             clear c16
             by_cases c17 : (ji14) < (l0.length : Int)
             ·rw [if_pos c17] at H
              have c17b0 : decide ((ji14) < (l0.length : Int)) = true := decide_eq_true c17
              clear c17
              by_cases c18 : (IntKind.u64.wrap (x7_1 * (IntKind.u64.wrap (rd l1 (ji14))))) > (IntKind.u64.wrap ((IntKind.u64.wrap (x8_1 * 1000000000)) + (IntKind.u64.wrap (rd l0 (ji14)))))
              ·rw [if_pos c18] at H
               have c18b0 : decide ((IntKind.u64.wrap ((IntKind.u64.wrap (x8_1 * 1000000000)) + (IntKind.u64.wrap (rd l0 (ji14))))) < (IntKind.u64.wrap (x7_1 * (IntKind.u64.wrap (rd l1 (ji14)))))) = true := decide_eq_true c18
               clear c18
               obtain ⟨ji19, hji19⟩ : ∃ j_ : Int, (wrap64 ((l1.length : Int) - 1)) = j_ := ⟨_, rfl⟩
               replace H : (if 0 ≤ (ji19) then (if (ji19) < (l1.length : Int) then (nat_digit.l0 k1 l0 l1 (l1.length : Int) (IntKind.u64.wrap (x7_1 - 1)) (IntKind.u64.wrap (x8_1 + (IntKind.u64.wrap (rd l1 (ji19)))))) else (none)) else (none)) = some (r1, r2) := by first | (rw [hji19] at H; exact H) | (simp only [hji19] at H ⊢; exact H)
               (try clear hji5w)
               (try clear hji5)
               have hji19w : (IntKind.i64.wrap ((l1.length : Int) - 1)) = ji19 := (i64_w _).trans hji19
               by_cases c20 : 0 ≤ (ji19)
               ·rw [if_pos c20] at H
                have c20b0 : decide (0 ≤ (ji19)) = true := decide_eq_true c20
                clear c20
                by_cases c21 : (ji19) < (l1.length : Int)
                ·rw [if_pos c21] at H
                 have c21b0 : decide ((ji19) < (l1.length : Int)) = true := decide_eq_true c21
                 clear c21
                 have H' := Aside0.mk H
                 clear H
                 have p161 : 0 ≤ ((ji14) : Int) := zd
                 have q161 : (ji14) < (l1.length : Int) := zd
                 obtain ⟨ad161, e161, hx161_0⟩ := Kd.at_int (Kd.C_kept_now HR1.out HK.out) (ji14) p161 q161
                 obtain rfl : ad159 = ad161 := (by injection e161)
                 replace p161 := eq_true p161
                 replace q161 := eq_true q161
                 have p162 : 0 ≤ ((ji14) : Int) := zd
                 have q162 : (ji14) < (l0.length : Int) := zd
                 obtain ⟨ad162, e162, hx162_0⟩ := Kd.at_int (Kd.R_reads' HO_0.out).2.2 (ji14) p162 q162
                 obtain rfl : ad157 = ad162 := (by injection e162)
                 replace p162 := eq_true p162
                 replace q162 := eq_true q162
                 have p163 : 0 ≤ ((ji19) : Int) := zd
                 have q163 : (ji19) < (l1.length : Int) := zd
                 obtain ⟨ad163, e163, hx163_0⟩ := Kd.at_int (Kd.C_kept_now HR1.out HK.out) (ji19) p163 q163
                 obtain rfl : ad159 = ad163 := (by injection e163)
                 replace p163 := eq_true p163
                 replace q163 := eq_true q163
                 go_wp2
                 repeat (go_quiet (fail); try go_wp2)
                 go_roundg k1
                 case measure => have := HK1.out; omega
                 case rel => exact ⟨(IntKind.u64.wrap (x7_1 - 1)), (IntKind.u64.wrap (x8_1 + (IntKind.u64.wrap (rd l1 (ji19))))), zs, (by first | rfl | (simp; done) | (simp only [← hji19] <;> (first | rfl | simp)) | (simp [*]; done)), H', ⟨by have := HK1.out; omega⟩, ⟨zR HO_0⟩, ⟨kw⟩, ⟨bw⟩⟩
                ·rw [if_neg c21] at H
                 cases H
               ·rw [if_neg c20] at H
                cases H
              ·rw [if_neg c18] at H
               have c18b0 : decide ((IntKind.u64.wrap ((IntKind.u64.wrap (x8_1 * 1000000000)) + (IntKind.u64.wrap (rd l0 (ji14))))) < (IntKind.u64.wrap (x7_1 * (IntKind.u64.wrap (rd l1 (ji14)))))) = false := decide_eq_false c18
               clear c18
               have H' := Aside0.mk H
               clear H
               have p161 : 0 ≤ ((ji14) : Int) := zd
               have q161 : (ji14) < (l1.length : Int) := zd
               obtain ⟨ad161, e161, hx161_0⟩ := Kd.at_int (Kd.C_kept_now HR1.out HK.out) (ji14) p161 q161
               obtain rfl : ad159 = ad161 := (by injection e161)
               replace p161 := eq_true p161
               replace q161 := eq_true q161
               have p162 : 0 ≤ ((ji14) : Int) := zd
               have q162 : (ji14) < (l0.length : Int) := zd
               obtain ⟨ad162, e162, hx162_0⟩ := Kd.at_int (Kd.R_reads' HO_0.out).2.2 (ji14) p162 q162
               obtain rfl : ad157 = ad162 := (by injection e162)
               replace p162 := eq_true p162
               replace q162 := eq_true q162
               go_wp2
               repeat (go_quiet (fail); try go_wp2)
               go_meet
               case rel => exact ⟨_, (x7_1), zs, H', ⟨by have := HK1.out; first | omega | exact Nat.le_refl _⟩, ⟨zR HO_0⟩, ⟨kw⟩, ⟨bw⟩⟩
             ·rw [if_neg c17] at H
              cases H
            ·rw [if_neg c16] at H
             cases H
           ·rw [if_neg c15] at H
            cases H
          ·rw [if_neg c13] at H
           have c13b0 : decide (x8_1 < 1000000000) = false := decide_eq_false c13
           clear c13
           (first | rw [c13b0] | (simp only [i64_w, i32_w]; rw [c13b0]) | skip)
           have H' := Aside0.mk H
           clear H
           go_wp2
           repeat (go_quiet (fail); try go_wp2)
           go_meet
           case rel => exact ⟨_, (x7_1), zs, H', ⟨by have := HK1.out; first | omega | exact Nat.le_refl _⟩, ⟨zR HO_0⟩, ⟨kw⟩, ⟨bw⟩⟩
       case rest =>
        clear HC11
        try clear c1
        try clear p1
        try clear q1
        try clear hx1
        try clear c2
        try clear p2
        try clear c3
        try clear c3b0
        try clear c3b1
        try clear c4
        try clear c4b0
        try clear c4b1
        try clear c6
        try clear c6b0
        try clear p6
        try clear c7
        try clear c7b0
        try clear c8
        try clear c8b0
        try clear c9
        try clear c9b0
        try clear c9b1
        try clear c13
        try clear c13b0
        try clear c15
        try clear c15b0
        try clear p15
        try clear q15
        try clear hx15
        try clear c16
        try clear c16b0
        try clear p16
        try clear q16
        try clear hx16
        try clear c17
        try clear c17b0
        try clear c18
        try clear c18b0
        try clear c20
        try clear c20b0
        try clear c21
        try clear c21b0
        try clear hx157_0
        try clear hx158_0
        try clear hx159_0
        try clear hx160_0
        try clear hx161_0
        try clear hx162_0
        try clear hx163_0
        try clear p1
        try clear p157
        try clear p158
        try clear p159
        try clear p160
        try clear p161
        try clear p162
        try clear p163
        try clear p2
        try clear p6
        try clear q1
        try clear q157
        try clear q158
        try clear q159
        try clear q160
        try clear q161
        try clear q162
        try clear q163
        obtain ⟨kq, x7_10, rfl, HA, HJ10, HO_0, HK, HB⟩ := hcut
        cases kq with
        | zero => exact absurd HA.out (by simp [nat_digit.j1])
        | succ kj10 =>
         have H := HA.out
         clear HA
         simp only [nat_digit.j1] at H
         replace H := Option.bind_eq_some_iff.mp H
         obtain ⟨⟨t164, t165⟩, A220, H⟩ := H
         replace H : (if t164 = true then ((nat_more.f kj10 t165 l1).bind fun t166 => (some (IntKind.u64.wrap (x7_10 - 1), t166))) else (some (x7_10, t165))) = some (r1, r2) := H
         have A22 := Aside0.mk A220
         clear A220
         by_cases c23 : t164 = true
         ·subst c23
          have H1 : ((nat_more.f kj10 t165 l1).bind fun t166 => (some (IntKind.u64.wrap (x7_10 - 1), t166))) = some (r1, r2) := by rw [if_pos rfl] at H; exact H
          clear H
          have H := H1
          clear H1
          obtain ⟨t166, A24, H⟩ := zB H
          simp only [Option.some.injEq, Prod.mk.injEq] at H
          obtain ⟨rfl, rfl⟩ := H
          go_wp2_with (first | (go_at_call 202; (with_reducible refine (nat_less.calls kj10 (fun k_ => some k_ = (.slice (some ad157) l0.length co12 : Value).ownBlock) (.slice (some ad157) l0.length co12) l0 _ _ l1 x7_10 true t165 w0 _ ?side1 ?side2 ?side3 ?side4 A22.out).mono ?_); (case side1 => exact bw); (case side2 => exact Kd.R_tight rfl HO_0.out); (case side3 => exact Kd.C_kept_call HR1.out kw (fun k_ hs_ => (fun e_ => (HO_0.out.1 k_ e_.symm)) hs_)); (case side4 => exact HC1.out); rintro e w25 ⟨rfl, hy0, hb, hkp⟩; replace HK := Aside0.mk (Kept.then_ (S := (fun k_ => P0_ k_)) kw hkp (fun k_ hs_ => (fun e_ => (HO_0.out.1 k_ e_.symm)) hs_)); replace HO_0 := Aside0.mk (Kd.R_reok rfl hy0 (fun k_ e_ => HO_0.out.1 k_ e_)); replace HB := Aside0.mk (hb); clear hb) | (go_at_call 203; (with_reducible refine (nat_more.calls kj10 (fun k_ => some k_ = (.slice (some ad157) l0.length co12 : Value).ownBlock) (.slice (some ad157) l0.length co12) t165 _ _ l1 t166 w0 _ ?side1 ?side2 ?side3 ?side4 A24.out).mono ?_); (case side1 => exact bw); (case side2 => exact Kd.R_tight rfl HO_0.out); (case side3 => exact Kd.C_kept_call HR1.out kw (fun k_ hs_ => (fun e_ => (HO_0.out.1 k_ e_.symm)) hs_)); (case side4 => exact HC1.out); rintro e w26 ⟨rfl, hy0, hb, hkp⟩; replace HK := Aside0.mk (Kept.then_ (S := (fun k_ => P0_ k_)) kw hkp (fun k_ hs_ => (fun e_ => (HO_0.out.1 k_ e_.symm)) hs_)); replace HO_0 := Aside0.mk (Kd.R_reok rfl hy0 (fun k_ e_ => HO_0.out.1 k_ e_)); replace HB := Aside0.mk (hb); clear hb))
          repeat (go_quiet (first | (go_at_call 202; (with_reducible refine (nat_less.calls kj10 (fun k_ => some k_ = (.slice (some ad157) l0.length co12 : Value).ownBlock) (.slice (some ad157) l0.length co12) l0 _ _ l1 x7_10 true t165 w0 _ ?side1 ?side2 ?side3 ?side4 A22.out).mono ?_); (case side1 => exact bw); (case side2 => exact Kd.R_tight rfl HO_0.out); (case side3 => exact Kd.C_kept_call HR1.out kw (fun k_ hs_ => (fun e_ => (HO_0.out.1 k_ e_.symm)) hs_)); (case side4 => exact HC1.out); rintro e w25 ⟨rfl, hy0, hb, hkp⟩; replace HK := Aside0.mk (Kept.then_ (S := (fun k_ => P0_ k_)) kw hkp (fun k_ hs_ => (fun e_ => (HO_0.out.1 k_ e_.symm)) hs_)); replace HO_0 := Aside0.mk (Kd.R_reok rfl hy0 (fun k_ e_ => HO_0.out.1 k_ e_)); replace HB := Aside0.mk (hb); clear hb) | (go_at_call 203; (with_reducible refine (nat_more.calls kj10 (fun k_ => some k_ = (.slice (some ad157) l0.length co12 : Value).ownBlock) (.slice (some ad157) l0.length co12) t165 _ _ l1 t166 w0 _ ?side1 ?side2 ?side3 ?side4 A24.out).mono ?_); (case side1 => exact bw); (case side2 => exact Kd.R_tight rfl HO_0.out); (case side3 => exact Kd.C_kept_call HR1.out kw (fun k_ hs_ => (fun e_ => (HO_0.out.1 k_ e_.symm)) hs_)); (case side4 => exact HC1.out); rintro e w26 ⟨rfl, hy0, hb, hkp⟩; replace HK := Aside0.mk (Kept.then_ (S := (fun k_ => P0_ k_)) kw hkp (fun k_ hs_ => (fun e_ => (HO_0.out.1 k_ e_.symm)) hs_)); replace HO_0 := Aside0.mk (Kd.R_reok rfl hy0 (fun k_ e_ => HO_0.out.1 k_ e_)); replace HB := Aside0.mk (hb); clear hb)); try go_wp2_with (first | (go_at_call 202; (with_reducible refine (nat_less.calls kj10 (fun k_ => some k_ = (.slice (some ad157) l0.length co12 : Value).ownBlock) (.slice (some ad157) l0.length co12) l0 _ _ l1 x7_10 true t165 w0 _ ?side1 ?side2 ?side3 ?side4 A22.out).mono ?_); (case side1 => exact bw); (case side2 => exact Kd.R_tight rfl HO_0.out); (case side3 => exact Kd.C_kept_call HR1.out kw (fun k_ hs_ => (fun e_ => (HO_0.out.1 k_ e_.symm)) hs_)); (case side4 => exact HC1.out); rintro e w25 ⟨rfl, hy0, hb, hkp⟩; replace HK := Aside0.mk (Kept.then_ (S := (fun k_ => P0_ k_)) kw hkp (fun k_ hs_ => (fun e_ => (HO_0.out.1 k_ e_.symm)) hs_)); replace HO_0 := Aside0.mk (Kd.R_reok rfl hy0 (fun k_ e_ => HO_0.out.1 k_ e_)); replace HB := Aside0.mk (hb); clear hb) | (go_at_call 203; (with_reducible refine (nat_more.calls kj10 (fun k_ => some k_ = (.slice (some ad157) l0.length co12 : Value).ownBlock) (.slice (some ad157) l0.length co12) t165 _ _ l1 t166 w0 _ ?side1 ?side2 ?side3 ?side4 A24.out).mono ?_); (case side1 => exact bw); (case side2 => exact Kd.R_tight rfl HO_0.out); (case side3 => exact Kd.C_kept_call HR1.out kw (fun k_ hs_ => (fun e_ => (HO_0.out.1 k_ e_.symm)) hs_)); (case side4 => exact HC1.out); rintro e w26 ⟨rfl, hy0, hb, hkp⟩; replace HK := Aside0.mk (Kept.then_ (S := (fun k_ => P0_ k_)) kw hkp (fun k_ hs_ => (fun e_ => (HO_0.out.1 k_ e_.symm)) hs_)); replace HO_0 := Aside0.mk (Kd.R_reok rfl hy0 (fun k_ e_ => HO_0.out.1 k_ e_)); replace HB := Aside0.mk (hb); clear hb)))
          go_ret
          exact ⟨by first | rfl | (simp [errW_none, errW_some] <;> rfl) | (simp only [← hji5, ← hji10]; first | rfl | (simp [errW_none, errW_some] <;> rfl)) | (simp [*, errW_none, errW_some] <;> rfl), zR HO_0, bw, kw⟩
         ·replace c23 := Bool.eq_false_iff.mpr c23
          subst c23
          have H1 : (some (x7_10, t165)) = some (r1, r2) := by rw [if_neg (show ¬ (false = true) by decide)] at H; exact H
          clear H
          have H := H1
          clear H1
          simp only [Option.some.injEq, Prod.mk.injEq] at H
          obtain ⟨rfl, rfl⟩ := H
          go_wp2_with (first | (go_at_call 202; (with_reducible refine (nat_less.calls kj10 (fun k_ => some k_ = (.slice (some ad157) l0.length co12 : Value).ownBlock) (.slice (some ad157) l0.length co12) l0 _ _ l1 x7_10 false t165 w0 _ ?side1 ?side2 ?side3 ?side4 A22.out).mono ?_); (case side1 => exact bw); (case side2 => exact Kd.R_tight rfl HO_0.out); (case side3 => exact Kd.C_kept_call HR1.out kw (fun k_ hs_ => (fun e_ => (HO_0.out.1 k_ e_.symm)) hs_)); (case side4 => exact HC1.out); rintro e w27 ⟨rfl, hy0, hb, hkp⟩; replace HK := Aside0.mk (Kept.then_ (S := (fun k_ => P0_ k_)) kw hkp (fun k_ hs_ => (fun e_ => (HO_0.out.1 k_ e_.symm)) hs_)); replace HO_0 := Aside0.mk (Kd.R_reok rfl hy0 (fun k_ e_ => HO_0.out.1 k_ e_)); replace HB := Aside0.mk (hb); clear hb))
          repeat (go_quiet (first | (go_at_call 202; (with_reducible refine (nat_less.calls kj10 (fun k_ => some k_ = (.slice (some ad157) l0.length co12 : Value).ownBlock) (.slice (some ad157) l0.length co12) l0 _ _ l1 x7_10 false t165 w0 _ ?side1 ?side2 ?side3 ?side4 A22.out).mono ?_); (case side1 => exact bw); (case side2 => exact Kd.R_tight rfl HO_0.out); (case side3 => exact Kd.C_kept_call HR1.out kw (fun k_ hs_ => (fun e_ => (HO_0.out.1 k_ e_.symm)) hs_)); (case side4 => exact HC1.out); rintro e w27 ⟨rfl, hy0, hb, hkp⟩; replace HK := Aside0.mk (Kept.then_ (S := (fun k_ => P0_ k_)) kw hkp (fun k_ hs_ => (fun e_ => (HO_0.out.1 k_ e_.symm)) hs_)); replace HO_0 := Aside0.mk (Kd.R_reok rfl hy0 (fun k_ e_ => HO_0.out.1 k_ e_)); replace HB := Aside0.mk (hb); clear hb)); try go_wp2_with (first | (go_at_call 202; (with_reducible refine (nat_less.calls kj10 (fun k_ => some k_ = (.slice (some ad157) l0.length co12 : Value).ownBlock) (.slice (some ad157) l0.length co12) l0 _ _ l1 x7_10 false t165 w0 _ ?side1 ?side2 ?side3 ?side4 A22.out).mono ?_); (case side1 => exact bw); (case side2 => exact Kd.R_tight rfl HO_0.out); (case side3 => exact Kd.C_kept_call HR1.out kw (fun k_ hs_ => (fun e_ => (HO_0.out.1 k_ e_.symm)) hs_)); (case side4 => exact HC1.out); rintro e w27 ⟨rfl, hy0, hb, hkp⟩; replace HK := Aside0.mk (Kept.then_ (S := (fun k_ => P0_ k_)) kw hkp (fun k_ hs_ => (fun e_ => (HO_0.out.1 k_ e_.symm)) hs_)); replace HO_0 := Aside0.mk (Kd.R_reok rfl hy0 (fun k_ e_ => HO_0.out.1 k_ e_)); replace HB := Aside0.mk (hb); clear hb)))
          go_ret
          exact ⟨by first | rfl | (simp [errW_none, errW_some] <;> rfl) | (simp only [← hji5, ← hji10]; first | rfl | (simp [errW_none, errW_some] <;> rfl)) | (simp [*, errW_none, errW_some] <;> rfl), zR HO_0, bw, kw⟩
     ·rw [if_neg c8] at H
      cases H
    ·rw [if_neg c7] at H
     cases H
   ·rw [if_neg c6] at H
    cases H
  ·rw [if_neg c4] at H
   cases H
 ·rw [if_neg c3] at H
  cases H

end Go.Proofs.YtaffkbemjbfajaaGreatDoor.PNumForms
