-- By a program of this session (a changed copy of the kit's printer): functions of the seat as plain Lean functions, each with its proof over the machine.
import Derived.Test.YtaffkbemjbfajaaGreatDoorPNumFormsx0
namespace Go.Proofs.YtaffkbemjbfajaaGreatDoor.PNumForms
open Go.RowKit Go.Proofs.YtaffkbemjbfajaaGreatDoorW.PrintWords Go.Proofs.YtaffkbemjbfajaaGreatDoorW.PrintLast Go.Proofs.YtaffkbemjbfajaaGreatDoorW.PrintMore
attribute [local go_sem] max2_int min2_int max_two min_two max_three min_three max_four min_four   -- for this text's walks alone
set_option linter.unusedVariables false
set_option linter.unusedSimpArgs false

def nat_scaled.l0 : Nat → List Int → Int → List Int → Int → Int → Int → Option (List Int)
 | 0, _, _, _, _, _, _ => none
 | k + 1, x0, x1, x7, x8, x14, x15 => if x15 < x14 then (if x15 < (x0.length : Int) then (if 0 ≤ x15 then (if x15 < (x7.length : Int) then (nat_scaled.l0 k x0 x1 (x7.set (x15 : Int).toNat ((Int.tmod (IntKind.u64.wrap (x8 + (IntKind.u64.wrap ((IntKind.u64.wrap (rd x0 x15)) * x1)))) 1000000000) % 4294967296)) (IntKind.u64.wrap (Int.tdiv (IntKind.u64.wrap (x8 + (IntKind.u64.wrap ((IntKind.u64.wrap (rd x0 x15)) * x1)))) 1000000000)) x14 (wrap64 (x15 + 1))) else (none)) else (none)) else (if 0 ≤ x15 then (if x15 < (x7.length : Int) then (nat_scaled.l0 k x0 x1 (x7.set (x15 : Int).toNat ((Int.tmod x8 1000000000) % 4294967296)) (IntKind.u64.wrap (Int.tdiv x8 1000000000)) x14 (wrap64 (x15 + 1))) else (none)) else (none))) else (some x7)
def nat_scaled.f (k : Nat) (l0 : List Int) (a1 : Int) (a2 : Int) : Option (List Int) := if 0 ≤ a2 then (if (a2 : Int).toNat ≤ 70368744177664 then ((some (List.replicate (a2 : Int).toNat 0 : List Int)).bind fun y140 => (nat_scaled.l0 k l0 a1 y140 0 (y140.length : Int) 0)) else (none)) else (none)
theorem nat_scaled.mono_l : ∀ k, (∀ y0 y1 y2 y3 y4 y5, LeO (nat_scaled.l0 k y0 y1 y2 y3 y4 y5) (nat_scaled.l0 (k + 1) y0 y1 y2 y3 y4 y5))
 | 0 => fun _ _ _ _ _ _ r h => by simp [nat_scaled.l0] at h
 | k + 1 => by
  have ih0 := nat_scaled.mono_l k
  ·intro y0 y1 y2 y3 y4 y5
   unfold nat_scaled.l0
   exact zM
theorem nat_scaled.mono : ∀ a0 a1 a2 k, LeO (nat_scaled.f k a0 a1 a2) (nat_scaled.f (k + 1) a0 a1 a2) := by
 intro a0 a1 a2 k
 have ih0 := nat_scaled.mono_l k
 unfold nat_scaled.f
 exact zM
set_option maxHeartbeats 8000000 in
set_option maxRecDepth 100000 in
theorem nat_scaled.calls (k : Nat) (A0 : Option Addr) (c0 : Nat) (l0 : List Int) (a1 : Int) (a2 : Int) (r : List Int) (w : World) (hr0 : Kd.C (Kd.int .u32) w A0 l0.length l0) (hc0 : l0.length ≤ c0) (h : nat_scaled.f k l0 a1 a2 = some r) :
  Calls Tryz.prog 179 #[.slice A0 l0.length c0, .int .u64 a1, .int .i64 a2] w fun e w' => ∃ v0_ : Value, e = .returned (v0_) ∧ Kd.R (Kd.int .u32) 97 w' w.heap.size (fun _ => True) v0_ r ∧ Below w.heap.size w w' := by
 have HR0 := Aside0.mk hr0
 have HC0 := Aside0.mk hc0
 clear hr0 hc0
 have HB := Aside0.mk (Below.refl w.heap.size w)
 have H : (if 0 ≤ a2 then (if (a2 : Int).toNat ≤ 70368744177664 then ((some (List.replicate (a2 : Int).toNat 0 : List Int)).bind fun y140 => (nat_scaled.l0 k l0 a1 y140 0 (y140.length : Int) 0)) else (none)) else (none)) = some r := h
 clear h
 by_cases c4 : 0 ≤ a2
 ·rw [if_pos c4] at H
  have c4b0 := eq_true c4
  have c4b1 : decide (0 ≤ a2) = true := decide_eq_true c4
  clear c4
  by_cases c5 : (a2 : Int).toNat ≤ 70368744177664
  ·rw [if_pos c5] at H
   have c5b0 := eq_true c5
   have c5b1 : decide ((a2 : Int).toNat ≤ 70368744177664) = true := decide_eq_true c5
   clear c5
   obtain ⟨y140, hy140⟩ : ∃ y_ : List Int, y_ = (List.replicate (a2 : Int).toNat 0) := ⟨_, rfl⟩
   replace H : (nat_scaled.l0 k l0 a1 y140 0 (y140.length : Int) 0) = some r := zy hy140 H
   have Ny140 := Aside0.mk hy140
   clear hy140
   have H' := Aside0.mk H
   clear H
   go_enter Tryz.func179, Tryz.ntmps179
   go_wp2_with (first | ((with_reducible refine gate_dst (N := 12) rfl ?_); refine Kd.R_make (Kd.int .u32) _ 97 rfl (N := 12) rfl 101 _ _ rfl a2 rfl rfl Tryz.underlying101 (.int .u32 0) 4 info97 rfl (by decide) (by omega) 0 (ok := fun _ => True) (okp := fun _ => True) rfl (fun _ hk => hk) trivial (zd) (Nat.le_trans (Nat.mul_le_mul_right _ (zd : a2.toNat ≤ 70368744177664)) (by omega)) (Below.refl _ _) (Nat.le_refl _) ?_; intro v141 w6 ho7 hb hg_ hnew_; clear hg_ hnew_; (first | rw [← Ny140.out] at ho7 | (simp only [Int.reduceToNat] at ho7; rw [← Ny140.out] at ho7)); have HO142 := Aside0.mk (Kd.R_lower ho7 bs); replace HB := sB hb; clear hb ho7; obtain ⟨Ao8, co8, rfl⟩ := Kd.R_slice HO142.out))
   go_loopg [8, 15] k (fun kq v8 v15 w' => ∃ (x7_1 : List Int) (x8_1 : Int) (x15_1 : Int), v8 = .int .u64 x8_1 ∧ v15 = .int .i64 x15_1 ∧ Aside0 (nat_scaled.l0 kq l0 a1 x7_1 x8_1 (y140.length : Int) x15_1 = some r) ∧ Aside0 (kq ≤ k) ∧ Aside0 (Kd.R (Kd.int .u32) 97 w' w.heap.size (fun _ => True) (.slice Ao8 y140.length co8) x7_1) ∧ Aside0 (Below w.heap.size w w'))
   case atStart => exact ⟨(y140), (0), (0), zs, zs, H', ⟨Nat.le_refl _⟩, ⟨zR HO142⟩, ⟨bw⟩⟩
   case round =>
    clear H'
    try clear c1
    try clear p2
    try clear c4
    try clear c4b0
    try clear c4b1
    try clear c5
    try clear c5b0
    try clear c5b1
    obtain ⟨x7_1, x8_1, x15_1, rfl, rfl, HA, HK1, HO_7, HB⟩ := hrel
    have hl7_1 := (Kd.R_reads' HO_7.out).1
    rw [hl7_1] at HO_7
    (try simp only [hl7_1])
    cases gk with
    | zero => exact absurd HA.out (by simp [nat_scaled.l0])
    | succ k1 =>
     have H := HA.out
     clear HA
     simp only [nat_scaled.l0] at H
     by_cases c9 : x15_1 < (y140.length : Int)
     ·rw [if_pos c9] at H
      have c9b0 : decide (x15_1 < (y140.length : Int)) = true := decide_eq_true c9
      (try (have c9b0_hl7_1 := c9b0; simp only [hl7_1] at c9b0_hl7_1))
      clear c9
      by_cases c10 : x15_1 < (l0.length : Int)
      ·rw [if_pos c10] at H
       have c10b0 : decide (x15_1 < (l0.length : Int)) = true := decide_eq_true c10
       (try (have c10b0_hl7_1 := c10b0; simp only [hl7_1] at c10b0_hl7_1))
       clear c10
       by_cases c11 : 0 ≤ x15_1
       ·rw [if_pos c11] at H
        have c11b0 : decide (0 ≤ x15_1) = true := decide_eq_true c11
        clear c11
        by_cases c12 : x15_1 < (x7_1.length : Int)
        ·rw [if_pos c12] at H
         have c12b0 : decide (x15_1 < (x7_1.length : Int)) = true := decide_eq_true c12
         (try (have c12b0_hl7_1 := c12b0; simp only [hl7_1] at c12b0_hl7_1))
         clear c12
         obtain ⟨y144, hy144⟩ : ∃ y_ : List Int, y_ = (x7_1.set (x15_1 : Int).toNat ((Int.tmod (IntKind.u64.wrap (x8_1 + (IntKind.u64.wrap ((IntKind.u64.wrap (rd l0 x15_1)) * a1)))) 1000000000) % 4294967296)) := ⟨_, rfl⟩
         replace H : (nat_scaled.l0 k1 l0 a1 y144 (IntKind.u64.wrap (Int.tdiv (IntKind.u64.wrap (x8_1 + (IntKind.u64.wrap ((IntKind.u64.wrap (rd l0 x15_1)) * a1)))) 1000000000)) (y140.length : Int) (wrap64 (x15_1 + 1))) = some r := zy hy144 H
         have Ny144 := Aside0.mk hy144
         clear hy144
         have H' := Aside0.mk H
         clear H
         have p143 : 0 ≤ (x15_1 : Int) := zd
         have q143 : x15_1 < (l0.length : Int) := zd
         obtain ⟨ad143, e143, hx143_0⟩ := Kd.at_int HR0.out x15_1 p143 q143
         cases e143
         replace hx143_0 := (HB.out.cell (World.block_lt_of_cell? w _ hx143_0)).trans hx143_0
         replace p143 := eq_true p143
         replace q143 := eq_true q143
         have p13 : 0 ≤ (x15_1 : Int) := zd
         have q13 : (x15_1 : Int) < ((x7_1.length : Int) : Int) := zd
         obtain ⟨go13, co13, eo13, gb13, gl13, cl13, HG13⟩ := Kd.R_form HO_7.out (by omega)
         (first | cases eo13 | (injection eo13 with ea_ en_ ec_; (first | subst ea_ | (injection ea_ with ea_; subst ea_)); subst ec_; clear en_))
         have GB13 := Aside0.mk gb13
         have GG13 := Aside0.mk HG13
         clear gb13 gl13 HG13
         obtain ⟨hx13_0, hf13_0⟩ := Kd.R_celln 0 HO_7.out (x15_1 : Int) p13 q13
         replace p13 := eq_true p13
         replace q13 := eq_true q13
         have HP14 := Kd.R_putg HO_7.out (x15_1 : Int) ((Int.tmod (IntKind.u64.wrap (x8_1 + (IntKind.u64.wrap ((IntKind.u64.wrap (rd l0 x15_1)) * a1)))) 1000000000) % 4294967296)
         go_wp2_with (first | ((with_reducible refine gate_store (t := 97) (p := 39) rfl ?_); refine store_event (t := 97) (p := 39) (v := ?vo_w15) (w1 := (wr.setCell ⟨go13, (x15_1 : Int).toNat, none⟩ (.int .u32 ((Int.tmod (IntKind.u64.wrap (x8_1 + (IntKind.u64.wrap ((IntKind.u64.wrap (rd l0 x15_1)) * a1)))) 1000000000) % 4294967296)))) ?hg ?ho ?hn ?hr ?_; (case ho => rfl); (case hg => rfl); (case hn => rfl); (case hr => first | (go_simp; done) | (go_simp; rfl)); intro w15 hw; have hg : wr.grownBy w15 (some go13) := (by rw [hw]; exact HP14.2); have hp_ : Kd.R (Kd.int .u32) 97 w15 w.heap.size (fun _ => True) (.slice (some ⟨go13, 0, none⟩) x7_1.length co8) y144 := (by rw [hw, Ny144.out]; exact HP14.1); clear HP14; replace HO_7 := Aside0.mk (hp_); replace HB := Aside0.mk ((by rw [hw]; exact below_set (HB.out) GB13.out : Below w.heap.size w w15)); clear hg hw hp_))
         (try simp only [← hl7_1])
         go_roundg k1
         case measure => have := HK1.out; omega
         case rel => exact ⟨(y144), (IntKind.u64.wrap (Int.tdiv (IntKind.u64.wrap (x8_1 + (IntKind.u64.wrap ((IntKind.u64.wrap (rd l0 x15_1)) * a1)))) 1000000000)), (wrap64 (x15_1 + 1)), zs, zs, H', ⟨by have := HK1.out; omega⟩, ⟨by (try simp only [hl7_1]); (with_reducible repeat (first | apply Kd.R_alloc | apply Kd.R_drewN | apply Kd.R_drew)); exact HO_7.out⟩, ⟨bw⟩⟩
        ·rw [if_neg c12] at H
         cases H
       ·rw [if_neg c11] at H
        cases H
      ·rw [if_neg c10] at H
       have c10b0 : decide (x15_1 < (l0.length : Int)) = false := decide_eq_false c10
       (try (have c10b0_hl7_1 := c10b0; simp only [hl7_1] at c10b0_hl7_1))
       clear c10
       by_cases c16 : 0 ≤ x15_1
       ·rw [if_pos c16] at H
        have c16b0 : decide (0 ≤ x15_1) = true := decide_eq_true c16
        clear c16
        by_cases c17 : x15_1 < (x7_1.length : Int)
        ·rw [if_pos c17] at H
         have c17b0 : decide (x15_1 < (x7_1.length : Int)) = true := decide_eq_true c17
         (try (have c17b0_hl7_1 := c17b0; simp only [hl7_1] at c17b0_hl7_1))
         clear c17
         obtain ⟨y145, hy145⟩ : ∃ y_ : List Int, y_ = (x7_1.set (x15_1 : Int).toNat ((Int.tmod x8_1 1000000000) % 4294967296)) := ⟨_, rfl⟩
         replace H : (nat_scaled.l0 k1 l0 a1 y145 (IntKind.u64.wrap (Int.tdiv x8_1 1000000000)) (y140.length : Int) (wrap64 (x15_1 + 1))) = some r := zy hy145 H
         have Ny145 := Aside0.mk hy145
         clear hy145
         have H' := Aside0.mk H
         clear H
         have p18 : 0 ≤ (x15_1 : Int) := zd
         have q18 : (x15_1 : Int) < ((x7_1.length : Int) : Int) := zd
         obtain ⟨go18, co18, eo18, gb18, gl18, cl18, HG18⟩ := Kd.R_form HO_7.out (by omega)
         (first | cases eo18 | (injection eo18 with ea_ en_ ec_; (first | subst ea_ | (injection ea_ with ea_; subst ea_)); subst ec_; clear en_))
         have GB18 := Aside0.mk gb18
         have GG18 := Aside0.mk HG18
         clear gb18 gl18 HG18
         obtain ⟨hx18_0, hf18_0⟩ := Kd.R_celln 0 HO_7.out (x15_1 : Int) p18 q18
         replace p18 := eq_true p18
         replace q18 := eq_true q18
         have HP19 := Kd.R_putg HO_7.out (x15_1 : Int) ((Int.tmod x8_1 1000000000) % 4294967296)
         go_wp2_with (first | ((with_reducible refine gate_store (t := 97) (p := 39) rfl ?_); refine store_event (t := 97) (p := 39) (v := ?vo_w20) (w1 := (wr.setCell ⟨go18, (x15_1 : Int).toNat, none⟩ (.int .u32 ((Int.tmod x8_1 1000000000) % 4294967296)))) ?hg ?ho ?hn ?hr ?_; (case ho => rfl); (case hg => rfl); (case hn => rfl); (case hr => first | (go_simp; done) | (go_simp; rfl)); intro w20 hw; have hg : wr.grownBy w20 (some go18) := (by rw [hw]; exact HP19.2); have hp_ : Kd.R (Kd.int .u32) 97 w20 w.heap.size (fun _ => True) (.slice (some ⟨go18, 0, none⟩) x7_1.length co8) y145 := (by rw [hw, Ny145.out]; exact HP19.1); clear HP19; replace HO_7 := Aside0.mk (hp_); replace HB := Aside0.mk ((by rw [hw]; exact below_set (HB.out) GB18.out : Below w.heap.size w w20)); clear hg hw hp_))
         (try simp only [← hl7_1])
         go_roundg k1
         case measure => have := HK1.out; omega
         case rel => exact ⟨(y145), (IntKind.u64.wrap (Int.tdiv x8_1 1000000000)), (wrap64 (x15_1 + 1)), zs, zs, H', ⟨by have := HK1.out; omega⟩, ⟨by (try simp only [hl7_1]); (with_reducible repeat (first | apply Kd.R_alloc | apply Kd.R_drewN | apply Kd.R_drew)); exact HO_7.out⟩, ⟨bw⟩⟩
        ·rw [if_neg c17] at H
         cases H
       ·rw [if_neg c16] at H
        cases H
     ·rw [if_neg c9] at H
      have c9b0 : decide (x15_1 < (y140.length : Int)) = false := decide_eq_false c9
      (try (have c9b0_hl7_1 := c9b0; simp only [hl7_1] at c9b0_hl7_1))
      clear c9
      obtain rfl := Option.some.inj H
      go_wp2
      go_ret
      exact ⟨_, ze, zR HO_7, bw⟩
  ·rw [if_neg c5] at H
   cases H
 ·rw [if_neg c4] at H
  cases H

def nat_less.l0 : Nat → List Int → List Int → Int → Int → Int → Int → Option (Bool × List Int)
 | 0, _, _, _, _, _, _ => none
 | k + 1, x0, x1, x2, x7, x13, x14 => if x14 < x13 then (if x14 < (x1.length : Int) then (if 0 ≤ x14 then (if x14 < (x0.length : Int) then (if (IntKind.u64.wrap (rd x0 x14)) < (Int.tmod (IntKind.u64.wrap (x7 + (IntKind.u64.wrap (x2 * (IntKind.u64.wrap (rd x1 x14)))))) 1000000000) then (nat_less.l0 k (x0.set (x14 : Int).toNat ((IntKind.u64.wrap ((IntKind.u64.wrap (rd x0 x14)) + (IntKind.u64.wrap (1000000000 - (Int.tmod (IntKind.u64.wrap (x7 + (IntKind.u64.wrap (x2 * (IntKind.u64.wrap (rd x1 x14)))))) 1000000000))))) % 4294967296)) x1 x2 (IntKind.u64.wrap ((IntKind.u64.wrap (Int.tdiv (IntKind.u64.wrap (x7 + (IntKind.u64.wrap (x2 * (IntKind.u64.wrap (rd x1 x14)))))) 1000000000)) + 1)) x13 (wrap64 (x14 + 1))) else (nat_less.l0 k (x0.set (x14 : Int).toNat ((IntKind.u64.wrap ((IntKind.u64.wrap (rd x0 x14)) - (Int.tmod (IntKind.u64.wrap (x7 + (IntKind.u64.wrap (x2 * (IntKind.u64.wrap (rd x1 x14)))))) 1000000000))) % 4294967296)) x1 x2 (IntKind.u64.wrap (Int.tdiv (IntKind.u64.wrap (x7 + (IntKind.u64.wrap (x2 * (IntKind.u64.wrap (rd x1 x14)))))) 1000000000)) x13 (wrap64 (x14 + 1)))) else (none)) else (none)) else (if 0 ≤ x14 then (if x14 < (x0.length : Int) then (if (IntKind.u64.wrap (rd x0 x14)) < (Int.tmod x7 1000000000) then (nat_less.l0 k (x0.set (x14 : Int).toNat ((IntKind.u64.wrap ((IntKind.u64.wrap (rd x0 x14)) + (IntKind.u64.wrap (1000000000 - (Int.tmod x7 1000000000))))) % 4294967296)) x1 x2 (IntKind.u64.wrap ((IntKind.u64.wrap (Int.tdiv x7 1000000000)) + 1)) x13 (wrap64 (x14 + 1))) else (nat_less.l0 k (x0.set (x14 : Int).toNat ((IntKind.u64.wrap ((IntKind.u64.wrap (rd x0 x14)) - (Int.tmod x7 1000000000))) % 4294967296)) x1 x2 (IntKind.u64.wrap (Int.tdiv x7 1000000000)) x13 (wrap64 (x14 + 1)))) else (none)) else (none))) else (some (decide (x7 > 0), x0))
def nat_less.f (k : Nat) (l0 : List Int) (l1 : List Int) (a2 : Int) : Option (Bool × List Int) := nat_less.l0 k l0 l1 a2 0 (l0.length : Int) 0
theorem nat_less.mono_l : ∀ k, (∀ y0 y1 y2 y3 y4 y5, LeO (nat_less.l0 k y0 y1 y2 y3 y4 y5) (nat_less.l0 (k + 1) y0 y1 y2 y3 y4 y5))
 | 0 => fun _ _ _ _ _ _ r h => by simp [nat_less.l0] at h
 | k + 1 => by
  have ih0 := nat_less.mono_l k
  ·intro y0 y1 y2 y3 y4 y5
   unfold nat_less.l0
   exact zM
theorem nat_less.mono : ∀ a0 a1 a2 k, LeO (nat_less.f k a0 a1 a2) (nat_less.f (k + 1) a0 a1 a2) := by
 intro a0 a1 a2 k
 have ih0 := nat_less.mono_l k
 unfold nat_less.f
 exact zM
set_option maxHeartbeats 8000000 in
set_option maxRecDepth 100000 in
theorem nat_less.calls (k : Nat) (P0_ : Nat → Prop) (u9000_ : Value) (l0 : List Int) (A1 : Option Addr) (c1 : Nat) (l1 : List Int) (a2 : Int) (r1 : Bool) (r2 : List Int) (w0 w : World) (hB : Below w0.heap.size w0 w) (ho0 : Kd.R (Kd.int .u32) 97 w w0.heap.size P0_ u9000_ l0) (hr1 : ∀ W_, Kept w W_ (fun k_ => P0_ k_) → Kd.C (Kd.int .u32) W_ A1 l1.length l1) (hc1 : l1.length ≤ c1) (h : nat_less.f k l0 l1 a2 = some (r1, r2)) :
  Calls Tryz.prog 202 #[u9000_, .slice A1 l1.length c1, .int .u64 a2] w fun e w' => e = .returned (.bool r1) ∧ Kd.R (Kd.int .u32) 97 w' w0.heap.size (fun k_ => (P0_ k_ ∨ w.heap.size ≤ k_)) u9000_ r2 ∧ Below w0.heap.size w0 w' ∧ Kept w w' (fun k_ => P0_ k_) := by
 have HO0 := Aside0.mk (show Kd.R (Kd.int .u32) 97 w w0.heap.size (fun k_ => (P0_ k_ ∨ w.heap.size ≤ k_)) u9000_ l0 from Kd.R_mono ho0 (fun k_ hk => (.inl hk)))
 have HR1 := Aside0.mk hr1
 have HC1 := Aside0.mk hc1
 clear hr1 hc1
 have HK := Aside0.mk (Kept.refl w (fun k_ => P0_ k_))
 have HW0 := Aside0.mk hB.size
 have HB := Aside0.mk hB
 clear hB
 have H : (nat_less.l0 k l0 l1 a2 0 (l0.length : Int) 0) = some (r1, r2) := h
 clear h
 have H' := Aside0.mk H
 clear H
 obtain ⟨Ao4, co4, rfl⟩ := Kd.R_slice HO0.out
 go_enter Tryz.func202, Tryz.ntmps202
 go_wp2
 go_loopg [7, 14] k (fun kq v7 v14 w' => ∃ (x0_1 : List Int) (x7_1 : Int) (x14_1 : Int), v7 = .int .u64 x7_1 ∧ v14 = .int .i64 x14_1 ∧ Aside0 (nat_less.l0 kq x0_1 l1 a2 x7_1 (l0.length : Int) x14_1 = some (r1, r2)) ∧ Aside0 (kq ≤ k) ∧ Aside0 (Kd.R (Kd.int .u32) 97 w' w0.heap.size (fun k_ => (P0_ k_ ∨ w.heap.size ≤ k_)) (.slice Ao4 l0.length co4) x0_1) ∧ Aside0 (Kept w w' (fun k_ => P0_ k_)) ∧ Aside0 (Below w0.heap.size w0 w'))
 case atStart => exact ⟨(l0), (0), (0), zs, zs, H', ⟨Nat.le_refl _⟩, ⟨zR HO0⟩, ⟨kw⟩, ⟨bw⟩⟩
 case round =>
  clear H'
  try clear c1
  try clear c2
  try clear p2
  obtain ⟨x0_1, x7_1, x14_1, rfl, rfl, HA, HK1, HO_0, HK, HB⟩ := hrel
  have hl0_1 := (Kd.R_reads' HO_0.out).1
  rw [hl0_1] at HO_0
  (try simp only [hl0_1])
  cases gk with
  | zero => exact absurd HA.out (by simp [nat_less.l0])
  | succ k1 =>
   have H := HA.out
   clear HA
   simp only [nat_less.l0] at H
   by_cases c5 : x14_1 < (l0.length : Int)
   ·rw [if_pos c5] at H
    have c5b0 : decide (x14_1 < (l0.length : Int)) = true := decide_eq_true c5
    (try (have c5b0_hl0_1 := c5b0; simp only [hl0_1] at c5b0_hl0_1))
    clear c5
    by_cases c6 : x14_1 < (l1.length : Int)
    ·rw [if_pos c6] at H
     have c6b0 : decide (x14_1 < (l1.length : Int)) = true := decide_eq_true c6
     (try (have c6b0_hl0_1 := c6b0; simp only [hl0_1] at c6b0_hl0_1))
     clear c6
     by_cases c7 : 0 ≤ x14_1
     ·rw [if_pos c7] at H
      have c7b0 : decide (0 ≤ x14_1) = true := decide_eq_true c7
      clear c7
      by_cases c8 : x14_1 < (x0_1.length : Int)
      ·rw [if_pos c8] at H
       have c8b0 : decide (x14_1 < (x0_1.length : Int)) = true := decide_eq_true c8
       (try (have c8b0_hl0_1 := c8b0; simp only [hl0_1] at c8b0_hl0_1))
       clear c8
       by_cases c9 : (IntKind.u64.wrap (rd x0_1 x14_1)) < (Int.tmod (IntKind.u64.wrap (x7_1 + (IntKind.u64.wrap (a2 * (IntKind.u64.wrap (rd l1 x14_1)))))) 1000000000)
       ·rw [if_pos c9] at H
        have c9b0 : decide ((IntKind.u64.wrap (rd x0_1 x14_1)) < (Int.tmod (IntKind.u64.wrap (x7_1 + (IntKind.u64.wrap (a2 * (IntKind.u64.wrap (rd l1 x14_1)))))) 1000000000)) = true := decide_eq_true c9
        clear c9
        obtain ⟨y148, hy148⟩ : ∃ y_ : List Int, y_ = (x0_1.set (x14_1 : Int).toNat ((IntKind.u64.wrap ((IntKind.u64.wrap (rd x0_1 x14_1)) + (IntKind.u64.wrap (1000000000 - (Int.tmod (IntKind.u64.wrap (x7_1 + (IntKind.u64.wrap (a2 * (IntKind.u64.wrap (rd l1 x14_1)))))) 1000000000))))) % 4294967296)) := ⟨_, rfl⟩
        replace H : (nat_less.l0 k1 y148 l1 a2 (IntKind.u64.wrap ((IntKind.u64.wrap (Int.tdiv (IntKind.u64.wrap (x7_1 + (IntKind.u64.wrap (a2 * (IntKind.u64.wrap (rd l1 x14_1)))))) 1000000000)) + 1)) (l0.length : Int) (wrap64 (x14_1 + 1))) = some (r1, r2) := zy hy148 H
        have Ny148 := Aside0.mk hy148
        clear hy148
        have H' := Aside0.mk H
        clear H
        have p146 : 0 ≤ (x14_1 : Int) := zd
        have q146 : x14_1 < (l1.length : Int) := zd
        obtain ⟨ad146, e146, hx146_0⟩ := Kd.at_int (Kd.C_kept_now HR1.out HK.out) x14_1 p146 q146
        cases e146
        replace p146 := eq_true p146
        replace q146 := eq_true q146
        have p147 : 0 ≤ (x14_1 : Int) := zd
        have q147 : x14_1 < (x0_1.length : Int) := zd
        obtain ⟨ad147, e147, hx147_0⟩ := Kd.at_int (Kd.R_reads' HO_0.out).2.2 x14_1 p147 q147
        cases e147
        replace p147 := eq_true p147
        replace q147 := eq_true q147
        have p10 : 0 ≤ (x14_1 : Int) := zd
        have q10 : (x14_1 : Int) < ((x0_1.length : Int) : Int) := zd
        obtain ⟨go10, co10, eo10, gb10, gl10, cl10, HG10⟩ := Kd.R_form HO_0.out (by omega)
        (first | cases eo10 | (injection eo10 with ea_ en_ ec_; (first | subst ea_ | (injection ea_ with ea_; subst ea_)); subst ec_; clear en_))
        have GB10 := Aside0.mk gb10
        have GG10 := Aside0.mk HG10
        clear gb10 gl10 HG10
        have HMgo10 := Aside0.mk (show (P0_ go10 ∨ w.heap.size ≤ go10) from (HO_0.out.1 _ rfl))
        (first | simp only [add_plain] at hx147_0 | skip)
        obtain ⟨hx10_0, hf10_0⟩ := Kd.R_celln 0 HO_0.out (x14_1 : Int) p10 q10
        replace p10 := eq_true p10
        replace q10 := eq_true q10
        have HP11 := Kd.R_putg HO_0.out (x14_1 : Int) ((IntKind.u64.wrap ((IntKind.u64.wrap (rd x0_1 x14_1)) + (IntKind.u64.wrap (1000000000 - (Int.tmod (IntKind.u64.wrap (x7_1 + (IntKind.u64.wrap (a2 * (IntKind.u64.wrap (rd l1 x14_1)))))) 1000000000))))) % 4294967296)
        go_wp2_with (first | ((with_reducible refine gate_store (t := 97) (p := 56) rfl ?_); refine store_event (t := 97) (p := 56) (v := ?vo_w12) (w1 := (wr.setCell ⟨go10, (x14_1 : Int).toNat, none⟩ (.int .u32 ((IntKind.u64.wrap ((IntKind.u64.wrap (rd x0_1 x14_1)) + (IntKind.u64.wrap (1000000000 - (Int.tmod (IntKind.u64.wrap (x7_1 + (IntKind.u64.wrap (a2 * (IntKind.u64.wrap (rd l1 x14_1)))))) 1000000000))))) % 4294967296)))) ?hg ?ho ?hn ?hr ?_; (case ho => rfl); (case hg => rfl); (case hn => rfl); (case hr => first | (go_simp; done) | (go_simp; rfl)); intro w12 hw; have hg : wr.grownBy w12 (some go10) := (by rw [hw]; exact HP11.2); have hp_ : Kd.R (Kd.int .u32) 97 w12 w0.heap.size (fun k_ => (P0_ k_ ∨ w.heap.size ≤ k_)) (.slice (some ⟨go10, 0, none⟩) x0_1.length co4) y148 := (by rw [hw, Ny148.out]; exact HP11.1); clear HP11; replace HB := Aside0.mk ((by rw [hw]; exact below_set (HB.out) GB10.out : Below w0.heap.size w0 w12)); replace HK := Aside0.mk (Kept.of_grown (S := (fun k_ => P0_ k_)) hg kw (fun k_ e_ => (HO_0.out.1 k_ e_))); replace HO_0 := Aside0.mk (hp_); clear hg hw hp_))
        (try simp only [← hl0_1])
        go_roundg k1
        case measure => have := HK1.out; omega
        case rel => exact ⟨(y148), (IntKind.u64.wrap ((IntKind.u64.wrap (Int.tdiv (IntKind.u64.wrap (x7_1 + (IntKind.u64.wrap (a2 * (IntKind.u64.wrap (rd l1 x14_1)))))) 1000000000)) + 1)), (wrap64 (x14_1 + 1)), zs, zs, H', ⟨by have := HK1.out; omega⟩, ⟨by (try simp only [hl0_1]); (with_reducible repeat (first | apply Kd.R_alloc | apply Kd.R_drewN | apply Kd.R_drew)); exact HO_0.out⟩, ⟨kw⟩, ⟨bw⟩⟩
       ·rw [if_neg c9] at H
        have c9b0 : decide ((IntKind.u64.wrap (rd x0_1 x14_1)) < (Int.tmod (IntKind.u64.wrap (x7_1 + (IntKind.u64.wrap (a2 * (IntKind.u64.wrap (rd l1 x14_1)))))) 1000000000)) = false := decide_eq_false c9
        clear c9
        obtain ⟨y149, hy149⟩ : ∃ y_ : List Int, y_ = (x0_1.set (x14_1 : Int).toNat ((IntKind.u64.wrap ((IntKind.u64.wrap (rd x0_1 x14_1)) - (Int.tmod (IntKind.u64.wrap (x7_1 + (IntKind.u64.wrap (a2 * (IntKind.u64.wrap (rd l1 x14_1)))))) 1000000000))) % 4294967296)) := ⟨_, rfl⟩
        replace H : (nat_less.l0 k1 y149 l1 a2 (IntKind.u64.wrap (Int.tdiv (IntKind.u64.wrap (x7_1 + (IntKind.u64.wrap (a2 * (IntKind.u64.wrap (rd l1 x14_1)))))) 1000000000)) (l0.length : Int) (wrap64 (x14_1 + 1))) = some (r1, r2) := zy hy149 H
        have Ny149 := Aside0.mk hy149
        clear hy149
        have H' := Aside0.mk H
        clear H
        have p146 : 0 ≤ (x14_1 : Int) := zd
        have q146 : x14_1 < (l1.length : Int) := zd
        obtain ⟨ad146, e146, hx146_0⟩ := Kd.at_int (Kd.C_kept_now HR1.out HK.out) x14_1 p146 q146
        cases e146
        replace p146 := eq_true p146
        replace q146 := eq_true q146
        have p147 : 0 ≤ (x14_1 : Int) := zd
        have q147 : x14_1 < (x0_1.length : Int) := zd
        obtain ⟨ad147, e147, hx147_0⟩ := Kd.at_int (Kd.R_reads' HO_0.out).2.2 x14_1 p147 q147
        cases e147
        replace p147 := eq_true p147
        replace q147 := eq_true q147
        have p13 : 0 ≤ (x14_1 : Int) := zd
        have q13 : (x14_1 : Int) < ((x0_1.length : Int) : Int) := zd
        obtain ⟨go13, co13, eo13, gb13, gl13, cl13, HG13⟩ := Kd.R_form HO_0.out (by omega)
        (first | cases eo13 | (injection eo13 with ea_ en_ ec_; (first | subst ea_ | (injection ea_ with ea_; subst ea_)); subst ec_; clear en_))
        have GB13 := Aside0.mk gb13
        have GG13 := Aside0.mk HG13
        clear gb13 gl13 HG13
        have HMgo13 := Aside0.mk (show (P0_ go13 ∨ w.heap.size ≤ go13) from (HO_0.out.1 _ rfl))
        (first | simp only [add_plain] at hx147_0 | skip)
        obtain ⟨hx13_0, hf13_0⟩ := Kd.R_celln 0 HO_0.out (x14_1 : Int) p13 q13
        replace p13 := eq_true p13
        replace q13 := eq_true q13
        have HP14 := Kd.R_putg HO_0.out (x14_1 : Int) ((IntKind.u64.wrap ((IntKind.u64.wrap (rd x0_1 x14_1)) - (Int.tmod (IntKind.u64.wrap (x7_1 + (IntKind.u64.wrap (a2 * (IntKind.u64.wrap (rd l1 x14_1)))))) 1000000000))) % 4294967296)
        go_wp2_with (first | ((with_reducible refine gate_store (t := 97) (p := 56) rfl ?_); refine store_event (t := 97) (p := 56) (v := ?vo_w15) (w1 := (wr.setCell ⟨go13, (x14_1 : Int).toNat, none⟩ (.int .u32 ((IntKind.u64.wrap ((IntKind.u64.wrap (rd x0_1 x14_1)) - (Int.tmod (IntKind.u64.wrap (x7_1 + (IntKind.u64.wrap (a2 * (IntKind.u64.wrap (rd l1 x14_1)))))) 1000000000))) % 4294967296)))) ?hg ?ho ?hn ?hr ?_; (case ho => rfl); (case hg => rfl); (case hn => rfl); (case hr => first | (go_simp; done) | (go_simp; rfl)); intro w15 hw; have hg : wr.grownBy w15 (some go13) := (by rw [hw]; exact HP14.2); have hp_ : Kd.R (Kd.int .u32) 97 w15 w0.heap.size (fun k_ => (P0_ k_ ∨ w.heap.size ≤ k_)) (.slice (some ⟨go13, 0, none⟩) x0_1.length co4) y149 := (by rw [hw, Ny149.out]; exact HP14.1); clear HP14; replace HB := Aside0.mk ((by rw [hw]; exact below_set (HB.out) GB13.out : Below w0.heap.size w0 w15)); replace HK := Aside0.mk (Kept.of_grown (S := (fun k_ => P0_ k_)) hg kw (fun k_ e_ => (HO_0.out.1 k_ e_))); replace HO_0 := Aside0.mk (hp_); clear hg hw hp_))
        (try simp only [← hl0_1])
        go_roundg k1
        case measure => have := HK1.out; omega
        case rel => exact ⟨(y149), (IntKind.u64.wrap (Int.tdiv (IntKind.u64.wrap (x7_1 + (IntKind.u64.wrap (a2 * (IntKind.u64.wrap (rd l1 x14_1)))))) 1000000000)), (wrap64 (x14_1 + 1)), zs, zs, H', ⟨by have := HK1.out; omega⟩, ⟨by (try simp only [hl0_1]); (with_reducible repeat (first | apply Kd.R_alloc | apply Kd.R_drewN | apply Kd.R_drew)); exact HO_0.out⟩, ⟨kw⟩, ⟨bw⟩⟩
      ·rw [if_neg c8] at H
       cases H
     ·rw [if_neg c7] at H
      cases H
    ·rw [if_neg c6] at H
     have c6b0 : decide (x14_1 < (l1.length : Int)) = false := decide_eq_false c6
     (try (have c6b0_hl0_1 := c6b0; simp only [hl0_1] at c6b0_hl0_1))
     clear c6
     by_cases c16 : 0 ≤ x14_1
     ·rw [if_pos c16] at H
      have c16b0 : decide (0 ≤ x14_1) = true := decide_eq_true c16
      clear c16
      by_cases c17 : x14_1 < (x0_1.length : Int)
      ·rw [if_pos c17] at H
       have c17b0 : decide (x14_1 < (x0_1.length : Int)) = true := decide_eq_true c17
       (try (have c17b0_hl0_1 := c17b0; simp only [hl0_1] at c17b0_hl0_1))
       clear c17
       by_cases c18 : (IntKind.u64.wrap (rd x0_1 x14_1)) < (Int.tmod x7_1 1000000000)
       ·rw [if_pos c18] at H
        have c18b0 : decide ((IntKind.u64.wrap (rd x0_1 x14_1)) < (Int.tmod x7_1 1000000000)) = true := decide_eq_true c18
        clear c18
        obtain ⟨y151, hy151⟩ : ∃ y_ : List Int, y_ = (x0_1.set (x14_1 : Int).toNat ((IntKind.u64.wrap ((IntKind.u64.wrap (rd x0_1 x14_1)) + (IntKind.u64.wrap (1000000000 - (Int.tmod x7_1 1000000000))))) % 4294967296)) := ⟨_, rfl⟩
        replace H : (nat_less.l0 k1 y151 l1 a2 (IntKind.u64.wrap ((IntKind.u64.wrap (Int.tdiv x7_1 1000000000)) + 1)) (l0.length : Int) (wrap64 (x14_1 + 1))) = some (r1, r2) := zy hy151 H
        have Ny151 := Aside0.mk hy151
        clear hy151
        have H' := Aside0.mk H
        clear H
        have p150 : 0 ≤ (x14_1 : Int) := zd
        have q150 : x14_1 < (x0_1.length : Int) := zd
        obtain ⟨ad150, e150, hx150_0⟩ := Kd.at_int (Kd.R_reads' HO_0.out).2.2 x14_1 p150 q150
        cases e150
        replace p150 := eq_true p150
        replace q150 := eq_true q150
        have p19 : 0 ≤ (x14_1 : Int) := zd
        have q19 : (x14_1 : Int) < ((x0_1.length : Int) : Int) := zd
        obtain ⟨go19, co19, eo19, gb19, gl19, cl19, HG19⟩ := Kd.R_form HO_0.out (by omega)
        (first | cases eo19 | (injection eo19 with ea_ en_ ec_; (first | subst ea_ | (injection ea_ with ea_; subst ea_)); subst ec_; clear en_))
        have GB19 := Aside0.mk gb19
        have GG19 := Aside0.mk HG19
        clear gb19 gl19 HG19
        have HMgo19 := Aside0.mk (show (P0_ go19 ∨ w.heap.size ≤ go19) from (HO_0.out.1 _ rfl))
        (first | simp only [add_plain] at hx150_0 | skip)
        obtain ⟨hx19_0, hf19_0⟩ := Kd.R_celln 0 HO_0.out (x14_1 : Int) p19 q19
        replace p19 := eq_true p19
        replace q19 := eq_true q19
        have HP20 := Kd.R_putg HO_0.out (x14_1 : Int) ((IntKind.u64.wrap ((IntKind.u64.wrap (rd x0_1 x14_1)) + (IntKind.u64.wrap (1000000000 - (Int.tmod x7_1 1000000000))))) % 4294967296)
        go_wp2_with (first | ((with_reducible refine gate_store (t := 97) (p := 56) rfl ?_); refine store_event (t := 97) (p := 56) (v := ?vo_w21) (w1 := (wr.setCell ⟨go19, (x14_1 : Int).toNat, none⟩ (.int .u32 ((IntKind.u64.wrap ((IntKind.u64.wrap (rd x0_1 x14_1)) + (IntKind.u64.wrap (1000000000 - (Int.tmod x7_1 1000000000))))) % 4294967296)))) ?hg ?ho ?hn ?hr ?_; (case ho => rfl); (case hg => rfl); (case hn => rfl); (case hr => first | (go_simp; done) | (go_simp; rfl)); intro w21 hw; have hg : wr.grownBy w21 (some go19) := (by rw [hw]; exact HP20.2); have hp_ : Kd.R (Kd.int .u32) 97 w21 w0.heap.size (fun k_ => (P0_ k_ ∨ w.heap.size ≤ k_)) (.slice (some ⟨go19, 0, none⟩) x0_1.length co4) y151 := (by rw [hw, Ny151.out]; exact HP20.1); clear HP20; replace HB := Aside0.mk ((by rw [hw]; exact below_set (HB.out) GB19.out : Below w0.heap.size w0 w21)); replace HK := Aside0.mk (Kept.of_grown (S := (fun k_ => P0_ k_)) hg kw (fun k_ e_ => (HO_0.out.1 k_ e_))); replace HO_0 := Aside0.mk (hp_); clear hg hw hp_))
        (try simp only [← hl0_1])
        go_roundg k1
        case measure => have := HK1.out; omega
        case rel => exact ⟨(y151), (IntKind.u64.wrap ((IntKind.u64.wrap (Int.tdiv x7_1 1000000000)) + 1)), (wrap64 (x14_1 + 1)), zs, zs, H', ⟨by have := HK1.out; omega⟩, ⟨by (try simp only [hl0_1]); (with_reducible repeat (first | apply Kd.R_alloc | apply Kd.R_drewN | apply Kd.R_drew)); exact HO_0.out⟩, ⟨kw⟩, ⟨bw⟩⟩
       ·rw [if_neg c18] at H
        have c18b0 : decide ((IntKind.u64.wrap (rd x0_1 x14_1)) < (Int.tmod x7_1 1000000000)) = false := decide_eq_false c18
        clear c18
        obtain ⟨y152, hy152⟩ : ∃ y_ : List Int, y_ = (x0_1.set (x14_1 : Int).toNat ((IntKind.u64.wrap ((IntKind.u64.wrap (rd x0_1 x14_1)) - (Int.tmod x7_1 1000000000))) % 4294967296)) := ⟨_, rfl⟩
        replace H : (nat_less.l0 k1 y152 l1 a2 (IntKind.u64.wrap (Int.tdiv x7_1 1000000000)) (l0.length : Int) (wrap64 (x14_1 + 1))) = some (r1, r2) := zy hy152 H
        have Ny152 := Aside0.mk hy152
        clear hy152
        have H' := Aside0.mk H
        clear H
        have p150 : 0 ≤ (x14_1 : Int) := zd
        have q150 : x14_1 < (x0_1.length : Int) := zd
        obtain ⟨ad150, e150, hx150_0⟩ := Kd.at_int (Kd.R_reads' HO_0.out).2.2 x14_1 p150 q150
        cases e150
        replace p150 := eq_true p150
        replace q150 := eq_true q150
        have p22 : 0 ≤ (x14_1 : Int) := zd
        have q22 : (x14_1 : Int) < ((x0_1.length : Int) : Int) := zd
        obtain ⟨go22, co22, eo22, gb22, gl22, cl22, HG22⟩ := Kd.R_form HO_0.out (by omega)
        (first | cases eo22 | (injection eo22 with ea_ en_ ec_; (first | subst ea_ | (injection ea_ with ea_; subst ea_)); subst ec_; clear en_))
        have GB22 := Aside0.mk gb22
        have GG22 := Aside0.mk HG22
        clear gb22 gl22 HG22
        have HMgo22 := Aside0.mk (show (P0_ go22 ∨ w.heap.size ≤ go22) from (HO_0.out.1 _ rfl))
        (first | simp only [add_plain] at hx150_0 | skip)
        obtain ⟨hx22_0, hf22_0⟩ := Kd.R_celln 0 HO_0.out (x14_1 : Int) p22 q22
        replace p22 := eq_true p22
        replace q22 := eq_true q22
        have HP23 := Kd.R_putg HO_0.out (x14_1 : Int) ((IntKind.u64.wrap ((IntKind.u64.wrap (rd x0_1 x14_1)) - (Int.tmod x7_1 1000000000))) % 4294967296)
        go_wp2_with (first | ((with_reducible refine gate_store (t := 97) (p := 56) rfl ?_); refine store_event (t := 97) (p := 56) (v := ?vo_w24) (w1 := (wr.setCell ⟨go22, (x14_1 : Int).toNat, none⟩ (.int .u32 ((IntKind.u64.wrap ((IntKind.u64.wrap (rd x0_1 x14_1)) - (Int.tmod x7_1 1000000000))) % 4294967296)))) ?hg ?ho ?hn ?hr ?_; (case ho => rfl); (case hg => rfl); (case hn => rfl); (case hr => first | (go_simp; done) | (go_simp; rfl)); intro w24 hw; have hg : wr.grownBy w24 (some go22) := (by rw [hw]; exact HP23.2); have hp_ : Kd.R (Kd.int .u32) 97 w24 w0.heap.size (fun k_ => (P0_ k_ ∨ w.heap.size ≤ k_)) (.slice (some ⟨go22, 0, none⟩) x0_1.length co4) y152 := (by rw [hw, Ny152.out]; exact HP23.1); clear HP23; replace HB := Aside0.mk ((by rw [hw]; exact below_set (HB.out) GB22.out : Below w0.heap.size w0 w24)); replace HK := Aside0.mk (Kept.of_grown (S := (fun k_ => P0_ k_)) hg kw (fun k_ e_ => (HO_0.out.1 k_ e_))); replace HO_0 := Aside0.mk (hp_); clear hg hw hp_))
        (try simp only [← hl0_1])
        go_roundg k1
        case measure => have := HK1.out; omega
        case rel => exact ⟨(y152), (IntKind.u64.wrap (Int.tdiv x7_1 1000000000)), (wrap64 (x14_1 + 1)), zs, zs, H', ⟨by have := HK1.out; omega⟩, ⟨by (try simp only [hl0_1]); (with_reducible repeat (first | apply Kd.R_alloc | apply Kd.R_drewN | apply Kd.R_drew)); exact HO_0.out⟩, ⟨kw⟩, ⟨bw⟩⟩
      ·rw [if_neg c17] at H
       cases H
     ·rw [if_neg c16] at H
      cases H
   ·rw [if_neg c5] at H
    have c5b0 : decide (x14_1 < (l0.length : Int)) = false := decide_eq_false c5
    (try (have c5b0_hl0_1 := c5b0; simp only [hl0_1] at c5b0_hl0_1))
    clear c5
    simp only [Option.some.injEq, Prod.mk.injEq] at H
    obtain ⟨rfl, rfl⟩ := H
    go_wp2
    go_ret
    exact ⟨ze, (by first | exact (zR HO_0) | (simp only [hl0_1]; exact (zR HO_0))), bw, kw⟩

def nat_more.l0 : Nat → List Int → List Int → Int → Int → Int → Option (List Int)
 | 0, _, _, _, _, _ => none
 | k + 1, x0, x1, x4, x8, x9 => if x9 < x8 then (if 0 ≤ x9 then (if x9 < (x0.length : Int) then (if x9 < (x1.length : Int) then (nat_more.l0 k (x0.set (x9 : Int).toNat ((((((rd x0 x9) + x4) % 4294967296) + (rd x1 x9)) % 4294967296) % 1000000000)) x1 ((((((rd x0 x9) + x4) % 4294967296) + (rd x1 x9)) % 4294967296) / 1000000000) x8 (wrap64 (x9 + 1))) else (nat_more.l0 k (x0.set (x9 : Int).toNat ((((rd x0 x9) + x4) % 4294967296) % 1000000000)) x1 ((((rd x0 x9) + x4) % 4294967296) / 1000000000) x8 (wrap64 (x9 + 1)))) else (none)) else (none)) else (some x0)
def nat_more.f (k : Nat) (l0 : List Int) (l1 : List Int) : Option (List Int) := nat_more.l0 k l0 l1 0 (l0.length : Int) 0
theorem nat_more.mono_l : ∀ k, (∀ y0 y1 y2 y3 y4, LeO (nat_more.l0 k y0 y1 y2 y3 y4) (nat_more.l0 (k + 1) y0 y1 y2 y3 y4))
 | 0 => fun _ _ _ _ _ r h => by simp [nat_more.l0] at h
 | k + 1 => by
  have ih0 := nat_more.mono_l k
  ·intro y0 y1 y2 y3 y4
   unfold nat_more.l0
   exact zM
theorem nat_more.mono : ∀ a0 a1 k, LeO (nat_more.f k a0 a1) (nat_more.f (k + 1) a0 a1) := by
 intro a0 a1 k
 have ih0 := nat_more.mono_l k
 unfold nat_more.f
 exact zM
set_option maxHeartbeats 8000000 in
set_option maxRecDepth 100000 in
theorem nat_more.calls (k : Nat) (P0_ : Nat → Prop) (u9000_ : Value) (l0 : List Int) (A1 : Option Addr) (c1 : Nat) (l1 : List Int) (r : List Int) (w0 w : World) (hB : Below w0.heap.size w0 w) (ho0 : Kd.R (Kd.int .u32) 97 w w0.heap.size P0_ u9000_ l0) (hr1 : ∀ W_, Kept w W_ (fun k_ => P0_ k_) → Kd.C (Kd.int .u32) W_ A1 l1.length l1) (hc1 : l1.length ≤ c1) (h : nat_more.f k l0 l1 = some r) :
  Calls Tryz.prog 203 #[u9000_, .slice A1 l1.length c1] w fun e w' => e = .returned (.tuple #[]) ∧ Kd.R (Kd.int .u32) 97 w' w0.heap.size (fun k_ => (P0_ k_ ∨ w.heap.size ≤ k_)) u9000_ r ∧ Below w0.heap.size w0 w' ∧ Kept w w' (fun k_ => P0_ k_) := by
 have HO0 := Aside0.mk (show Kd.R (Kd.int .u32) 97 w w0.heap.size (fun k_ => (P0_ k_ ∨ w.heap.size ≤ k_)) u9000_ l0 from Kd.R_mono ho0 (fun k_ hk => (.inl hk)))
 have HR1 := Aside0.mk hr1
 have HC1 := Aside0.mk hc1
 clear hr1 hc1
 have HK := Aside0.mk (Kept.refl w (fun k_ => P0_ k_))
 have HW0 := Aside0.mk hB.size
 have HB := Aside0.mk hB
 clear hB
 have H : (nat_more.l0 k l0 l1 0 (l0.length : Int) 0) = some r := h
 clear h
 have H' := Aside0.mk H
 clear H
 obtain ⟨Ao3, co3, rfl⟩ := Kd.R_slice HO0.out
 go_enter Tryz.func203, Tryz.ntmps203
 go_wp2
 go_loopg [4, 9] k (fun kq v4 v9 w' => ∃ (x0_1 : List Int) (x4_1 : Int) (x9_1 : Int), v4 = .int .u32 x4_1 ∧ v9 = .int .i64 x9_1 ∧ Aside0 (nat_more.l0 kq x0_1 l1 x4_1 (l0.length : Int) x9_1 = some r) ∧ Aside0 (kq ≤ k) ∧ Aside0 (Kd.R (Kd.int .u32) 97 w' w0.heap.size (fun k_ => (P0_ k_ ∨ w.heap.size ≤ k_)) (.slice Ao3 l0.length co3) x0_1) ∧ Aside0 (Kept w w' (fun k_ => P0_ k_)) ∧ Aside0 (Below w0.heap.size w0 w'))
 case atStart => exact ⟨(l0), (0), (0), zs, zs, H', ⟨Nat.le_refl _⟩, ⟨zR HO0⟩, ⟨kw⟩, ⟨bw⟩⟩
 case round =>
  clear H'
  try clear c1
  try clear c2
  try clear p2
  obtain ⟨x0_1, x4_1, x9_1, rfl, rfl, HA, HK1, HO_0, HK, HB⟩ := hrel
  have hl0_1 := (Kd.R_reads' HO_0.out).1
  rw [hl0_1] at HO_0
  (try simp only [hl0_1])
  cases gk with
  | zero => exact absurd HA.out (by simp [nat_more.l0])
  | succ k1 =>
   have H := HA.out
   clear HA
   simp only [nat_more.l0] at H
   by_cases c4 : x9_1 < (l0.length : Int)
   ·rw [if_pos c4] at H
    have c4b0 : decide (x9_1 < (l0.length : Int)) = true := decide_eq_true c4
    (try (have c4b0_hl0_1 := c4b0; simp only [hl0_1] at c4b0_hl0_1))
    clear c4
    by_cases c5 : 0 ≤ x9_1
    ·rw [if_pos c5] at H
     have c5b0 : decide (0 ≤ x9_1) = true := decide_eq_true c5
     clear c5
     by_cases c6 : x9_1 < (x0_1.length : Int)
     ·rw [if_pos c6] at H
      have c6b0 : decide (x9_1 < (x0_1.length : Int)) = true := decide_eq_true c6
      (try (have c6b0_hl0_1 := c6b0; simp only [hl0_1] at c6b0_hl0_1))
      clear c6
      by_cases c7 : x9_1 < (l1.length : Int)
      ·rw [if_pos c7] at H
       have c7b0 : decide (x9_1 < (l1.length : Int)) = true := decide_eq_true c7
       (try (have c7b0_hl0_1 := c7b0; simp only [hl0_1] at c7b0_hl0_1))
       clear c7
       obtain ⟨y155, hy155⟩ : ∃ y_ : List Int, y_ = (x0_1.set (x9_1 : Int).toNat ((((((rd x0_1 x9_1) + x4_1) % 4294967296) + (rd l1 x9_1)) % 4294967296) % 1000000000)) := ⟨_, rfl⟩
       replace H : (nat_more.l0 k1 y155 l1 ((((((rd x0_1 x9_1) + x4_1) % 4294967296) + (rd l1 x9_1)) % 4294967296) / 1000000000) (l0.length : Int) (wrap64 (x9_1 + 1))) = some r := zy hy155 H
       have Ny155 := Aside0.mk hy155
       clear hy155
       have H' := Aside0.mk H
       clear H
       have p153 : 0 ≤ (x9_1 : Int) := zd
       have q153 : x9_1 < (x0_1.length : Int) := zd
       obtain ⟨ad153, e153, hx153_0⟩ := Kd.at_int (Kd.R_reads' HO_0.out).2.2 x9_1 p153 q153
       cases e153
       replace p153 := eq_true p153
       replace q153 := eq_true q153
       have p154 : 0 ≤ (x9_1 : Int) := zd
       have q154 : x9_1 < (l1.length : Int) := zd
       obtain ⟨ad154, e154, hx154_0⟩ := Kd.at_int (Kd.C_kept_now HR1.out HK.out) x9_1 p154 q154
       cases e154
       replace p154 := eq_true p154
       replace q154 := eq_true q154
       have p8 : 0 ≤ (x9_1 : Int) := zd
       have q8 : (x9_1 : Int) < ((x0_1.length : Int) : Int) := zd
       obtain ⟨go8, co8, eo8, gb8, gl8, cl8, HG8⟩ := Kd.R_form HO_0.out (by omega)
       (first | cases eo8 | (injection eo8 with ea_ en_ ec_; (first | subst ea_ | (injection ea_ with ea_; subst ea_)); subst ec_; clear en_))
       have GB8 := Aside0.mk gb8
       have GG8 := Aside0.mk HG8
       clear gb8 gl8 HG8
       have HMgo8 := Aside0.mk (show (P0_ go8 ∨ w.heap.size ≤ go8) from (HO_0.out.1 _ rfl))
       (first | simp only [add_plain] at hx153_0 | skip)
       obtain ⟨hx8_0, hf8_0⟩ := Kd.R_celln 0 HO_0.out (x9_1 : Int) p8 q8
       replace p8 := eq_true p8
       replace q8 := eq_true q8
       have HP9 := Kd.R_putg HO_0.out (x9_1 : Int) ((((((rd x0_1 x9_1) + x4_1) % 4294967296) + (rd l1 x9_1)) % 4294967296) % 1000000000)
       go_wp2_with (first | ((with_reducible refine gate_store (t := 97) (p := 34) rfl ?_); refine store_event (t := 97) (p := 34) (v := ?vo_w10) (w1 := (wr.setCell ⟨go8, (x9_1 : Int).toNat, none⟩ (.int .u32 ((((((rd x0_1 x9_1) + x4_1) % 4294967296) + (rd l1 x9_1)) % 4294967296) % 1000000000)))) ?hg ?ho ?hn ?hr ?_; (case ho => rfl); (case hg => rfl); (case hn => rfl); (case hr => first | (go_simp; done) | (go_simp; rfl)); intro w10 hw; have hg : wr.grownBy w10 (some go8) := (by rw [hw]; exact HP9.2); have hp_ : Kd.R (Kd.int .u32) 97 w10 w0.heap.size (fun k_ => (P0_ k_ ∨ w.heap.size ≤ k_)) (.slice (some ⟨go8, 0, none⟩) x0_1.length co3) y155 := (by rw [hw, Ny155.out]; exact HP9.1); clear HP9; replace HB := Aside0.mk ((by rw [hw]; exact below_set (HB.out) GB8.out : Below w0.heap.size w0 w10)); replace HK := Aside0.mk (Kept.of_grown (S := (fun k_ => P0_ k_)) hg kw (fun k_ e_ => (HO_0.out.1 k_ e_))); replace HO_0 := Aside0.mk (hp_); clear hg hw hp_))
       (try simp only [← hl0_1])
       go_roundg k1
       case measure => have := HK1.out; omega
       case rel => exact ⟨(y155), ((((((rd x0_1 x9_1) + x4_1) % 4294967296) + (rd l1 x9_1)) % 4294967296) / 1000000000), (wrap64 (x9_1 + 1)), zs, zs, H', ⟨by have := HK1.out; omega⟩, ⟨by (try simp only [hl0_1]); (with_reducible repeat (first | apply Kd.R_alloc | apply Kd.R_drewN | apply Kd.R_drew)); exact HO_0.out⟩, ⟨kw⟩, ⟨bw⟩⟩
      ·rw [if_neg c7] at H
       have c7b0 : decide (x9_1 < (l1.length : Int)) = false := decide_eq_false c7
       (try (have c7b0_hl0_1 := c7b0; simp only [hl0_1] at c7b0_hl0_1))
       clear c7
       obtain ⟨y156, hy156⟩ : ∃ y_ : List Int, y_ = (x0_1.set (x9_1 : Int).toNat ((((rd x0_1 x9_1) + x4_1) % 4294967296) % 1000000000)) := ⟨_, rfl⟩
       replace H : (nat_more.l0 k1 y156 l1 ((((rd x0_1 x9_1) + x4_1) % 4294967296) / 1000000000) (l0.length : Int) (wrap64 (x9_1 + 1))) = some r := zy hy156 H
       have Ny156 := Aside0.mk hy156
       clear hy156
       have H' := Aside0.mk H
       clear H
       have p153 : 0 ≤ (x9_1 : Int) := zd
       have q153 : x9_1 < (x0_1.length : Int) := zd
       obtain ⟨ad153, e153, hx153_0⟩ := Kd.at_int (Kd.R_reads' HO_0.out).2.2 x9_1 p153 q153
       cases e153
       replace p153 := eq_true p153
       replace q153 := eq_true q153
       have p11 : 0 ≤ (x9_1 : Int) := zd
       have q11 : (x9_1 : Int) < ((x0_1.length : Int) : Int) := zd
       obtain ⟨go11, co11, eo11, gb11, gl11, cl11, HG11⟩ := Kd.R_form HO_0.out (by omega)
       (first | cases eo11 | (injection eo11 with ea_ en_ ec_; (first | subst ea_ | (injection ea_ with ea_; subst ea_)); subst ec_; clear en_))
       have GB11 := Aside0.mk gb11
       have GG11 := Aside0.mk HG11
       clear gb11 gl11 HG11
       have HMgo11 := Aside0.mk (show (P0_ go11 ∨ w.heap.size ≤ go11) from (HO_0.out.1 _ rfl))
       (first | simp only [add_plain] at hx153_0 | skip)
       obtain ⟨hx11_0, hf11_0⟩ := Kd.R_celln 0 HO_0.out (x9_1 : Int) p11 q11
       replace p11 := eq_true p11
       replace q11 := eq_true q11
       have HP12 := Kd.R_putg HO_0.out (x9_1 : Int) ((((rd x0_1 x9_1) + x4_1) % 4294967296) % 1000000000)
       go_wp2_with (first | ((with_reducible refine gate_store (t := 97) (p := 34) rfl ?_); refine store_event (t := 97) (p := 34) (v := ?vo_w13) (w1 := (wr.setCell ⟨go11, (x9_1 : Int).toNat, none⟩ (.int .u32 ((((rd x0_1 x9_1) + x4_1) % 4294967296) % 1000000000)))) ?hg ?ho ?hn ?hr ?_; (case ho => rfl); (case hg => rfl); (case hn => rfl); (case hr => first | (go_simp; done) | (go_simp; rfl)); intro w13 hw; have hg : wr.grownBy w13 (some go11) := (by rw [hw]; exact HP12.2); have hp_ : Kd.R (Kd.int .u32) 97 w13 w0.heap.size (fun k_ => (P0_ k_ ∨ w.heap.size ≤ k_)) (.slice (some ⟨go11, 0, none⟩) x0_1.length co3) y156 := (by rw [hw, Ny156.out]; exact HP12.1); clear HP12; replace HB := Aside0.mk ((by rw [hw]; exact below_set (HB.out) GB11.out : Below w0.heap.size w0 w13)); replace HK := Aside0.mk (Kept.of_grown (S := (fun k_ => P0_ k_)) hg kw (fun k_ e_ => (HO_0.out.1 k_ e_))); replace HO_0 := Aside0.mk (hp_); clear hg hw hp_))
       (try simp only [← hl0_1])
       go_roundg k1
       case measure => have := HK1.out; omega
       case rel => exact ⟨(y156), ((((rd x0_1 x9_1) + x4_1) % 4294967296) / 1000000000), (wrap64 (x9_1 + 1)), zs, zs, H', ⟨by have := HK1.out; omega⟩, ⟨by (try simp only [hl0_1]); (with_reducible repeat (first | apply Kd.R_alloc | apply Kd.R_drewN | apply Kd.R_drew)); exact HO_0.out⟩, ⟨kw⟩, ⟨bw⟩⟩
     ·rw [if_neg c6] at H
      cases H
    ·rw [if_neg c5] at H
     cases H
   ·rw [if_neg c4] at H
    have c4b0 : decide (x9_1 < (l0.length : Int)) = false := decide_eq_false c4
    (try (have c4b0_hl0_1 := c4b0; simp only [hl0_1] at c4b0_hl0_1))
    clear c4
    obtain rfl := Option.some.inj H
    go_wp2
    first | go_end0 | ((try simp only [Exit.inBlock, Exit.then]); refine bodyPost_ret (results_none rfl _ _ _) rfl ?_)
    exact ⟨ze, (by first | exact (zR HO_0) | (simp only [hl0_1]; exact (zR HO_0))), bw, kw⟩

end Go.Proofs.YtaffkbemjbfajaaGreatDoor.PNumForms
