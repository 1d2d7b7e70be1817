-- By a program of this session (a changed copy of the kit's printer): functions of the seat as plain Lean functions, each with its proof over the machine.
import Derived.Test.YtaffkbemjbfajaaGreatDoorPNumFormsx0
import Derived.Test.YtaffkbemjbfajaaGreatDoorPNumFormsx2
import Derived.Test.YtaffkbemjbfajaaGreatDoorPNumFormsx3
import Derived.Test.YtaffkbemjbfajaaGreatDoorPNumFormsx4
namespace Go.Proofs.YtaffkbemjbfajaaGreatDoor.PNumForms
open Go.RowKit Go.Proofs.YtaffkbemjbfajaaGreatDoorW.PrintWords Go.Proofs.YtaffkbemjbfajaaGreatDoorW.PrintLast Go.Proofs.YtaffkbemjbfajaaGreatDoorW.PrintMore
attribute [local go_sem] max2_int min2_int max_two min_two max_three min_three max_four min_four   -- for this text's walks alone
set_option linter.unusedVariables false
set_option linter.unusedSimpArgs false

section
set_option maxHeartbeats 8000000 in
set_option maxRecDepth 100000 in
theorem nat_less.callsS (pre_ suf_ : List Int) (k : Nat) (P0_ : Nat → Prop) (u9000_ : Value) (l0 : List Int) (A1 : Option Addr) (c1 : Nat) (l1 : List Int) (a2 : Int) (r1 : Bool) (r2 : List Int) (w0 w : World) (hB : Below w0.heap.size w0 w) (ho0 : Sg .u32 97 pre_ suf_ w w0.heap.size P0_ u9000_ l0) (hr1 : ∀ W_, Kept w W_ (fun k_ => P0_ k_) → Kd.C (Kd.int .u32) W_ A1 l1.length l1) (hc1 : l1.length ≤ c1) (h : nat_less.f k l0 l1 a2 = some (r1, r2)) :
  Calls Tryz.prog 202 #[u9000_, .slice A1 l1.length c1, .int .u64 a2] w fun e w' => e = .returned (.bool r1) ∧ Sg .u32 97 pre_ suf_ w' w0.heap.size (fun k_ => (P0_ k_ ∨ w.heap.size ≤ k_)) u9000_ r2 ∧ Below w0.heap.size w0 w' ∧ Kept w w' (fun k_ => P0_ k_) := by
 have HO0 := Aside0.mk (show Sg .u32 97 pre_ suf_ w w0.heap.size (fun k_ => (P0_ k_ ∨ w.heap.size ≤ k_)) u9000_ l0 from Sg.R_mono ho0 (fun k_ hk => (.inl hk)))
 have HR1 := Aside0.mk hr1
 have HC1 := Aside0.mk hc1
 clear hr1 hc1
 have HK := Aside0.mk (Kept.refl w (fun k_ => P0_ k_))
 have HW0 := Aside0.mk hB.size
 have HB := Aside0.mk hB
 clear hB
 have H : (nat_less.l0 k l0 l1 a2 0 (l0.length : Int) 0) = some (r1, r2) := h
 clear h
 have H' := Aside0.mk H
 clear H
 obtain ⟨Ao4, co4, eo4⟩ := Sg.R_slice HO0.out
 subst eo4
 go_enter Tryz.func202, Tryz.ntmps202
 go_wp2
 go_loopg [7, 14] k (fun kq v7 v14 w' => ∃ (x0_1 : List Int) (x7_1 : Int) (x14_1 : Int), v7 = .int .u64 x7_1 ∧ v14 = .int .i64 x14_1 ∧ Aside0 (nat_less.l0 kq x0_1 l1 a2 x7_1 (l0.length : Int) x14_1 = some (r1, r2)) ∧ Aside0 (kq ≤ k) ∧ Aside0 (Sg .u32 97 pre_ suf_ w' w0.heap.size (fun k_ => (P0_ k_ ∨ w.heap.size ≤ k_)) (.slice Ao4 l0.length co4) x0_1) ∧ Aside0 (Kept w w' (fun k_ => P0_ k_)) ∧ Aside0 (Below w0.heap.size w0 w'))
 case atStart => exact ⟨(l0), (0), (0), zs, zs, H', ⟨Nat.le_refl _⟩, ⟨by (with_reducible repeat (first | apply Sg.R_alloc | apply Sg.R_drewN | apply Sg.R_drew)); exact HO0.out⟩, ⟨kw⟩, ⟨bw⟩⟩
 case round =>
  clear H'
  try clear c1
  try clear c2
  try clear p2
  obtain ⟨x0_1, x7_1, x14_1, rfl, rfl, HA, HK1, HO_0, HK, HB⟩ := hrel
  have hl0_1 := (Sg.R_reads' HO_0.out).1
  rw [hl0_1] at HO_0
  (try simp only [hl0_1])
  cases gk with
  | zero => exact absurd HA.out (by simp [nat_less.l0])
  | succ k1 =>
   have H := HA.out
   clear HA
   simp only [nat_less.l0] at H
   by_cases c5 : x14_1 < (l0.length : Int)
   ·rw [if_pos c5] at H
    have c5b0 : decide (x14_1 < (l0.length : Int)) = true := decide_eq_true c5
    (try (have c5b0_hl0_1 := c5b0; simp only [hl0_1] at c5b0_hl0_1))
    clear c5
    by_cases c6 : x14_1 < (l1.length : Int)
    ·rw [if_pos c6] at H
     have c6b0 : decide (x14_1 < (l1.length : Int)) = true := decide_eq_true c6
     (try (have c6b0_hl0_1 := c6b0; simp only [hl0_1] at c6b0_hl0_1))
     clear c6
     by_cases c7 : 0 ≤ x14_1
     ·rw [if_pos c7] at H
      have c7b0 : decide (0 ≤ x14_1) = true := decide_eq_true c7
      clear c7
      by_cases c8 : x14_1 < (x0_1.length : Int)
      ·rw [if_pos c8] at H
       have c8b0 : decide (x14_1 < (x0_1.length : Int)) = true := decide_eq_true c8
       (try (have c8b0_hl0_1 := c8b0; simp only [hl0_1] at c8b0_hl0_1))
       clear c8
       by_cases c9 : (IntKind.u64.wrap (rd x0_1 x14_1)) < (Int.tmod (IntKind.u64.wrap (x7_1 + (IntKind.u64.wrap (a2 * (IntKind.u64.wrap (rd l1 x14_1)))))) 1000000000)
       ·rw [if_pos c9] at H
        have c9b0 : decide ((IntKind.u64.wrap (rd x0_1 x14_1)) < (Int.tmod (IntKind.u64.wrap (x7_1 + (IntKind.u64.wrap (a2 * (IntKind.u64.wrap (rd l1 x14_1)))))) 1000000000)) = true := decide_eq_true c9
        clear c9
        obtain ⟨y148, hy148⟩ : ∃ y_ : List Int, y_ = (x0_1.set (x14_1 : Int).toNat ((IntKind.u64.wrap ((IntKind.u64.wrap (rd x0_1 x14_1)) + (IntKind.u64.wrap (1000000000 - (Int.tmod (IntKind.u64.wrap (x7_1 + (IntKind.u64.wrap (a2 * (IntKind.u64.wrap (rd l1 x14_1)))))) 1000000000))))) % 4294967296)) := ⟨_, rfl⟩
        replace H : (nat_less.l0 k1 y148 l1 a2 (IntKind.u64.wrap ((IntKind.u64.wrap (Int.tdiv (IntKind.u64.wrap (x7_1 + (IntKind.u64.wrap (a2 * (IntKind.u64.wrap (rd l1 x14_1)))))) 1000000000)) + 1)) (l0.length : Int) (wrap64 (x14_1 + 1))) = some (r1, r2) := zy hy148 H
        have Ny148 := Aside0.mk hy148
        clear hy148
        have H' := Aside0.mk H
        clear H
        have p146 : 0 ≤ (x14_1 : Int) := zd
        have q146 : x14_1 < (l1.length : Int) := zd
        obtain ⟨ad146, e146, hx146_0⟩ := Kd.at_int (Kd.C_kept_now HR1.out HK.out) x14_1 p146 q146
        cases e146
        replace p146 := eq_true p146
        replace q146 := eq_true q146
        have p147 : 0 ≤ (x14_1 : Int) := zd
        have q147 : x14_1 < (x0_1.length : Int) := zd
        obtain ⟨ad147, e147, hx147_0⟩ := Kd.at_int (Sg.R_reads' HO_0.out).2.2 x14_1 p147 q147
        cases e147
        replace p147 := eq_true p147
        replace q147 := eq_true q147
        have p10 : 0 ≤ (x14_1 : Int) := zd
        have q10 : (x14_1 : Int) < ((x0_1.length : Int) : Int) := zd
        obtain ⟨go10, co10, eo10, gb10, gl10, cl10, HG10⟩ := Sg.R_form HO_0.out (by omega)
        (first | cases eo10 | (injection eo10 with ea_ en_ ec_; (first | subst ea_ | (injection ea_ with ea_; subst ea_)); subst ec_; clear en_))
        have GB10 := Aside0.mk gb10
        have GG10 := Aside0.mk HG10
        clear gb10 gl10 HG10
        have HMgo10 := Aside0.mk (show (P0_ go10 ∨ w.heap.size ≤ go10) from (HO_0.out.1 _ rfl))
        (first | simp only [Addr.add_lit] at hx147_0 | skip)
        obtain ⟨hx10_0, hf10_0⟩ := Sg.R_celln 0 HO_0.out (x14_1 : Int) p10 q10
        replace p10 := eq_true p10
        replace q10 := eq_true q10
        have HP11 := Sg.R_putg HO_0.out (x14_1 : Int) (of_eq_true (by assumption)) (of_eq_true (by assumption)) ((IntKind.u64.wrap ((IntKind.u64.wrap (rd x0_1 x14_1)) + (IntKind.u64.wrap (1000000000 - (Int.tmod (IntKind.u64.wrap (x7_1 + (IntKind.u64.wrap (a2 * (IntKind.u64.wrap (rd l1 x14_1)))))) 1000000000))))) % 4294967296)
        go_wp2_with (first | ((with_reducible refine gate_store (t := 97) (p := 56) rfl ?_); refine store_event (t := 97) (p := 56) (v := ?vo_w12) (w1 := (wr.setCell ⟨go10, pre_.length + (x14_1 : Int).toNat, none⟩ (.int .u32 ((IntKind.u64.wrap ((IntKind.u64.wrap (rd x0_1 x14_1)) + (IntKind.u64.wrap (1000000000 - (Int.tmod (IntKind.u64.wrap (x7_1 + (IntKind.u64.wrap (a2 * (IntKind.u64.wrap (rd l1 x14_1)))))) 1000000000))))) % 4294967296)))) ?hg ?ho ?hn ?hr ?_; (case ho => rfl); (case hg => rfl); (case hn => rfl); (case hr => first | (go_simp; done) | (go_simp; rfl)); intro w12 hw; have hg : wr.grownBy w12 (some go10) := (by rw [hw]; exact HP11.2); have hp_ : Sg .u32 97 pre_ suf_ w12 w0.heap.size (fun k_ => (P0_ k_ ∨ w.heap.size ≤ k_)) (.slice (some ⟨go10, pre_.length, none⟩) x0_1.length co4) y148 := (by rw [hw, Ny148.out]; exact HP11.1); clear HP11; replace HB := Aside0.mk ((by rw [hw]; exact below_set (HB.out) GB10.out : Below w0.heap.size w0 w12)); replace HK := Aside0.mk (Kept.of_grown (S := (fun k_ => P0_ k_)) hg kw (fun k_ e_ => (HO_0.out.1 k_ e_))); replace HO_0 := Aside0.mk (hp_); clear hg hw hp_))
        (try simp only [← hl0_1])
        go_roundg k1
        case measure => have := HK1.out; omega
        case rel => exact ⟨(y148), (IntKind.u64.wrap ((IntKind.u64.wrap (Int.tdiv (IntKind.u64.wrap (x7_1 + (IntKind.u64.wrap (a2 * (IntKind.u64.wrap (rd l1 x14_1)))))) 1000000000)) + 1)), (wrap64 (x14_1 + 1)), zs, zs, H', ⟨by have := HK1.out; omega⟩, ⟨by (try simp only [hl0_1]); (with_reducible repeat (first | apply Sg.R_alloc | apply Sg.R_drewN | apply Sg.R_drew)); exact HO_0.out⟩, ⟨kw⟩, ⟨bw⟩⟩
       ·rw [if_neg c9] at H
        have c9b0 : decide ((IntKind.u64.wrap (rd x0_1 x14_1)) < (Int.tmod (IntKind.u64.wrap (x7_1 + (IntKind.u64.wrap (a2 * (IntKind.u64.wrap (rd l1 x14_1)))))) 1000000000)) = false := decide_eq_false c9
        clear c9
        obtain ⟨y149, hy149⟩ : ∃ y_ : List Int, y_ = (x0_1.set (x14_1 : Int).toNat ((IntKind.u64.wrap ((IntKind.u64.wrap (rd x0_1 x14_1)) - (Int.tmod (IntKind.u64.wrap (x7_1 + (IntKind.u64.wrap (a2 * (IntKind.u64.wrap (rd l1 x14_1)))))) 1000000000))) % 4294967296)) := ⟨_, rfl⟩
        replace H : (nat_less.l0 k1 y149 l1 a2 (IntKind.u64.wrap (Int.tdiv (IntKind.u64.wrap (x7_1 + (IntKind.u64.wrap (a2 * (IntKind.u64.wrap (rd l1 x14_1)))))) 1000000000)) (l0.length : Int) (wrap64 (x14_1 + 1))) = some (r1, r2) := zy hy149 H
        have Ny149 := Aside0.mk hy149
        clear hy149
        have H' := Aside0.mk H
        clear H
        have p146 : 0 ≤ (x14_1 : Int) := zd
        have q146 : x14_1 < (l1.length : Int) := zd
        obtain ⟨ad146, e146, hx146_0⟩ := Kd.at_int (Kd.C_kept_now HR1.out HK.out) x14_1 p146 q146
        cases e146
        replace p146 := eq_true p146
        replace q146 := eq_true q146
        have p147 : 0 ≤ (x14_1 : Int) := zd
        have q147 : x14_1 < (x0_1.length : Int) := zd
        obtain ⟨ad147, e147, hx147_0⟩ := Kd.at_int (Sg.R_reads' HO_0.out).2.2 x14_1 p147 q147
        cases e147
        replace p147 := eq_true p147
        replace q147 := eq_true q147
        have p13 : 0 ≤ (x14_1 : Int) := zd
        have q13 : (x14_1 : Int) < ((x0_1.length : Int) : Int) := zd
        obtain ⟨go13, co13, eo13, gb13, gl13, cl13, HG13⟩ := Sg.R_form HO_0.out (by omega)
        (first | cases eo13 | (injection eo13 with ea_ en_ ec_; (first | subst ea_ | (injection ea_ with ea_; subst ea_)); subst ec_; clear en_))
        have GB13 := Aside0.mk gb13
        have GG13 := Aside0.mk HG13
        clear gb13 gl13 HG13
        have HMgo13 := Aside0.mk (show (P0_ go13 ∨ w.heap.size ≤ go13) from (HO_0.out.1 _ rfl))
        (first | simp only [Addr.add_lit] at hx147_0 | skip)
        obtain ⟨hx13_0, hf13_0⟩ := Sg.R_celln 0 HO_0.out (x14_1 : Int) p13 q13
        replace p13 := eq_true p13
        replace q13 := eq_true q13
        have HP14 := Sg.R_putg HO_0.out (x14_1 : Int) (of_eq_true (by assumption)) (of_eq_true (by assumption)) ((IntKind.u64.wrap ((IntKind.u64.wrap (rd x0_1 x14_1)) - (Int.tmod (IntKind.u64.wrap (x7_1 + (IntKind.u64.wrap (a2 * (IntKind.u64.wrap (rd l1 x14_1)))))) 1000000000))) % 4294967296)
        go_wp2_with (first | ((with_reducible refine gate_store (t := 97) (p := 56) rfl ?_); refine store_event (t := 97) (p := 56) (v := ?vo_w15) (w1 := (wr.setCell ⟨go13, pre_.length + (x14_1 : Int).toNat, none⟩ (.int .u32 ((IntKind.u64.wrap ((IntKind.u64.wrap (rd x0_1 x14_1)) - (Int.tmod (IntKind.u64.wrap (x7_1 + (IntKind.u64.wrap (a2 * (IntKind.u64.wrap (rd l1 x14_1)))))) 1000000000))) % 4294967296)))) ?hg ?ho ?hn ?hr ?_; (case ho => rfl); (case hg => rfl); (case hn => rfl); (case hr => first | (go_simp; done) | (go_simp; rfl)); intro w15 hw; have hg : wr.grownBy w15 (some go13) := (by rw [hw]; exact HP14.2); have hp_ : Sg .u32 97 pre_ suf_ w15 w0.heap.size (fun k_ => (P0_ k_ ∨ w.heap.size ≤ k_)) (.slice (some ⟨go13, pre_.length, none⟩) x0_1.length co4) y149 := (by rw [hw, Ny149.out]; exact HP14.1); clear HP14; replace HB := Aside0.mk ((by rw [hw]; exact below_set (HB.out) GB13.out : Below w0.heap.size w0 w15)); replace HK := Aside0.mk (Kept.of_grown (S := (fun k_ => P0_ k_)) hg kw (fun k_ e_ => (HO_0.out.1 k_ e_))); replace HO_0 := Aside0.mk (hp_); clear hg hw hp_))
        (try simp only [← hl0_1])
        go_roundg k1
        case measure => have := HK1.out; omega
        case rel => exact ⟨(y149), (IntKind.u64.wrap (Int.tdiv (IntKind.u64.wrap (x7_1 + (IntKind.u64.wrap (a2 * (IntKind.u64.wrap (rd l1 x14_1)))))) 1000000000)), (wrap64 (x14_1 + 1)), zs, zs, H', ⟨by have := HK1.out; omega⟩, ⟨by (try simp only [hl0_1]); (with_reducible repeat (first | apply Sg.R_alloc | apply Sg.R_drewN | apply Sg.R_drew)); exact HO_0.out⟩, ⟨kw⟩, ⟨bw⟩⟩
      ·rw [if_neg c8] at H
       cases H
     ·rw [if_neg c7] at H
      cases H
    ·rw [if_neg c6] at H
     have c6b0 : decide (x14_1 < (l1.length : Int)) = false := decide_eq_false c6
     (try (have c6b0_hl0_1 := c6b0; simp only [hl0_1] at c6b0_hl0_1))
     clear c6
     by_cases c16 : 0 ≤ x14_1
     ·rw [if_pos c16] at H
      have c16b0 : decide (0 ≤ x14_1) = true := decide_eq_true c16
      clear c16
      by_cases c17 : x14_1 < (x0_1.length : Int)
      ·rw [if_pos c17] at H
       have c17b0 : decide (x14_1 < (x0_1.length : Int)) = true := decide_eq_true c17
       (try (have c17b0_hl0_1 := c17b0; simp only [hl0_1] at c17b0_hl0_1))
       clear c17
       by_cases c18 : (IntKind.u64.wrap (rd x0_1 x14_1)) < (Int.tmod x7_1 1000000000)
       ·rw [if_pos c18] at H
        have c18b0 : decide ((IntKind.u64.wrap (rd x0_1 x14_1)) < (Int.tmod x7_1 1000000000)) = true := decide_eq_true c18
        clear c18
        obtain ⟨y151, hy151⟩ : ∃ y_ : List Int, y_ = (x0_1.set (x14_1 : Int).toNat ((IntKind.u64.wrap ((IntKind.u64.wrap (rd x0_1 x14_1)) + (IntKind.u64.wrap (1000000000 - (Int.tmod x7_1 1000000000))))) % 4294967296)) := ⟨_, rfl⟩
        replace H : (nat_less.l0 k1 y151 l1 a2 (IntKind.u64.wrap ((IntKind.u64.wrap (Int.tdiv x7_1 1000000000)) + 1)) (l0.length : Int) (wrap64 (x14_1 + 1))) = some (r1, r2) := zy hy151 H
        have Ny151 := Aside0.mk hy151
        clear hy151
        have H' := Aside0.mk H
        clear H
        have p150 : 0 ≤ (x14_1 : Int) := zd
        have q150 : x14_1 < (x0_1.length : Int) := zd
        obtain ⟨ad150, e150, hx150_0⟩ := Kd.at_int (Sg.R_reads' HO_0.out).2.2 x14_1 p150 q150
        cases e150
        replace p150 := eq_true p150
        replace q150 := eq_true q150
        have p19 : 0 ≤ (x14_1 : Int) := zd
        have q19 : (x14_1 : Int) < ((x0_1.length : Int) : Int) := zd
        obtain ⟨go19, co19, eo19, gb19, gl19, cl19, HG19⟩ := Sg.R_form HO_0.out (by omega)
        (first | cases eo19 | (injection eo19 with ea_ en_ ec_; (first | subst ea_ | (injection ea_ with ea_; subst ea_)); subst ec_; clear en_))
        have GB19 := Aside0.mk gb19
        have GG19 := Aside0.mk HG19
        clear gb19 gl19 HG19
        have HMgo19 := Aside0.mk (show (P0_ go19 ∨ w.heap.size ≤ go19) from (HO_0.out.1 _ rfl))
        (first | simp only [Addr.add_lit] at hx150_0 | skip)
        obtain ⟨hx19_0, hf19_0⟩ := Sg.R_celln 0 HO_0.out (x14_1 : Int) p19 q19
        replace p19 := eq_true p19
        replace q19 := eq_true q19
        have HP20 := Sg.R_putg HO_0.out (x14_1 : Int) (of_eq_true (by assumption)) (of_eq_true (by assumption)) ((IntKind.u64.wrap ((IntKind.u64.wrap (rd x0_1 x14_1)) + (IntKind.u64.wrap (1000000000 - (Int.tmod x7_1 1000000000))))) % 4294967296)
        go_wp2_with (first | ((with_reducible refine gate_store (t := 97) (p := 56) rfl ?_); refine store_event (t := 97) (p := 56) (v := ?vo_w21) (w1 := (wr.setCell ⟨go19, pre_.length + (x14_1 : Int).toNat, none⟩ (.int .u32 ((IntKind.u64.wrap ((IntKind.u64.wrap (rd x0_1 x14_1)) + (IntKind.u64.wrap (1000000000 - (Int.tmod x7_1 1000000000))))) % 4294967296)))) ?hg ?ho ?hn ?hr ?_; (case ho => rfl); (case hg => rfl); (case hn => rfl); (case hr => first | (go_simp; done) | (go_simp; rfl)); intro w21 hw; have hg : wr.grownBy w21 (some go19) := (by rw [hw]; exact HP20.2); have hp_ : Sg .u32 97 pre_ suf_ w21 w0.heap.size (fun k_ => (P0_ k_ ∨ w.heap.size ≤ k_)) (.slice (some ⟨go19, pre_.length, none⟩) x0_1.length co4) y151 := (by rw [hw, Ny151.out]; exact HP20.1); clear HP20; replace HB := Aside0.mk ((by rw [hw]; exact below_set (HB.out) GB19.out : Below w0.heap.size w0 w21)); replace HK := Aside0.mk (Kept.of_grown (S := (fun k_ => P0_ k_)) hg kw (fun k_ e_ => (HO_0.out.1 k_ e_))); replace HO_0 := Aside0.mk (hp_); clear hg hw hp_))
        (try simp only [← hl0_1])
        go_roundg k1
        case measure => have := HK1.out; omega
        case rel => exact ⟨(y151), (IntKind.u64.wrap ((IntKind.u64.wrap (Int.tdiv x7_1 1000000000)) + 1)), (wrap64 (x14_1 + 1)), zs, zs, H', ⟨by have := HK1.out; omega⟩, ⟨by (try simp only [hl0_1]); (with_reducible repeat (first | apply Sg.R_alloc | apply Sg.R_drewN | apply Sg.R_drew)); exact HO_0.out⟩, ⟨kw⟩, ⟨bw⟩⟩
       ·rw [if_neg c18] at H
        have c18b0 : decide ((IntKind.u64.wrap (rd x0_1 x14_1)) < (Int.tmod x7_1 1000000000)) = false := decide_eq_false c18
        clear c18
        obtain ⟨y152, hy152⟩ : ∃ y_ : List Int, y_ = (x0_1.set (x14_1 : Int).toNat ((IntKind.u64.wrap ((IntKind.u64.wrap (rd x0_1 x14_1)) - (Int.tmod x7_1 1000000000))) % 4294967296)) := ⟨_, rfl⟩
        replace H : (nat_less.l0 k1 y152 l1 a2 (IntKind.u64.wrap (Int.tdiv x7_1 1000000000)) (l0.length : Int) (wrap64 (x14_1 + 1))) = some (r1, r2) := zy hy152 H
        have Ny152 := Aside0.mk hy152
        clear hy152
        have H' := Aside0.mk H
        clear H
        have p150 : 0 ≤ (x14_1 : Int) := zd
        have q150 : x14_1 < (x0_1.length : Int) := zd
        obtain ⟨ad150, e150, hx150_0⟩ := Kd.at_int (Sg.R_reads' HO_0.out).2.2 x14_1 p150 q150
        cases e150
        replace p150 := eq_true p150
        replace q150 := eq_true q150
        have p22 : 0 ≤ (x14_1 : Int) := zd
        have q22 : (x14_1 : Int) < ((x0_1.length : Int) : Int) := zd
        obtain ⟨go22, co22, eo22, gb22, gl22, cl22, HG22⟩ := Sg.R_form HO_0.out (by omega)
        (first | cases eo22 | (injection eo22 with ea_ en_ ec_; (first | subst ea_ | (injection ea_ with ea_; subst ea_)); subst ec_; clear en_))
        have GB22 := Aside0.mk gb22
        have GG22 := Aside0.mk HG22
        clear gb22 gl22 HG22
        have HMgo22 := Aside0.mk (show (P0_ go22 ∨ w.heap.size ≤ go22) from (HO_0.out.1 _ rfl))
        (first | simp only [Addr.add_lit] at hx150_0 | skip)
        obtain ⟨hx22_0, hf22_0⟩ := Sg.R_celln 0 HO_0.out (x14_1 : Int) p22 q22
        replace p22 := eq_true p22
        replace q22 := eq_true q22
        have HP23 := Sg.R_putg HO_0.out (x14_1 : Int) (of_eq_true (by assumption)) (of_eq_true (by assumption)) ((IntKind.u64.wrap ((IntKind.u64.wrap (rd x0_1 x14_1)) - (Int.tmod x7_1 1000000000))) % 4294967296)
        go_wp2_with (first | ((with_reducible refine gate_store (t := 97) (p := 56) rfl ?_); refine store_event (t := 97) (p := 56) (v := ?vo_w24) (w1 := (wr.setCell ⟨go22, pre_.length + (x14_1 : Int).toNat, none⟩ (.int .u32 ((IntKind.u64.wrap ((IntKind.u64.wrap (rd x0_1 x14_1)) - (Int.tmod x7_1 1000000000))) % 4294967296)))) ?hg ?ho ?hn ?hr ?_; (case ho => rfl); (case hg => rfl); (case hn => rfl); (case hr => first | (go_simp; done) | (go_simp; rfl)); intro w24 hw; have hg : wr.grownBy w24 (some go22) := (by rw [hw]; exact HP23.2); have hp_ : Sg .u32 97 pre_ suf_ w24 w0.heap.size (fun k_ => (P0_ k_ ∨ w.heap.size ≤ k_)) (.slice (some ⟨go22, pre_.length, none⟩) x0_1.length co4) y152 := (by rw [hw, Ny152.out]; exact HP23.1); clear HP23; replace HB := Aside0.mk ((by rw [hw]; exact below_set (HB.out) GB22.out : Below w0.heap.size w0 w24)); replace HK := Aside0.mk (Kept.of_grown (S := (fun k_ => P0_ k_)) hg kw (fun k_ e_ => (HO_0.out.1 k_ e_))); replace HO_0 := Aside0.mk (hp_); clear hg hw hp_))
        (try simp only [← hl0_1])
        go_roundg k1
        case measure => have := HK1.out; omega
        case rel => exact ⟨(y152), (IntKind.u64.wrap (Int.tdiv x7_1 1000000000)), (wrap64 (x14_1 + 1)), zs, zs, H', ⟨by have := HK1.out; omega⟩, ⟨by (try simp only [hl0_1]); (with_reducible repeat (first | apply Sg.R_alloc | apply Sg.R_drewN | apply Sg.R_drew)); exact HO_0.out⟩, ⟨kw⟩, ⟨bw⟩⟩
      ·rw [if_neg c17] at H
       cases H
     ·rw [if_neg c16] at H
      cases H
   ·rw [if_neg c5] at H
    have c5b0 : decide (x14_1 < (l0.length : Int)) = false := decide_eq_false c5
    (try (have c5b0_hl0_1 := c5b0; simp only [hl0_1] at c5b0_hl0_1))
    clear c5
    simp only [Option.some.injEq, Prod.mk.injEq] at H
    obtain ⟨rfl, rfl⟩ := H
    go_wp2
    go_ret
    exact ⟨ze, (by first | exact (by (with_reducible repeat (first | apply Sg.R_alloc | apply Sg.R_drewN | apply Sg.R_drew)); exact HO_0.out) | (simp only [hl0_1]; exact (by (with_reducible repeat (first | apply Sg.R_alloc | apply Sg.R_drewN | apply Sg.R_drew)); exact HO_0.out))), bw, kw⟩

set_option maxHeartbeats 8000000 in
set_option maxRecDepth 100000 in
theorem nat_more.callsS (pre_ suf_ : List Int) (k : Nat) (P0_ : Nat → Prop) (u9000_ : Value) (l0 : List Int) (A1 : Option Addr) (c1 : Nat) (l1 : List Int) (r : List Int) (w0 w : World) (hB : Below w0.heap.size w0 w) (ho0 : Sg .u32 97 pre_ suf_ w w0.heap.size P0_ u9000_ l0) (hr1 : ∀ W_, Kept w W_ (fun k_ => P0_ k_) → Kd.C (Kd.int .u32) W_ A1 l1.length l1) (hc1 : l1.length ≤ c1) (h : nat_more.f k l0 l1 = some r) :
  Calls Tryz.prog 203 #[u9000_, .slice A1 l1.length c1] w fun e w' => e = .returned (.tuple #[]) ∧ Sg .u32 97 pre_ suf_ w' w0.heap.size (fun k_ => (P0_ k_ ∨ w.heap.size ≤ k_)) u9000_ r ∧ Below w0.heap.size w0 w' ∧ Kept w w' (fun k_ => P0_ k_) := by
 have HO0 := Aside0.mk (show Sg .u32 97 pre_ suf_ w w0.heap.size (fun k_ => (P0_ k_ ∨ w.heap.size ≤ k_)) u9000_ l0 from Sg.R_mono ho0 (fun k_ hk => (.inl hk)))
 have HR1 := Aside0.mk hr1
 have HC1 := Aside0.mk hc1
 clear hr1 hc1
 have HK := Aside0.mk (Kept.refl w (fun k_ => P0_ k_))
 have HW0 := Aside0.mk hB.size
 have HB := Aside0.mk hB
 clear hB
 have H : (nat_more.l0 k l0 l1 0 (l0.length : Int) 0) = some r := h
 clear h
 have H' := Aside0.mk H
 clear H
 obtain ⟨Ao3, co3, eo3⟩ := Sg.R_slice HO0.out
 subst eo3
 go_enter Tryz.func203, Tryz.ntmps203
 go_wp2
 go_loopg [4, 9] k (fun kq v4 v9 w' => ∃ (x0_1 : List Int) (x4_1 : Int) (x9_1 : Int), v4 = .int .u32 x4_1 ∧ v9 = .int .i64 x9_1 ∧ Aside0 (nat_more.l0 kq x0_1 l1 x4_1 (l0.length : Int) x9_1 = some r) ∧ Aside0 (kq ≤ k) ∧ Aside0 (Sg .u32 97 pre_ suf_ w' w0.heap.size (fun k_ => (P0_ k_ ∨ w.heap.size ≤ k_)) (.slice Ao3 l0.length co3) x0_1) ∧ Aside0 (Kept w w' (fun k_ => P0_ k_)) ∧ Aside0 (Below w0.heap.size w0 w'))
 case atStart => exact ⟨(l0), (0), (0), zs, zs, H', ⟨Nat.le_refl _⟩, ⟨by (with_reducible repeat (first | apply Sg.R_alloc | apply Sg.R_drewN | apply Sg.R_drew)); exact HO0.out⟩, ⟨kw⟩, ⟨bw⟩⟩
 case round =>
  clear H'
  try clear c1
  try clear c2
  try clear p2
  obtain ⟨x0_1, x4_1, x9_1, rfl, rfl, HA, HK1, HO_0, HK, HB⟩ := hrel
  have hl0_1 := (Sg.R_reads' HO_0.out).1
  rw [hl0_1] at HO_0
  (try simp only [hl0_1])
  cases gk with
  | zero => exact absurd HA.out (by simp [nat_more.l0])
  | succ k1 =>
   have H := HA.out
   clear HA
   simp only [nat_more.l0] at H
   by_cases c4 : x9_1 < (l0.length : Int)
   ·rw [if_pos c4] at H
    have c4b0 : decide (x9_1 < (l0.length : Int)) = true := decide_eq_true c4
    (try (have c4b0_hl0_1 := c4b0; simp only [hl0_1] at c4b0_hl0_1))
    clear c4
    by_cases c5 : 0 ≤ x9_1
    ·rw [if_pos c5] at H
     have c5b0 : decide (0 ≤ x9_1) = true := decide_eq_true c5
     clear c5
     by_cases c6 : x9_1 < (x0_1.length : Int)
     ·rw [if_pos c6] at H
      have c6b0 : decide (x9_1 < (x0_1.length : Int)) = true := decide_eq_true c6
      (try (have c6b0_hl0_1 := c6b0; simp only [hl0_1] at c6b0_hl0_1))
      clear c6
      by_cases c7 : x9_1 < (l1.length : Int)
      ·rw [if_pos c7] at H
       have c7b0 : decide (x9_1 < (l1.length : Int)) = true := decide_eq_true c7
       (try (have c7b0_hl0_1 := c7b0; simp only [hl0_1] at c7b0_hl0_1))
       clear c7
       obtain ⟨y155, hy155⟩ : ∃ y_ : List Int, y_ = (x0_1.set (x9_1 : Int).toNat ((((((rd x0_1 x9_1) + x4_1) % 4294967296) + (rd l1 x9_1)) % 4294967296) % 1000000000)) := ⟨_, rfl⟩
       replace H : (nat_more.l0 k1 y155 l1 ((((((rd x0_1 x9_1) + x4_1) % 4294967296) + (rd l1 x9_1)) % 4294967296) / 1000000000) (l0.length : Int) (wrap64 (x9_1 + 1))) = some r := zy hy155 H
       have Ny155 := Aside0.mk hy155
       clear hy155
       have H' := Aside0.mk H
       clear H
       have p153 : 0 ≤ (x9_1 : Int) := zd
       have q153 : x9_1 < (x0_1.length : Int) := zd
       obtain ⟨ad153, e153, hx153_0⟩ := Kd.at_int (Sg.R_reads' HO_0.out).2.2 x9_1 p153 q153
       cases e153
       replace p153 := eq_true p153
       replace q153 := eq_true q153
       have p154 : 0 ≤ (x9_1 : Int) := zd
       have q154 : x9_1 < (l1.length : Int) := zd
       obtain ⟨ad154, e154, hx154_0⟩ := Kd.at_int (Kd.C_kept_now HR1.out HK.out) x9_1 p154 q154
       cases e154
       replace p154 := eq_true p154
       replace q154 := eq_true q154
       have p8 : 0 ≤ (x9_1 : Int) := zd
       have q8 : (x9_1 : Int) < ((x0_1.length : Int) : Int) := zd
       obtain ⟨go8, co8, eo8, gb8, gl8, cl8, HG8⟩ := Sg.R_form HO_0.out (by omega)
       (first | cases eo8 | (injection eo8 with ea_ en_ ec_; (first | subst ea_ | (injection ea_ with ea_; subst ea_)); subst ec_; clear en_))
       have GB8 := Aside0.mk gb8
       have GG8 := Aside0.mk HG8
       clear gb8 gl8 HG8
       have HMgo8 := Aside0.mk (show (P0_ go8 ∨ w.heap.size ≤ go8) from (HO_0.out.1 _ rfl))
       (first | simp only [Addr.add_lit] at hx153_0 | skip)
       obtain ⟨hx8_0, hf8_0⟩ := Sg.R_celln 0 HO_0.out (x9_1 : Int) p8 q8
       replace p8 := eq_true p8
       replace q8 := eq_true q8
       have HP9 := Sg.R_putg HO_0.out (x9_1 : Int) (of_eq_true (by assumption)) (of_eq_true (by assumption)) ((((((rd x0_1 x9_1) + x4_1) % 4294967296) + (rd l1 x9_1)) % 4294967296) % 1000000000)
       go_wp2_with (first | ((with_reducible refine gate_store (t := 97) (p := 34) rfl ?_); refine store_event (t := 97) (p := 34) (v := ?vo_w10) (w1 := (wr.setCell ⟨go8, pre_.length + (x9_1 : Int).toNat, none⟩ (.int .u32 ((((((rd x0_1 x9_1) + x4_1) % 4294967296) + (rd l1 x9_1)) % 4294967296) % 1000000000)))) ?hg ?ho ?hn ?hr ?_; (case ho => rfl); (case hg => rfl); (case hn => rfl); (case hr => first | (go_simp; done) | (go_simp; rfl)); intro w10 hw; have hg : wr.grownBy w10 (some go8) := (by rw [hw]; exact HP9.2); have hp_ : Sg .u32 97 pre_ suf_ w10 w0.heap.size (fun k_ => (P0_ k_ ∨ w.heap.size ≤ k_)) (.slice (some ⟨go8, pre_.length, none⟩) x0_1.length co3) y155 := (by rw [hw, Ny155.out]; exact HP9.1); clear HP9; replace HB := Aside0.mk ((by rw [hw]; exact below_set (HB.out) GB8.out : Below w0.heap.size w0 w10)); replace HK := Aside0.mk (Kept.of_grown (S := (fun k_ => P0_ k_)) hg kw (fun k_ e_ => (HO_0.out.1 k_ e_))); replace HO_0 := Aside0.mk (hp_); clear hg hw hp_))
       (try simp only [← hl0_1])
       go_roundg k1
       case measure => have := HK1.out; omega
       case rel => exact ⟨(y155), ((((((rd x0_1 x9_1) + x4_1) % 4294967296) + (rd l1 x9_1)) % 4294967296) / 1000000000), (wrap64 (x9_1 + 1)), zs, zs, H', ⟨by have := HK1.out; omega⟩, ⟨by (try simp only [hl0_1]); (with_reducible repeat (first | apply Sg.R_alloc | apply Sg.R_drewN | apply Sg.R_drew)); exact HO_0.out⟩, ⟨kw⟩, ⟨bw⟩⟩
      ·rw [if_neg c7] at H
       have c7b0 : decide (x9_1 < (l1.length : Int)) = false := decide_eq_false c7
       (try (have c7b0_hl0_1 := c7b0; simp only [hl0_1] at c7b0_hl0_1))
       clear c7
       obtain ⟨y156, hy156⟩ : ∃ y_ : List Int, y_ = (x0_1.set (x9_1 : Int).toNat ((((rd x0_1 x9_1) + x4_1) % 4294967296) % 1000000000)) := ⟨_, rfl⟩
       replace H : (nat_more.l0 k1 y156 l1 ((((rd x0_1 x9_1) + x4_1) % 4294967296) / 1000000000) (l0.length : Int) (wrap64 (x9_1 + 1))) = some r := zy hy156 H
       have Ny156 := Aside0.mk hy156
       clear hy156
       have H' := Aside0.mk H
       clear H
       have p153 : 0 ≤ (x9_1 : Int) := zd
       have q153 : x9_1 < (x0_1.length : Int) := zd
       obtain ⟨ad153, e153, hx153_0⟩ := Kd.at_int (Sg.R_reads' HO_0.out).2.2 x9_1 p153 q153
       cases e153
       replace p153 := eq_true p153
       replace q153 := eq_true q153
       have p11 : 0 ≤ (x9_1 : Int) := zd
       have q11 : (x9_1 : Int) < ((x0_1.length : Int) : Int) := zd
       obtain ⟨go11, co11, eo11, gb11, gl11, cl11, HG11⟩ := Sg.R_form HO_0.out (by omega)
       (first | cases eo11 | (injection eo11 with ea_ en_ ec_; (first | subst ea_ | (injection ea_ with ea_; subst ea_)); subst ec_; clear en_))
       have GB11 := Aside0.mk gb11
       have GG11 := Aside0.mk HG11
       clear gb11 gl11 HG11
       have HMgo11 := Aside0.mk (show (P0_ go11 ∨ w.heap.size ≤ go11) from (HO_0.out.1 _ rfl))
       (first | simp only [Addr.add_lit] at hx153_0 | skip)
       obtain ⟨hx11_0, hf11_0⟩ := Sg.R_celln 0 HO_0.out (x9_1 : Int) p11 q11
       replace p11 := eq_true p11
       replace q11 := eq_true q11
       have HP12 := Sg.R_putg HO_0.out (x9_1 : Int) (of_eq_true (by assumption)) (of_eq_true (by assumption)) ((((rd x0_1 x9_1) + x4_1) % 4294967296) % 1000000000)
       go_wp2_with (first | ((with_reducible refine gate_store (t := 97) (p := 34) rfl ?_); refine store_event (t := 97) (p := 34) (v := ?vo_w13) (w1 := (wr.setCell ⟨go11, pre_.length + (x9_1 : Int).toNat, none⟩ (.int .u32 ((((rd x0_1 x9_1) + x4_1) % 4294967296) % 1000000000)))) ?hg ?ho ?hn ?hr ?_; (case ho => rfl); (case hg => rfl); (case hn => rfl); (case hr => first | (go_simp; done) | (go_simp; rfl)); intro w13 hw; have hg : wr.grownBy w13 (some go11) := (by rw [hw]; exact HP12.2); have hp_ : Sg .u32 97 pre_ suf_ w13 w0.heap.size (fun k_ => (P0_ k_ ∨ w.heap.size ≤ k_)) (.slice (some ⟨go11, pre_.length, none⟩) x0_1.length co3) y156 := (by rw [hw, Ny156.out]; exact HP12.1); clear HP12; replace HB := Aside0.mk ((by rw [hw]; exact below_set (HB.out) GB11.out : Below w0.heap.size w0 w13)); replace HK := Aside0.mk (Kept.of_grown (S := (fun k_ => P0_ k_)) hg kw (fun k_ e_ => (HO_0.out.1 k_ e_))); replace HO_0 := Aside0.mk (hp_); clear hg hw hp_))
       (try simp only [← hl0_1])
       go_roundg k1
       case measure => have := HK1.out; omega
       case rel => exact ⟨(y156), ((((rd x0_1 x9_1) + x4_1) % 4294967296) / 1000000000), (wrap64 (x9_1 + 1)), zs, zs, H', ⟨by have := HK1.out; omega⟩, ⟨by (try simp only [hl0_1]); (with_reducible repeat (first | apply Sg.R_alloc | apply Sg.R_drewN | apply Sg.R_drew)); exact HO_0.out⟩, ⟨kw⟩, ⟨bw⟩⟩
     ·rw [if_neg c6] at H
      cases H
    ·rw [if_neg c5] at H
     cases H
   ·rw [if_neg c4] at H
    have c4b0 : decide (x9_1 < (l0.length : Int)) = false := decide_eq_false c4
    (try (have c4b0_hl0_1 := c4b0; simp only [hl0_1] at c4b0_hl0_1))
    clear c4
    obtain rfl := Option.some.inj H
    go_wp2
    first | go_end0 | ((try simp only [Exit.inBlock, Exit.then]); refine bodyPost_ret (results_none rfl _ _ _) rfl ?_)
    exact ⟨ze, (by first | exact (by (with_reducible repeat (first | apply Sg.R_alloc | apply Sg.R_drewN | apply Sg.R_drew)); exact HO_0.out) | (simp only [hl0_1]; exact (by (with_reducible repeat (first | apply Sg.R_alloc | apply Sg.R_drewN | apply Sg.R_drew)); exact HO_0.out))), bw, kw⟩

set_option maxHeartbeats 8000000 in
set_option maxRecDepth 100000 in
theorem nat_digit.callsS (pre_ suf_ : List Int) (k : Nat) (P0_ : Nat → Prop) (u9000_ : Value) (l0 : List Int) (A1 : Option Addr) (c1 : Nat) (l1 : List Int) (r1 : Int) (r2 : List Int) (w0 w : World) (hB : Below w0.heap.size w0 w) (ho0 : Sg .u32 97 pre_ suf_ w w0.heap.size P0_ u9000_ l0) (hr1 : ∀ W_, Kept w W_ (fun k_ => P0_ k_) → Kd.C (Kd.int .u32) W_ A1 l1.length l1) (hc1 : l1.length ≤ c1) (h : nat_digit.f k l0 l1 = some (r1, r2)) :
  Calls Tryz.prog 180 #[u9000_, .slice A1 l1.length c1] w fun e w' => e = .returned (.int .u64 r1) ∧ Sg .u32 97 pre_ suf_ w' w0.heap.size (fun k_ => (P0_ k_ ∨ w.heap.size ≤ k_)) u9000_ r2 ∧ Below w0.heap.size w0 w' ∧ Kept w w' (fun k_ => P0_ k_) := by
 have HO0 := Aside0.mk (show Sg .u32 97 pre_ suf_ w w0.heap.size (fun k_ => (P0_ k_ ∨ w.heap.size ≤ k_)) u9000_ l0 from Sg.R_mono ho0 (fun k_ hk => (.inl hk)))
 have HR1 := Aside0.mk hr1
 have HC1 := Aside0.mk hc1
 clear hr1 hc1
 have HK := Aside0.mk (Kept.refl w (fun k_ => P0_ k_))
 have HW0 := Aside0.mk hB.size
 have HB := Aside0.mk hB
 clear hB
 have H : (if 0 ≤ (l1.length : Int) then (if (l1.length : Int) < (l0.length : Int) then (if 0 ≤ (wrap64 ((l1.length : Int) - 1)) then (if (wrap64 ((l1.length : Int) - 1)) < (l0.length : Int) then (if (wrap64 ((l1.length : Int) - 1)) < (l1.length : Int) then (if (IntKind.u64.wrap (rd l1 (wrap64 ((l1.length : Int) - 1)))) = 0 then (none) else (nat_digit.l0 k l0 l1 (l1.length : Int) (mn (IntKind.u64.wrap (Int.tdiv (IntKind.u64.wrap ((IntKind.u64.wrap ((IntKind.u64.wrap (rd l0 (l1.length : Int))) * 1000000000)) + (IntKind.u64.wrap (rd l0 (wrap64 ((l1.length : Int) - 1)))))) (IntKind.u64.wrap (rd l1 (wrap64 ((l1.length : Int) - 1)))))) 999999999) (IntKind.u64.wrap ((IntKind.u64.wrap ((IntKind.u64.wrap ((IntKind.u64.wrap (rd l0 (l1.length : Int))) * 1000000000)) + (IntKind.u64.wrap (rd l0 (wrap64 ((l1.length : Int) - 1)))))) - (IntKind.u64.wrap ((mn (IntKind.u64.wrap (Int.tdiv (IntKind.u64.wrap ((IntKind.u64.wrap ((IntKind.u64.wrap (rd l0 (l1.length : Int))) * 1000000000)) + (IntKind.u64.wrap (rd l0 (wrap64 ((l1.length : Int) - 1)))))) (IntKind.u64.wrap (rd l1 (wrap64 ((l1.length : Int) - 1)))))) 999999999) * (IntKind.u64.wrap (rd l1 (wrap64 ((l1.length : Int) - 1)))))))))) else (none)) else (none)) else (none)) else (none)) else (none)) = some (r1, r2) := h
 clear h
 by_cases c3 : 0 ≤ (l1.length : Int)
 ·rw [if_pos c3] at H
  have c3b0 : decide (0 ≤ (l1.length : Int)) = true := decide_eq_true c3
  have c3b1 : decide (0 ≤ l1.length) = true := decide_eq_true (by omega)
  clear c3
  by_cases c4 : (l1.length : Int) < (l0.length : Int)
  ·rw [if_pos c4] at H
   have c4b0 : decide ((l1.length : Int) < (l0.length : Int)) = true := decide_eq_true c4
   have c4b1 : decide (l1.length < l0.length) = true := decide_eq_true (Int.ofNat_lt.mp c4)
   clear c4
   obtain ⟨ji5, hji5⟩ : ∃ j_ : Int, (wrap64 ((l1.length : Int) - 1)) = j_ := ⟨_, rfl⟩
   replace H : (if 0 ≤ (ji5) then (if (ji5) < (l0.length : Int) then (if (ji5) < (l1.length : Int) then (if (IntKind.u64.wrap (rd l1 (ji5))) = 0 then (none) else (nat_digit.l0 k l0 l1 (l1.length : Int) (mn (IntKind.u64.wrap (Int.tdiv (IntKind.u64.wrap ((IntKind.u64.wrap ((IntKind.u64.wrap (rd l0 (l1.length : Int))) * 1000000000)) + (IntKind.u64.wrap (rd l0 (ji5))))) (IntKind.u64.wrap (rd l1 (ji5))))) 999999999) (IntKind.u64.wrap ((IntKind.u64.wrap ((IntKind.u64.wrap ((IntKind.u64.wrap (rd l0 (l1.length : Int))) * 1000000000)) + (IntKind.u64.wrap (rd l0 (ji5))))) - (IntKind.u64.wrap ((mn (IntKind.u64.wrap (Int.tdiv (IntKind.u64.wrap ((IntKind.u64.wrap ((IntKind.u64.wrap (rd l0 (l1.length : Int))) * 1000000000)) + (IntKind.u64.wrap (rd l0 (ji5))))) (IntKind.u64.wrap (rd l1 (ji5))))) 999999999) * (IntKind.u64.wrap (rd l1 (ji5))))))))) else (none)) else (none)) else (none)) = some (r1, r2) := by first | (rw [hji5] at H; exact H) | (simp only [hji5] at H ⊢; exact H)
   have hji5w : (IntKind.i64.wrap ((l1.length : Int) - 1)) = ji5 := (i64_w _).trans hji5
   by_cases c6 : 0 ≤ (ji5)
   ·rw [if_pos c6] at H
    have c6b0 : decide (0 ≤ (ji5)) = true := decide_eq_true c6
    clear c6
    by_cases c7 : (ji5) < (l0.length : Int)
    ·rw [if_pos c7] at H
     have c7b0 : decide ((ji5) < (l0.length : Int)) = true := decide_eq_true c7
     clear c7
     by_cases c8 : (ji5) < (l1.length : Int)
     ·rw [if_pos c8] at H
      have c8b0 : decide ((ji5) < (l1.length : Int)) = true := decide_eq_true c8
      clear c8
      by_cases c9 : (IntKind.u64.wrap (rd l1 (ji5))) = 0
      ·rw [if_pos c9] at H
       cases H
      ·rw [if_neg c9] at H
       have c9b0 : ((IntKind.u64.wrap (rd l1 (ji5))) == 0) = false := beq_eq_false_iff_ne.mpr c9
       have c9b1 : ((IntKind.u64.wrap (rd l1 (ji5))) != 0) = true := bne_iff_ne.mpr c9
       obtain ⟨ji10, hji10⟩ : ∃ j_ : Int, (mn (IntKind.u64.wrap (Int.tdiv (IntKind.u64.wrap ((IntKind.u64.wrap ((IntKind.u64.wrap (rd l0 (l1.length : Int))) * 1000000000)) + (IntKind.u64.wrap (rd l0 (ji5))))) (IntKind.u64.wrap (rd l1 (ji5))))) 999999999) = j_ := ⟨_, rfl⟩
       replace H : (nat_digit.l0 k l0 l1 (l1.length : Int) ji10 (IntKind.u64.wrap ((IntKind.u64.wrap ((IntKind.u64.wrap ((IntKind.u64.wrap (rd l0 (l1.length : Int))) * 1000000000)) + (IntKind.u64.wrap (rd l0 (ji5))))) - (IntKind.u64.wrap ((ji10) * (IntKind.u64.wrap (rd l1 (ji5)))))))) = some (r1, r2) := by first | (rw [hji10] at H; exact H) | (simp only [hji10] at H ⊢; exact H)
       have hji10_ : (if 999999999 < (IntKind.u64.wrap (Int.tdiv (IntKind.u64.wrap ((IntKind.u64.wrap ((IntKind.u64.wrap (rd l0 (l1.length : Int))) * 1000000000)) + (IntKind.u64.wrap (rd l0 (ji5))))) (IntKind.u64.wrap (rd l1 (ji5))))) then 999999999 else (IntKind.u64.wrap (Int.tdiv (IntKind.u64.wrap ((IntKind.u64.wrap ((IntKind.u64.wrap (rd l0 (l1.length : Int))) * 1000000000)) + (IntKind.u64.wrap (rd l0 (ji5))))) (IntKind.u64.wrap (rd l1 (ji5)))))) = ji10 := hji10
       have HC11 := Aside0.mk H
       clear H
       obtain ⟨Ao12, co12, eo12⟩ := Sg.R_slice HO0.out
       subst eo12
       have p157 : 0 ≤ ((l1.length : Int) : Int) := zd
       have q157 : (l1.length : Int) < (l0.length : Int) := zd
       obtain ⟨ad157, e157, hx157_0⟩ := Kd.at_int (Sg.R_reads' HO0.out).2.2 (l1.length : Int) p157 q157
       cases e157
       (try simp only [Go.IntWalk.toNatUp] at hx157_0)
       replace p157 := eq_true p157
       replace q157 := eq_true q157
       have p158 : 0 ≤ ((ji5) : Int) := zd
       have q158 : (ji5) < (l0.length : Int) := zd
       obtain ⟨ad158, e158, hx158_0⟩ := Kd.at_int (Sg.R_reads' HO0.out).2.2 (ji5) p158 q158
       obtain rfl : ad157 = ad158 := (by injection e158)
       replace p158 := eq_true p158
       replace q158 := eq_true q158
       have p159 : 0 ≤ ((ji5) : Int) := zd
       have q159 : (ji5) < (l1.length : Int) := zd
       obtain ⟨ad159, e159, hx159_0⟩ := Kd.at_int (Kd.C_kept_now HR1.out HK.out) (ji5) p159 q159
       cases e159
       replace p159 := eq_true p159
       replace q159 := eq_true q159
       have p160 : 0 ≤ ((ji5) : Int) := zd
       have q160 : (ji5) < (l1.length : Int) := zd
       obtain ⟨ad160, e160, hx160_0⟩ := Kd.at_int (Kd.C_kept_now HR1.out HK.out) (ji5) p160 q160
       obtain rfl : ad159 = ad160 := (by injection e160)
       replace p160 := eq_true p160
       replace q160 := eq_true q160
       go_enter Tryz.func180, Tryz.ntmps180
       go_upto_block 0 with (fail)
       repeat (go_quiet (fail); go_upto_block 0 with (fail))
       go_cut [7] (fun v7 wc => ∃ (kq : Nat) (x7_10 : Int), v7 = .int .u64 x7_10 ∧ Aside0 (nat_digit.j1 kq l0 l1 x7_10 = some (r1, r2)) ∧ Aside0 (kq ≤ k) ∧ Aside0 (Sg .u32 97 pre_ suf_ wc w0.heap.size (fun k_ => (P0_ k_ ∨ w.heap.size ≤ k_)) (.slice (some ad157) l0.length co12) l0) ∧ Aside0 (Kept w wc (fun k_ => P0_ k_)) ∧ Aside0 (Below w0.heap.size w0 wc))
       case first =>
        have H := HC11.out
        clear HC11
        have H' := Aside0.mk H
        clear H
        go_wp2
        repeat (go_quiet (fail); try go_wp2)
        go_loopg [7, 8] k (fun kq v7 v8 w' => ∃ (x7_1 : Int) (x8_1 : Int), v7 = .int .u64 x7_1 ∧ v8 = .int .u64 x8_1 ∧ Aside0 (nat_digit.l0 kq l0 l1 (l1.length : Int) x7_1 x8_1 = some (r1, r2)) ∧ Aside0 (kq ≤ k) ∧ Aside0 (Sg .u32 97 pre_ suf_ w' w0.heap.size (fun k_ => (P0_ k_ ∨ w.heap.size ≤ k_)) (.slice (some ad157) l0.length co12) l0) ∧ Aside0 (Kept w w' (fun k_ => P0_ k_)) ∧ Aside0 (Below w0.heap.size w0 w'))
        case atStart => exact ⟨(ji10), (IntKind.u64.wrap ((IntKind.u64.wrap ((IntKind.u64.wrap ((IntKind.u64.wrap (rd l0 (l1.length : Int))) * 1000000000)) + (IntKind.u64.wrap (rd l0 (ji5))))) - (IntKind.u64.wrap ((ji10) * (IntKind.u64.wrap (rd l1 (ji5))))))), (by first | rfl | (simp; done) | (simp only [← hji10] <;> (first | rfl | simp)) | (simp [*]; done)), (by first | rfl | (simp; done) | (simp only [← hji5, ← hji10] <;> (first | rfl | simp)) | (simp [*]; done)), H', ⟨Nat.le_refl _⟩, ⟨by (with_reducible repeat (first | apply Sg.R_alloc | apply Sg.R_drewN | apply Sg.R_drew)); exact HO0.out⟩, ⟨kw⟩, ⟨bw⟩⟩
        case round =>
         clear H'
         try clear c1
         try clear p1
         try clear q1
         try clear hx1
         try clear p2
         try clear c3
         try clear c3b0
         try clear c3b1
         try clear c4
         try clear c4b0
         try clear c4b1
         try clear c6
         try clear c6b0
         try clear p6
         try clear c7
         try clear c7b0
         try clear c8
         try clear c8b0
         try clear c9
         try clear c9b0
         try clear c9b1
         try clear hx157_0
         try clear hx158_0
         try clear hx159_0
         try clear hx160_0
         try clear p157
         try clear p158
         try clear p159
         try clear p160
         try clear q157
         try clear q158
         try clear q159
         try clear q160
         obtain ⟨x7_1, x8_1, rfl, rfl, HA, HK1, HO_0, HK, HB⟩ := hrel
         cases gk with
         | zero => exact absurd HA.out (by simp [nat_digit.l0])
         | succ k1 =>
          have H := HA.out
          clear HA
          simp only [nat_digit.l0] at H
          by_cases c13 : x8_1 < 1000000000
          ·rw [if_pos c13] at H
           have c13b0 : decide (x8_1 < 1000000000) = true := decide_eq_true c13
           clear c13
           (first | rw [c13b0] | (simp only [i64_w, i32_w]; rw [c13b0]) | skip)
           obtain ⟨ji14, hji14⟩ : ∃ j_ : Int, (wrap64 ((l1.length : Int) - 2)) = j_ := ⟨_, rfl⟩
           replace H : (if 0 ≤ (ji14) then (if (ji14) < (l1.length : Int) then (if (ji14) < (l0.length : Int) then (if (IntKind.u64.wrap (x7_1 * (IntKind.u64.wrap (rd l1 (ji14))))) > (IntKind.u64.wrap ((IntKind.u64.wrap (x8_1 * 1000000000)) + (IntKind.u64.wrap (rd l0 (ji14))))) then (if 0 ≤ (wrap64 ((l1.length : Int) - 1)) then (if (wrap64 ((l1.length : Int) - 1)) < (l1.length : Int) then (nat_digit.l0 k1 l0 l1 (l1.length : Int) (IntKind.u64.wrap (x7_1 - 1)) (IntKind.u64.wrap (x8_1 + (IntKind.u64.wrap (rd l1 (wrap64 ((l1.length : Int) - 1))))))) else (none)) else (none)) else (nat_digit.j1 k1 l0 l1 x7_1)) else (none)) else (none)) else (none)) = some (r1, r2) := by first | (rw [hji14] at H; exact H) | (simp only [hji14] at H ⊢; exact H)
           have hji14w : (IntKind.i64.wrap ((l1.length : Int) - 2)) = ji14 := (i64_w _).trans hji14
           by_cases c15 : 0 ≤ (ji14)
           ·rw [if_pos c15] at H
            have c15b0 : decide (0 ≤ (ji14)) = true := decide_eq_true c15
            clear c15
            by_cases c16 : (ji14) < (l1.length : Int)
            ·rw [if_pos c16] at H
             have c16b0 : decide ((ji14) < (l1.length : Int)) = true := decide_eq_true c16
             clear c16
             by_cases c17 : (ji14) < (l0.length : Int)
             ·rw [if_pos c17] at H
              have c17b0 : decide ((ji14) < (l0.length : Int)) = true := decide_eq_true c17
              clear c17
              by_cases c18 : (IntKind.u64.wrap (x7_1 * (IntKind.u64.wrap (rd l1 (ji14))))) > (IntKind.u64.wrap ((IntKind.u64.wrap (x8_1 * 1000000000)) + (IntKind.u64.wrap (rd l0 (ji14)))))
              ·rw [if_pos c18] at H
               have c18b0 : decide ((IntKind.u64.wrap ((IntKind.u64.wrap (x8_1 * 1000000000)) + (IntKind.u64.wrap (rd l0 (ji14))))) < (IntKind.u64.wrap (x7_1 * (IntKind.u64.wrap (rd l1 (ji14)))))) = true := decide_eq_true c18
               clear c18
               obtain ⟨ji19, hji19⟩ : ∃ j_ : Int, (wrap64 ((l1.length : Int) - 1)) = j_ := ⟨_, rfl⟩
               replace H : (if 0 ≤ (ji19) then (if (ji19) < (l1.length : Int) then (nat_digit.l0 k1 l0 l1 (l1.length : Int) (IntKind.u64.wrap (x7_1 - 1)) (IntKind.u64.wrap (x8_1 + (IntKind.u64.wrap (rd l1 (ji19)))))) else (none)) else (none)) = some (r1, r2) := by first | (rw [hji19] at H; exact H) | (simp only [hji19] at H ⊢; exact H)
               (try clear hji5w)
               (try clear hji5)
               have hji19w : (IntKind.i64.wrap ((l1.length : Int) - 1)) = ji19 := (i64_w _).trans hji19
               by_cases c20 : 0 ≤ (ji19)
               ·rw [if_pos c20] at H
                have c20b0 : decide (0 ≤ (ji19)) = true := decide_eq_true c20
                clear c20
                by_cases c21 : (ji19) < (l1.length : Int)
                ·rw [if_pos c21] at H
                 have c21b0 : decide ((ji19) < (l1.length : Int)) = true := decide_eq_true c21
                 clear c21
                 have H' := Aside0.mk H
                 clear H
                 have p161 : 0 ≤ ((ji14) : Int) := zd
                 have q161 : (ji14) < (l1.length : Int) := zd
                 obtain ⟨ad161, e161, hx161_0⟩ := Kd.at_int (Kd.C_kept_now HR1.out HK.out) (ji14) p161 q161
                 obtain rfl : ad159 = ad161 := (by injection e161)
                 replace p161 := eq_true p161
                 replace q161 := eq_true q161
                 have p162 : 0 ≤ ((ji14) : Int) := zd
                 have q162 : (ji14) < (l0.length : Int) := zd
                 obtain ⟨ad162, e162, hx162_0⟩ := Kd.at_int (Sg.R_reads' HO_0.out).2.2 (ji14) p162 q162
                 obtain rfl : ad157 = ad162 := (by injection e162)
                 replace p162 := eq_true p162
                 replace q162 := eq_true q162
                 have p163 : 0 ≤ ((ji19) : Int) := zd
                 have q163 : (ji19) < (l1.length : Int) := zd
                 obtain ⟨ad163, e163, hx163_0⟩ := Kd.at_int (Kd.C_kept_now HR1.out HK.out) (ji19) p163 q163
                 obtain rfl : ad159 = ad163 := (by injection e163)
                 replace p163 := eq_true p163
                 replace q163 := eq_true q163
                 go_wp2
                 repeat (go_quiet (fail); try go_wp2)
                 go_roundg k1
                 case measure => have := HK1.out; omega
                 case rel => exact ⟨(IntKind.u64.wrap (x7_1 - 1)), (IntKind.u64.wrap (x8_1 + (IntKind.u64.wrap (rd l1 (ji19))))), zs, (by first | rfl | (simp; done) | (simp only [← hji19] <;> (first | rfl | simp)) | (simp [*]; done)), H', ⟨by have := HK1.out; omega⟩, ⟨by (with_reducible repeat (first | apply Sg.R_alloc | apply Sg.R_drewN | apply Sg.R_drew)); exact HO_0.out⟩, ⟨kw⟩, ⟨bw⟩⟩
                ·rw [if_neg c21] at H
                 cases H
               ·rw [if_neg c20] at H
                cases H
              ·rw [if_neg c18] at H
               have c18b0 : decide ((IntKind.u64.wrap ((IntKind.u64.wrap (x8_1 * 1000000000)) + (IntKind.u64.wrap (rd l0 (ji14))))) < (IntKind.u64.wrap (x7_1 * (IntKind.u64.wrap (rd l1 (ji14)))))) = false := decide_eq_false c18
               clear c18
               have H' := Aside0.mk H
               clear H
               have p161 : 0 ≤ ((ji14) : Int) := zd
               have q161 : (ji14) < (l1.length : Int) := zd
               obtain ⟨ad161, e161, hx161_0⟩ := Kd.at_int (Kd.C_kept_now HR1.out HK.out) (ji14) p161 q161
               obtain rfl : ad159 = ad161 := (by injection e161)
               replace p161 := eq_true p161
               replace q161 := eq_true q161
               have p162 : 0 ≤ ((ji14) : Int) := zd
               have q162 : (ji14) < (l0.length : Int) := zd
               obtain ⟨ad162, e162, hx162_0⟩ := Kd.at_int (Sg.R_reads' HO_0.out).2.2 (ji14) p162 q162
               obtain rfl : ad157 = ad162 := (by injection e162)
               replace p162 := eq_true p162
               replace q162 := eq_true q162
               go_wp2
               repeat (go_quiet (fail); try go_wp2)
               go_meet
               case rel => exact ⟨_, (x7_1), zs, H', ⟨by have := HK1.out; first | omega | exact Nat.le_refl _⟩, ⟨by (with_reducible repeat (first | apply Sg.R_alloc | apply Sg.R_drewN | apply Sg.R_drew)); exact HO_0.out⟩, ⟨kw⟩, ⟨bw⟩⟩
             ·rw [if_neg c17] at H
              cases H
            ·rw [if_neg c16] at H
             cases H
           ·rw [if_neg c15] at H
            cases H
          ·rw [if_neg c13] at H
           have c13b0 : decide (x8_1 < 1000000000) = false := decide_eq_false c13
           clear c13
           (first | rw [c13b0] | (simp only [i64_w, i32_w]; rw [c13b0]) | skip)
           have H' := Aside0.mk H
           clear H
           go_wp2
           repeat (go_quiet (fail); try go_wp2)
           go_meet
           case rel => exact ⟨_, (x7_1), zs, H', ⟨by have := HK1.out; first | omega | exact Nat.le_refl _⟩, ⟨by (with_reducible repeat (first | apply Sg.R_alloc | apply Sg.R_drewN | apply Sg.R_drew)); exact HO_0.out⟩, ⟨kw⟩, ⟨bw⟩⟩
       case rest =>
        clear HC11
        try clear c1
        try clear p1
        try clear q1
        try clear hx1
        try clear c2
        try clear p2
        try clear c3
        try clear c3b0
        try clear c3b1
        try clear c4
        try clear c4b0
        try clear c4b1
        try clear c6
        try clear c6b0
        try clear p6
        try clear c7
        try clear c7b0
        try clear c8
        try clear c8b0
        try clear c9
        try clear c9b0
        try clear c9b1
        try clear c13
        try clear c13b0
        try clear c15
        try clear c15b0
        try clear p15
        try clear q15
        try clear hx15
        try clear c16
        try clear c16b0
        try clear p16
        try clear q16
        try clear hx16
        try clear c17
        try clear c17b0
        try clear c18
        try clear c18b0
        try clear c20
        try clear c20b0
        try clear c21
        try clear c21b0
        try clear hx157_0
        try clear hx158_0
        try clear hx159_0
        try clear hx160_0
        try clear hx161_0
        try clear hx162_0
        try clear hx163_0
        try clear p1
        try clear p157
        try clear p158
        try clear p159
        try clear p160
        try clear p161
        try clear p162
        try clear p163
        try clear p2
        try clear p6
        try clear q1
        try clear q157
        try clear q158
        try clear q159
        try clear q160
        try clear q161
        try clear q162
        try clear q163
        obtain ⟨kq, x7_10, rfl, HA, HJ10, HO_0, HK, HB⟩ := hcut
        cases kq with
        | zero => exact absurd HA.out (by simp [nat_digit.j1])
        | succ kj10 =>
         have H := HA.out
         clear HA
         simp only [nat_digit.j1] at H
         replace H := Option.bind_eq_some_iff.mp H
         obtain ⟨⟨t164, t165⟩, A220, H⟩ := H
         replace H : (if t164 = true then ((nat_more.f kj10 t165 l1).bind fun t166 => (some (IntKind.u64.wrap (x7_10 - 1), t166))) else (some (x7_10, t165))) = some (r1, r2) := H
         have A22 := Aside0.mk A220
         clear A220
         by_cases c23 : t164 = true
         ·subst c23
          have H1 : ((nat_more.f kj10 t165 l1).bind fun t166 => (some (IntKind.u64.wrap (x7_10 - 1), t166))) = some (r1, r2) := by rw [if_pos rfl] at H; exact H
          clear H
          have H := H1
          clear H1
          obtain ⟨t166, A24, H⟩ := zB H
          simp only [Option.some.injEq, Prod.mk.injEq] at H
          obtain ⟨rfl, rfl⟩ := H
          go_wp2_with (first | (go_at_call 202; (with_reducible refine (nat_less.callsS pre_ suf_ kj10 (fun k_ => some k_ = (.slice (some ad157) l0.length co12 : Value).ownBlock) (.slice (some ad157) l0.length co12) l0 _ _ l1 x7_10 true t165 w0 _ ?side1 ?side2 ?side3 ?side4 A22.out).mono ?_); (case side1 => exact bw); (case side2 => exact Sg.R_tight HO_0.out); (case side3 => exact Kd.C_kept_call HR1.out kw (fun k_ hs_ => (fun e_ => (HO_0.out.1 k_ e_.symm)) hs_)); (case side4 => exact HC1.out); rintro e w25 ⟨rfl, hy0, hb, hkp⟩; replace HK := Aside0.mk (Kept.then_ (S := (fun k_ => P0_ k_)) kw hkp (fun k_ hs_ => (fun e_ => (HO_0.out.1 k_ e_.symm)) hs_)); replace HO_0 := Aside0.mk (Sg.R_reok hy0 (fun k_ e_ => HO_0.out.1 k_ e_)); replace HB := Aside0.mk (hb); clear hb) | (go_at_call 203; (with_reducible refine (nat_more.callsS pre_ suf_ kj10 (fun k_ => some k_ = (.slice (some ad157) l0.length co12 : Value).ownBlock) (.slice (some ad157) l0.length co12) t165 _ _ l1 t166 w0 _ ?side1 ?side2 ?side3 ?side4 A24.out).mono ?_); (case side1 => exact bw); (case side2 => exact Sg.R_tight HO_0.out); (case side3 => exact Kd.C_kept_call HR1.out kw (fun k_ hs_ => (fun e_ => (HO_0.out.1 k_ e_.symm)) hs_)); (case side4 => exact HC1.out); rintro e w26 ⟨rfl, hy0, hb, hkp⟩; replace HK := Aside0.mk (Kept.then_ (S := (fun k_ => P0_ k_)) kw hkp (fun k_ hs_ => (fun e_ => (HO_0.out.1 k_ e_.symm)) hs_)); replace HO_0 := Aside0.mk (Sg.R_reok hy0 (fun k_ e_ => HO_0.out.1 k_ e_)); replace HB := Aside0.mk (hb); clear hb))
          repeat (go_quiet (first | (go_at_call 202; (with_reducible refine (nat_less.callsS pre_ suf_ kj10 (fun k_ => some k_ = (.slice (some ad157) l0.length co12 : Value).ownBlock) (.slice (some ad157) l0.length co12) l0 _ _ l1 x7_10 true t165 w0 _ ?side1 ?side2 ?side3 ?side4 A22.out).mono ?_); (case side1 => exact bw); (case side2 => exact Sg.R_tight HO_0.out); (case side3 => exact Kd.C_kept_call HR1.out kw (fun k_ hs_ => (fun e_ => (HO_0.out.1 k_ e_.symm)) hs_)); (case side4 => exact HC1.out); rintro e w25 ⟨rfl, hy0, hb, hkp⟩; replace HK := Aside0.mk (Kept.then_ (S := (fun k_ => P0_ k_)) kw hkp (fun k_ hs_ => (fun e_ => (HO_0.out.1 k_ e_.symm)) hs_)); replace HO_0 := Aside0.mk (Sg.R_reok hy0 (fun k_ e_ => HO_0.out.1 k_ e_)); replace HB := Aside0.mk (hb); clear hb) | (go_at_call 203; (with_reducible refine (nat_more.callsS pre_ suf_ kj10 (fun k_ => some k_ = (.slice (some ad157) l0.length co12 : Value).ownBlock) (.slice (some ad157) l0.length co12) t165 _ _ l1 t166 w0 _ ?side1 ?side2 ?side3 ?side4 A24.out).mono ?_); (case side1 => exact bw); (case side2 => exact Sg.R_tight HO_0.out); (case side3 => exact Kd.C_kept_call HR1.out kw (fun k_ hs_ => (fun e_ => (HO_0.out.1 k_ e_.symm)) hs_)); (case side4 => exact HC1.out); rintro e w26 ⟨rfl, hy0, hb, hkp⟩; replace HK := Aside0.mk (Kept.then_ (S := (fun k_ => P0_ k_)) kw hkp (fun k_ hs_ => (fun e_ => (HO_0.out.1 k_ e_.symm)) hs_)); replace HO_0 := Aside0.mk (Sg.R_reok hy0 (fun k_ e_ => HO_0.out.1 k_ e_)); replace HB := Aside0.mk (hb); clear hb)); try go_wp2_with (first | (go_at_call 202; (with_reducible refine (nat_less.callsS pre_ suf_ kj10 (fun k_ => some k_ = (.slice (some ad157) l0.length co12 : Value).ownBlock) (.slice (some ad157) l0.length co12) l0 _ _ l1 x7_10 true t165 w0 _ ?side1 ?side2 ?side3 ?side4 A22.out).mono ?_); (case side1 => exact bw); (case side2 => exact Sg.R_tight HO_0.out); (case side3 => exact Kd.C_kept_call HR1.out kw (fun k_ hs_ => (fun e_ => (HO_0.out.1 k_ e_.symm)) hs_)); (case side4 => exact HC1.out); rintro e w25 ⟨rfl, hy0, hb, hkp⟩; replace HK := Aside0.mk (Kept.then_ (S := (fun k_ => P0_ k_)) kw hkp (fun k_ hs_ => (fun e_ => (HO_0.out.1 k_ e_.symm)) hs_)); replace HO_0 := Aside0.mk (Sg.R_reok hy0 (fun k_ e_ => HO_0.out.1 k_ e_)); replace HB := Aside0.mk (hb); clear hb) | (go_at_call 203; (with_reducible refine (nat_more.callsS pre_ suf_ kj10 (fun k_ => some k_ = (.slice (some ad157) l0.length co12 : Value).ownBlock) (.slice (some ad157) l0.length co12) t165 _ _ l1 t166 w0 _ ?side1 ?side2 ?side3 ?side4 A24.out).mono ?_); (case side1 => exact bw); (case side2 => exact Sg.R_tight HO_0.out); (case side3 => exact Kd.C_kept_call HR1.out kw (fun k_ hs_ => (fun e_ => (HO_0.out.1 k_ e_.symm)) hs_)); (case side4 => exact HC1.out); rintro e w26 ⟨rfl, hy0, hb, hkp⟩; replace HK := Aside0.mk (Kept.then_ (S := (fun k_ => P0_ k_)) kw hkp (fun k_ hs_ => (fun e_ => (HO_0.out.1 k_ e_.symm)) hs_)); replace HO_0 := Aside0.mk (Sg.R_reok hy0 (fun k_ e_ => HO_0.out.1 k_ e_)); replace HB := Aside0.mk (hb); clear hb)))
          go_ret
          exact ⟨by first | rfl | (simp [errW_none, errW_some] <;> rfl) | (simp only [← hji5, ← hji10]; first | rfl | (simp [errW_none, errW_some] <;> rfl)) | (simp [*, errW_none, errW_some] <;> rfl), by (with_reducible repeat (first | apply Sg.R_alloc | apply Sg.R_drewN | apply Sg.R_drew)); exact HO_0.out, bw, kw⟩
         ·replace c23 := Bool.eq_false_iff.mpr c23
          subst c23
          have H1 : (some (x7_10, t165)) = some (r1, r2) := by rw [if_neg (show ¬ (false = true) by decide)] at H; exact H
          clear H
          have H := H1
          clear H1
          simp only [Option.some.injEq, Prod.mk.injEq] at H
          obtain ⟨rfl, rfl⟩ := H
          go_wp2_with (first | (go_at_call 202; (with_reducible refine (nat_less.callsS pre_ suf_ kj10 (fun k_ => some k_ = (.slice (some ad157) l0.length co12 : Value).ownBlock) (.slice (some ad157) l0.length co12) l0 _ _ l1 x7_10 false t165 w0 _ ?side1 ?side2 ?side3 ?side4 A22.out).mono ?_); (case side1 => exact bw); (case side2 => exact Sg.R_tight HO_0.out); (case side3 => exact Kd.C_kept_call HR1.out kw (fun k_ hs_ => (fun e_ => (HO_0.out.1 k_ e_.symm)) hs_)); (case side4 => exact HC1.out); rintro e w27 ⟨rfl, hy0, hb, hkp⟩; replace HK := Aside0.mk (Kept.then_ (S := (fun k_ => P0_ k_)) kw hkp (fun k_ hs_ => (fun e_ => (HO_0.out.1 k_ e_.symm)) hs_)); replace HO_0 := Aside0.mk (Sg.R_reok hy0 (fun k_ e_ => HO_0.out.1 k_ e_)); replace HB := Aside0.mk (hb); clear hb))
          repeat (go_quiet (first | (go_at_call 202; (with_reducible refine (nat_less.callsS pre_ suf_ kj10 (fun k_ => some k_ = (.slice (some ad157) l0.length co12 : Value).ownBlock) (.slice (some ad157) l0.length co12) l0 _ _ l1 x7_10 false t165 w0 _ ?side1 ?side2 ?side3 ?side4 A22.out).mono ?_); (case side1 => exact bw); (case side2 => exact Sg.R_tight HO_0.out); (case side3 => exact Kd.C_kept_call HR1.out kw (fun k_ hs_ => (fun e_ => (HO_0.out.1 k_ e_.symm)) hs_)); (case side4 => exact HC1.out); rintro e w27 ⟨rfl, hy0, hb, hkp⟩; replace HK := Aside0.mk (Kept.then_ (S := (fun k_ => P0_ k_)) kw hkp (fun k_ hs_ => (fun e_ => (HO_0.out.1 k_ e_.symm)) hs_)); replace HO_0 := Aside0.mk (Sg.R_reok hy0 (fun k_ e_ => HO_0.out.1 k_ e_)); replace HB := Aside0.mk (hb); clear hb)); try go_wp2_with (first | (go_at_call 202; (with_reducible refine (nat_less.callsS pre_ suf_ kj10 (fun k_ => some k_ = (.slice (some ad157) l0.length co12 : Value).ownBlock) (.slice (some ad157) l0.length co12) l0 _ _ l1 x7_10 false t165 w0 _ ?side1 ?side2 ?side3 ?side4 A22.out).mono ?_); (case side1 => exact bw); (case side2 => exact Sg.R_tight HO_0.out); (case side3 => exact Kd.C_kept_call HR1.out kw (fun k_ hs_ => (fun e_ => (HO_0.out.1 k_ e_.symm)) hs_)); (case side4 => exact HC1.out); rintro e w27 ⟨rfl, hy0, hb, hkp⟩; replace HK := Aside0.mk (Kept.then_ (S := (fun k_ => P0_ k_)) kw hkp (fun k_ hs_ => (fun e_ => (HO_0.out.1 k_ e_.symm)) hs_)); replace HO_0 := Aside0.mk (Sg.R_reok hy0 (fun k_ e_ => HO_0.out.1 k_ e_)); replace HB := Aside0.mk (hb); clear hb)))
          go_ret
          exact ⟨by first | rfl | (simp [errW_none, errW_some] <;> rfl) | (simp only [← hji5, ← hji10]; first | rfl | (simp [errW_none, errW_some] <;> rfl)) | (simp [*, errW_none, errW_some] <;> rfl), by (with_reducible repeat (first | apply Sg.R_alloc | apply Sg.R_drewN | apply Sg.R_drew)); exact HO_0.out, bw, kw⟩
     ·rw [if_neg c8] at H
      cases H
    ·rw [if_neg c7] at H
     cases H
   ·rw [if_neg c6] at H
    cases H
  ·rw [if_neg c4] at H
   cases H
 ·rw [if_neg c3] at H
  cases H

-- NOT PRINTED: function 144 (nat_Div)

def nat_Div.lp (K : Nat) (v : List Int) : Nat → List Int → List Int → Option (List Int × List Int)
 | 0, u, out => some (u, out)
 | j + 1, u, out => (nat_digit.f K ((u.take (j + v.length + 1)).drop j) v).bind fun t => nat_Div.lp K v j (u.take j ++ (t.2 ++ u.drop (j + v.length + 1))) (out.set j (t.1 % 4294967296))
def nat_Div.f (k : Nat) (l0 : List Int) (l1 : List Int) : Option (List Int × List Int) :=
 if l0.length < 1099511627776 ∧ l1.length < 1099511627776 then (nat_Cmp.f k l0 l1).bind fun c =>
  if c < 0 then (nat_Nat_uint32.f l0).bind fun q => some ([], q)
  else if l1.length = 1 then (nat_short.f k l0 (IntKind.u64.wrap (rd l1 0))).bind fun t => (nat_Of.f k t.2).bind fun q => some (t.1, q)
  else if 2 ≤ l1.length ∧ l1.length ≤ l0.length ∧ 0 ≤ rd l1 ((l1.length - 1 : Nat) : Int) ∧ rd l1 ((l1.length - 1 : Nat) : Int) < 4294967296 then
   (nat_scaled.f k l0 (1000000000 / (rd l1 ((l1.length - 1 : Nat) : Int) + 1)) ((l0.length + 1 : Nat) : Int)).bind fun u =>
   (nat_scaled.f k l1 (1000000000 / (rd l1 ((l1.length - 1 : Nat) : Int) + 1)) (l1.length : Int)).bind fun v =>
   if u.length = l0.length + 1 ∧ v.length = l1.length then
    (nat_Div.lp k v (l0.length - l1.length + 1) u (List.replicate (l0.length - l1.length + 1) 0)).bind fun z =>
    (nat_trim.f k (z.1.take v.length)).bind fun tr => (nat_short.f k tr (1000000000 / (rd l1 ((l1.length - 1 : Nat) : Int) + 1))).bind fun t =>
    (nat_trim.f k z.2).bind fun q => some (q, t.1)
   else none
  else none
 else none
theorem nat_Div.mono_lp (k : Nat) (v : List Int) : ∀ j u out, LeO (nat_Div.lp k v j u out) (nat_Div.lp (k + 1) v j u out)
 | 0, u, out => LeO.refl _
 | j + 1, u, out => LeO.bind (nat_digit.mono _ _ k) (fun _ => nat_Div.mono_lp k v j _ _)
theorem nat_Div.mono : ∀ a0 a1 k, LeO (nat_Div.f k a0 a1) (nat_Div.f (k + 1) a0 a1) := by
 intro a0 a1 k
 unfold nat_Div.f
 refine LeO.ite (LeO.bind (nat_Cmp.mono _ _ k) fun c => LeO.ite (LeO.refl _) (LeO.ite (LeO.bind (nat_short.mono _ _ k) fun _ => LeO.bind (nat_Of.mono _ k) fun _ => LeO.refl _) (LeO.ite ?_ (LeO.none _)))) (LeO.none _)
 refine LeO.bind (nat_scaled.mono _ _ _ k) fun u => LeO.bind (nat_scaled.mono _ _ _ k) fun v => LeO.ite ?_ (LeO.none _)
 exact LeO.bind (nat_Div.mono_lp k v _ _ _) fun _ => LeO.bind (nat_trim.mono _ k) fun _ => LeO.bind (nat_short.mono _ _ k) fun _ => LeO.bind (nat_trim.mono _ k) fun _ => LeO.refl _
set_option maxHeartbeats 8000000 in
set_option maxRecDepth 100000 in
theorem nat_Div.less_ (k : Nat) (A0 : Option Addr) (c0 : Nat) (l0 : List Int) (A1 : Option Addr) (c1 : Nat) (l1 : List Int) (c : Int) (r2 : List Int) (w : World) (hr0 : Kd.C (Kd.int .u32) w A0 l0.length l0) (hc0 : l0.length ≤ c0) (hr1 : Kd.C (Kd.int .u32) w A1 l1.length l1) (hc1 : l1.length ≤ c1) (hc : nat_Cmp.f k l0 l1 = some c) (hlt : c < 0) (hq : nat_Nat_uint32.f l0 = some r2) :
  Calls Tryz.prog 144 #[.slice A0 l0.length c0, .slice A1 l1.length c1] w fun e w' => ∃ v0_ v1_ : Value, e = .returned (.tuple #[v0_, v1_]) ∧ Kd.V (Kd.int .u32) 97 w' w.heap.size (fun k_ => (w.heap.size ≤ k_)) v0_ [] ∧ Kd.V (Kd.int .u32) 97 w' w.heap.size (fun k_ => (w.heap.size ≤ k_)) v1_ r2 ∧ Below w.heap.size w w' := by
 have hcmp := fun (W : World) (h0 : Kd.C (Kd.int .u32) W A0 l0.length l0) (h1 : Kd.C (Kd.int .u32) W A1 l1.length l1) => nat_Cmp.calls k A0 c0 l0 A1 c1 l1 c W h0 hc0 h1 hc1 hc
 have hcl := fun (W : World) (h0 : Kd.C (Kd.int .u32) W A0 l0.length l0) => nat_Nat_uint32.calls A0 c0 l0 r2 W h0 hc0 hq
 have HR0 := Aside0.mk hr0
 have HR1 := Aside0.mk hr1
 have c3b0 : decide (c < 0) = true := decide_eq_true hlt
 have HB := Aside0.mk (Below.refl w.heap.size w)
 clear hr0 hr1 hc0 hc1 hc hlt hq
 go_enter Tryz.func144, Tryz.ntmps144
 go_wp2_with (first
  | (go_at_call 153; (with_reducible refine (hcmp _ ?s1 ?s2).mono ?_); (case s1 => exact HR0.out); (case s2 => exact HR1.out); clear hcmp; rintro e w' ⟨rfl, ⟨nd, rfl⟩⟩; have HB1 := Aside0.mk (pw_below_drewN HB.out nd))
  | (go_at_call 143; (with_reducible refine (hcl _ ?s3).mono ?_); (case s3 => exact Kd.C_drewN HR0.out _); clear hcl; rintro e w' ⟨v1, rfl, hv, hb⟩; have HV := Aside0.mk hv; have HB2 := Aside0.mk (below_step HB1.out hb); clear hv hb))
 go_ret2
 exact ⟨_, _, rfl, Kd.V_nil _ _ _ _ _, Kd.V_mono (Kd.R_V (Kd.R_bound HV.out)) (fun _ hk => hk.2.1), HB2.out⟩
set_option maxHeartbeats 8000000 in
set_option maxRecDepth 100000 in
theorem nat_Div.one_ (k : Nat) (A0 : Option Addr) (c0 : Nat) (l0 : List Int) (A1 : Option Addr) (c1 : Nat) (l1 : List Int) (c : Int) (r1 r2 : List Int) (rr : Int) (w : World) (hr0 : Kd.C (Kd.int .u32) w A0 l0.length l0) (hc0 : l0.length ≤ c0) (hr1 : Kd.C (Kd.int .u32) w A1 l1.length l1) (hc1 : l1.length ≤ c1) (hc : nat_Cmp.f k l0 l1 = some c) (hlt : ¬ c < 0) (h1 : l1.length = 1) (hs : nat_short.f k l0 (IntKind.u64.wrap (rd l1 0)) = some (r1, rr)) (hq : nat_Of.f k rr = some r2) :
  Calls Tryz.prog 144 #[.slice A0 l0.length c0, .slice A1 l1.length c1] w fun e w' => ∃ v0_ v1_ : Value, e = .returned (.tuple #[v0_, v1_]) ∧ Kd.V (Kd.int .u32) 97 w' w.heap.size (fun k_ => (w.heap.size ≤ k_)) v0_ r1 ∧ Kd.V (Kd.int .u32) 97 w' w.heap.size (fun k_ => (w.heap.size ≤ k_)) v1_ r2 ∧ Below w.heap.size w w' := by
 have hcmp := fun (W : World) (h0 : Kd.C (Kd.int .u32) W A0 l0.length l0) (h1 : Kd.C (Kd.int .u32) W A1 l1.length l1) => nat_Cmp.calls k A0 c0 l0 A1 c1 l1 c W h0 hc0 h1 hc1 hc
 have hsh := fun (W : World) (h0 : Kd.C (Kd.int .u32) W A0 l0.length l0) => nat_short.calls k A0 c0 l0 _ r1 rr W h0 hc0 hs
 have hof := fun (W : World) => nat_Of.calls k rr r2 W hq
 obtain ⟨ad, rfl, hx⟩ := Kd.at_int hr1 0 (by omega) (by omega)
 rw [show ad.add (Int.toNat 0) = ad from by simp [Addr.add]] at hx
 have HR0 := Aside0.mk hr0
 have HR1 := Aside0.mk hr1
 have c3b0 : decide (c < 0) = false := decide_eq_false hlt
 have c4b0 : ((l1.length : Int) == 1) = true := by rw [h1]; rfl
 have p0 : ((0 : Int) < (l1.length : Int)) = True := eq_true (by omega)
 have p1 : (0 < l1.length) = True := eq_true (by omega)
 have HB := Aside0.mk (Below.refl w.heap.size w)
 clear hr0 hr1 hc0 hc1 hc hlt hq hs h1
 go_enter Tryz.func144, Tryz.ntmps144
 go_wp2_with (first
  | (go_at_call 153; (with_reducible refine (hcmp _ ?s1 ?s2).mono ?_); (case s1 => exact HR0.out); (case s2 => exact HR1.out); clear hcmp; rintro e w' ⟨rfl, ⟨nd, rfl⟩⟩; have HB1 := Aside0.mk (pw_below_drewN HB.out nd))
  | (go_at_call 178; (with_reducible refine (hsh _ ?s3).mono ?_); (case s3 => exact Kd.C_drewN HR0.out _); clear hsh; rintro e w' ⟨v1, rfl, hv, hb⟩; have HV1 := Aside0.mk hv; have HB2 := Aside0.mk (below_step HB1.out hb); clear hv hb)
  | (go_at_call 136; (with_reducible refine (hof _).mono ?_); clear hof; rintro e w' ⟨v2, rfl, hv, hb⟩; have HV2 := Aside0.mk hv; have HB3 := Aside0.mk (below_step HB2.out hb); have HV3 := Aside0.mk (Kd.V_below HV1.out hb); clear hv hb))
 go_ret2
 exact ⟨_, _, rfl, HV3.out, Kd.V_mono (Kd.R_V (Kd.R_bound HV2.out)) (fun _ hk => Nat.le_trans HB2.out.size hk.2.1), HB3.out⟩
theorem Sg.back_R {k : IntKind} {e g lo hi n n' cap base : Nat} {w : World} {ok : Nat → Prop} {ys xs : List Int} (h : Sg k e (ys.take lo) (ys.drop hi) w base ok (.slice (some ⟨g, lo, none⟩) n' (cap - lo)) xs) (h1 : lo < hi) (h2 : hi ≤ ys.length) (h3 : ys.length ≤ cap) (hn' : n' = hi - lo) (hn : n = ys.length) :
  xs.length = hi - lo ∧ (ys.take lo ++ (xs ++ ys.drop hi)).length = ys.length ∧ Kd.R (Kd.int k) e w base ok (.slice (some ⟨g, 0, none⟩) n cap) (ys.take lo ++ (xs ++ ys.drop hi)) := by
 have hl := (Sg.R_reads' h).1
 have el : (ys.take lo).length = lo := by rw [List.length_take]; omega
 have hxl : xs.length = hi - lo := by omega
 have hle : (ys.take lo ++ (xs ++ ys.drop hi)).length = ys.length := by simp only [List.length_append, List.length_drop, el, hxl]; omega
 refine ⟨hxl, hle, ?_⟩
 have h' : Sg k e (ys.take lo) (ys.drop hi) w base ok (.slice (some ⟨g, (ys.take lo).length, none⟩) n' (cap - (ys.take lo).length)) xs := by rw [el]; exact h
 have := Sg.to_R (c := 0) h' (by omega) (by omega)
 rw [hle] at this
 rw [hn]; exact this
theorem blk_lt_of {k : IntKind} {e g n cap base : Nat} {w : World} {ok : Nat → Prop} {xs : List Int} (h : Kd.R (Kd.int k) e w base ok (.slice (some ⟨g, 0, none⟩) n cap) xs) : g < w.heap.size := own_lt (Kd.own_of_R h) g rfl
set_option maxHeartbeats 8000000 in
set_option maxRecDepth 100000 in
theorem nat_Div.big_ (k : Nat) (A0 : Option Addr) (c0 : Nat) (l0 : List Int) (A1 : Option Addr) (c1 : Nat) (l1 : List Int) (c by_ : Int) (u v z1 z2 tr q t1 : List Int) (t2 : Int) (w : World) (hr0 : Kd.C (Kd.int .u32) w A0 l0.length l0) (hc0 : l0.length ≤ c0) (hr1 : Kd.C (Kd.int .u32) w A1 l1.length l1) (hc1 : l1.length ≤ c1) (hc : nat_Cmp.f k l0 l1 = some c) (hlt : ¬ c < 0)
  (hn2 : 2 ≤ l1.length) (hle : l1.length ≤ l0.length) (hbig : l0.length < 1099511627776) (ht0 : 0 ≤ rd l1 ((l1.length - 1 : Nat) : Int)) (ht1 : rd l1 ((l1.length - 1 : Nat) : Int) < 4294967296) (hby : 1000000000 / (rd l1 ((l1.length - 1 : Nat) : Int) + 1) = by_)
  (hu : nat_scaled.f k l0 by_ ((l0.length + 1 : Nat) : Int) = some u) (hv : nat_scaled.f k l1 by_ (l1.length : Int) = some v) (hul : u.length = l0.length + 1) (hvl : v.length = l1.length)
  (hlp : nat_Div.lp k v (l0.length - l1.length + 1) u (List.replicate (l0.length - l1.length + 1) 0) = some (z1, z2)) (htr : nat_trim.f k (z1.take v.length) = some tr) (hsh : nat_short.f k tr by_ = some (t1, t2)) (hq : nat_trim.f k z2 = some q) :
  Calls Tryz.prog 144 #[.slice A0 l0.length c0, .slice A1 l1.length c1] w fun e w' => ∃ v0_ v1_ : Value, e = .returned (.tuple #[v0_, v1_]) ∧ Kd.V (Kd.int .u32) 97 w' w.heap.size (fun k_ => (w.heap.size ≤ k_)) v0_ q ∧ Kd.V (Kd.int .u32) 97 w' w.heap.size (fun k_ => (w.heap.size ≤ k_)) v1_ t1 ∧ Below w.heap.size w w' := by
 have hcmp := fun (W : World) (h0 : Kd.C (Kd.int .u32) W A0 l0.length l0) (h1 : Kd.C (Kd.int .u32) W A1 l1.length l1) => nat_Cmp.calls k A0 c0 l0 A1 c1 l1 c W h0 hc0 h1 hc1 hc
 obtain ⟨j1, hj1⟩ : ∃ j : Int, wrap64 ((l1.length : Int) - 1) = j := ⟨_, rfl⟩
 have ej1 : j1 = ((l1.length - 1 : Nat) : Int) := by rw [← hj1]; unfold wrap64; omega
 obtain ⟨ad, rfl, hx⟩ := Kd.at_int hr1 j1 (by omega) (by omega)
 obtain ⟨tp, htp⟩ : ∃ t : Int, rd l1 j1 = t := ⟨_, rfl⟩
 rw [← ej1, htp] at ht0 ht1 hby
 rw [htp] at hx
 have hw1 : IntKind.u64.wrap tp = tp := by rw [IntKind.wrap_u64]; omega
 obtain ⟨tp1, htp1⟩ : ∃ t : Int, IntKind.u64.wrap (tp + 1) = t := ⟨_, rfl⟩
 have etp1 : tp1 = tp + 1 := by rw [← htp1, IntKind.wrap_u64]; omega
 have hb0 : 0 ≤ by_ := by rw [← hby]; exact Int.ediv_nonneg (by omega) (by omega)
 have hb1 : by_ ≤ 1000000000 := by rw [← hby]; exact Int.ediv_le_self _ (by omega)
 have hw2 : IntKind.u64.wrap (Int.tdiv 1000000000 tp1) = by_ := by
  rw [Int.tdiv_eq_ediv_of_nonneg (by omega), etp1, hby, IntKind.wrap_u64]; omega
 have hz1 : (tp1 == 0) = false := beq_eq_false_iff_ne.mpr (by omega)
 have hz2 : ¬ tp1 = 0 := by omega
 obtain ⟨n1, hn1⟩ : ∃ j : Int, wrap64 ((l0.length : Int) + 1) = j := ⟨_, rfl⟩
 have en1 : n1 = ((l0.length + 1 : Nat) : Int) := by rw [← hn1]; unfold wrap64; omega
 obtain ⟨d1, hd1⟩ : ∃ j : Int, wrap64 ((l0.length : Int) - (l1.length : Int)) = j := ⟨_, rfl⟩
 have ed1 : d1 = ((l0.length - l1.length : Nat) : Int) := by rw [← hd1]; unfold wrap64; omega
 obtain ⟨d2, hd2⟩ : ∃ j : Int, wrap64 (d1 + 1) = j := ⟨_, rfl⟩
 have ed2 : d2 = ((l0.length - l1.length + 1 : Nat) : Int) := by rw [← hd2]; unfold wrap64; omega
 obtain ⟨o0, ho0⟩ : ∃ o : List Int, o = List.replicate d2.toNat 0 := ⟨_, rfl⟩
 have ho0l : o0.length = l0.length - l1.length + 1 := by rw [ho0, List.length_replicate]; omega
 obtain ⟨k0, hk0⟩ : ∃ j : Int, wrap64 ((o0.length : Int) - 1) = j := ⟨_, rfl⟩
 have ek0 : k0 = ((l0.length - l1.length + 1 : Nat) : Int) - 1 := by rw [← hk0]; unfold wrap64; omega
 rw [← en1] at hu
 have hlp' : nat_Div.lp k v (l0.length - l1.length + 1) u o0 = some (z1, z2) := by
  rw [ho0, show d2.toNat = l0.length - l1.length + 1 by omega]; exact hlp
 have hsc1 := fun (W : World) (h0 : Kd.C (Kd.int .u32) W A0 l0.length l0) => nat_scaled.calls k A0 c0 l0 by_ n1 u W h0 hc0 hu
 have hsc2 := fun (W : World) (h0 : Kd.C (Kd.int .u32) W (some ad) l1.length l1) => nat_scaled.calls k (some ad) c1 l1 by_ (l1.length : Int) v W h0 hc1 hv
 have hj1w : IntKind.i64.wrap ((l1.length : Int) - 1) = j1 := (i64_w _).trans hj1
 have hn1w : IntKind.i64.wrap ((l0.length : Int) + 1) = n1 := (i64_w _).trans hn1
 have hd1w : IntKind.i64.wrap ((l0.length : Int) - (l1.length : Int)) = d1 := (i64_w _).trans hd1
 have hd2w : IntKind.i64.wrap (d1 + 1) = d2 := (i64_w _).trans hd2
 have hk0w : IntKind.i64.wrap ((o0.length : Int) - 1) = k0 := (i64_w _).trans hk0
 have p1 : (0 ≤ j1) = True := eq_true (by omega)
 have p2 : (j1 < (l1.length : Int)) = True := eq_true (by omega)
 have p3 : (0 ≤ d2) := by omega
 have p4 : d2.toNat ≤ 1099511627776 := by omega
 have c3b0 : decide (c < 0) = false := decide_eq_false hlt
 have c4b0 : ((l1.length : Int) == 1) = false := beq_eq_false_iff_ne.mpr (by omega)
 have HR0 := Aside0.mk hr0
 have HR1 := Aside0.mk hr1
 have HUL := Aside0.mk hul
 have HVL := Aside0.mk hvl
 have HN2 := Aside0.mk hn2
 have HLE := Aside0.mk hle
 have HBIG := Aside0.mk hbig
 have HLP := Aside0.mk hlp'
 have HTR := Aside0.mk htr
 have HSH := Aside0.mk hsh
 have HQ := Aside0.mk hq
 have HO0 := Aside0.mk ho0
 have HO0L := Aside0.mk ho0l
 have HK0 := Aside0.mk ek0
 have P3 := Aside0.mk p3
 have P4 := Aside0.mk p4
 have HB := Aside0.mk (Below.refl w.heap.size w)
 clear hr0 hr1 hc0 hc1 hc hlt hu hv hul hvl hn2 hle hbig hlp hlp' htr hsh hq ho0 ho0l ek0 ed2 ed1 en1 etp1 hb0 hb1 ht0 ht1 hby htp ej1 p3 p4
 go_enter Tryz.func144, Tryz.ntmps144
 go_wp2_with (first
  | (go_at_call 153; (with_reducible refine (hcmp _ ?s1 ?s2).mono ?_); (case s1 => exact HR0.out); (case s2 => exact HR1.out); clear hcmp; rintro e w' ⟨rfl, ⟨nd, rfl⟩⟩; have HB1 := Aside0.mk (pw_below_drewN HB.out nd); have HS0 := Aside0.mk (Kd.C_drewN HR0.out nd); have HS1 := Aside0.mk (Kd.C_drewN HR1.out nd))
  | (go_at_call 179; (with_reducible refine (hsc1 _ ?s3).mono ?_); (case s3 => exact HS0.out); clear hsc1; rintro e wu ⟨vu, rfl, hv, hb⟩; have HU := Aside0.mk (Kd.R_tight rfl hv); have HB2 := Aside0.mk (below_step HB1.out hb); have HS2 := Aside0.mk (Kd.C_below HS1.out hb); clear hv hb)
  | (go_at_call 179; (with_reducible refine (hsc2 _ ?s4).mono ?_); (case s4 => exact HS2.out); clear hsc2; rintro e wv ⟨vv, rfl, hv, hb⟩; have HV := Aside0.mk (Kd.R_tight rfl hv); have HB3 := Aside0.mk (below_step HB2.out hb); have HU3 := Aside0.mk (Kd.R_below HU.out hb); clear hv hb)
  | ((with_reducible refine gate_dst (N := 64) rfl ?_); refine Kd.R_make (Kd.int .u32) _ 97 rfl (N := 64) rfl 101 _ _ rfl d2 rfl rfl Tryz.underlying101 (.int .u32 0) 4 info97 rfl (by decide) (by omega) 0 (ok := fun _ => True) (okp := fun _ => True) rfl (fun _ hk => hk) trivial P3.out (Nat.le_trans (Nat.mul_le_mul_right _ P4.out) (by omega)) (Below.refl _ _) (Nat.le_refl _) ?_; intro vo wo hv hb hg_ hnew_; clear hg_ hnew_; rw [← HO0.out] at hv; have HO := Aside0.mk (Kd.R_tight rfl hv); have HB4 := Aside0.mk (below_step HB3.out hb); have HU4 := Aside0.mk (Kd.R_below HU3.out hb); have HV4 := Aside0.mk (Kd.R_below HV.out hb); clear hv hb; obtain ⟨gu, cu, eu, gu1, gu2, _, _⟩ := Kd.R_form HU4.out (by have := HUL.out; omega); obtain ⟨gv, cv, ev, gv1, gv2, _, _⟩ := Kd.R_form HV4.out (by have := HVL.out; have := HN2.out; omega); obtain ⟨go, co, eo, go1, go2, _, _⟩ := Kd.R_form HO.out (by have := HO0L.out; omega); subst eu ev eo; have gu2' := blk_lt_of HU.out; have gv2' := blk_lt_of HV.out))
 have HUx := Aside0.mk (Kd.R_mono (ok' := fun b => b = gu) (Kd.R_lower HU4.out (base' := w.heap.size) (by exact Nat.le_refl _)) (fun b hb => by injection hb))
 have HVx := Aside0.mk (Kd.R_mono (ok' := fun b => b = gv) (Kd.R_lower HV4.out (base' := w.heap.size) HB2.out.size) (fun b hb => by injection hb))
 have HOx := Aside0.mk (Kd.R_mono (ok' := fun b => b = go) (Kd.R_lower HO.out (base' := w.heap.size) HB3.out.size) (fun b hb => by injection hb))
 have N1 := Aside0.mk (show gu ≠ gv by omega)
 have N2 := Aside0.mk (show gu ≠ go by omega)
 have N3 := Aside0.mk (show gv ≠ go by omega)
 have G1 := Aside0.mk (show w.heap.size ≤ gu from gu1)
 have G3 := Aside0.mk (show w.heap.size ≤ go from Nat.le_trans HB3.out.size go1)
 clear HU HU3 HU4 HV HV4 HO HB1 HB2 HB3 HS0 HS1 HS2 gu1 gu2 gv1 gv2 go1 go2 gu2' gv2'
 clear hx hw1 htp1 hw2 hz1 hz2
 go_loopg [12] (l0.length - l1.length + 1) (fun kq v12 w' => ∃ (j : Nat) (x o : List Int), v12 = .int .i64 ((j : Int) - 1) ∧ Aside0 (nat_Div.lp k v j x o = some (z1, z2)) ∧ Aside0 (j ≤ kq) ∧ Aside0 (j ≤ l0.length - l1.length + 1 ∧ x.length = l0.length + 1 ∧ o.length = l0.length - l1.length + 1) ∧ Aside0 (Kd.R (Kd.int .u32) 97 w' w.heap.size (fun b => b = gu) (.slice (some ⟨gu, 0, none⟩) u.length cu) x) ∧ Aside0 (Kd.R (Kd.int .u32) 97 w' w.heap.size (fun b => b = gv) (.slice (some ⟨gv, 0, none⟩) v.length cv) v) ∧ Aside0 (Kd.R (Kd.int .u32) 97 w' w.heap.size (fun b => b = go) (.slice (some ⟨go, 0, none⟩) o0.length co) o) ∧ Aside0 (Below w.heap.size w w'))
 case atStart => exact ⟨l0.length - l1.length + 1, u, o0, congrArg (Value.int .i64) HK0.out, HLP, ⟨Nat.le_refl _⟩, ⟨Nat.le_refl _, HUL.out, HO0L.out⟩, HUx, HVx, HOx, HB4⟩
 case round =>
  obtain ⟨j, x, o, rfl, HL, HQ1, HX, HU, HV, HO, HB⟩ := hrel
  clear HLP HUx HVx HOx HB4
  cases j with
  | zero =>
   have hz := HL.out
   simp only [nat_Div.lp, Option.some.injEq, Prod.mk.injEq] at hz
   obtain ⟨rfl, rfl⟩ := hz
   clear HL
   obtain ⟨y, hy⟩ : ∃ y : List Int, y = x.take v.length := ⟨_, rfl⟩
   have hvx : v.length ≤ x.length := by have := HX.out; have := HVL.out; have := HLE.out; omega
   have hyl : y.length = v.length := by rw [hy, List.length_take]; omega
   have hcu : u.length ≤ cu := (Kd.R_reads' HU.out).2.1
   have hco : o0.length ≤ co := (Kd.R_reads' HO.out).2.1
   have hux : u.length = x.length := (Kd.R_reads' HU.out).1
   have hox : o0.length = o.length := (Kd.R_reads' HO.out).1
   obtain ⟨i0, hi0, _, hsz0, _⟩ := info_parts info97
   have hcut := cut_to (P := Tryz.prog) 101 97 .i64 Tryz.underlying101 hi0 (some ⟨gu, 0, none⟩) u.length cu (v.length : Int) (by omega) (by omega) hcu
   rw [Int.toNat_natCast] at hcut
   replace hcut : ∀ W : World, (Instr.slice 101 (.slice (some ⟨gu, 0, none⟩) u.length cu) none (some (.int .i64 (v.length : Int))) none).run Tryz.prog W = .ok (.slice (some ⟨gu, 0, none⟩) y.length cu) W := by rw [hyl]; exact hcut
   have htr := HTR.out
   rw [← hy] at htr
   have HY := Aside0.mk (Kd.R_take HU.out hvx)
   rw [← hy, ← hyl] at HY
   rw [hox]
   have hHOc := HO.out
   rw [hox] at hHOc
   have HO := Aside0.mk hHOc
   have htrim1 := fun (W : World) (h0 : Kd.V (Kd.int .u32) 97 W W.heap.size (fun b => b = gu) (.slice (some ⟨gu, 0, none⟩) y.length cu) y) => nat_trim.calls k (fun b => b = gu) (some ⟨gu, 0, none⟩) cu y tr W h0 htr
   have htrim2 := fun (W : World) (h0 : Kd.V (Kd.int .u32) 97 W W.heap.size (fun b => b = go) (.slice (some ⟨go, 0, none⟩) o.length co) o) => nat_trim.calls k (fun b => b = go) (some ⟨go, 0, none⟩) co o q W h0 HQ.out
   have hshort := fun (A : Option Addr) (c : Nat) (W : World) (h0 : Kd.C (Kd.int .u32) W A tr.length tr) (h1 : tr.length ≤ c) => nat_short.calls k A c tr by_ t1 t2 W h0 h1 HSH.out
   clear hi0 hsz0 hy hyl hvx hcu hco hux hox htr hHOc
   clear hj1 hn1 hd1 hd2 hk0 hj1w hn1w hd1w hd2w hk0w p1 p2
   go_wp2_with (first
    | (go_at_call 147; (with_reducible refine (htrim1 _ ?s5).mono ?_); (case s5 => exact Kd.R_V HY.out); clear htrim1; rintro e w5 ⟨v5, rfl, hv, hb⟩; obtain ⟨A5, c5, e5⟩ := Kd.V_slice hv; subst e5; have HT := Aside0.mk hv; have HB5 := Aside0.mk (below_step HB.out hb); have HO5 := Aside0.mk (Kd.R_below HO.out hb); clear hv hb)
    | (go_at_call 178; (with_reducible refine (hshort _ _ _ ?s6 ?s7).mono ?_); (case s6 => exact (Kd.V_reads' HT.out).2.2); (case s7 => exact (Kd.V_reads' HT.out).2.1); clear hshort; rintro e w6 ⟨v6, rfl, hv, hb⟩; have HS := Aside0.mk hv; have HB6 := Aside0.mk (below_step HB5.out hb); have HO6 := Aside0.mk (Kd.R_below HO5.out hb); clear hv hb)
    | (go_at_call 147; (with_reducible refine (htrim2 _ ?s8).mono ?_); (case s8 => exact Kd.R_V HO6.out); clear htrim2; rintro e w7 ⟨v7, rfl, hv, hb⟩; have HT7 := Aside0.mk hv; have HB7 := Aside0.mk (below_step HB6.out hb); have HS7 := Aside0.mk (Kd.V_below HS.out hb); clear hv hb))
   go_ret2
   refine ⟨_, _, rfl, Kd.V_mono HT7.out (fun b hb => ?_), Kd.V_mono HS7.out (fun b hb => Nat.le_trans HB5.out.size hb), HB7.out⟩
   rcases hb with hb | hb
   ·rw [hb]; exact G3.out
   ·exact Nat.le_trans HB6.out.size hb
  | succ j =>
   have ej : (((j + 1 : Nat) : Int) - 1) = (j : Int) := by omega
   rw [ej]
   have hl := HL.out
   simp only [nat_Div.lp] at hl
   obtain ⟨⟨r1, r2⟩, hd, hl⟩ := Option.bind_eq_some_iff.1 hl
   dsimp only at hl
   clear HL
   have hX := HX.out
   have hvl := HVL.out
   have hn2 := HN2.out
   have hle := HLE.out
   have hbg := HBIG.out
   have hjx : j + v.length + 1 ≤ x.length := by omega
   obtain ⟨S, hS⟩ : ∃ S : List Int, S = (x.take (j + v.length + 1)).drop j := ⟨_, rfl⟩
   have hSl : S.length = v.length + 1 := by rw [hS, List.length_drop, List.length_take]; omega
   rw [← hS] at hd
   obtain ⟨s1, hs1⟩ : ∃ s : Int, wrap64 ((j : Int) + (v.length : Int)) = s := ⟨_, rfl⟩
   have es1 : s1 = ((j + v.length : Nat) : Int) := by rw [← hs1]; unfold wrap64; omega
   obtain ⟨s2, hs2⟩ : ∃ s : Int, wrap64 (s1 + 1) = s := ⟨_, rfl⟩
   have es2 : s2 = ((j + v.length + 1 : Nat) : Int) := by rw [← hs2]; unfold wrap64; omega
   have hs1w : IntKind.i64.wrap ((j : Int) + (v.length : Int)) = s1 := (i64_w _).trans hs1
   have hs2w : IntKind.i64.wrap (s1 + 1) = s2 := (i64_w _).trans hs2
   have hcu : u.length ≤ cu := (Kd.R_reads' HU.out).2.1
   have hco : o0.length ≤ co := (Kd.R_reads' HO.out).2.1
   have hcv : v.length ≤ cv := (Kd.R_reads' HV.out).2.1
   have hux : u.length = x.length := (Kd.R_reads' HU.out).1
   have hox : o0.length = o.length := (Kd.R_reads' HO.out).1
   obtain ⟨i0, hi0, _, hsz0, _⟩ := info_parts info97
   have hcut := cut_mid (P := Tryz.prog) 101 97 .i64 .i64 Tryz.underlying101 hi0 1 hsz0 (some ⟨gu, 0, none⟩) u.length cu (j : Int) s2 (by omega) (by omega) (by omega) hcu
   replace hcut : ∀ W : World, (Instr.slice 101 (.slice (some ⟨gu, 0, none⟩) u.length cu) (some (.int .i64 (j : Int))) (some (.int .i64 s2)) none).run Tryz.prog W = .ok (.slice (some ⟨gu, j, none⟩) S.length (cu - j)) W := by
    intro W
    rw [hcut W, if_neg (by omega), Int.toNat_natCast, Nat.mul_one, Option.map_some, add_plain, show s2.toNat - j = S.length by omega]
   have hSg := Aside0.mk (Sg.of_R HU.out (show j ≤ j + v.length + 1 by omega) hjx)
   rw [← hS, show j + v.length + 1 - j = S.length by omega] at hSg
   have hdig := fun (W : World) (hB : Below w.heap.size w W) (h0 : Sg .u32 97 (x.take j) (x.drop (j + v.length + 1)) W w.heap.size (fun b => b = gu) (.slice (some ⟨gu, j, none⟩) S.length (cu - j)) S) (hv : ∀ W_, Kept W W_ (fun b => b = gu) → Kd.C (Kd.int .u32) W_ (some ⟨gv, 0, none⟩) v.length v) => nat_digit.callsS (x.take j) (x.drop (j + v.length + 1)) k (fun b => b = gu) _ S (some ⟨gv, 0, none⟩) cv v r1 r2 w W hB h0 hv hcv hd
   have HJX := Aside0.mk hjx
   have HSL := Aside0.mk hSl
   have HCU := Aside0.mk hcu
   have HUX := Aside0.mk hux
   have HL := Aside0.mk hl
   have q1 : ((j : Int) < (o0.length : Int)) = True := eq_true (by omega)
   have q2 : (j < o0.length) = True := eq_true (by omega)
   have hj40 : (j : Int) ≤ 1099511627776 := by omega
   have hj41 : (0 : Int) ≤ (j : Int) := by omega
   clear hi0 hsz0 hS hSl hd hX hvl hn2 hle hbg hjx es1 es2 hcu hco hux hox hl
   clear hj1 hn1 hd1 hd2 hk0 hj1w hn1w hd1w hd2w hk0w p1 p2
   go_wp2_with (first
    | (go_at_call 180; (with_reducible refine (hdig _ ?s5 ?s6 ?s7).mono ?_); (case s5 => exact HB.out); (case s6 => exact hSg.out); (case s7 => exact Kd.C_kept_own HV.out (fun b hb hg => N1.out (hg.symm.trans hb))); clear hdig; rintro e wd ⟨rfl, hsg, hb, hkp⟩; have HD := Aside0.mk (Sg.back_R (n := u.length) hsg (by omega) HJX.out (by have := HCU.out; have := HUX.out; omega) (by have := HSL.out; omega) HUX.out); have HB5 := Aside0.mk hb; have HO5 := Aside0.mk (Kd.R_kept HO.out hkp (fun b hb hg => N2.out (hg.symm.trans hb))); have HV5 := Aside0.mk (Kd.R_kept HV.out hkp (fun b hb hg => N1.out (hg.symm.trans hb))); clear hsg hb hkp; obtain ⟨hx5, hf5⟩ := Kd.R_celln 0 HO5.out (j : Int) hj41 (of_eq_true q1); rw [Int.toNat_natCast] at hx5 hf5)
    | fail)
   obtain ⟨hrl, hxl, hU⟩ := HD.out
   obtain ⟨hO, hg⟩ := Kd.R_putg HO5.out (j : Int) (r1 % 4294967296)
   rw [Int.toNat_natCast] at hO hg
   have hU' := Kd.R_mono (ok' := fun b => b = gu) (Kd.R_tight rfl hU) (fun b hb => by injection hb)
   have HU2 := Aside0.mk (Kd.R_grown hU' hg (fun b hb he => N2.out (by injection he with he; exact hb.symm.trans he)))
   have HV2 := Aside0.mk (Kd.R_grown HV5.out hg (fun b hb he => N3.out (by injection he with he; exact hb.symm.trans he)))
   have HO2 := Aside0.mk hO
   have HB2 := Aside0.mk (below_set (j := j) (v := .int .u32 (r1 % 4294967296)) HB5.out G3.out)
   have HX2 := Aside0.mk (show j ≤ l0.length - l1.length + 1 ∧ (x.take j ++ (r2 ++ x.drop (j + v.length + 1))).length = l0.length + 1 ∧ (o.set j (r1 % 4294967296)).length = l0.length - l1.length + 1 from ⟨by have := HX.out; omega, by rw [hxl]; exact HX.out.2.1, by rw [List.length_set]; exact HX.out.2.2⟩)
   clear hU hU' hO hg hxl hrl
   go_roundg j
   case measure => have := HQ1.out; omega
   case rel => exact ⟨j, _, _, rfl, HL, ⟨Nat.le_refl _⟩, HX2, HU2, HV2, HO2, HB2⟩
set_option maxHeartbeats 2000000 in
theorem nat_Div.calls (k : Nat) (A0 : Option Addr) (c0 : Nat) (l0 : List Int) (A1 : Option Addr) (c1 : Nat) (l1 : List Int) (r1 : List Int) (r2 : List Int) (w : World) (hr0 : Kd.C (Kd.int .u32) w A0 l0.length l0) (hc0 : l0.length ≤ c0) (hr1 : Kd.C (Kd.int .u32) w A1 l1.length l1) (hc1 : l1.length ≤ c1) (h : nat_Div.f k l0 l1 = some (r1, r2)) :
  Calls Tryz.prog 144 #[.slice A0 l0.length c0, .slice A1 l1.length c1] w fun e w' => ∃ v0_ v1_ : Value, e = .returned (.tuple #[v0_, v1_]) ∧ Kd.V (Kd.int .u32) 97 w' w.heap.size (fun k_ => (w.heap.size ≤ k_)) v0_ r1 ∧ Kd.V (Kd.int .u32) 97 w' w.heap.size (fun k_ => (w.heap.size ≤ k_)) v1_ r2 ∧ Below w.heap.size w w' := by
 unfold nat_Div.f at h
 by_cases hl : l0.length < 1099511627776 ∧ l1.length < 1099511627776
 case neg => rw [if_neg hl] at h; cases h
 rw [if_pos hl] at h
 obtain ⟨c, hc, h⟩ := Option.bind_eq_some_iff.1 h
 by_cases hlt : c < 0
 ·rw [if_pos hlt] at h
  obtain ⟨q, hq, h⟩ := Option.bind_eq_some_iff.1 h
  simp only [Option.some.injEq, Prod.mk.injEq] at h
  obtain ⟨rfl, rfl⟩ := h
  exact nat_Div.less_ k A0 c0 l0 A1 c1 l1 c _ w hr0 hc0 hr1 hc1 hc hlt hq
 rw [if_neg hlt] at h
 by_cases h1 : l1.length = 1
 ·rw [if_pos h1] at h
  obtain ⟨⟨t, rr⟩, ht, h⟩ := Option.bind_eq_some_iff.1 h
  obtain ⟨q, hq, h⟩ := Option.bind_eq_some_iff.1 h
  simp only [Option.some.injEq, Prod.mk.injEq] at h
  obtain ⟨rfl, rfl⟩ := h
  exact nat_Div.one_ k A0 c0 l0 A1 c1 l1 c _ _ rr w hr0 hc0 hr1 hc1 hc hlt h1 ht hq
 rw [if_neg h1] at h
 by_cases h2 : 2 ≤ l1.length ∧ l1.length ≤ l0.length ∧ 0 ≤ rd l1 ((l1.length - 1 : Nat) : Int) ∧ rd l1 ((l1.length - 1 : Nat) : Int) < 4294967296
 case neg => rw [if_neg h2] at h; cases h
 rw [if_pos h2] at h
 obtain ⟨u, hu, h⟩ := Option.bind_eq_some_iff.1 h
 obtain ⟨v, hv, h⟩ := Option.bind_eq_some_iff.1 h
 by_cases h3 : u.length = l0.length + 1 ∧ v.length = l1.length
 case neg => rw [if_neg h3] at h; cases h
 rw [if_pos h3] at h
 obtain ⟨⟨z1, z2⟩, hz, h⟩ := Option.bind_eq_some_iff.1 h
 obtain ⟨tr, htr, h⟩ := Option.bind_eq_some_iff.1 h
 obtain ⟨⟨t1, t2⟩, ht, h⟩ := Option.bind_eq_some_iff.1 h
 obtain ⟨q, hq, h⟩ := Option.bind_eq_some_iff.1 h
 simp only [Option.some.injEq, Prod.mk.injEq] at h
 obtain ⟨rfl, rfl⟩ := h
 exact nat_Div.big_ k A0 c0 l0 A1 c1 l1 c _ u v z1 z2 tr _ _ t2 w hr0 hc0 hr1 hc1 hc hlt h2.1 h2.2.1 hl.1 h2.2.2.1 h2.2.2.2 rfl hu hv h3.1 h3.2 hz htr ht hq

end
end Go.Proofs.YtaffkbemjbfajaaGreatDoor.PNumForms
