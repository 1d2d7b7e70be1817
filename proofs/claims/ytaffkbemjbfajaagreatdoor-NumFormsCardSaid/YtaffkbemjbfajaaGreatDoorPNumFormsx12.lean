-- By a program of this session (a changed copy of the kit's printer): functions of the seat as plain Lean functions, each with its proof over the machine.
import Derived.Test.YtaffkbemjbfajaaGreatDoorPNumFormsx0
import Derived.Test.YtaffkbemjbfajaaGreatDoorPNumFormsx11
namespace Go.Proofs.YtaffkbemjbfajaaGreatDoor.PNumForms
open Go.RowKit Go.Proofs.YtaffkbemjbfajaaGreatDoorW.PrintWords Go.Proofs.YtaffkbemjbfajaaGreatDoorW.PrintLast Go.Proofs.YtaffkbemjbfajaaGreatDoorW.PrintMore
attribute [local go_sem] max2_int min2_int max_two min_two max_three min_three max_four min_four   -- for this text's walks alone
set_option linter.unusedVariables false
set_option linter.unusedSimpArgs false

mutual
def weftref1_nat_carry.l0 : Nat → List Int → Int → Int → Int → Option (List Int)
 | 0, _, _, _, _ => none
 | k + 1, x0, x3, x6, x7 => if x7 < x6 then (if 0 ≤ x7 then (if x7 < (x0.length : Int) then ((some (x0.set (x7 : Int).toNat (Int.tmod (wrap64 (x3 + (rd x0 x7))) 10000) : List Int)).bind fun y393 => (if (rd y393 x7) < 0 then (weftref1_nat_carry.l0 k (y393.set (x7 : Int).toNat (wrap64 ((rd y393 x7) + 10000))) (wrap64 ((wrap64 (Int.tdiv (wrap64 (x3 + (rd x0 x7))) 10000)) - 1)) x6 (wrap64 (x7 + 1))) else (weftref1_nat_carry.l0 k y393 (wrap64 (Int.tdiv (wrap64 (x3 + (rd x0 x7))) 10000)) x6 (wrap64 (x7 + 1))))) else (none)) else (none)) else (weftref1_nat_carry.l1 k x0 x3)
def weftref1_nat_carry.l1 : Nat → List Int → Int → Option (List Int)
 | 0, _, _ => none
 | k + 1, x0, x3 => if x3 > 0 then (if x0.length < 17592186044416 then (weftref1_nat_carry.l1 k (x0 ++ [Int.tmod x3 10000]) (wrap64 (Int.tdiv x3 10000))) else (none)) else ((weftref1_nat_tidy.f k x0).bind fun t400 => (some t400))
end
def weftref1_nat_carry.f (k : Nat) (l0 : List Int) : Option (List Int) := weftref1_nat_carry.l0 k l0 0 (l0.length : Int) 0
theorem weftref1_nat_carry.mono_l : ∀ k, (∀ y0 y1 y2 y3, LeO (weftref1_nat_carry.l0 k y0 y1 y2 y3) (weftref1_nat_carry.l0 (k + 1) y0 y1 y2 y3)) ∧ (∀ y0 y1, LeO (weftref1_nat_carry.l1 k y0 y1) (weftref1_nat_carry.l1 (k + 1) y0 y1))
 | 0 => ⟨fun _ _ _ _ r h => by simp [weftref1_nat_carry.l0] at h, fun _ _ r h => by simp [weftref1_nat_carry.l1] at h⟩
 | k + 1 => by
  obtain ⟨ih0, ih1⟩ := weftref1_nat_carry.mono_l k
  refine ⟨?_, ?_⟩
  ·intro y0 y1 y2 y3
   unfold weftref1_nat_carry.l0
   have m0 := weftref1_nat_tidy.mono
   exact zM
  ·intro y0 y1
   unfold weftref1_nat_carry.l1
   have m0 := weftref1_nat_tidy.mono
   exact zM
theorem weftref1_nat_carry.mono : ∀ a0 k, LeO (weftref1_nat_carry.f k a0) (weftref1_nat_carry.f (k + 1) a0) := by
 intro a0 k
 obtain ⟨ih0, ih1⟩ := weftref1_nat_carry.mono_l k
 unfold weftref1_nat_carry.f
 have m0 := weftref1_nat_tidy.mono
 exact zM
set_option maxHeartbeats 8000000 in
set_option maxRecDepth 100000 in
theorem weftref1_nat_carry.calls (k : Nat) (P0_ : Nat → Prop) (u9000_ : Value) (l0 : List Int) (r : List Int) (w0 w : World) (hB : Below w0.heap.size w0 w) (ho0 : Kd.R (Kd.int .i64) 3 w w0.heap.size P0_ u9000_ l0) (h : weftref1_nat_carry.f k l0 = some r) :
  Calls Tryz.prog 150 #[u9000_] w fun e w' => ∃ v0_ : Value, e = .returned (v0_) ∧ Kd.V (Kd.int .i64) 3 w' w0.heap.size (fun k_ => (P0_ k_ ∨ w.heap.size ≤ k_)) v0_ r ∧ Below w0.heap.size w0 w' ∧ Kept w w' (fun k_ => P0_ k_) := by
 have HO0 := Aside0.mk (show Kd.R (Kd.int .i64) 3 w w0.heap.size (fun k_ => (P0_ k_ ∨ w.heap.size ≤ k_)) u9000_ l0 from Kd.R_mono ho0 (fun k_ hk => (.inl hk)))
 have HK := Aside0.mk (Kept.refl w (fun k_ => P0_ k_))
 have HW0 := Aside0.mk hB.size
 have HB := Aside0.mk hB
 clear hB
 have H : (weftref1_nat_carry.l0 k l0 0 (l0.length : Int) 0) = some r := h
 clear h
 have H' := Aside0.mk H
 clear H
 obtain ⟨Ao2, co2, rfl⟩ := Kd.R_slice HO0.out
 go_enter Tryz.func150, Tryz.ntmps150
 go_wp2
 go_loopg [3, 7] k (fun kq v3 v7 w' => ∃ (x0_1 : List Int) (x3_1 : Int) (x7_1 : Int), v3 = .int .i64 x3_1 ∧ v7 = .int .i64 x7_1 ∧ Aside0 (weftref1_nat_carry.l0 kq x0_1 x3_1 (l0.length : Int) x7_1 = some r) ∧ Aside0 (kq ≤ k) ∧ Aside0 (Kd.R (Kd.int .i64) 3 w' w0.heap.size (fun k_ => (P0_ k_ ∨ w.heap.size ≤ k_)) (.slice Ao2 l0.length co2) x0_1) ∧ Aside0 (Kept w w' (fun k_ => P0_ k_)) ∧ Aside0 (Below w0.heap.size w0 w'))
 case atStart => exact ⟨(l0), (0), (0), zs, zs, H', ⟨Nat.le_refl _⟩, ⟨zR HO0⟩, ⟨kw⟩, ⟨bw⟩⟩
 case round =>
  clear H'
  try clear c1
  try clear p2
  obtain ⟨x0_1, x3_1, x7_1, rfl, rfl, HA, HK1, HO_0, HK, HB⟩ := hrel
  have hl0_1 := (Kd.R_reads' HO_0.out).1
  rw [hl0_1] at HO_0
  (try simp only [hl0_1])
  cases gk with
  | zero => exact absurd HA.out (by simp [weftref1_nat_carry.l0])
  | succ k1 =>
   have H := HA.out
   clear HA
   simp only [weftref1_nat_carry.l0] at H
   by_cases c3 : x7_1 < (l0.length : Int)
   ·rw [if_pos c3] at H
    have c3b0 : decide (x7_1 < (l0.length : Int)) = true := decide_eq_true c3
    (try (have c3b0_hl0_1 := c3b0; simp only [hl0_1] at c3b0_hl0_1))
    clear c3
    by_cases c4 : 0 ≤ x7_1
    ·rw [if_pos c4] at H
     have c4b0 : decide (0 ≤ x7_1) = true := decide_eq_true c4
     clear c4
     by_cases c5 : x7_1 < (x0_1.length : Int)
     ·rw [if_pos c5] at H
      have c5b0 : decide (x7_1 < (x0_1.length : Int)) = true := decide_eq_true c5
      (try (have c5b0_hl0_1 := c5b0; simp only [hl0_1] at c5b0_hl0_1))
      clear c5
      obtain ⟨y393, hy393⟩ : ∃ y_ : List Int, y_ = (x0_1.set (x7_1 : Int).toNat (Int.tmod (wrap64 (x3_1 + (rd x0_1 x7_1))) 10000)) := ⟨_, rfl⟩
      replace H : (if (rd y393 x7_1) < 0 then (weftref1_nat_carry.l0 k1 (y393.set (x7_1 : Int).toNat (wrap64 ((rd y393 x7_1) + 10000))) (wrap64 ((wrap64 (Int.tdiv (wrap64 (x3_1 + (rd x0_1 x7_1))) 10000)) - 1)) (l0.length : Int) (wrap64 (x7_1 + 1))) else (weftref1_nat_carry.l0 k1 y393 (wrap64 (Int.tdiv (wrap64 (x3_1 + (rd x0_1 x7_1))) 10000)) (l0.length : Int) (wrap64 (x7_1 + 1)))) = some r := zy hy393 H
      have Ny393 := Aside0.mk hy393
      clear hy393
      by_cases c7 : (rd y393 x7_1) < 0
      ·rw [if_pos c7] at H
       have c7b0 : decide ((rd y393 x7_1) < 0) = true := decide_eq_true c7
       clear c7
       obtain ⟨y396, hy396⟩ : ∃ y_ : List Int, y_ = (y393.set (x7_1 : Int).toNat (wrap64 ((rd y393 x7_1) + 10000))) := ⟨_, rfl⟩
       replace H : (weftref1_nat_carry.l0 k1 y396 (wrap64 ((wrap64 (Int.tdiv (wrap64 (x3_1 + (rd x0_1 x7_1))) 10000)) - 1)) (l0.length : Int) (wrap64 (x7_1 + 1))) = some r := zy hy396 H
       have Ny396 := Aside0.mk hy396
       clear hy396
       have H' := Aside0.mk H
       clear H
       have p392 : 0 ≤ (x7_1 : Int) := zd
       have q392 : x7_1 < (x0_1.length : Int) := zd
       obtain ⟨ad392, e392, hx392_0⟩ := Kd.at_int (Kd.R_reads' HO_0.out).2.2 x7_1 p392 q392
       cases e392
       replace p392 := eq_true p392
       replace q392 := eq_true q392
       have p6 : 0 ≤ (x7_1 : Int) := zd
       have q6 : (x7_1 : Int) < ((x0_1.length : Int) : Int) := zd
       obtain ⟨go6, co6, eo6, gb6, gl6, cl6, HG6⟩ := Kd.R_form HO_0.out (by omega)
       (first | cases eo6 | (injection eo6 with ea_ en_ ec_; (first | subst ea_ | (injection ea_ with ea_; subst ea_)); subst ec_; clear en_))
       have GB6 := Aside0.mk gb6
       have GG6 := Aside0.mk HG6
       clear gb6 gl6 HG6
       have HMgo6 := Aside0.mk (show (P0_ go6 ∨ w.heap.size ≤ go6) from (HO_0.out.1 _ rfl))
       (first | simp only [add_plain] at hx392_0 | skip)
       obtain ⟨hx6_0, hf6_0⟩ := Kd.R_celln 0 HO_0.out (x7_1 : Int) p6 q6
       replace p6 := eq_true p6
       replace q6 := eq_true q6
       have HP9 := Kd.R_putg HO_0.out (x7_1 : Int) (Int.tmod (wrap64 (x3_1 + (rd x0_1 x7_1))) 10000)
       go_wp2_with (first | ((with_reducible refine gate_store (t := 3) (p := 20) rfl ?_); refine store_event (t := 3) (p := 20) (v := ?vo_w10) (w1 := (wr.setCell ⟨go6, (x7_1 : Int).toNat, none⟩ (.int .i64 (Int.tmod (wrap64 (x3_1 + (rd x0_1 x7_1))) 10000)))) ?hg ?ho ?hn ?hr ?_; (case ho => rfl); (case hg => rfl); (case hn => rfl); (case hr => first | (go_simp; done) | (go_simp; rfl)); intro w10 hw; have hg : wr.grownBy w10 (some go6) := (by rw [hw]; exact HP9.2); have hp_ : Kd.R (Kd.int .i64) 3 w10 w0.heap.size (fun k_ => (P0_ k_ ∨ w.heap.size ≤ k_)) (.slice (some ⟨go6, 0, none⟩) x0_1.length co2) y393 := (by rw [hw, Ny393.out]; exact HP9.1); clear HP9; replace HB := Aside0.mk ((by rw [hw]; exact below_set (HB.out) GB6.out : Below w0.heap.size w0 w10)); replace HK := Aside0.mk (Kept.of_grown (S := (fun k_ => P0_ k_)) hg kw (fun k_ e_ => (HO_0.out.1 k_ e_))); replace HO_0 := Aside0.mk (hp_); clear hg hw hp_; have p394 : 0 ≤ (x7_1 : Int) := zd; have q394 : x7_1 < (y393.length : Int) := (by have h_ : (x7_1 : Int) < ((x0_1.length : Int) : Int) := zd; first | (have e_ := (Kd.R_reads' HO_0.out).1; omega) | simpa only [Ny393.out, List.length_set] using h_); have ql394 : ((x7_1 : Int) < ((x0_1.length : Int) : Int)) = True := eq_true (zd); obtain ⟨ad394, e394, hx394_0⟩ := Kd.at_int (Kd.R_reads' HO_0.out).2.2 x7_1 p394 q394; obtain rfl : (⟨go6, 0, none⟩ : Addr) = ad394 := (by injection e394); (first | simp only [add_plain] at hx394_0 | simp only [add_at] at hx394_0 | simp only [Addr.add, Nat.zero_add] at hx394_0 | skip); replace p394 := eq_true p394; replace q394 := eq_true q394; have p395 : 0 ≤ (x7_1 : Int) := zd; have q395 : x7_1 < (y393.length : Int) := (by have h_ : (x7_1 : Int) < ((x0_1.length : Int) : Int) := zd; first | (have e_ := (Kd.R_reads' HO_0.out).1; omega) | simpa only [Ny393.out, List.length_set] using h_); have ql395 : ((x7_1 : Int) < ((x0_1.length : Int) : Int)) = True := eq_true (zd); obtain ⟨ad395, e395, hx395_0⟩ := Kd.at_int (Kd.R_reads' HO_0.out).2.2 x7_1 p395 q395; obtain rfl : (⟨go6, 0, none⟩ : Addr) = ad395 := (by injection e395); (first | simp only [add_plain] at hx395_0 | simp only [add_at] at hx395_0 | simp only [Addr.add, Nat.zero_add] at hx395_0 | skip); replace p395 := eq_true p395; replace q395 := eq_true q395; have p8 : 0 ≤ (x7_1 : Int) := zd; have q8 : (x7_1 : Int) < ((x0_1.length : Int) : Int) := zd; obtain ⟨hx8_0, hf8_0⟩ := Kd.R_celln 0 HO_0.out (x7_1 : Int) p8 q8; replace p8 := eq_true p8; replace q8 := eq_true q8; obtain ⟨hy11_, hz11_⟩ := Kd.R_celln 0 HO_0.out (x7_1 : Int) (zd) (zd); have HP11 := Kd.R_putg HO_0.out (x7_1 : Int) (wrap64 ((rd y393 x7_1) + 10000))) | ((with_reducible refine gate_store (t := 3) (p := 33) rfl ?_); refine store_event (t := 3) (p := 33) (v := ?vo_w12) (w1 := (w10.setCell ⟨go6, (x7_1 : Int).toNat, none⟩ (.int .i64 (wrap64 ((rd y393 x7_1) + 10000))))) ?hg ?ho ?hn ?hr ?_; (case ho => rfl); (case hg => rfl); (case hn => rfl); (case hr => first | (go_simp; done) | (go_simp; rfl)); intro w12 hw; have hg : w10.grownBy w12 (some go6) := (by rw [hw]; exact HP11.2); have hp_ : Kd.R (Kd.int .i64) 3 w12 w0.heap.size (fun k_ => (P0_ k_ ∨ w.heap.size ≤ k_)) (.slice (some ⟨go6, 0, none⟩) x0_1.length co2) y396 := (by rw [hw, Ny396.out]; exact HP11.1); clear HP11; replace HB := Aside0.mk ((by rw [hw]; exact below_set (HB.out) GB6.out : Below w0.heap.size w0 w12)); replace HK := Aside0.mk (Kept.of_grown (S := (fun k_ => P0_ k_)) hg kw (fun k_ e_ => (HO_0.out.1 k_ e_))); replace HO_0 := Aside0.mk (hp_); clear hg hw hp_))
       (try simp only [← hl0_1])
       go_roundg k1
       case measure => have := HK1.out; omega
       case rel => exact ⟨(y396), (wrap64 ((wrap64 (Int.tdiv (wrap64 (x3_1 + (rd x0_1 x7_1))) 10000)) - 1)), (wrap64 (x7_1 + 1)), zs, zs, H', ⟨by have := HK1.out; omega⟩, ⟨by (try simp only [hl0_1]); (with_reducible repeat (first | apply Kd.R_alloc | apply Kd.R_drewN | apply Kd.R_drew)); exact HO_0.out⟩, ⟨kw⟩, ⟨bw⟩⟩
      ·rw [if_neg c7] at H
       have c7b0 : decide ((rd y393 x7_1) < 0) = false := decide_eq_false c7
       clear c7
       have H' := Aside0.mk H
       clear H
       have p392 : 0 ≤ (x7_1 : Int) := zd
       have q392 : x7_1 < (x0_1.length : Int) := zd
       obtain ⟨ad392, e392, hx392_0⟩ := Kd.at_int (Kd.R_reads' HO_0.out).2.2 x7_1 p392 q392
       cases e392
       replace p392 := eq_true p392
       replace q392 := eq_true q392
       have p6 : 0 ≤ (x7_1 : Int) := zd
       have q6 : (x7_1 : Int) < ((x0_1.length : Int) : Int) := zd
       obtain ⟨go6, co6, eo6, gb6, gl6, cl6, HG6⟩ := Kd.R_form HO_0.out (by omega)
       (first | cases eo6 | (injection eo6 with ea_ en_ ec_; (first | subst ea_ | (injection ea_ with ea_; subst ea_)); subst ec_; clear en_))
       have GB6 := Aside0.mk gb6
       have GG6 := Aside0.mk HG6
       clear gb6 gl6 HG6
       have HMgo6 := Aside0.mk (show (P0_ go6 ∨ w.heap.size ≤ go6) from (HO_0.out.1 _ rfl))
       (first | simp only [add_plain] at hx392_0 | skip)
       obtain ⟨hx6_0, hf6_0⟩ := Kd.R_celln 0 HO_0.out (x7_1 : Int) p6 q6
       replace p6 := eq_true p6
       replace q6 := eq_true q6
       have HP13 := Kd.R_putg HO_0.out (x7_1 : Int) (Int.tmod (wrap64 (x3_1 + (rd x0_1 x7_1))) 10000)
       go_wp2_with (first | ((with_reducible refine gate_store (t := 3) (p := 20) rfl ?_); refine store_event (t := 3) (p := 20) (v := ?vo_w14) (w1 := (wr.setCell ⟨go6, (x7_1 : Int).toNat, none⟩ (.int .i64 (Int.tmod (wrap64 (x3_1 + (rd x0_1 x7_1))) 10000)))) ?hg ?ho ?hn ?hr ?_; (case ho => rfl); (case hg => rfl); (case hn => rfl); (case hr => first | (go_simp; done) | (go_simp; rfl)); intro w14 hw; have hg : wr.grownBy w14 (some go6) := (by rw [hw]; exact HP13.2); have hp_ : Kd.R (Kd.int .i64) 3 w14 w0.heap.size (fun k_ => (P0_ k_ ∨ w.heap.size ≤ k_)) (.slice (some ⟨go6, 0, none⟩) x0_1.length co2) y393 := (by rw [hw, Ny393.out]; exact HP13.1); clear HP13; replace HB := Aside0.mk ((by rw [hw]; exact below_set (HB.out) GB6.out : Below w0.heap.size w0 w14)); replace HK := Aside0.mk (Kept.of_grown (S := (fun k_ => P0_ k_)) hg kw (fun k_ e_ => (HO_0.out.1 k_ e_))); replace HO_0 := Aside0.mk (hp_); clear hg hw hp_; have p394 : 0 ≤ (x7_1 : Int) := zd; have q394 : x7_1 < (y393.length : Int) := (by have h_ : (x7_1 : Int) < ((x0_1.length : Int) : Int) := zd; first | (have e_ := (Kd.R_reads' HO_0.out).1; omega) | simpa only [Ny393.out, List.length_set] using h_); have ql394 : ((x7_1 : Int) < ((x0_1.length : Int) : Int)) = True := eq_true (zd); obtain ⟨ad394, e394, hx394_0⟩ := Kd.at_int (Kd.R_reads' HO_0.out).2.2 x7_1 p394 q394; obtain rfl : (⟨go6, 0, none⟩ : Addr) = ad394 := (by injection e394); (first | simp only [add_plain] at hx394_0 | simp only [add_at] at hx394_0 | simp only [Addr.add, Nat.zero_add] at hx394_0 | skip); replace p394 := eq_true p394; replace q394 := eq_true q394))
       (try simp only [← hl0_1])
       go_roundg k1
       case measure => have := HK1.out; omega
       case rel => exact ⟨(y393), (wrap64 (Int.tdiv (wrap64 (x3_1 + (rd x0_1 x7_1))) 10000)), (wrap64 (x7_1 + 1)), zs, zs, H', ⟨by have := HK1.out; omega⟩, ⟨by (try simp only [hl0_1]); (with_reducible repeat (first | apply Kd.R_alloc | apply Kd.R_drewN | apply Kd.R_drew)); exact HO_0.out⟩, ⟨kw⟩, ⟨bw⟩⟩
     ·rw [if_neg c5] at H
      cases H
    ·rw [if_neg c4] at H
     cases H
   ·rw [if_neg c3] at H
    have c3b0 : decide (x7_1 < (l0.length : Int)) = false := decide_eq_false c3
    (try (have c3b0_hl0_1 := c3b0; simp only [hl0_1] at c3b0_hl0_1))
    clear c3
    have H' := Aside0.mk H
    clear H
    go_wp2
    go_loopg [0, 3] k1 (fun kq v0 v3 w' => ∃ (x0_2 : List Int) (x3_2 : Int), v3 = .int .i64 x3_2 ∧ Aside0 (weftref1_nat_carry.l1 kq x0_2 x3_2 = some r) ∧ Aside0 (kq ≤ k1) ∧ Aside0 (Kd.R (Kd.int .i64) 3 w' w0.heap.size (fun k_ => (P0_ k_ ∨ w.heap.size ≤ k_)) v0 x0_2) ∧ Aside0 (Kept w w' (fun k_ => P0_ k_)) ∧ Aside0 (Below w0.heap.size w0 w'))
    case atStart => exact ⟨(x0_1), (x3_1), zs, H', ⟨Nat.le_refl _⟩, ⟨by (try simp only [hl0_1]); (with_reducible repeat (first | apply Kd.R_alloc | apply Kd.R_drewN | apply Kd.R_drew)); exact HO_0.out⟩, ⟨kw⟩, ⟨bw⟩⟩
    case round =>
     clear H'
     try clear c1
     try clear p2
     try clear c3
     try clear c3b0
     try clear p3
     try clear q3
     try clear hx3
     try clear c4
     try clear c4b0
     try clear c5
     try clear c5b0
     try clear p6
     try clear q6
     try clear hx6
     try clear hf6
     try clear c7
     try clear c7b0
     try clear p8
     try clear q8
     try clear hx8
     try clear hf8
     try clear hx392_0
     try clear hx394_0
     try clear hx395_0
     try clear hx6_0
     try clear hx8_0
     try clear p2
     try clear p392
     try clear p394
     try clear p395
     try clear p6
     try clear p8
     try clear q392
     try clear q394
     try clear q395
     try clear q6
     try clear q8
     obtain ⟨x0_2, x3_2, rfl, HA, HK2, HO_0, HK, HB⟩ := hrel
     cases gk with
     | zero => exact absurd HA.out (by simp [weftref1_nat_carry.l1])
     | succ k2 =>
      have H := HA.out
      clear HA
      simp only [weftref1_nat_carry.l1] at H
      by_cases c15 : x3_2 > 0
      ·rw [if_pos c15] at H
       have c15b0 : decide (0 < x3_2) = true := decide_eq_true c15
       clear c15
       by_cases c16 : x0_2.length < 17592186044416
       ·rw [if_pos c16] at H
        have LMc16 := Aside0.mk c16
        clear c16
        obtain ⟨y397, hy397⟩ : ∃ y_ : List Int, y_ = (x0_2 ++ [Int.tmod x3_2 10000]) := ⟨_, rfl⟩
        replace H : (weftref1_nat_carry.l1 k2 y397 (wrap64 (Int.tdiv x3_2 10000))) = some r := zy hy397 H
        have Ny397 := Aside0.mk hy397
        clear hy397
        have H' := Aside0.mk H
        clear H
        go_wp2_with (first | ((with_reducible refine gate_builtin (b := .append) (xs := #[.tmp 41, .tmp 44]) rfl ?_); at_builtin; refine Kd.R_append (Kd.int .i64) (w0 := w0) w0.heap.size rfl (.tmp 41) (.tmp 44) 65 3 (.int .i64 0) 8 rfl Tryz.underlying65 info3 rfl (by decide) (by omega) u0 x0_2 (Int.tmod x3_2 10000) [.int .i64 (Int.tmod x3_2 10000)] (fun k_ => (P0_ k_ ∨ w.heap.size ≤ k_)) (fun _ => False) rfl rfl ?aP (fun _ hk => hk.elim) ?aF ?aO ?aB ?aS ?aL ?_; (case aP => exact rfl); (case aB => exact bw); (case aF => exact (fun k_ hk => (.inr (Nat.le_trans (by first | exact HK.out.1 | exact (show Kept w _ (fun k_ => P0_ k_) from kw).1) hk)))); (case aO => exact (zR HO_0)); (case aS => exact bs); (case aL => have := LMc16.out; omega); intro v398 w17 ho hb hg hat; rw [← Ny397.out] at ho; replace HB := Aside0.mk (hb); replace HK := Aside0.mk (Kept.of_grown (S := (fun k_ => P0_ k_)) hg kw (fun k_ e_ => (HO_0.out.1 k_ e_))); have HO399 := Aside0.mk (ho); clear HO_0; clear ho hb hg hat))
        go_roundg k2
        case measure => have := HK1.out; have := HK2.out; omega
        case rel => exact ⟨(y397), (wrap64 (Int.tdiv x3_2 10000)), zs, H', ⟨by have := HK1.out; have := HK2.out; omega⟩, ⟨by (try simp only [hl0_1]); (with_reducible repeat (first | apply Kd.R_alloc | apply Kd.R_drewN | apply Kd.R_drew)); exact HO399.out⟩, ⟨kw⟩, ⟨bw⟩⟩
       ·rw [if_neg c16] at H
        cases H
      ·rw [if_neg c15] at H
       have c15b0 : decide (0 < x3_2) = false := decide_eq_false c15
       clear c15
       obtain ⟨t400, A18, H⟩ := zB H
       obtain rfl := Option.some.inj H
       obtain ⟨Ao19, co19, rfl⟩ := Kd.R_slice HO_0.out
       go_wp2_with (first | (refine zg (some 47) Tryz.func141 #[.slice Ao19 x0_2.length co19] ?_; (with_reducible refine (weftref1_nat_tidy.calls k2 (fun k_ => some k_ = (.slice Ao19 x0_2.length co19 : Value).ownBlock) _ _ x0_2 t400 _ ?side1 A18.out).mono ?_); (case side1 => exact Kd.R_V (Kd.R_tight rfl (HO_0.out))); rintro e w20 ⟨v401, rfl, ho0, hb⟩; refine ⟨_, rfl, ?_⟩; have HO402 := Aside0.mk (Kd.V_lower (Kd.V_mono (ok' := fun k_ => (P0_ k_ ∨ w.heap.size ≤ k_)) ho0 (fun k_ hk_ => Or.elim hk_ (fun hs_ => ((HO_0.out).1 k_ hs_.symm)) (fun hn_ => (.inr (Nat.le_trans (by first | exact HK.out.1 | exact (show Kept w _ (fun k_ => P0_ k_) from kw).1) hn_))))) bs); replace HO_0 := Aside0.mk (Kd.R_below (zR HO_0) hb); replace HK := Aside0.mk (Kept.below (S := (fun k_ => P0_ k_)) kw hb); replace HB := sB hb; clear hb ho0))
       go_ret
       exact ⟨_, ze, zV HO402, bw, kw⟩

mutual
def weftref1_natMul.l0 : Nat → List Int → List Int → List Int → Int → Int → Option (List Int)
 | 0, _, _, _, _, _ => none
 | k + 1, x1, x5, x16, x17, x18 => if x18 < x17 then (if 0 ≤ x18 then (if x18 < (x16.length : Int) then (weftref1_natMul.l1 k x1 x5 x18 (rd x16 x18) x16 x17 x18 x1 (x1.length : Int) 0) else (none)) else (none)) else ((weftref1_nat_carry.f k x5).bind fun t406 => (some t406))
def weftref1_natMul.l1 : Nat → List Int → List Int → Int → Int → List Int → Int → Int → List Int → Int → Int → Option (List Int)
 | 0, _, _, _, _, _, _, _, _, _, _ => none
 | k + 1, x1, x5, x6, x7, x16, x17, x18, x23, x24, x25 => if x25 < x24 then (if 0 ≤ x25 then (if x25 < (x23.length : Int) then (if 0 ≤ (wrap64 (x6 + x25)) then (if (wrap64 (x6 + x25)) < (x5.length : Int) then (weftref1_natMul.l1 k x1 (x5.set ((wrap64 (x6 + x25)) : Int).toNat (wrap64 ((rd x5 (wrap64 (x6 + x25))) + (wrap64 (x7 * (rd x23 x25)))))) x6 x7 x16 x17 x18 x23 x24 (wrap64 (x25 + 1))) else (none)) else (none)) else (none)) else (none)) else (weftref1_natMul.l0 k x1 x5 x16 x17 (wrap64 (x18 + 1)))
end
def weftref1_natMul.f (k : Nat) (l0 : List Int) (l1 : List Int) : Option (List Int) := if 0 ≤ (wrap64 ((l0.length : Int) + (l1.length : Int))) then (if (wrap64 ((l0.length : Int) + (l1.length : Int)) : Int).toNat ≤ 35184372088832 then (weftref1_natMul.l0 k l1 (List.replicate (wrap64 ((l0.length : Int) + (l1.length : Int)) : Int).toNat 0) l0 (l0.length : Int) 0) else (none)) else (none)
theorem weftref1_natMul.mono_l : ∀ k, (∀ y0 y1 y2 y3 y4, LeO (weftref1_natMul.l0 k y0 y1 y2 y3 y4) (weftref1_natMul.l0 (k + 1) y0 y1 y2 y3 y4)) ∧ (∀ y0 y1 y2 y3 y4 y5 y6 y7 y8 y9, LeO (weftref1_natMul.l1 k y0 y1 y2 y3 y4 y5 y6 y7 y8 y9) (weftref1_natMul.l1 (k + 1) y0 y1 y2 y3 y4 y5 y6 y7 y8 y9))
 | 0 => ⟨fun _ _ _ _ _ r h => by simp [weftref1_natMul.l0] at h, fun _ _ _ _ _ _ _ _ _ _ r h => by simp [weftref1_natMul.l1] at h⟩
 | k + 1 => by
  obtain ⟨ih0, ih1⟩ := weftref1_natMul.mono_l k
  refine ⟨?_, ?_⟩
  ·intro y0 y1 y2 y3 y4
   unfold weftref1_natMul.l0
   have m0 := weftref1_nat_carry.mono
   exact zM
  ·intro y0 y1 y2 y3 y4 y5 y6 y7 y8 y9
   unfold weftref1_natMul.l1
   have m0 := weftref1_nat_carry.mono
   exact zM
theorem weftref1_natMul.mono : ∀ a0 a1 k, LeO (weftref1_natMul.f k a0 a1) (weftref1_natMul.f (k + 1) a0 a1) := by
 intro a0 a1 k
 obtain ⟨ih0, ih1⟩ := weftref1_natMul.mono_l k
 unfold weftref1_natMul.f
 have m0 := weftref1_nat_carry.mono
 exact zM
set_option maxHeartbeats 8000000 in
set_option maxRecDepth 100000 in
theorem weftref1_natMul.calls (k : Nat) (A0 : Option Addr) (c0 : Nat) (l0 : List Int) (A1 : Option Addr) (c1 : Nat) (l1 : List Int) (r : List Int) (w : World) (hr0 : Kd.C (Kd.int .i64) w A0 l0.length l0) (hc0 : l0.length ≤ c0) (hr1 : Kd.C (Kd.int .i64) w A1 l1.length l1) (hc1 : l1.length ≤ c1) (h : weftref1_natMul.f k l0 l1 = some r) :
  Calls Tryz.prog 112 #[.slice A0 l0.length c0, .slice A1 l1.length c1] w fun e w' => ∃ v0_ : Value, e = .returned (v0_) ∧ Kd.V (Kd.int .i64) 3 w' w.heap.size (fun k_ => (w.heap.size ≤ k_)) v0_ r ∧ Below w.heap.size w w' := by
 have HR0 := Aside0.mk hr0
 have HC0 := Aside0.mk hc0
 clear hr0 hc0
 have HR1 := Aside0.mk hr1
 have HC1 := Aside0.mk hc1
 clear hr1 hc1
 have HB := Aside0.mk (Below.refl w.heap.size w)
 have H : (if 0 ≤ (wrap64 ((l0.length : Int) + (l1.length : Int))) then (if (wrap64 ((l0.length : Int) + (l1.length : Int)) : Int).toNat ≤ 35184372088832 then (weftref1_natMul.l0 k l1 (List.replicate (wrap64 ((l0.length : Int) + (l1.length : Int)) : Int).toNat 0) l0 (l0.length : Int) 0) else (none)) else (none)) = some r := h
 clear h
 obtain ⟨ji3, hji3⟩ : ∃ j_ : Int, (wrap64 ((l0.length : Int) + (l1.length : Int))) = j_ := ⟨_, rfl⟩
 replace H : (if 0 ≤ (ji3) then (if (ji3 : Int).toNat ≤ 35184372088832 then (weftref1_natMul.l0 k l1 (List.replicate (ji3 : Int).toNat 0) l0 (l0.length : Int) 0) else (none)) else (none)) = some r := by first | (rw [hji3] at H; exact H) | (simp only [hji3] at H ⊢; exact H)
 have hji3w : (IntKind.i64.wrap ((l0.length : Int) + (l1.length : Int))) = ji3 := (i64_w _).trans hji3
 by_cases c4 : 0 ≤ (ji3)
 ·rw [if_pos c4] at H
  have c4b0 := eq_true c4
  have c4b1 : decide (0 ≤ (ji3)) = true := decide_eq_true c4
  clear c4
  by_cases c5 : (ji3 : Int).toNat ≤ 35184372088832
  ·rw [if_pos c5] at H
   have c5b0 := eq_true c5
   have c5b1 : decide ((ji3 : Int).toNat ≤ 35184372088832) = true := decide_eq_true c5
   clear c5
   obtain ⟨y403, hy403⟩ : ∃ y_ : List Int, y_ = (List.replicate (ji3 : Int).toNat 0) := ⟨_, rfl⟩
   replace H : (weftref1_natMul.l0 k l1 y403 l0 (l0.length : Int) 0) = some r := zy hy403 H
   have Ny403 := Aside0.mk hy403
   clear hy403
   have H' := Aside0.mk H
   clear H
   go_enter Tryz.func112, Tryz.ntmps112
   go_wp2_with (first | ((with_reducible refine gate_dst (N := 15) rfl ?_); refine Kd.R_make (Kd.int .i64) _ 3 rfl (N := 15) rfl 65 _ _ rfl ji3 rfl rfl Tryz.underlying65 (.int .i64 0) 8 info3 rfl (by decide) (by omega) 0 (ok := fun _ => True) (okp := fun _ => True) rfl (fun _ hk => hk) trivial (zd) (Nat.le_trans (Nat.mul_le_mul_right _ (zd : ji3.toNat ≤ 35184372088832)) (by omega)) (Below.refl _ _) (Nat.le_refl _) ?_; intro v404 w6 ho7 hb hg_ hnew_; clear hg_ hnew_; (first | rw [← Ny403.out] at ho7 | (simp only [Int.reduceToNat] at ho7; rw [← Ny403.out] at ho7)); have HO405 := Aside0.mk (Kd.R_lower (Kd.R_newM (M := fun k_ => (w.heap.size ≤ k_)) ho7 bs (fun k_ h_ => h_)) bs); replace HB := sB hb; clear hb ho7))
   go_loopg [18] k (fun kq v18 w' => ∃ (x5_1 : List Int) (x18_1 : Int), v18 = .int .i64 x18_1 ∧ Aside0 (weftref1_natMul.l0 kq l1 x5_1 l0 (l0.length : Int) x18_1 = some r) ∧ Aside0 (kq ≤ k) ∧ Aside0 (Kd.R (Kd.int .i64) 3 w' w.heap.size (fun k_ => (w.heap.size ≤ k_)) v404 x5_1) ∧ Aside0 (Below w.heap.size w w'))
   case atStart => exact ⟨(y403), (0), zs, H', ⟨Nat.le_refl _⟩, ⟨by (with_reducible repeat (first | apply Kd.R_alloc | apply Kd.R_drewN | apply Kd.R_drew)); exact Kd.R_mono HO405.out (fun _ hk => hk.1)⟩, ⟨bw⟩⟩
   case round =>
    clear H'
    try clear c1
    try clear p2
    try clear c4
    try clear c4b0
    try clear c4b1
    try clear c5
    try clear c5b0
    try clear c5b1
    try clear p6
    obtain ⟨x5_1, x18_1, rfl, HA, HK1, HO_5, HB⟩ := hrel
    cases gk with
    | zero => exact absurd HA.out (by simp [weftref1_natMul.l0])
    | succ k1 =>
     have H := HA.out
     clear HA
     simp only [weftref1_natMul.l0] at H
     by_cases c8 : x18_1 < (l0.length : Int)
     ·rw [if_pos c8] at H
      have c8b0 : decide (x18_1 < (l0.length : Int)) = true := decide_eq_true c8
      clear c8
      by_cases c9 : 0 ≤ x18_1
      ·rw [if_pos c9] at H
       have c9b0 : decide (0 ≤ x18_1) = true := decide_eq_true c9
       clear c9
       by_cases c10 : x18_1 < (l0.length : Int)
       ·rw [if_pos c10] at H
        have c10b0 : decide (x18_1 < (l0.length : Int)) = true := decide_eq_true c10
        clear c10
        have H' := Aside0.mk H
        clear H
        have p409 : 0 ≤ (x18_1 : Int) := zd
        have q409 : x18_1 < (l0.length : Int) := zd
        obtain ⟨ad409, e409, hx409_0⟩ := Kd.at_int HR0.out x18_1 p409 q409
        cases e409
        replace hx409_0 := (HB.out.cell (World.block_lt_of_cell? w _ hx409_0)).trans hx409_0
        replace p409 := eq_true p409
        replace q409 := eq_true q409
        go_wp2
        go_loopg [25] k1 (fun kq v25 w' => ∃ (x5_2 : List Int) (x25_2 : Int), v25 = .int .i64 x25_2 ∧ Aside0 (weftref1_natMul.l1 kq l1 x5_2 x18_1 (rd l0 x18_1) l0 (l0.length : Int) x18_1 l1 (l1.length : Int) x25_2 = some r) ∧ Aside0 (kq ≤ k1) ∧ Aside0 (Kd.R (Kd.int .i64) 3 w' w.heap.size (fun k_ => (w.heap.size ≤ k_)) v404 x5_2) ∧ Aside0 (Below w.heap.size w w'))
        case atStart => exact ⟨(x5_1), (0), zs, H', ⟨Nat.le_refl _⟩, ⟨zR HO_5⟩, ⟨bw⟩⟩
        case round =>
         clear H'
         try clear c1
         try clear p2
         try clear c4
         try clear c4b0
         try clear c4b1
         try clear p4
         try clear q4
         try clear hx4
         try clear c5
         try clear c5b0
         try clear c5b1
         try clear p6
         try clear c8
         try clear c8b0
         try clear c9
         try clear c9b0
         try clear c10
         try clear c10b0
         try clear hx409_0
         try clear p2
         try clear p409
         try clear p6
         try clear q409
         obtain ⟨x5_2, x25_2, rfl, HA, HK2, HO_5, HB⟩ := hrel
         cases gk with
         | zero => exact absurd HA.out (by simp [weftref1_natMul.l1])
         | succ k2 =>
          have H := HA.out
          clear HA
          simp only [weftref1_natMul.l1] at H
          by_cases c11 : x25_2 < (l1.length : Int)
          ·rw [if_pos c11] at H
           have c11b0 : decide (x25_2 < (l1.length : Int)) = true := decide_eq_true c11
           clear c11
           by_cases c12 : 0 ≤ x25_2
           ·rw [if_pos c12] at H
            have c12b0 : decide (0 ≤ x25_2) = true := decide_eq_true c12
            clear c12
            by_cases c13 : x25_2 < (l1.length : Int)
            ·rw [if_pos c13] at H
             have c13b0 : decide (x25_2 < (l1.length : Int)) = true := decide_eq_true c13
             clear c13
             obtain ⟨ji14, hji14⟩ : ∃ j_ : Int, (wrap64 (x18_1 + x25_2)) = j_ := ⟨_, rfl⟩
             replace H : (if 0 ≤ (ji14) then (if (ji14) < (x5_2.length : Int) then (weftref1_natMul.l1 k2 l1 (x5_2.set ((ji14) : Int).toNat (wrap64 ((rd x5_2 (ji14)) + (wrap64 ((rd l0 x18_1) * (rd l1 x25_2)))))) x18_1 (rd l0 x18_1) l0 (l0.length : Int) x18_1 l1 (l1.length : Int) (wrap64 (x25_2 + 1))) else (none)) else (none)) = some r := by first | (rw [hji14] at H; exact H) | (simp only [hji14] at H ⊢; exact H)
             have hji14w : (IntKind.i64.wrap (x18_1 + x25_2)) = ji14 := (i64_w _).trans hji14
             by_cases c15 : 0 ≤ (ji14)
             ·rw [if_pos c15] at H
              have c15b0 : decide (0 ≤ (ji14)) = true := decide_eq_true c15
              clear c15
              by_cases c16 : (ji14) < (x5_2.length : Int)
              ·rw [if_pos c16] at H
               have c16b0 : decide ((ji14) < (x5_2.length : Int)) = true := decide_eq_true c16
               clear c16
               obtain ⟨y412, hy412⟩ : ∃ y_ : List Int, y_ = (x5_2.set ((ji14) : Int).toNat (wrap64 ((rd x5_2 (ji14)) + (wrap64 ((rd l0 x18_1) * (rd l1 x25_2)))))) := ⟨_, rfl⟩
               replace H : (weftref1_natMul.l1 k2 l1 y412 x18_1 (rd l0 x18_1) l0 (l0.length : Int) x18_1 l1 (l1.length : Int) (wrap64 (x25_2 + 1))) = some r := zy hy412 H
               have Ny412 := Aside0.mk hy412
               clear hy412
               have H' := Aside0.mk H
               clear H
               have p410 : 0 ≤ (x25_2 : Int) := zd
               have q410 : x25_2 < (l1.length : Int) := zd
               obtain ⟨ad410, e410, hx410_0⟩ := Kd.at_int HR1.out x25_2 p410 q410
               cases e410
               replace hx410_0 := (HB.out.cell (World.block_lt_of_cell? w _ hx410_0)).trans hx410_0
               replace p410 := eq_true p410
               replace q410 := eq_true q410
               obtain ⟨Ao18, co18, rfl⟩ := Kd.R_slice HO_5.out
               have p411 : 0 ≤ ((ji14) : Int) := zd
               have q411 : (ji14) < (x5_2.length : Int) := zd
               obtain ⟨ad411, e411, hx411_0⟩ := Kd.at_int (Kd.R_reads' HO_5.out).2.2 (ji14) p411 q411
               cases e411
               replace p411 := eq_true p411
               replace q411 := eq_true q411
               have p17 : 0 ≤ ((ji14) : Int) := zd
               have q17 : ((ji14) : Int) < ((x5_2.length : Int) : Int) := zd
               obtain ⟨go17, co17, eo17, gb17, gl17, cl17, HG17⟩ := Kd.R_form HO_5.out (by omega)
               (first | cases eo17 | (injection eo17 with ea_ en_ ec_; (first | subst ea_ | (injection ea_ with ea_; subst ea_)); subst ec_; clear en_))
               have GB17 := Aside0.mk gb17
               have GG17 := Aside0.mk HG17
               clear gb17 gl17 HG17
               (first | simp only [add_plain] at hx411_0 | skip)
               obtain ⟨hx17_0, hf17_0⟩ := Kd.R_celln 0 HO_5.out ((ji14) : Int) p17 q17
               replace p17 := eq_true p17
               replace q17 := eq_true q17
               have HP19 := Kd.R_putg HO_5.out ((ji14) : Int) (wrap64 ((rd x5_2 (ji14)) + (wrap64 ((rd l0 x18_1) * (rd l1 x25_2)))))
               go_wp2_with (first | ((with_reducible refine gate_store (t := 3) (p := 40) rfl ?_); refine store_event (t := 3) (p := 40) (v := ?vo_w20) (w1 := (wr.setCell ⟨go17, ((ji14) : Int).toNat, none⟩ (.int .i64 (wrap64 ((rd x5_2 (ji14)) + (wrap64 ((rd l0 x18_1) * (rd l1 x25_2)))))))) ?hg ?ho ?hn ?hr ?_; (case ho => rfl); (case hg => rfl); (case hn => rfl); (case hr => first | (go_simp; done) | (go_simp; rfl)); intro w20 hw; have hg : wr.grownBy w20 (some go17) := (by rw [hw]; exact HP19.2); have hp_ : Kd.R (Kd.int .i64) 3 w20 w.heap.size (fun k_ => (w.heap.size ≤ k_)) (.slice (some ⟨go17, 0, none⟩) x5_2.length co18) y412 := (by rw [hw, Ny412.out]; exact HP19.1); clear HP19; replace HO_5 := Aside0.mk (hp_); replace HB := Aside0.mk ((by rw [hw]; exact below_set (HB.out) GB17.out : Below w.heap.size w w20)); clear hg hw hp_))
               go_roundg k2
               case measure => have := HK1.out; have := HK2.out; omega
               case rel => exact ⟨(y412), (wrap64 (x25_2 + 1)), zs, H', ⟨by have := HK1.out; have := HK2.out; omega⟩, ⟨zR HO_5⟩, ⟨bw⟩⟩
              ·rw [if_neg c16] at H
               cases H
             ·rw [if_neg c15] at H
              cases H
            ·rw [if_neg c13] at H
             cases H
           ·rw [if_neg c12] at H
            cases H
          ·rw [if_neg c11] at H
           have c11b0 : decide (x25_2 < (l1.length : Int)) = false := decide_eq_false c11
           clear c11
           have H' := Aside0.mk H
           clear H
           go_wp2
           go_roundg k2
           case measure => have := HK1.out; have := HK2.out; omega
           case rel => exact ⟨(x5_2), (wrap64 (x18_1 + 1)), zs, H', ⟨by have := HK1.out; have := HK2.out; omega⟩, ⟨zR HO_5⟩, ⟨bw⟩⟩
       ·rw [if_neg c10] at H
        cases H
      ·rw [if_neg c9] at H
       cases H
     ·rw [if_neg c8] at H
      have c8b0 : decide (x18_1 < (l0.length : Int)) = false := decide_eq_false c8
      clear c8
      obtain ⟨t406, A21, H⟩ := zB H
      obtain rfl := Option.some.inj H
      obtain ⟨Ao22, co22, rfl⟩ := Kd.R_slice HO_5.out
      go_wp2_with (first | (refine zg (some 44) Tryz.func150 #[.slice Ao22 x5_1.length co22] ?_; (with_reducible refine (weftref1_nat_carry.calls k1 (fun k_ => some k_ = (.slice Ao22 x5_1.length co22 : Value).ownBlock) (.slice Ao22 x5_1.length co22) x5_1 t406 w _ ?side1 ?side2 A21.out).mono ?_); (case side1 => exact bw); (case side2 => exact Kd.R_tight rfl HO_5.out); rintro e w23 ⟨v407, rfl, ho0, hb, hkp⟩; refine ⟨_, rfl, ?_⟩; have HO408 := Aside0.mk (Kd.V_mono (ok' := fun k_ => (w.heap.size ≤ k_)) ho0 (fun k_ hk_ => Or.elim hk_ (fun hs_ => (HO_5.out.1 k_ (hs_).symm)) (fun hn_ => (Nat.le_trans bs hn_)))); replace HB := Aside0.mk (hb); clear HO_5; clear hb ho0))
      go_ret
      exact ⟨_, by first | rfl | (simp [errW_none, errW_some] <;> rfl) | (simp only [← hji3]; first | rfl | (simp [errW_none, errW_some] <;> rfl)) | (simp [*, errW_none, errW_some] <;> rfl), zV HO408, bw⟩
  ·rw [if_neg c5] at H
   cases H
 ·rw [if_neg c4] at H
  cases H

section
def weftref1_natAdd.lp (a2 : Int) : List Int → Nat → List Int → List Int
 | [], _, o => o
 | x :: r, i, o => weftref1_natAdd.lp a2 r (i + 1) (o.set i (wrap64 ((rd o (i : Int)) + wrap64 (a2 * x))))
def weftref1_natAdd.f (k : Nat) (l0 : List Int) (l1 : List Int) (a2 : Int) : Option (List Int) :=
 if l0.length < 1099511627776 ∧ l1.length < 1099511627776 then weftref1_nat_carry.f k (weftref1_natAdd.lp a2 l1 0 (l0 ++ List.replicate (l1.length - l0.length) 0)) else none
theorem weftref1_natAdd.mono : ∀ a0 a1 a2 k, LeO (weftref1_natAdd.f k a0 a1 a2) (weftref1_natAdd.f (k + 1) a0 a1 a2) := by
 intro a0 a1 a2 k
 unfold weftref1_natAdd.f
 exact LeO.ite (weftref1_nat_carry.mono _ k) (LeO.none _)
set_option maxHeartbeats 8000000 in
set_option maxRecDepth 100000 in
theorem weftref1_natAdd.calls (k : Nat) (A0 : Option Addr) (c0 : Nat) (l0 : List Int) (A1 : Option Addr) (c1 : Nat) (l1 : List Int) (a2 : Int) (r : List Int) (w : World) (hr0 : Kd.C (Kd.int .i64) w A0 l0.length l0) (hc0 : l0.length ≤ c0) (hr1 : Kd.C (Kd.int .i64) w A1 l1.length l1) (hc1 : l1.length ≤ c1) (h : weftref1_natAdd.f k l0 l1 a2 = some r) :
  Calls Tryz.prog 119 #[.slice A0 l0.length c0, .slice A1 l1.length c1, .int .i64 a2] w fun e w' => ∃ v0_ : Value, e = .returned v0_ ∧ Kd.V (Kd.int .i64) 3 w' w.heap.size (fun k_ => (w.heap.size ≤ k_)) v0_ r ∧ Below w.heap.size w w' := by
 unfold weftref1_natAdd.f at h
 by_cases hl : l0.length < 1099511627776 ∧ l1.length < 1099511627776
 case neg => rw [if_neg hl] at h; cases h
 rw [if_pos hl] at h
 obtain ⟨mm, hmm⟩ : ∃ m : Int, (if (l0.length : Int) < (l1.length : Int) then (l1.length : Int) else (l0.length : Int)) = m := ⟨_, rfl⟩
 have emm : mm.toNat = l0.length + (l1.length - l0.length) := by rw [← hmm]; split <;> omega
 have info3c : (Tryz.prog.info? 3).map (fun i => (i.zero, i.size, i.bytes)) = some (some (.int .i64 0), 1, 8) := by kernel_rfl
 have info3s : (Tryz.prog.info? 3).map (·.size) = some 1 := by kernel_rfl
 obtain ⟨fin, hfin⟩ : ∃ o : List Int, weftref1_natAdd.lp a2 l1 0 (l0 ++ List.replicate (l1.length - l0.length) 0) = o := ⟨_, rfl⟩
 rw [hfin] at h
 have hcarry := fun (v : Value) (W : World) (hB : Below w.heap.size w W) (h0 : Kd.R (Kd.int .i64) 3 W w.heap.size (fun b => w.heap.size ≤ b) v fin) => weftref1_nat_carry.calls k (fun b => w.heap.size ≤ b) v fin r w W hB h0 h
 have HF := Aside0.mk hfin
 clear hfin
 have hmmN : (if l0.length < l1.length then (l1.length : Int) else (l0.length : Int)) = mm := by rw [← hmm]; split <;> split <;> omega
 have P3 := Aside0.mk (show 0 ≤ mm by rw [← hmm]; split <;> omega)
 have P4 := Aside0.mk (show mm.toNat ≤ 35184372088832 by omega)
 have EM := Aside0.mk emm
 have HL := Aside0.mk hl
 have HR0 := Aside0.mk hr0
 have HR1 := Aside0.mk hr1
 have I := Aside0.mk info3c
 have IS := Aside0.mk info3s
 have HB := Aside0.mk (Below.refl w.heap.size w)
 clear hr0 hr1 hc0 hc1 h emm info3c info3s hl
 go_enter Tryz.func119, Tryz.ntmps119
 go_wp2_with (first
  | ((with_reducible refine gate_dst (N := 15) rfl ?_); refine Kd.R_make (Kd.int .i64) _ 3 rfl (N := 15) rfl 65 _ _ rfl mm rfl rfl Tryz.underlying65 (.int .i64 0) 8 I.out rfl (by decide) (by omega) 0 (ok := fun _ => True) (okp := fun _ => True) rfl (fun _ hk => hk) trivial P3.out (Nat.le_trans (Nat.mul_le_mul_right _ P4.out) (by omega)) (Below.refl _ _) (Nat.le_refl _) ?_; intro vo wo hv hb hg_ hnew_; clear hg_ hnew_; have HO := Aside0.mk hv; have HB2 := Aside0.mk (below_step HB.out hb); have HRa := Aside0.mk (Kd.C_below HR0.out hb); have HRb := Aside0.mk (Kd.C_below HR1.out hb); clear hv hb)
  | ((with_reducible refine gate_builtin (b := .copy) (xs := #[.tmp 16, .tmp 17]) rfl ?_); refine Kd.R_copy (0 : Int) w.heap.size rfl (.tmp 16) (.tmp 17) 65 65 3 rfl Tryz.underlying65 IS.out vo _ l0 A0 _ c0 _ rfl rfl HO.out HRa.out HB2.out HB2.out.size ?_; intro wc hv hb hg; have HC := Aside0.mk hv; have HB3 := Aside0.mk hb; have HRc := Aside0.mk hg; clear hv hb hg))
 have e1 : l0.take (min l0.length (List.replicate mm.toNat (0 : Int)).length) ++ (List.replicate mm.toNat (0 : Int)).drop (min l0.length (List.replicate mm.toNat (0 : Int)).length) = l0 ++ List.replicate (l1.length - l0.length) 0 := by
  have := EM.out
  rw [List.length_replicate, Nat.min_eq_left (by omega), List.take_length, List.drop_replicate, show mm.toNat - l0.length = l1.length - l0.length by omega]
 have hC := HC.out
 rw [e1] at hC
 obtain ⟨o1, ho1⟩ : ∃ o : List Int, l0 ++ List.replicate (l1.length - l0.length) 0 = o := ⟨_, rfl⟩
 have hF := HF.out
 rw [ho1] at hC hF
 have ho1l : o1.length = mm.toNat := by have := EM.out; rw [← ho1, List.length_append, List.length_replicate]; omega
 obtain ⟨Ao, co, eo⟩ := Kd.R_slice hC
 subst eo
 have HC2 := Aside0.mk hC
 have HF2 := Aside0.mk hF
 have HO1L := Aside0.mk ho1l
 have HM := Aside0.mk hmm
 clear HC HO hC hF e1 ho1 ho1l HRa HRb HRc HB2 HF hmm hmmN
 go_loopg [21] l1.length (fun kq v21 w' => ∃ (i : Nat) (o : List Int), v21 = .int .i64 (i : Int) ∧ Aside0 (weftref1_natAdd.lp a2 (l1.drop i) i o = fin) ∧ Aside0 (i ≤ l1.length ∧ l1.length - i ≤ kq) ∧ Aside0 (o.length = o1.length) ∧ Aside0 (Kd.R (Kd.int .i64) 3 w' w.heap.size (fun _ => True) (.slice Ao o1.length co) o) ∧ Aside0 (Below w.heap.size w w'))
 case atStart => exact ⟨0, o1, rfl, HF2, ⟨Nat.zero_le _, Nat.le_refl _⟩, ⟨rfl⟩, HC2, HB3⟩
 case round =>
  obtain ⟨i, o, rfl, HF, HI, HOL, HO, HB⟩ := hrel
  clear HF2 HC2 HB3
  by_cases hi : i < l1.length
  ·have hC1 := Kd.C_below HR1.out HB.out
   obtain ⟨ad1, e1, hx1⟩ := Kd.at_int hC1 (i : Int) (by omega) (by omega)
   subst e1
   rw [Int.toNat_natCast] at hx1
   have hio : i < o.length := by have := HOL.out; have := HO1L.out; have := EM.out; omega
   obtain ⟨go, cg, eg, g1, g2, _, _⟩ := Kd.R_form HO.out (by omega)
   injection eg with eA en ec
   subst eA ec
   obtain ⟨hx2, hf2⟩ := Kd.R_celln 0 HO.out (i : Int) (by omega) (by omega)
   rw [Int.toNat_natCast] at hx2 hf2
   replace hx2 : wr.cell? ⟨go, i, none⟩ = some (.int .i64 (rd o (i : Int))) := hx2
   have hlp := HF.out
   rw [List.drop_eq_getElem_cons hi] at hlp
   simp only [weftref1_natAdd.lp] at hlp
   have hrd : l1[i] = rd l1 (i : Int) := by unfold rd; rw [Int.toNat_natCast, List.getD_eq_getElem?_getD, List.getElem?_eq_getElem hi]; rfl
   rw [hrd] at hlp
   obtain ⟨hP, hg⟩ := Kd.R_putg HO.out (i : Int) (wrap64 (rd o (i : Int) + wrap64 (a2 * rd l1 (i : Int))))
   rw [Int.toNat_natCast] at hP hg
   have HP := Aside0.mk hP
   have HLP := Aside0.mk hlp
   have HB4 := Aside0.mk (below_set (j := i) (v := .int .i64 (wrap64 (rd o (i : Int) + wrap64 (a2 * rd l1 (i : Int))))) HB.out g1)
   have hlt : (i < o1.length) = True := eq_true (by have := HOL.out; omega)
   have hltI : ((i : Int) < (o1.length : Int)) = True := eq_true (by have := HOL.out; omega)
   have hbd : (i : Int) ≤ 1099511627776 := by have := HL.out; omega
   clear hC1 hP hg hlp hrd hio en g1 g2
   go_wp2
   go_roundg (l1.length - (i + 1))
   case measure => have := HI.out; omega
   case rel => exact ⟨i + 1, _, by first | rfl | (congr 1; unfold wrap64; omega) | (simp; done), HLP, ⟨by omega, Nat.le_refl _⟩, ⟨by rw [List.length_set]; exact HOL.out⟩, HP, HB4⟩
  ·have hil : l1.length ≤ i := by omega
   have hf := HF.out
   rw [List.drop_eq_nil_of_le hil] at hf
   simp only [weftref1_natAdd.lp] at hf
   subst hf
   clear HF
   have hiI : ((i : Int) < (l1.length : Int)) = False := eq_false (by omega)
   go_wp2_with (go_at_call 150; (with_reducible refine (hcarry _ _ ?s1 ?s2).mono ?_); (case s1 => exact HB.out); (case s2 => exact Kd.R_mono (Kd.R_bound HO.out) (fun _ hk => hk.2.1)); clear hcarry; rintro e w5 ⟨v5, rfl, hv, hb, _⟩; have HV := Aside0.mk hv; have HB5 := Aside0.mk hb; clear hv hb)
   go_ret
   exact ⟨_, rfl, Kd.V_mono HV.out (fun b hb => hb.elim id (fun h => Nat.le_trans HB.out.size h)), HB5.out⟩

end
def weftref1_natCmp.l0 : Nat → List Int → List Int → Int → Option (Int)
 | 0, _, _, _ => none
 | k + 1, x0, x1, x5 => if x5 ≥ 0 then (if 0 ≤ x5 then (if x5 < (x0.length : Int) then (if x5 < (x1.length : Int) then (if (rd x0 x5) = (rd x1 x5) then (weftref1_natCmp.l0 k x0 x1 (wrap64 (x5 - 1))) else (some (wrap64 ((rd x0 x5) - (rd x1 x5))))) else (none)) else (none)) else (none)) else (some 0)
def weftref1_natCmp.f (k : Nat) (l0 : List Int) (l1 : List Int) : Option (Int) := if (l0.length : Int) = (l1.length : Int) then (weftref1_natCmp.l0 k l0 l1 (wrap64 ((l0.length : Int) - 1))) else (some (wrap64 ((l0.length : Int) - (l1.length : Int))))
theorem weftref1_natCmp.mono_l : ∀ k, (∀ y0 y1 y2, LeO (weftref1_natCmp.l0 k y0 y1 y2) (weftref1_natCmp.l0 (k + 1) y0 y1 y2))
 | 0 => fun _ _ _ r h => by simp [weftref1_natCmp.l0] at h
 | k + 1 => by
  have ih0 := weftref1_natCmp.mono_l k
  ·intro y0 y1 y2
   unfold weftref1_natCmp.l0
   exact zM
theorem weftref1_natCmp.mono : ∀ a0 a1 k, LeO (weftref1_natCmp.f k a0 a1) (weftref1_natCmp.f (k + 1) a0 a1) := by
 intro a0 a1 k
 have ih0 := weftref1_natCmp.mono_l k
 unfold weftref1_natCmp.f
 exact zM
set_option maxHeartbeats 8000000 in
set_option maxRecDepth 100000 in
theorem weftref1_natCmp.calls (k : Nat) (A0 : Option Addr) (c0 : Nat) (l0 : List Int) (A1 : Option Addr) (c1 : Nat) (l1 : List Int) (r : Int) (w : World) (hr0 : Kd.C (Kd.int .i64) w A0 l0.length l0) (hc0 : l0.length ≤ c0) (hr1 : Kd.C (Kd.int .i64) w A1 l1.length l1) (hc1 : l1.length ≤ c1) (h : weftref1_natCmp.f k l0 l1 = some r) :
  Calls Tryz.prog 120 #[.slice A0 l0.length c0, .slice A1 l1.length c1] w fun e w' => e = .returned (.int .i64 r) ∧ Drawn0 w w' := by
 have HR0 := Aside0.mk hr0
 have HC0 := Aside0.mk hc0
 clear hr0 hc0
 have HR1 := Aside0.mk hr1
 have HC1 := Aside0.mk hc1
 clear hr1 hc1
 have H : (if (l0.length : Int) = (l1.length : Int) then (weftref1_natCmp.l0 k l0 l1 (wrap64 ((l0.length : Int) - 1))) else (some (wrap64 ((l0.length : Int) - (l1.length : Int))))) = some r := h
 clear h
 by_cases c3 : (l0.length : Int) = (l1.length : Int)
 ·rw [if_pos c3] at H
  have c3b0 : ((l0.length : Int) == (l1.length : Int)) = true := beq_iff_eq.mpr c3
  have c3b1 : ((l0.length : Int) != (l1.length : Int)) = false := bne_eq_false_iff_eq.mpr c3
  have c3b2 : (l0.length == l1.length) = true := by first | simpa using c3 | (simp at c3 ⊢; omega)
  clear c3
  have H' := Aside0.mk H
  clear H
  go_enter Tryz.func120, Tryz.ntmps120
  go_wp2
  repeat (go_quiet (fail); try go_wp2)
  go_loopg [5] k (fun kq v5 w' => ∃ (x5_1 : Int), v5 = .int .i64 x5_1 ∧ Aside0 (weftref1_natCmp.l0 kq l0 l1 x5_1 = some r) ∧ Aside0 (kq ≤ k) ∧ Drawn0 w w')
  case atStart => exact ⟨(wrap64 ((l0.length : Int) - 1)), zs, H', ⟨Nat.le_refl _⟩, by repeat (first | exact Drawn0.refl _ | apply Drawn0.step)⟩
  case round =>
   clear H'
   try clear c1
   try clear p2
   try clear c3
   try clear c3b0
   try clear c3b1
   try clear c3b2
   obtain ⟨x5_1, rfl, HA, HK1, ⟨m1, rfl⟩⟩ := hrel
   cases gk with
   | zero => exact absurd HA.out (by simp [weftref1_natCmp.l0])
   | succ k1 =>
    have H := HA.out
    clear HA
    simp only [weftref1_natCmp.l0] at H
    by_cases c4 : x5_1 ≥ 0
    ·rw [if_pos c4] at H
     have c4b0 : decide (0 ≤ x5_1) = true := decide_eq_true c4
     clear c4
     by_cases c5 : 0 ≤ x5_1
     ·rw [if_pos c5] at H
      have c5b0 : decide (0 ≤ x5_1) = true := decide_eq_true c5
      clear c5
      by_cases c6 : x5_1 < (l0.length : Int)
      ·rw [if_pos c6] at H
       have c6b0 : decide (x5_1 < (l0.length : Int)) = true := decide_eq_true c6
       clear c6
       by_cases c7 : x5_1 < (l1.length : Int)
       ·rw [if_pos c7] at H
        have c7b0 : decide (x5_1 < (l1.length : Int)) = true := decide_eq_true c7
        clear c7
        by_cases c8 : (rd l0 x5_1) = (rd l1 x5_1)
        ·rw [if_pos c8] at H
         have c8b0 : ((rd l0 x5_1) == (rd l1 x5_1)) = true := beq_iff_eq.mpr c8
         have c8b1 : ((rd l0 x5_1) != (rd l1 x5_1)) = false := bne_eq_false_iff_eq.mpr c8
         clear c8
         have H' := Aside0.mk H
         clear H
         have p413 : 0 ≤ (x5_1 : Int) := zd
         have q413 : x5_1 < (l0.length : Int) := zd
         obtain ⟨ad413, e413, hx413_0⟩ := Kd.at_int HR0.out x5_1 p413 q413
         cases e413
         replace p413 := eq_true p413
         replace q413 := eq_true q413
         have p414 : 0 ≤ (x5_1 : Int) := zd
         have q414 : x5_1 < (l1.length : Int) := zd
         obtain ⟨ad414, e414, hx414_0⟩ := Kd.at_int HR1.out x5_1 p414 q414
         cases e414
         replace p414 := eq_true p414
         replace q414 := eq_true q414
         go_wp2
         repeat (go_quiet (fail); try go_wp2)
         go_roundg k1
         case measure => have := HK1.out; omega
         case rel => exact ⟨(wrap64 (x5_1 - 1)), zs, H', ⟨by have := HK1.out; omega⟩, by repeat (first | exact Drawn0.refl _ | apply Drawn0.step)⟩
        ·rw [if_neg c8] at H
         have c8b0 : ((rd l0 x5_1) == (rd l1 x5_1)) = false := beq_eq_false_iff_ne.mpr c8
         have c8b1 : ((rd l0 x5_1) != (rd l1 x5_1)) = true := bne_iff_ne.mpr c8
         obtain rfl := Option.some.inj H
         have p413 : 0 ≤ (x5_1 : Int) := zd
         have q413 : x5_1 < (l0.length : Int) := zd
         obtain ⟨ad413, e413, hx413_0⟩ := Kd.at_int HR0.out x5_1 p413 q413
         cases e413
         replace p413 := eq_true p413
         replace q413 := eq_true q413
         have p414 : 0 ≤ (x5_1 : Int) := zd
         have q414 : x5_1 < (l1.length : Int) := zd
         obtain ⟨ad414, e414, hx414_0⟩ := Kd.at_int HR1.out x5_1 p414 q414
         cases e414
         replace p414 := eq_true p414
         replace q414 := eq_true q414
         have p415 : 0 ≤ (x5_1 : Int) := zd
         have q415 : x5_1 < (l0.length : Int) := zd
         obtain ⟨ad415, e415, hx415_0⟩ := Kd.at_int HR0.out x5_1 p415 q415
         obtain rfl : ad413 = ad415 := (by injection e415)
         replace p415 := eq_true p415
         replace q415 := eq_true q415
         have p416 : 0 ≤ (x5_1 : Int) := zd
         have q416 : x5_1 < (l1.length : Int) := zd
         obtain ⟨ad416, e416, hx416_0⟩ := Kd.at_int HR1.out x5_1 p416 q416
         obtain rfl : ad414 = ad416 := (by injection e416)
         replace p416 := eq_true p416
         replace q416 := eq_true q416
         go_wp2
         repeat (go_quiet (fail); try go_wp2)
         go_ret
         exact ⟨zs, by repeat (first | exact Drawn0.refl _ | apply Drawn0.step)⟩
       ·rw [if_neg c7] at H
        cases H
      ·rw [if_neg c6] at H
       cases H
     ·rw [if_neg c5] at H
      cases H
    ·rw [if_neg c4] at H
     have c4b0 : decide (0 ≤ x5_1) = false := decide_eq_false c4
     clear c4
     obtain rfl := Option.some.inj H
     go_wp2
     repeat (go_quiet (fail); try go_wp2)
     go_ret
     exact ⟨zs, by repeat (first | exact Drawn0.refl _ | apply Drawn0.step)⟩
 ·rw [if_neg c3] at H
  have c3b0 : ((l0.length : Int) == (l1.length : Int)) = false := beq_eq_false_iff_ne.mpr c3
  have c3b1 : ((l0.length : Int) != (l1.length : Int)) = true := bne_iff_ne.mpr c3
  have c3b2 : (l0.length == l1.length) = false := by first | simpa using c3 | (simp at c3 ⊢; omega)
  obtain rfl := Option.some.inj H
  go_enter Tryz.func120, Tryz.ntmps120
  go_wp2
  repeat (go_quiet (fail); try go_wp2)
  go_ret
  exact ⟨zs, by repeat (first | exact Drawn0.refl _ | apply Drawn0.step)⟩

section
def weftref1_nat_int.f (l0 : List Int) : Option (List Int) := if l0.length < 17592186044416 then some l0 else none
set_option maxHeartbeats 8000000 in
set_option maxRecDepth 100000 in
theorem weftref1_nat_int.calls (A0 : Option Addr) (c0 : Nat) (l0 : List Int) (r : List Int) (w : World) (hr0 : Kd.C (Kd.int .i64) w A0 l0.length l0) (hc0 : l0.length ≤ c0) (h : weftref1_nat_int.f l0 = some r) :
  Calls Tryz.prog 160 #[.slice A0 l0.length c0] w fun e w' => ∃ v0_ : Value, e = .returned (v0_) ∧ Kd.R (Kd.int .i64) 3 w' w.heap.size (fun _ => True) v0_ r ∧ Below w.heap.size w w' := by
 unfold weftref1_nat_int.f at h
 by_cases c2 : l0.length < 17592186044416
 case neg => rw [if_neg c2] at h; cases h
 rw [if_pos c2] at h
 obtain rfl := Option.some.inj h
 clear h
 cases A0 with
 | none =>
  have hz : l0 = [] := by
   rcases Nat.eq_zero_or_pos l0.length with h0 | h0
   ·exact List.eq_nil_of_length_eq_zero h0
   ·obtain ⟨ad, e, _⟩ := hr0.2.2 h0; cases e
  subst hz
  have hnil := fun (W : World) => Lib.run_eql_slice_nil (P := Tryz.prog) W 65 3 none 0 c0 0 0 Tryz.underlying65
  clear hr0 hc0 c2
  go_enter Tryz.func160, Tryz.ntmps160
  go_wp2
  go_ret
  exact ⟨_, rfl, Kd.R_nil _ _ _ _ _, Below.refl _ _⟩
 | some ad =>
  have HR0 := Aside0.mk hr0
  clear hr0 hc0
  have hnil := fun (W : World) (n : Nat) => Lib.run_eql_slice_nil (P := Tryz.prog) W 65 3 (some ad) n c0 0 0 Tryz.underlying65
  have HB := Aside0.mk (Below.refl w.heap.size w)
  have LMc2 := Aside0.mk c2
  clear c2
  have info97c : (Tryz.prog.info? 3).map (fun i => (i.zero, i.size, i.bytes)) = some (some (.int .i64 0), 1, 8) := by kernel_rfl
  have I := Aside0.mk info97c
  clear info97c
  go_enter Tryz.func160, Tryz.ntmps160
  go_wp2_with (first | ((with_reducible refine gate_dst (N := 5) rfl ?_); refine Kd.R_lit (Kd.int .i64) _ 3 ?hg (N := 5) ?hd (xs := ([] : List Int)) (inner := []) (ok := fun _ => True) (okp := fun _ => True) ?hr ?hp (fun _ hk => hk) trivial (Below.refl _ _) (Nat.le_refl _) (by simp) ?_; (case hd => rfl); (case hg => rfl); (case hr => first | (go_simp; done) | (go_simp; rfl)); (case hp => exact (Reps.none _ _)); intro v102 w3 ho4 hb hg_ hnew_; clear hg_ hnew_; have HO103 := Aside0.mk (Kd.R_lower ho4 bs); replace HB := sB hb; clear hb ho4) | ((with_reducible refine gate_builtin (b := .append) (xs := #[.tmp 5, .tmp 6]) rfl ?_); at_builtin; refine Kd.R_append_rows (Kd.int .i64) (w0 := w) w.heap.size rfl (.tmp 5) (.tmp 6) 65 3 (.int .i64 0) 8 rfl Tryz.underlying65 I.out rfl (by decide) (by omega) v102 ([] : List Int) l0 _ _ _ (fun _ => True) (fun _ => False) rfl rfl ?aO ?aR (fun _ _ h => h) (fun _ h => h.elim) ?aF ?aB ?aS ?aL ?_; (case aR => exact zC (Kd.C_below HR0.out HB.out)); (case aB => exact bw); (case aF => exact (fun _ _ => trivial)); (case aO => exact (zR HO103)); (case aS => exact bs); (case aL => have := LMc2.out; simp; omega); intro v105 w5 ho hb hg hat; rw [List.nil_append] at ho; replace HB := Aside0.mk (hb); have HO106 := Aside0.mk (ho); clear HO103; clear ho hb hg hat))
  go_ret
  exact ⟨_, rfl, zR HO106, bw⟩

end
end Go.Proofs.YtaffkbemjbfajaaGreatDoor.PNumForms
