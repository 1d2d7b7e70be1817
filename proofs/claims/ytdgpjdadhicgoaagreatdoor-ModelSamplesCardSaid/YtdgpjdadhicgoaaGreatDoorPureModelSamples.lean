/-
  ModelSamples, the plain law: the printed program function answers true for every input of the row's size. No condition beyond the input's size.
-/
import Derived.Test.YtdgpjdadhicgoaaGreatDoorPModelSamplesx2
set_option linter.unusedVariables false
set_option linter.unusedSimpArgs false
namespace Go.Proofs.YtdgpjdadhicgoaaGreatDoor.Pure
open Go.RowKit Go.Proofs.YtdgpjdadhicgoaaGreatDoor.PModelSamples Go.Proofs.YtdgpjdadhicgoaaGreatDoorW.PrintWords Go.Proofs.YtdgpjdadhicgoaaGreatDoorW.PrintLast
def good (x : Int) : Prop := 0 ≤ x ∧ x ≤ 1000000
theorem w64 (x : Int) (h : -4611686018427387904 ≤ x) (h' : x ≤ 4611686018427387904) : wrap64 x = x := by unfold wrap64; omega
theorem rd_at (pre : List Int) (y : Int) (ys : List Int) : rd (pre ++ y :: ys) (pre.length : Int) = y := by
  unfold rd
  rw [Int.toNat_natCast]; simp
theorem sum_good : ∀ {ys : List Int}, (∀ x ∈ ys, good x) → 0 ≤ ys.sum ∧ ys.sum ≤ 1000000 * (ys.length : Int)
  | [], _ => by simp
  | y :: ys, h => by
    have h1 := h y (by simp)
    have h2 := sum_good (ys := ys) fun x hx => h x (List.mem_cons_of_mem y hx)
    unfold good at h1
    simp only [List.sum_cons, List.length_cons]
    omega
theorem len_cons (pre : List Int) (y : Int) (ys : List Int) : ((pre ++ y :: ys).length : Int) = (pre.length : Int) + 1 + (ys.length : Int) := by simp; omega
theorem snoc (pre : List Int) (y : Int) (ys : List Int) : pre ++ y :: ys = (pre ++ [y]) ++ ys := by simp
theorem snoc_len (pre : List Int) (y : Int) : ((pre ++ [y]).length : Int) = (pre.length : Int) + 1 := by simp
theorem samp_sum (x0 : List Int) (x1 : Int) : ∀ (ys pre : List Int) (s : Int) (j : Nat), (∀ x ∈ ys, good x) → 0 ≤ s → s + 1000000 * (ys.length : Int) ≤ 1099511627776 → (pre ++ ys).length ≤ 1099511627776 →
    models_sample.l0 (ys.length + 1 + j) x0 x1 s (pre ++ ys) ((pre ++ ys).length : Int) (pre.length : Int) = models_sample.l1 j x0 ((wrap64 (x1 * (s + ys.sum))) / 4294967296) 0
  | [], pre, s, j, _, _, _, _ => by
    rw [show ([] : List Int).length + 1 + j = j + 1 by simp; omega]
    simp [models_sample.l0]
  | y :: ys, pre, s, j, h, h0, h1, h2 => by
    have g := h y (by simp)
    have hl := len_cons pre y ys
    rw [show (y :: ys).length + 1 + j = (ys.length + 1 + j) + 1 by simp; omega]
    unfold models_sample.l0
    unfold good at g
    simp only [List.length_cons] at h1
    have h2' : ((pre ++ y :: ys).length : Int) ≤ 1099511627776 := by omega
    rw [if_pos (by omega), if_pos (by omega), if_pos (by omega), rd_at, w64 _ (by omega) (by omega), w64 _ (by omega) (by omega), snoc, ← snoc_len pre y]
    rw [samp_sum x0 x1 ys (pre ++ [y]) (s + y) j (fun x hx => h x (by simp [hx])) (by omega) (by omega) (by rw [← snoc]; exact h2)]
    simp [Int.add_assoc]
theorem ref_sum (x0 : List Int) (x1 : Int) : ∀ (ys pre : List Int) (s : Int) (j : Nat), (∀ x ∈ ys, good x) → 0 ≤ s → s + 1000000 * (ys.length : Int) ≤ 1099511627776 → (pre ++ ys).length ≤ 1099511627776 →
    weftref1_Sampled.l0 (ys.length + 1 + j) x0 x1 s (pre ++ ys) ((pre ++ ys).length : Int) (pre.length : Int) = weftref1_Sampled.l1 j ((wrap64 (x1 * (s + ys.sum))) / 4294967296) x0 (x0.length : Int) 0
  | [], pre, s, j, _, _, _, _ => by
    rw [show ([] : List Int).length + 1 + j = j + 1 by simp; omega]
    simp [weftref1_Sampled.l0]
  | y :: ys, pre, s, j, h, h0, h1, h2 => by
    have g := h y (by simp)
    have hl := len_cons pre y ys
    rw [show (y :: ys).length + 1 + j = (ys.length + 1 + j) + 1 by simp; omega]
    unfold weftref1_Sampled.l0
    unfold good at g
    simp only [List.length_cons] at h1
    have h2' : ((pre ++ y :: ys).length : Int) ≤ 1099511627776 := by omega
    rw [if_pos (by omega), if_pos (by omega), if_pos (by omega), rd_at, w64 _ (by omega) (by omega), w64 _ (by omega) (by omega), snoc, ← snoc_len pre y]
    rw [ref_sum x0 x1 ys (pre ++ [y]) (s + y) j (fun x hx => h x (by simp [hx])) (by omega) (by omega) (by rw [← snoc]; exact h2)]
    simp [Int.add_assoc]
theorem walk_eq : ∀ (ys pre : List Int) (at_ : Int) (j j' : Nat), (∀ x ∈ ys, good x) → 0 ≤ at_ → at_ < ys.sum → (pre ++ ys).length ≤ 1024 →
    ∃ r, models_sample.l1 (ys.length + j) (pre ++ ys) at_ (pre.length : Int) = some r ∧ weftref1_Sampled.l1 (ys.length + j') at_ (pre ++ ys) ((pre ++ ys).length : Int) (pre.length : Int) = some r
  | [], pre, a, j, j', _, h0, h1, _ => by simp at h1; omega
  | y :: ys, pre, a, j, j', h, h0, h1, h2 => by
    have g := h y (by simp)
    have hl := len_cons pre y ys
    have sg := sum_good fun x hx => h x (List.mem_cons_of_mem y hx)
    rw [show (y :: ys).length + j = (ys.length + j) + 1 by simp; omega, show (y :: ys).length + j' = (ys.length + j') + 1 by simp; omega]
    unfold models_sample.l1 weftref1_Sampled.l1
    unfold good at g
    simp only [List.sum_cons] at h1
    have h2' : ((pre ++ y :: ys).length : Int) ≤ 1024 := by omega
    have q1 : (0 : Int) ≤ (pre.length : Int) := by omega
    have q2 : (pre.length : Int) < ((pre ++ y :: ys).length : Int) := by omega
    simp only [if_pos q1, if_pos q2, rd_at]
    by_cases c : a ≥ y
    · rw [if_pos c, if_neg (by omega), w64 _ (by omega) (by omega), w64 _ (by omega) (by omega), snoc, ← snoc_len pre y]
      exact walk_eq ys (pre ++ [y]) (a - y) j j' (fun x hx => h x (by simp [hx])) (by omega) (by omega) (by rw [← snoc]; exact h2)
    · rw [if_neg c, if_pos (by omega)]
      exact ⟨_, rfl, rfl⟩
theorem fault_eq (x1 : Int) : ∀ (ys pre : List Int) (s : Int) (j : Nat), 0 ≤ s → s + 1000000 * (ys.length : Int) ≤ 1099511627776 → (pre ++ ys).length ≤ 1099511627776 →
    ((∀ x ∈ ys, good x) → weftlaw1_sampleFault.l0 (ys.length + 1 + j) x1 s (pre ++ ys) ((pre ++ ys).length : Int) (pre.length : Int) = (if s + ys.sum = 0 then (some 23) else (if x1 < 0 then (some 1) else (if x1 ≥ 4294967296 then (some 1) else (some 0))))) ∧
    ((¬ ∀ x ∈ ys, good x) → weftlaw1_sampleFault.l0 (ys.length + 1 + j) x1 s (pre ++ ys) ((pre ++ ys).length : Int) (pre.length : Int) = some 9)
  | [], pre, s, j, _, _, _ => by
    rw [show ([] : List Int).length + 1 + j = j + 1 by simp; omega]
    refine ⟨fun _ => ?_, fun c => absurd (fun x hx => by cases hx) c⟩
    simp [weftlaw1_sampleFault.l0]
  | y :: ys, pre, s, j, h0, h1, h2 => by
    have hl := len_cons pre y ys
    rw [show (y :: ys).length + 1 + j = (ys.length + 1 + j) + 1 by simp; omega]
    unfold weftlaw1_sampleFault.l0
    simp only [List.length_cons] at h1
    have h2' : ((pre ++ y :: ys).length : Int) ≤ 1099511627776 := by omega
    rw [if_pos (by omega), if_pos (by omega), if_pos (by omega), rd_at]
    by_cases g : good y
    · have g' := g
      unfold good at g'
      rw [if_neg (by omega), if_neg (by omega), w64 _ (by omega) (by omega), w64 _ (by omega) (by omega), snoc, ← snoc_len pre y]
      obtain ⟨i1, i2⟩ := fault_eq x1 ys (pre ++ [y]) (s + y) j (by omega) (by omega) (by rw [← snoc]; exact h2)
      refine ⟨fun h => ?_, fun c => i2 fun h => c fun x hx => ?_⟩
      · rw [i1 fun x hx => h x (by simp [hx]), List.sum_cons, Int.add_assoc]
      · rcases List.mem_cons.1 hx with rfl | hx
        · exact g
        · exact h x hx
    · refine ⟨fun h => absurd (h y (by simp)) g, fun _ => ?_⟩
      by_cases c : y < 0
      · rw [if_pos c]
      · rw [if_neg c, if_pos (by unfold good at g; omega)]
theorem all_good (l : List Int) (h : l.length < 35184372088832) (g : ∀ x ∈ l, good x) : models_all.f l 0 1000000 = some true := by
  unfold models_all.f
  rw [if_pos h]
  congr 1
  simp only [List.all_eq_true, models_all.p, Bool.and_eq_true, decide_eq_true_eq]
  exact g
theorem all_bad (l : List Int) (h : l.length < 35184372088832) (g : ¬ ∀ x ∈ l, good x) : models_all.f l 0 1000000 = some false := by
  unfold models_all.f
  rw [if_pos h]
  congr 1
  rw [Bool.eq_false_iff]
  intro c
  simp only [List.all_eq_true, models_all.p, Bool.and_eq_true, decide_eq_true_eq] at c
  exact g c
theorem all_zero (l : List Int) (h : l.length < 35184372088832) (g : ∀ x ∈ l, good x) : models_all.f l 0 0 = some (decide (l.sum = 0)) := by
  unfold models_all.f
  rw [if_pos h]
  congr 1
  rw [Bool.eq_iff_iff]
  simp only [List.all_eq_true, models_all.p, Bool.and_eq_true, decide_eq_true_eq]
  clear h
  induction l with
  | nil => simp
  | cons y ys ih =>
    have gy := g y (by simp)
    have sg := sum_good fun x hx => g x (List.mem_cons_of_mem y hx)
    have ih := ih fun x hx => g x (List.mem_cons_of_mem y hx)
    unfold good at gy
    rw [List.sum_cons]
    constructor
    · intro h
      have h1 := h y (by simp)
      have h2 := ih.1 fun x hx => h x (List.mem_cons_of_mem y hx)
      omega
    · intro h x hx
      rcases List.mem_cons.1 hx with rfl | hx
      · omega
      · exact ih.2 (by omega) x hx
theorem draw_ok (a : Int) : models_drawOK.f a = some (decide (0 ≤ a ∧ a ≤ 4294967295)) := by
  unfold models_drawOK.f models_within.f
  by_cases c : a ≥ 0
  · rw [if_pos c]; simp [c]
  · rw [if_neg c]; simp; omega
theorem pure_samples : weftlaw1_ModelSamples.Pure := by
  intro l a _ hsz _ _
  have hlen : l.length < 35184372088832 := by omega
  refine ⟨3000, ?_⟩
  unfold weftlaw1_ModelSamples.f models_Sample.f weftlaw1_sampleFault.f weftlaw1_works.f
  by_cases c0 : (l.length : Int) = 0
  · simp [c0]
  by_cases c1 : (l.length : Int) > 1024
  · rw [if_neg c0, if_pos c1, if_neg c0, if_pos c1]; simp
  rw [if_neg c0, if_neg c1, if_neg c0, if_neg c1]
  have hf := fault_eq a l [] 0 (3000 - (l.length + 1)) (by omega) (by omega) (by simp; omega)
  rw [show l.length + 1 + (3000 - (l.length + 1)) = 3000 by omega] at hf
  simp only [List.nil_append, List.length_nil, Int.natCast_zero, Int.zero_add] at hf
  by_cases g : ∀ x ∈ l, good x
  · rw [all_good l hlen g, hf.1 g, all_zero l hlen g, draw_ok]
    have sg := sum_good g
    by_cases z : l.sum = 0
    · simp [z]
    · by_cases d : 0 ≤ a ∧ a ≤ 4294967295
      · have hp : 0 < l.sum := by omega
        have hs : l.sum ≤ 1024000000 := by omega
        have hm0 : 0 ≤ a * l.sum := Int.mul_nonneg d.1 (by omega)
        have hm1 : a * l.sum ≤ 4294967295 * l.sum := Int.mul_le_mul_of_nonneg_right d.2 (by omega)
        have hw : wrap64 (a * l.sum) = a * l.sum := w64 _ (by omega) (by omega)
        obtain ⟨r, hr1, hr2⟩ := walk_eq l [] (a * l.sum / 4294967296) (3000 - (l.length + 1) - l.length) (3000 - (l.length + 1) - l.length) g (by omega) (by omega) (by simp; omega)
        have e1 := samp_sum l a l [] 0 (3000 - (l.length + 1)) g (by omega) (by omega) (by simp; omega)
        have e2 := ref_sum l a l [] 0 (3000 - (l.length + 1)) g (by omega) (by omega) (by simp; omega)
        rw [show l.length + 1 + (3000 - (l.length + 1)) = 3000 by omega] at e1 e2
        rw [show l.length + (3000 - (l.length + 1) - l.length) = 3000 - (l.length + 1) by omega] at hr1 hr2
        simp only [List.nil_append, List.length_nil, Int.natCast_zero, Int.zero_add] at e1 e2 hr1 hr2
        rw [hw] at e1 e2
        rw [hr1] at e1
        rw [hr2] at e2
        have f1 : models_sample.f 3000 l a = some r := e1
        have f2 : weftref1_Sampled.f 3000 l a = some r := e2
        rw [if_neg z, if_neg (by omega), if_neg (by omega), f1, f2]
        simp [z, d]
      · by_cases da : a < 0
        · have : ¬ 0 ≤ a := by omega
          simp [z, da, this]
        · have : ¬ a ≤ 4294967295 := by omega
          simp [z, da, this, show a ≥ 4294967296 by omega]
  · rw [all_bad l hlen g, hf.2 g]
    simp
theorem ModelSamples : weftlaw1_ModelSamples.Pure := pure_samples
end Go.Proofs.YtdgpjdadhicgoaaGreatDoor.Pure
