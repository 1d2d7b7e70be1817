/-
  The pure statement of NumCodes: for all bytes Code is as specified, and differs if up to 4 neighbouring bytes are changed. No condition. No condition.
-/
import Derived.Test.YtaffkbemjbfajaaGreatDoorPNumCodesx8
import Derived.Test.YtaffkbemjbfajaaGreatDoorNum
namespace Go.Proofs.YtaffkbemjbfajaaGreatDoor.Pure
open Go.RowKit Go.Proofs.YtaffkbemjbfajaaGreatDoor.PNumCodes Go.Proofs.YtaffkbemjbfajaaGreatDoor.Num Go.Proofs.YtaffkbemjbfajaaGreatDoorW.PrintWords Go.Proofs.YtaffkbemjbfajaaGreatDoorW.PrintLast

set_option maxRecDepth 100000 in
theorem nums_true : weftlaw1_nums.f 40 = some true := by decide +kernel
theorem nums_up : ∀ d, weftlaw1_nums.f (40 + d) = some true
  | 0 => nums_true
  | d + 1 => weftlaw1_nums.mono (40 + d) _ (nums_up d)
theorem nums_at (k : Nat) (h : 40 ≤ k) : weftlaw1_nums.f k = some true := by
  obtain ⟨d, rfl⟩ : ∃ d, k = 40 + d := ⟨k - 40, by omega⟩
  exact nums_up d

namespace Crc
def P : Nat := 3988292384
def bstep (r : Nat) : Nat := if r % 2 = 1 then r / 2 ^^^ P else r / 2
def step8 (r : Nat) : Nat := bstep (bstep (bstep (bstep (bstep (bstep (bstep (bstep r)))))))
theorem step_lt {r : Nat} (h : r < 2 ^ 32) : bstep r < 2 ^ 32 := by
  unfold bstep
  split
  · exact Nat.xor_lt_two_pow (by omega) (by decide)
  · omega
theorem step_lin (a b : Nat) : bstep (a ^^^ b) = bstep a ^^^ bstep b := by
  have hd : (a ^^^ b) / 2 = a / 2 ^^^ b / 2 := by
    apply Nat.eq_of_testBit_eq; intro i
    simp [Nat.testBit_div_two, Nat.testBit_xor]
  have hm : (a ^^^ b) % 2 = (a + b) % 2 := by
    have h := Nat.testBit_xor a b 0
    simp only [Nat.testBit_zero] at h
    generalize a ^^^ b = z at h ⊢
    rcases Nat.mod_two_eq_zero_or_one a with ha | ha <;> rcases Nat.mod_two_eq_zero_or_one b with hb | hb <;> rcases Nat.mod_two_eq_zero_or_one z with hz | hz <;> simp [ha, hb, hz] at h <;> omega
  unfold bstep
  rw [hd, hm]
  by_cases ha : a % 2 = 1 <;> by_cases hb : b % 2 = 1
  · rw [if_pos ha, if_pos hb, if_neg (by omega)]
    apply Nat.eq_of_testBit_eq; intro i
    simp only [Nat.testBit_xor]
    cases (a / 2).testBit i <;> cases (b / 2).testBit i <;> cases P.testBit i <;> rfl
  · rw [if_pos ha, if_neg hb, if_pos (by omega)]
    apply Nat.eq_of_testBit_eq; intro i
    simp only [Nat.testBit_xor]
    cases (a / 2).testBit i <;> cases (b / 2).testBit i <;> cases P.testBit i <;> rfl
  · rw [if_neg ha, if_pos hb, if_pos (by omega)]
    apply Nat.eq_of_testBit_eq; intro i
    simp only [Nat.testBit_xor]
    cases (a / 2).testBit i <;> cases (b / 2).testBit i <;> cases P.testBit i <;> rfl
  · rw [if_neg ha, if_neg hb, if_neg (by omega)]
theorem step8_lin (a b : Nat) : step8 (a ^^^ b) = step8 a ^^^ step8 b := by
  simp only [step8, step_lin]
theorem step8_lt {r : Nat} (h : r < 2 ^ 32) : step8 r < 2 ^ 32 := by
  unfold step8
  repeat (first | exact h | refine step_lt ?_)
theorem step_back {e : Nat} (he : e < 2 ^ 32) (h : bstep e < 2 ^ 31) : e = 2 * bstep e := by
  unfold bstep at h ⊢
  by_cases ho : e % 2 = 1
  · rw [if_pos ho] at h
    exfalso
    have h1 : (e / 2 ^^^ P).testBit 31 = false := Nat.testBit_lt_two_pow h
    rw [Nat.testBit_xor, Nat.testBit_lt_two_pow (show e / 2 < 2 ^ 31 by omega)] at h1
    exact absurd h1 (by decide)
  · rw [if_neg ho]; omega
theorem step8_back {e : Nat} (he : e < 2 ^ 32) (h : step8 e < 2 ^ 24) : e = 256 * step8 e := by
  unfold step8 at h ⊢
  have l1 := step_lt he
  have l2 := step_lt l1
  have l3 := step_lt l2
  have l4 := step_lt l3
  have l5 := step_lt l4
  have l6 := step_lt l5
  have l7 := step_lt l6
  have b8 := step_back l7 (by omega)
  have b7 := step_back l6 (by omega)
  have b6 := step_back l5 (by omega)
  have b5 := step_back l4 (by omega)
  have b4 := step_back l3 (by omega)
  have b3 := step_back l2 (by omega)
  have b2 := step_back l1 (by omega)
  have b1 := step_back he (by omega)
  omega
theorem step8_zero {e : Nat} (he : e < 2 ^ 32) (h : step8 e = 0) : e = 0 := by
  have := step8_back he (by omega)
  omega
theorem s8_0 : step8 0 = 0 := by decide
def crc (r : Nat) (l : List Nat) : Nat := l.foldl (fun r x => step8 (r ^^^ x)) r
theorem crc_lt (l : List Nat) (hl : ∀ x ∈ l, x < 256) : ∀ r, r < 2 ^ 32 → crc r l < 2 ^ 32 := by
  induction l with
  | nil => intro r hr; exact hr
  | cons x l ih =>
    intro r hr
    exact ih (fun y hy => hl y (List.mem_cons_of_mem _ hy)) _ (step8_lt (Nat.xor_lt_two_pow hr (by have := hl x (List.mem_cons_self ..); omega)))
theorem crc_lin : ∀ (l m : List Nat), l.length = m.length → ∀ r s, crc r l ^^^ crc s m = crc (r ^^^ s) (List.zipWith (· ^^^ ·) l m)
  | [], [], _, r, s => rfl
  | x :: l, y :: m, h, r, s => by
    have ih := crc_lin l m (by simpa using h) (step8 (r ^^^ x)) (step8 (s ^^^ y))
    show crc (step8 (r ^^^ x)) l ^^^ crc (step8 (s ^^^ y)) m = crc (step8 ((r ^^^ s) ^^^ (x ^^^ y))) (List.zipWith (· ^^^ ·) l m)
    rw [ih, ← step8_lin]
    congr 2
    apply Nat.eq_of_testBit_eq; intro i
    simp only [Nat.testBit_xor]
    cases r.testBit i <;> cases s.testBit i <;> cases x.testBit i <;> cases y.testBit i <;> rfl
  | [], _ :: _, h, _, _ => by simp at h
  | _ :: _, [], h, _, _ => by simp at h
theorem crc_append (r : Nat) (l m : List Nat) : crc r (l ++ m) = crc (crc r l) m := List.foldl_append
theorem crc_zeros (n : Nat) : crc 0 (List.replicate n 0) = 0 := by
  induction n with
  | zero => rfl
  | succ n ih => rw [List.replicate_succ]; show crc (step8 (0 ^^^ 0)) _ = 0; rw [show step8 (0 ^^^ 0) = 0 by decide]; exact ih
theorem crc_zeros_inj (n : Nat) : ∀ r, r < 2 ^ 32 → crc r (List.replicate n 0) = 0 → r = 0 := by
  induction n with
  | zero => intro r _ h; exact h
  | succ n ih =>
    intro r hr h
    rw [List.replicate_succ] at h
    have h' : crc (step8 (r ^^^ 0)) (List.replicate n 0) = 0 := h
    rw [Nat.xor_zero] at h'
    exact step8_zero hr (ih _ (step8_lt hr) h')
theorem xor_back {a d e : Nat} (h : a ^^^ d = e) : a = e ^^^ d := by
  rw [← h, Nat.xor_assoc, Nat.xor_self, Nat.xor_zero]
theorem crc_four : ∀ (l : List Nat), l.length ≤ 4 → (∀ x ∈ l, x < 256) → crc 0 l = 0 → ∀ x ∈ l, x = 0 := by
  intro l hl hb h
  -- fill up to four by zeros at the end
  have key : ∀ a b c d : Nat, a < 256 → b < 256 → c < 256 → d < 256 → crc 0 [a, b, c, d] = 0 → a = 0 ∧ b = 0 ∧ c = 0 ∧ d = 0 := by
    intro a b c d ha hb hc hd h
    have h0 : step8 (step8 (step8 (step8 (0 ^^^ a) ^^^ b) ^^^ c) ^^^ d) = 0 := h
    rw [Nat.zero_xor] at h0
    have l1 : step8 a < 2 ^ 32 := step8_lt (by omega)
    have x1 : step8 a ^^^ b < 2 ^ 32 := Nat.xor_lt_two_pow l1 (by omega)
    have l2 := step8_lt x1
    have x2 : step8 (step8 a ^^^ b) ^^^ c < 2 ^ 32 := Nat.xor_lt_two_pow l2 (by omega)
    have l3 := step8_lt x2
    have x3 : step8 (step8 (step8 a ^^^ b) ^^^ c) ^^^ d < 2 ^ 32 := Nat.xor_lt_two_pow l3 (by omega)
    have e3 := step8_zero x3 h0
    have D3 := xor_back e3
    rw [Nat.zero_xor] at D3
    have e2 := step8_back x2 (by omega)
    have D2 := xor_back e2
    have D2l : step8 (step8 a ^^^ b) < 2 ^ 16 := by rw [D2, D3]; exact Nat.xor_lt_two_pow (by omega) (by omega)
    have e1 := step8_back x1 (by omega)
    have D1 := xor_back e1
    have D1l : step8 a < 2 ^ 24 := by rw [D1]; exact Nat.xor_lt_two_pow (by omega) (by omega)
    have e0 := step8_back (show a < 2 ^ 32 by omega) D1l
    have a0 : a = 0 := by omega
    have D10 : step8 a = 0 := by omega
    rw [D10] at e1
    rw [Nat.zero_xor] at e1
    rw [D10, Nat.zero_xor] at D2 D3 e2 D2l
    have b0 : b = 0 := by omega
    subst b0
    rw [s8_0, Nat.zero_xor] at e2 D3
    have c0 : c = 0 := by omega
    subst c0
    exact ⟨a0, rfl, rfl, by rw [← D3]; decide⟩
  have pad : ∀ n, crc 0 (l ++ List.replicate n 0) = 0 := by
    intro n; rw [crc_append, h, crc_zeros]
  match l, hl, hb, pad with
  | [], _, _, _ => intro x hx; cases hx
  | [a], _, hb, pad =>
    obtain ⟨ha, _⟩ := key a 0 0 0 (hb a (by simp)) (by omega) (by omega) (by omega) (pad 3)
    simp [ha]
  | [a, b], _, hb, pad =>
    obtain ⟨ha, hb', _⟩ := key a b 0 0 (hb a (by simp)) (hb b (by simp)) (by omega) (by omega) (pad 2)
    simp [ha, hb']
  | [a, b, c], _, hb, pad =>
    obtain ⟨ha, hb', hc, _⟩ := key a b c 0 (hb a (by simp)) (hb b (by simp)) (hb c (by simp)) (by omega) (pad 1)
    simp [ha, hb', hc]
  | [a, b, c, d], _, hb, pad =>
    obtain ⟨ha, hb', hc, hd⟩ := key a b c d (hb a (by simp)) (hb b (by simp)) (hb c (by simp)) (hb d (by simp)) (pad 0)
    simp [ha, hb', hc, hd]
  | _ :: _ :: _ :: _ :: _ :: _, hl, _, _ => simp at hl
/-- Two byte lists of one length that agree outside of four neighbouring places and have the same code are equal. -/
theorem crc_window (i : Nat) (l m : List Nat) (hlen : l.length = m.length) (hl : ∀ x ∈ l, x < 256) (hm : ∀ x ∈ m, x < 256)
    (out : ∀ j (h : j < l.length), (j < i ∨ i + 4 ≤ j) → l[j] = m[j]) (r : Nat) (h : crc r l = crc r m) : l = m := by
  have lin := crc_lin l m hlen r r
  rw [h, Nat.xor_self, Nat.xor_self] at lin
  -- the differences
  generalize hd : List.zipWith (· ^^^ ·) l m = d at lin
  have dlen : d.length = l.length := by rw [← hd, List.length_zipWith, ← hlen, Nat.min_self]
  have dget : ∀ j (h1 : j < d.length), d[j] = l[j]'(by omega) ^^^ m[j]'(by omega) := by
    intro j h1; subst hd; exact List.getElem_zipWith
  have dz : ∀ j (h1 : j < d.length), (j < i ∨ i + 4 ≤ j) → d[j] = 0 := by
    intro j h1 hj; rw [dget j h1, out j (by omega) hj, Nat.xor_self]
  have dlt : ∀ x ∈ d, x < 256 := by
    intro x hx
    obtain ⟨j, hj, rfl⟩ := List.getElem_of_mem hx
    rw [dget j hj]
    exact Nat.xor_lt_two_pow (n := 8) (hl _ (List.getElem_mem _)) (hm _ (List.getElem_mem _))
  have e1 : d.take i = List.replicate (d.take i).length 0 := by
    apply List.eq_replicate_of_mem
    intro x hx
    obtain ⟨j, hj, rfl⟩ := List.getElem_of_mem hx
    rw [List.getElem_take]
    exact dz _ _ (Or.inl (by have := hj; rw [List.length_take] at this; omega))
  have e3 : d.drop (i + 4) = List.replicate (d.drop (i + 4)).length 0 := by
    apply List.eq_replicate_of_mem
    intro x hx
    obtain ⟨j, hj, rfl⟩ := List.getElem_of_mem hx
    rw [List.getElem_drop]
    exact dz _ _ (Or.inr (by omega))
  have e2 : d = d.take i ++ ((d.drop i).take 4 ++ d.drop (i + 4)) := by
    rw [← List.drop_drop, List.take_append_drop, List.take_append_drop]
  have wl : ((d.drop i).take 4).length ≤ 4 := by rw [List.length_take]; omega
  have wb : ∀ x ∈ (d.drop i).take 4, x < 256 := fun x hx => dlt x (List.mem_of_mem_drop (List.mem_of_mem_take hx))
  have allz : ∀ x ∈ d, x = 0 := by
    have e := lin
    rw [e2, crc_append, e1, crc_zeros, crc_append, e3] at e
    have hz := crc_zeros_inj _ _ (crc_lt _ wb 0 (by omega)) e.symm
    have w0 := crc_four _ wl wb hz
    intro x hx
    rw [e2] at hx
    rcases List.mem_append.mp hx with hx | hx
    · rw [e1] at hx; exact (List.mem_replicate.mp hx).2
    · rcases List.mem_append.mp hx with hx | hx
      · exact w0 x hx
      · rw [e3] at hx; exact (List.mem_replicate.mp hx).2
  apply List.ext_getElem hlen
  intro j h1 h2
  have := allz d[j] (List.getElem_mem (by omega))
  rw [dget j (by omega)] at this
  have := xor_back this
  rw [this, Nat.zero_xor]
end Crc
open Crc

def ints (ns : List Nat) : List Int := ns.map fun (n : Nat) => (n : Int)
theorem ints_len (ns : List Nat) : (ints ns).length = ns.length := List.length_map _
theorem rd_ints (ns : List Nat) (i : Nat) (h : i < ns.length) : rd (ints ns) (i : Int) = (ns[i] : Int) := by
  show (ints ns).getD (i : Int).toNat 0 = _
  rw [Int.toNat_natCast, List.getD_eq_getElem?_getD, List.getElem?_eq_getElem (by rw [ints_len]; exact h), Option.getD_some]
  simp [ints]
theorem half (r : Nat) : (r : Int) / 2 = ((r / 2 : Nat) : Int) := by omega
theorem one_step (xs : List Int) (len i : Int) (k r j : Nat) (hr : r < 2 ^ 32) (hj : j < 8) : num_Code.l1 (k + 1) (r : Int) xs len i (j : Int) = num_Code.l1 k ((bstep r : Nat) : Int) xs len i ((j + 1 : Nat) : Int) := by
  have hA : (j : Int) < 8 := by omega
  have e1 : wrap64 ((j : Int) + 1) = ((j + 1 : Nat) : Int) := by rw [Int.natCast_add]; exact w64 (by omega) (by omega)
  have e2 : Go.bits .and .u32 (r : Int) 1 = ((r % 2 : Nat) : Int) := by rw [← Nat.and_one_is_mod]; exact u32_and_nat r 1 (by omega) (by omega)
  have e3 : Go.bits .xor .u32 ((r / 2 : Nat) : Int) 3988292384 = ((r / 2 ^^^ 3988292384 : Nat) : Int) := u32_xor_nat (r / 2) 3988292384 (by omega) (by omega)
  simp only [num_Code.l1, if_pos hA, half, e1, e2, e3]
  unfold bstep
  by_cases c : r % 2 = 1
  · rw [if_pos c, if_pos (by omega)]; rfl
  · rw [if_neg c, if_neg (by omega)]
theorem eight (xs : List Int) (len : Int) (k r i : Nat) (hr : r < 2 ^ 32) (hi : (i : Int) + 1 ≤ 9223372036854775807) : num_Code.l1 (k + 9) (r : Int) xs len (i : Int) 0 = num_Code.l0 k ((step8 r : Nat) : Int) xs len ((i + 1 : Nat) : Int) := by
  have l1 := step_lt hr
  have l2 := step_lt l1
  have l3 := step_lt l2
  have l4 := step_lt l3
  have l5 := step_lt l4
  have l6 := step_lt l5
  have l7 := step_lt l6
  have e1 : wrap64 ((i : Int) + 1) = ((i + 1 : Nat) : Int) := by rw [Int.natCast_add]; exact w64 (by omega) hi
  have a0 := one_step xs len i (k + 8) r 0 hr (by omega)
  have a1 := one_step xs len i (k + 7) _ 1 l1 (by omega)
  have a2 := one_step xs len i (k + 6) _ 2 l2 (by omega)
  have a3 := one_step xs len i (k + 5) _ 3 l3 (by omega)
  have a4 := one_step xs len i (k + 4) _ 4 l4 (by omega)
  have a5 := one_step xs len i (k + 3) _ 5 l5 (by omega)
  have a6 := one_step xs len i (k + 2) _ 6 l6 (by omega)
  have a7 := one_step xs len i (k + 1) _ 7 l7 (by omega)
  refine (a0.trans (a1.trans (a2.trans (a3.trans (a4.trans (a5.trans (a6.trans (a7.trans ?_)))))))) 
  simp only [num_Code.l1]
  rw [if_neg (by omega), e1]
  rfl
def cstep (x j n : Nat) : Nat := if (n ^^^ x / 2 ^ j) % 2 = 1 then n / 2 ^^^ P else n / 2
theorem cstep_lt (x j : Nat) {n : Nat} (h : n < 2 ^ 32) : cstep x j n < 2 ^ 32 := by
  unfold cstep
  split
  · exact Nat.xor_lt_two_pow (by omega) (by decide)
  · omega
theorem xor_half (a b : Nat) : (a ^^^ b) / 2 = a / 2 ^^^ b / 2 := by
  apply Nat.eq_of_testBit_eq; intro i
  simp [Nat.testBit_div_two, Nat.testBit_xor]
theorem cstep_eq (x j n : Nat) : cstep x j n ^^^ x / 2 ^ (j + 1) = bstep (n ^^^ x / 2 ^ j) := by
  unfold cstep bstep
  have e : x / 2 ^ (j + 1) = x / 2 ^ j / 2 := by rw [Nat.pow_succ, Nat.div_div_eq_div_mul]
  rw [e, xor_half]
  generalize x / 2 ^ j / 2 = y
  split
  · rw [Nat.xor_assoc, Nat.xor_comm P, ← Nat.xor_assoc]
  · rfl

theorem shr_pow (x j : Nat) (hx : x < 256) (hj : j < 8) : shr .u32 ((x : Int) % 4294967296) (j : Int) = ((x / 2 ^ j : Nat) : Int) := by
  unfold shr
  rw [Int.emod_eq_of_lt (by omega) (by omega), Int.toNat_natCast, Nat.min_eq_left (by show j ≤ 32; omega)]
  norm_cast
theorem ref_step (xs : List Int) (len i : Int) (k x n j : Nat) (hx : x < 256) (hn : n < 2 ^ 32) (hj : j < 8) : weftref1_Coded.l1 (k + 1) (n : Int) (x : Int) xs len i (j : Int) = weftref1_Coded.l1 k ((cstep x j n : Nat) : Int) (x : Int) xs len i ((j + 1 : Nat) : Int) := by
  have hA : (j : Int) < 8 := by omega
  have hB : 0 ≤ (j : Int) := by omega
  have hy : x / 2 ^ j < 2 ^ 32 := Nat.lt_of_le_of_lt (Nat.div_le_self _ _) (by omega)
  have e1 : wrap64 ((j : Int) + 1) = ((j + 1 : Nat) : Int) := by rw [Int.natCast_add]; exact w64 (by omega) (by omega)
  have e0 : Go.bits .xor .u32 (n : Int) ((x / 2 ^ j : Nat) : Int) = ((n ^^^ x / 2 ^ j : Nat) : Int) := u32_xor_nat _ _ hn hy
  have e2 : Go.bits .and .u32 ((n ^^^ x / 2 ^ j : Nat) : Int) 1 = (((n ^^^ x / 2 ^ j) % 2 : Nat) : Int) := by rw [← Nat.and_one_is_mod]; exact u32_and_nat _ 1 (Nat.xor_lt_two_pow hn hy) (by omega)
  have e3 : Go.bits .xor .u32 ((n / 2 : Nat) : Int) 3988292384 = ((n / 2 ^^^ 3988292384 : Nat) : Int) := u32_xor_nat (n / 2) 3988292384 (by omega) (by omega)
  simp only [weftref1_Coded.l1, if_pos hA, if_pos hB, half, shr_pow x j hx hj, e0, e1, e2, e3]
  unfold cstep
  by_cases c : (n ^^^ x / 2 ^ j) % 2 = 1
  · rw [if_pos c, if_pos (by omega)]; rfl
  · rw [if_neg c, if_neg (by omega)]

theorem eight_ref (xs : List Int) (len : Int) (k n x i : Nat) (hx : x < 256) (hn : n < 2 ^ 32) (hi : (i : Int) + 1 ≤ 9223372036854775807) :
    weftref1_Coded.l1 (k + 9) (n : Int) (x : Int) xs len (i : Int) 0 = weftref1_Coded.l0 k ((step8 (n ^^^ x) : Nat) : Int) xs len ((i + 1 : Nat) : Int) := by
  have l1 := cstep_lt x 0 hn
  have l2 := cstep_lt x 1 l1
  have l3 := cstep_lt x 2 l2
  have l4 := cstep_lt x 3 l3
  have l5 := cstep_lt x 4 l4
  have l6 := cstep_lt x 5 l5
  have l7 := cstep_lt x 6 l6
  have e1 : wrap64 ((i : Int) + 1) = ((i + 1 : Nat) : Int) := by rw [Int.natCast_add]; exact w64 (by omega) hi
  have a0 := ref_step xs len i (k + 8) x n 0 hx hn (by omega)
  have a1 := ref_step xs len i (k + 7) x _ 1 hx l1 (by omega)
  have a2 := ref_step xs len i (k + 6) x _ 2 hx l2 (by omega)
  have a3 := ref_step xs len i (k + 5) x _ 3 hx l3 (by omega)
  have a4 := ref_step xs len i (k + 4) x _ 4 hx l4 (by omega)
  have a5 := ref_step xs len i (k + 3) x _ 5 hx l5 (by omega)
  have a6 := ref_step xs len i (k + 2) x _ 6 hx l6 (by omega)
  have a7 := ref_step xs len i (k + 1) x _ 7 hx l7 (by omega)
  have b0 := cstep_eq x 0 n
  have b1 := cstep_eq x 1 (cstep x 0 n)
  have b2 := cstep_eq x 2 (cstep x 1 (cstep x 0 n))
  have b3 := cstep_eq x 3 (cstep x 2 (cstep x 1 (cstep x 0 n)))
  have b4 := cstep_eq x 4 (cstep x 3 (cstep x 2 (cstep x 1 (cstep x 0 n))))
  have b5 := cstep_eq x 5 (cstep x 4 (cstep x 3 (cstep x 2 (cstep x 1 (cstep x 0 n)))))
  have b6 := cstep_eq x 6 (cstep x 5 (cstep x 4 (cstep x 3 (cstep x 2 (cstep x 1 (cstep x 0 n))))))
  have b7 := cstep_eq x 7 (cstep x 6 (cstep x 5 (cstep x 4 (cstep x 3 (cstep x 2 (cstep x 1 (cstep x 0 n)))))))
  rw [show x / 2 ^ (7 + 1) = 0 by omega, Nat.xor_zero, b6, b5, b4, b3, b2, b1, b0, show x / 2 ^ 0 = x by omega] at b7
  refine (a0.trans (a1.trans (a2.trans (a3.trans (a4.trans (a5.trans (a6.trans (a7.trans ?_))))))))
  rw [b7]
  simp only [weftref1_Coded.l1]
  rw [if_neg (by omega), e1]
  rfl
def codeOf (c : Nat) : Int := wrap64 (Go.bits .xor .u32 4294967295 (c : Int))
theorem codeOf_inj {a b : Nat} (ha : a < 2 ^ 32) (hb : b < 2 ^ 32) (h : codeOf a = codeOf b) : a = b := by
  unfold codeOf at h
  have e1 : Go.bits .xor .u32 4294967295 (a : Int) = ((4294967295 ^^^ a : Nat) : Int) := u32_xor_nat 4294967295 a (by omega) (by omega)
  have e2 : Go.bits .xor .u32 4294967295 (b : Int) = ((4294967295 ^^^ b : Nat) : Int) := u32_xor_nat 4294967295 b (by omega) (by omega)
  have l1 : 4294967295 ^^^ a < 2 ^ 32 := Nat.xor_lt_two_pow (by omega) (by omega)
  have l2 : 4294967295 ^^^ b < 2 ^ 32 := Nat.xor_lt_two_pow (by omega) (by omega)
  rw [e1, e2] at h
  generalize hA : 4294967295 ^^^ a = A at *
  generalize hB : 4294967295 ^^^ b = B at *
  rw [w64 (by omega) (by omega), w64 (by omega) (by omega)] at h
  have hAB : A = B := by omega
  rw [← hB, ← hA] at hAB
  have h3 : 4294967295 ^^^ (4294967295 ^^^ a) = 4294967295 ^^^ (4294967295 ^^^ b) := by rw [hAB]
  rw [← Nat.xor_assoc, ← Nat.xor_assoc, Nat.xor_self, Nat.zero_xor, Nat.zero_xor] at h3
  exact h3
def Bytes (ns : List Nat) : Prop := ns.length ≤ 1048576 ∧ ∀ x ∈ ns, x < 256
theorem code_loop {ns : List Nat} (hb : Bytes ns) (K : Nat) : ∀ (d i r : Nat), ns.length - i = d → i ≤ ns.length → r < 2 ^ 32 →
    num_Code.l0 (K + 1 + 10 * d) (r : Int) (ints ns) ((ints ns).length : Int) (i : Int) = some (codeOf (crc r (ns.drop i))) := by
  intro d
  have hl := hb.1
  induction d with
  | zero =>
    intro i r hd hi hr
    have : ns.drop i = [] := List.drop_eq_nil_of_le (by omega)
    rw [this]
    simp only [num_Code.l0, ints_len]
    rw [if_neg (by omega)]
    rfl
  | succ d ih =>
    intro i r hd hi hr
    have hA : (i : Int) < ((ints ns).length : Int) := by rw [ints_len]; omega
    have hB : 0 ≤ (i : Int) := by omega
    have hlt : i < ns.length := by omega
    have hx := hb.2 _ (List.getElem_mem hlt)
    rw [show K + 1 + 10 * (d + 1) = (K + 1 + 10 * d + 9) + 1 by omega, List.drop_eq_getElem_cons hlt]
    simp only [num_Code.l0, if_pos hA, if_pos hB, rd_ints ns i hlt]
    generalize ns[i] = x at hx
    have e1 : Go.bits .xor .u32 (r : Int) ((x : Int) % 4294967296) = ((r ^^^ x : Nat) : Int) := by rw [Int.emod_eq_of_lt (by omega) (by omega)]; exact u32_xor_nat r x hr (by omega)
    have hrx : r ^^^ x < 2 ^ 32 := Nat.xor_lt_two_pow hr (by omega)
    rw [e1, eight (ints ns) _ (K + 1 + 10 * d) (r ^^^ x) i hrx (by omega)]
    exact ih (i + 1) _ (by omega) (by omega) (step8_lt hrx)
theorem ref_loop {ns : List Nat} (hb : Bytes ns) (K : Nat) : ∀ (d i r : Nat), ns.length - i = d → i ≤ ns.length → r < 2 ^ 32 →
    weftref1_Coded.l0 (K + 1 + 10 * d) (r : Int) (ints ns) ((ints ns).length : Int) (i : Int) = some (codeOf (crc r (ns.drop i))) := by
  intro d
  have hl := hb.1
  induction d with
  | zero =>
    intro i r hd hi hr
    have : ns.drop i = [] := List.drop_eq_nil_of_le (by omega)
    rw [this]
    simp only [weftref1_Coded.l0, ints_len]
    rw [if_neg (by omega)]
    rfl
  | succ d ih =>
    intro i r hd hi hr
    have hA : (i : Int) < ((ints ns).length : Int) := by rw [ints_len]; omega
    have hB : 0 ≤ (i : Int) := by omega
    have hlt : i < ns.length := by omega
    have hx := hb.2 _ (List.getElem_mem hlt)
    rw [show K + 1 + 10 * (d + 1) = (K + 1 + 10 * d + 9) + 1 by omega, List.drop_eq_getElem_cons hlt]
    simp only [weftref1_Coded.l0, if_pos hA, if_pos hB, rd_ints ns i hlt]
    generalize ns[i] = x at hx
    rw [eight_ref (ints ns) _ (K + 1 + 10 * d) r x i hx hr (by omega)]
    exact ih (i + 1) _ (by omega) (by omega) (step8_lt (Nat.xor_lt_two_pow hr (by omega)))

theorem below_ok (a n : Int) (h1 : 1 ≤ n) (h2 : n ≤ 1099511627776) : ∃ t, weftmake_Below.f a n = some t ∧ 0 ≤ t ∧ t < n := by
  have g1 := Int.tmod_lt_of_pos a (show 0 < n by omega)
  have g2 : -n < Int.tmod a n := by
    have := Int.tmod_lt_of_pos (-a) (show 0 < n by omega)
    rw [Int.neg_tmod] at this; omega
  unfold weftmake_Below.f
  rw [if_neg (by omega), if_neg (by omega)]
  by_cases c : Int.tmod a n < 0
  · rw [if_pos c, w64 (by omega) (by omega)]
    exact ⟨_, rfl, by omega, by omega⟩
  · rw [if_neg c]
    exact ⟨_, rfl, by omega, g1⟩
theorem next_ok (l : List Int) (s n : Int) (hs : 0 ≤ s) (hs2 : s ≤ 1000) (h1 : 1 ≤ n) (h2 : n ≤ 1099511627776) : ∃ t, weftmake_Stream_Next.f l s n = some (t, s + 1) ∧ 0 ≤ t ∧ t < n := by
  unfold weftmake_Stream_Next.f
  have e1 : wrap64 (s + 1) = s + 1 := w64 (by omega) (by omega)
  have e2 : wrap64 (s + 1 - 1) = s := by rw [w64 (by omega) (by omega)]; omega
  rw [e1, e2]
  by_cases c : (l.length : Int) = 0
  · rw [if_pos c]
    obtain ⟨t, h, h3, h4⟩ := below_ok (wrap64 ((s + 1) * 7919)) n h1 h2
    rw [h]
    exact ⟨t, rfl, h3, h4⟩
  · rw [if_neg c, if_pos (by exact Int.tmod_nonneg _ hs), if_pos (Int.tmod_lt_of_pos _ (by omega))]
    obtain ⟨t1, h, _, _⟩ := below_ok (rd l (Int.tmod s (l.length : Int))) 1073741824 (by omega) (by omega)
    rw [h]
    simp only [Option.bind_some]
    obtain ⟨t, h, h3, h4⟩ := below_ok (wrap64 (t1 + (wrap64 ((wrap64 (Int.tdiv s (l.length : Int))) * (wrap64 (7919 + (Int.tmod s (l.length : Int)))))))) n h1 h2
    rw [h]
    exact ⟨t, rfl, h3, h4⟩
theorem range_ok (l : List Int) (s : Int) (hs : 0 ≤ s) (hs2 : s ≤ 1000) : ∃ t, weftmake_Stream_Range.f l s 1 4 = some (t, s + 1) ∧ 1 ≤ t ∧ t ≤ 4 := by
  unfold weftmake_Stream_Range.f
  have e0 : wrap64 (4 - 1) = 3 := w64 (by omega) (by omega)
  have e : wrap64 (wrap64 (4 - 1) + 1) = 4 := by rw [e0]; exact w64 (by omega) (by omega)
  obtain ⟨t, h, h3, h4⟩ := next_ok l s 4 hs hs2 (by decide) (by decide)
  rw [if_neg (by omega), e, h]
  clear e e0
  refine ⟨wrap64 (1 + t), rfl, ?_, ?_⟩ <;> rw [w64 (by omega) (by omega)] <;> omega
theorem same_loop {ns cs : List Nat} (hb : ns.length ≤ 1048576) (he : cs.length = ns.length) : ∀ (d k i : Nat), ns.length - i = d → i ≤ ns.length → d < k →
    slices_Equal_byte_byte.l0 k (ints ns) (ints cs) ((ints ns).length : Int) (i : Int) = some (decide (ns.drop i = cs.drop i)) := by
  intro d
  induction d with
  | zero =>
    intro k i hd hi hk
    obtain ⟨k, rfl⟩ : ∃ m, k = m + 1 := ⟨k - 1, by omega⟩
    rw [List.drop_eq_nil_of_le (show ns.length ≤ i by omega), List.drop_eq_nil_of_le (show cs.length ≤ i by omega)]
    simp only [slices_Equal_byte_byte.l0, ints_len]
    rw [if_neg (by omega)]
    rfl
  | succ d ih =>
    intro k i hd hi hk
    obtain ⟨k, rfl⟩ : ∃ m, k = m + 1 := ⟨k - 1, by omega⟩
    have hA : (i : Int) < ((ints ns).length : Int) := by rw [ints_len]; omega
    have hB : 0 ≤ (i : Int) := by omega
    have hC : (i : Int) < ((ints cs).length : Int) := by rw [ints_len]; omega
    have h1 : i < ns.length := by omega
    have h2 : i < cs.length := by omega
    have e1 : wrap64 ((i : Int) + 1) = ((i + 1 : Nat) : Int) := by rw [Int.natCast_add]; exact w64 (by omega) (by omega)
    have h3 := ih k (i + 1) (by omega) (by omega) (by omega)
    rw [List.drop_eq_getElem_cons h1, List.drop_eq_getElem_cons h2]
    simp only [slices_Equal_byte_byte.l0, if_pos hA, if_pos hB, if_pos hC, rd_ints ns i h1, rd_ints cs i h2, e1]
    by_cases c : ns[i] = cs[i]
    · rw [if_pos (by rw [c]), h3, c]
      have hh : (ns.drop (i + 1) = cs.drop (i + 1)) ↔ (cs[i] :: ns.drop (i + 1) = cs[i] :: cs.drop (i + 1)) := ⟨fun h => by rw [h], fun h => (List.cons.inj h).2⟩
      rw [decide_eq_decide.mpr hh]
    · rw [if_neg (fun h => c (by omega)), decide_eq_false (fun h => c (List.cons.inj h).1)]
theorem same_f {ns cs : List Nat} (hb : ns.length ≤ 1048576) (he : cs.length = ns.length) (k : Nat) (hk : ns.length < k) : slices_Equal_byte_byte.f k (ints ns) (ints cs) = some (decide (ns = cs)) := by
  unfold slices_Equal_byte_byte.f
  rw [if_pos (by rw [ints_len, ints_len, he])]
  exact same_loop hb he ns.length k 0 (by omega) (by omega) hk
theorem code_f {ns : List Nat} (hb : Bytes ns) (k : Nat) (hk : 10 * ns.length < k) : num_Code.f k (ints ns) = some (codeOf (crc 4294967295 ns)) := by
  have h := code_loop hb (k - 1 - 10 * ns.length) ns.length 0 4294967295 (by omega) (by omega) (by omega)
  rw [show k - 1 - 10 * ns.length + 1 + 10 * ns.length = k by omega] at h
  exact h
theorem ref_f {ns : List Nat} (hb : Bytes ns) (k : Nat) (hk : 10 * ns.length < k) : weftref1_Coded.f k (ints ns) = some (codeOf (crc 4294967295 ns)) := by
  have h := ref_loop hb (k - 1 - 10 * ns.length) ns.length 0 4294967295 (by omega) (by omega) (by omega)
  rw [show k - 1 - 10 * ns.length + 1 + 10 * ns.length = k by omega] at h
  exact h

/-- What the law's last part asks. -/
theorem last_true {ns cs : List Nat} (hn : Bytes ns) (hc : Bytes cs) (he : cs.length = ns.length) (p : Nat) (out : ∀ j (h : j < ns.length) (h' : j < cs.length), (j < p ∨ p + 4 ≤ j) → cs[j] = ns[j]) (k : Nat) (hk : 10 * ns.length < k) :
    ((slices_Equal_byte_byte.f k (ints ns) (ints cs)).bind fun t318 => (if t318 = true then (some true) else ((num_Code.f k (ints cs)).bind fun t319 => (some (t319 != codeOf (crc 4294967295 ns)))))) = some true := by
  rw [same_f hn.1 he k (by omega)]
  simp only [Option.bind_some]
  by_cases c : ns = cs
  · rw [decide_eq_true c, if_pos rfl]
  · rw [decide_eq_false c, if_neg (by decide), code_f hc k (by omega)]
    simp only [Option.bind_some]
    have hne : codeOf (crc 4294967295 cs) ≠ codeOf (crc 4294967295 ns) := fun h => c (crc_window p ns cs he.symm hn.2 hc.2 (fun j h1 hj => (out j h1 (by omega) hj).symm) 4294967295
      (codeOf_inj (crc_lt _ hn.2 _ (by omega)) (crc_lt _ hc.2 _ (by omega)) h.symm))
    rw [bne_iff_ne.mpr hne]
theorem change_loop {ns : List Nat} (hn : Bytes ns) (hl : ns.length ≤ 40) (l : List Int) (p K : Nat) (hK : 10 * ns.length < K) : ∀ (d q : Nat) (cs : List Nat) (s : Int) (k : Nat), Bytes cs → cs.length = ns.length → d + K ≤ k → p ≤ q → q + d ≤ p + 4 → q ≤ ns.length → 0 ≤ s → s ≤ 500 - d →
    (∀ j (h : j < ns.length) (h' : j < cs.length), (j < p ∨ p + 4 ≤ j) → cs[j] = ns[j]) →
    weftlaw1_NumCodes.l1 (k + 1) (ints ns) (codeOf (crc 4294967295 ns)) (ints cs) (q : Int) (d : Int) l s = some true := by
  intro d
  induction d with
  | zero =>
    intro q cs s k hc he hk h1 h2 h3 h4 h5 out
    simp only [weftlaw1_NumCodes.l1]
    rw [if_neg (by omega)]
    exact last_true hn hc he p out k (by omega)
  | succ d ih =>
    intro q cs s k hc he hk h1 h2 h3 h4 h5 out
    obtain ⟨k, rfl⟩ : ∃ m, k = m + 1 := ⟨k - 1, by omega⟩
    have hA : ((d + 1 : Nat) : Int) > 0 := by omega
    by_cases c : q < ns.length
    · have hB : (q : Int) < ((ints ns).length : Int) := by rw [ints_len]; omega
      have hC : 0 ≤ (q : Int) := by omega
      have hD : (q : Int) < ((ints cs).length : Int) := by rw [ints_len]; omega
      have hq : q < cs.length := by omega
      obtain ⟨t, e1, t0, t1⟩ := next_ok l s 256 h4 (by omega) (by omega) (by omega)
      have hx := hc.2 _ (List.getElem_mem hq)
      have e4 : Go.bits .xor .u8 (cs[q] : Int) (t % 256) = ((cs[q] ^^^ t.toNat : Nat) : Int) := by
        rw [Int.emod_eq_of_lt t0 t1, u8_xor _ _ (by omega) (by omega) t0 t1, Int.toNat_natCast]
      have hx2 : cs[q] ^^^ t.toNat < 256 := Nat.xor_lt_two_pow (n := 8) hx (by omega)
      have e5 : (ints cs).set q ((cs[q] ^^^ t.toNat : Nat) : Int) = ints (cs.set q (cs[q] ^^^ t.toNat)) := by unfold ints; rw [List.map_set]
      have z1 : (q : Int) + 1 ≤ 9223372036854775807 := by omega
      have z0 : -9223372036854775808 ≤ (q : Int) + 1 := by omega
      have y0 : -9223372036854775808 ≤ ((d + 1 : Nat) : Int) - 1 := by omega
      have y1 : ((d + 1 : Nat) : Int) - 1 ≤ 9223372036854775807 := by omega
      have y2 : ((d + 1 : Nat) : Int) - 1 = (d : Int) := by omega
      have e2 : wrap64 ((q : Int) + 1) = ((q + 1 : Nat) : Int) := by rw [Int.natCast_add]; exact w64 z0 z1
      have e3 : wrap64 (((d + 1 : Nat) : Int) - 1) = (d : Int) := by rw [w64 y0 y1]; exact y2
      simp only [weftlaw1_NumCodes.l1, if_pos hA, if_pos hB, if_pos hC, if_pos hD, e1, Option.bind_some, rd_ints cs q hq, e2, e3, e4, Int.toNat_natCast, e5]
      clear e1 e2 e3 e4 e5 hA hB hC hD
      refine ih (q + 1) _ (s + 1) k ⟨by rw [List.length_set]; exact hc.1, ?_⟩ (by rw [List.length_set]; exact he) (by omega) (by omega) (by omega) (by omega) (by omega) (by omega) ?_
      · intro y hy
        rcases List.mem_or_eq_of_mem_set hy with hy | hy
        · exact hc.2 y hy
        · rw [hy]; exact hx2
      · intro j hj hj' ho
        rw [List.getElem_set_ne (by omega)]
        exact out j hj (by rw [List.length_set] at hj'; exact hj') ho
    · have hB : ¬ (q : Int) < ((ints ns).length : Int) := by rw [ints_len]; omega
      simp only [weftlaw1_NumCodes.l1, if_pos hA, if_neg hB]
      exact last_true hn hc he p out (k + 1) (by omega)

theorem after_true {ns : List Nat} (hn : Bytes ns) (hl : ns.length ≤ 40) (l : List Int) (s : Int) (hs : 0 ≤ s) (hs2 : s ≤ 100) (k : Nat) (hk : 500 ≤ k) :
    weftlaw1_NumCodes.j1 (k + 1) (ints ns) (codeOf (crc 4294967295 ns)) false l s = some true := by
  have hF : ¬ (false = true) := by decide
  by_cases z : ((ints ns).length : Int) = 0
  · have hz : ns = [] := by
      rw [ints_len] at z
      exact List.eq_nil_of_length_eq_zero (by omega)
    simp only [weftlaw1_NumCodes.j1, if_neg hF, if_pos z]
    subst hz
    have : codeOf (crc 4294967295 []) = 0 := by
      show codeOf 4294967295 = 0
      unfold codeOf
      have e := u32_xor_nat 4294967295 4294967295 (by omega) (by omega)
      rw [Nat.xor_self] at e
      rw [show Go.bits .xor .u32 4294967295 ((4294967295 : Nat) : Int) = ((0 : Nat) : Int) from e]
      exact w64 (by omega) (by omega)
    rw [this]; rfl
  · rw [ints_len] at z
    have hz : ¬ ((ints ns).length : Int) = 0 := by rw [ints_len]; exact z
    obtain ⟨t, e1, t0, t1⟩ := next_ok l s ((ints ns).length : Int) hs (by omega) (by rw [ints_len]; omega) (by rw [ints_len]; omega)
    obtain ⟨u, e2, u0, u1⟩ := range_ok l (s + 1) (by omega) (by omega)
    have e3 : slices_Clone_byte_byte.f (ints ns) = some (ints ns) := by unfold slices_Clone_byte_byte.f; rw [if_pos (by rw [ints_len]; omega)]
    simp only [weftlaw1_NumCodes.j1, if_neg hF, if_neg hz, e1, e2, e3, Option.bind_some]
    rw [ints_len] at t1
    have h := change_loop hn hl l t.toNat (10 * ns.length + 1) (by omega) u.toNat t.toNat ns (s + 1 + 1) (k - 1) hn rfl (by omega) (by omega) (by omega) (by omega) (by omega) (by omega) (fun j _ _ _ => rfl)
    rw [Int.toNat_of_nonneg t0, Int.toNat_of_nonneg (by omega), show k - 1 + 1 = k by omega] at h
    exact h
theorem build_loop (l : List Int) (m : Nat) (hm : m ≤ 40) : ∀ (d k i : Nat) (s : Int) (ns : List Nat), m - i = d → i ≤ m → ns.length = i → (∀ x ∈ ns, x < 256) → 0 ≤ s → s ≤ 100 - d → d + 600 ≤ k →
    weftlaw1_NumCodes.l0 k (ints ns) (m : Int) (i : Int) l s = some true := by
  intro d
  induction d with
  | zero =>
    intro k i s ns hd hi hlen hb hs hs2 hk
    obtain ⟨k, rfl⟩ : ∃ q, k = q + 2 := ⟨k - 2, by omega⟩
    have hn : Bytes ns := ⟨by omega, hb⟩
    have hA : ¬ (i : Int) < (m : Int) := by omega
    have e1 := code_f hn (k + 1) (by omega)
    have e2 := ref_f hn (k + 1) (by omega)
    have e3 := nums_at (k + 1) (by omega)
    have h := after_true hn (by omega) l s hs (by omega) k (by omega)
    simp only [weftlaw1_NumCodes.l0, if_neg hA]
    rw [e1, Option.bind_some, e3, Option.bind_some, if_pos rfl, e2, Option.bind_some, bne_self_eq_false]
    exact h
  | succ d ih =>
    intro k i s ns hd hi hlen hb hs hs2 hk
    obtain ⟨k, rfl⟩ : ∃ q, k = q + 1 := ⟨k - 1, by omega⟩
    have hA : (i : Int) < (m : Int) := by omega
    obtain ⟨t, e1, t0, t1⟩ := next_ok l s 256 hs (by omega) (by omega) (by omega)
    have hB : (ints ns).length < 140737488355328 := by rw [ints_len]; omega
    have z1 : (i : Int) + 1 ≤ 9223372036854775807 := by omega
    have z0 : -9223372036854775808 ≤ (i : Int) + 1 := by omega
    have h := ih k (i + 1) (s + 1) (ns ++ [t.toNat]) (by omega) (by omega) (by simp [hlen]) (by
      intro x hx
      rcases List.mem_append.mp hx with hx | hx
      · exact hb x hx
      · rw [List.mem_singleton.mp hx]; omega) (by omega) (by omega) (by omega)
    have e5 : ints ns ++ [t % 256] = ints (ns ++ [t.toNat]) := by
      unfold ints
      rw [List.map_append, Int.emod_eq_of_lt t0 t1]
      simp [Int.toNat_of_nonneg t0]
    have e2 : wrap64 ((i : Int) + 1) = ((i + 1 : Nat) : Int) := by rw [Int.natCast_add]; exact w64 z0 z1
    simp only [weftlaw1_NumCodes.l0, if_pos hA, e1, Option.bind_some, if_pos hB, e2, e5]
    exact h
theorem NumCodes : weftlaw1_NumCodes.Pure := by
  intro l _ h8 _
  obtain ⟨K, hK⟩ : ∃ K : Nat, 700 ≤ K := ⟨700, by omega⟩
  refine ⟨K, ?_⟩
  unfold weftlaw1_NumCodes.f
  obtain ⟨t, e1, t0, t1⟩ := next_ok l 0 40 (by omega) (by omega) (by omega) (by omega)
  rw [e1]
  have h := build_loop l t.toNat (by omega) t.toNat K 0 1 [] (by omega) (by omega) rfl (by simp) (by omega) (by omega) (by omega)
  rw [Int.toNat_of_nonneg t0] at h
  exact h

end Go.Proofs.YtaffkbemjbfajaaGreatDoor.Pure
