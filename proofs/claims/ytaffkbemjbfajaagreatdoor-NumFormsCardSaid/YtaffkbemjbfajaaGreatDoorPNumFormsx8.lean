-- By a program of this session (a changed copy of the kit's printer): functions of the seat as plain Lean functions, each with its proof over the machine.
import Derived.Test.YtaffkbemjbfajaaGreatDoorPNumFormsx0
import Derived.Test.YtaffkbemjbfajaaGreatDoorPNumFormsx2
import Derived.Test.YtaffkbemjbfajaaGreatDoorPNumFormsx7
namespace Go.Proofs.YtaffkbemjbfajaaGreatDoor.PNumForms
open Go.RowKit Go.Proofs.YtaffkbemjbfajaaGreatDoorW.PrintWords Go.Proofs.YtaffkbemjbfajaaGreatDoorW.PrintLast Go.Proofs.YtaffkbemjbfajaaGreatDoorW.PrintMore
attribute [local go_sem] max2_int min2_int max_two min_two max_three min_three max_four min_four   -- for this text's walks alone
set_option linter.unusedVariables false
set_option linter.unusedSimpArgs false

section
namespace Str
def pad9 (d : Nat) : List UInt8 := List.replicate (9 - (Lib.decDigits d).length) 48 ++ Lib.decDigits d
def str : List Int → List UInt8
 | [] => []
 | [d] => Lib.decDigits d.toNat
 | d :: e :: l => str (e :: l) ++ pad9 d.toNat
def Small (l : List Int) : Prop := ∀ d ∈ l, 0 ≤ d ∧ d < 1000000000
instance (l : List Int) : Decidable (Small l) := inferInstanceAs (Decidable (∀ d ∈ l, 0 ≤ d ∧ d < 1000000000))
theorem nDigits9 {d : Nat} (h : d < 1000000000) : (Lib.decDigits d).length ≤ 9 := by
 rw [Lib.decDigits_length]
 have hk : ∀ k u, u < 10 ^ (k + 1) → Lib.nDigits u ≤ k + 1 := by
  intro k
  induction k with
  | zero => intro u hu; rw [Lib.nDigits_small (by omega)]; omega
  | succ k ih =>
   intro u hu
   by_cases h9 : u < 10
   ·rw [Lib.nDigits_small h9]; omega
   ·rw [Lib.nDigits_big h9]
    have := ih (u / 10) (by rw [Nat.pow_succ] at hu; omega)
    omega
 exact hk 8 d h
theorem pad9_length {d : Nat} (h : d < 1000000000) : (pad9 d).length = 9 := by
 have := nDigits9 h
 simp [pad9]; omega
theorem str_drop (l : List Int) (k : Nat) (h : k + 1 < l.length) : str (l.drop k) = str (l.drop (k + 1)) ++ pad9 (l[k]'(by omega)).toNat := by
 rw [List.drop_eq_getElem_cons (show k < l.length by omega)]
 rw [List.drop_eq_getElem_cons h]
 rfl
theorem str_length (l : List Int) (h : Small l) : (str l).length ≤ 9 * l.length := by
 induction l with
 | nil => simp [str]
 | cons d l ih =>
  have hd := h d (List.mem_cons_self)
  cases l with
  | nil => have := nDigits9 (d := d.toNat) (by omega); simp [str]; omega
  | cons e l =>
   have := ih (fun x hx => h x (List.mem_cons_of_mem _ hx))
   have := pad9_length (d := d.toNat) (by omega)
   simp [str] at *; omega
end Str
theorem Str.builder_below {T e : TypeId} {B b : Nat} {p : Value} {bs : List Value} {w w1 : World} (h : Lib.BuilderAt T e B b p bs w) (hb : Below w.heap.size w w1) : Lib.BuilderAt T e B b p bs w1 := by
 have hl := h.lt
 obtain ⟨hB, v, hk, ho, hn⟩ := h
 exact ⟨hB, v, (hb.block b hl).trans hk, pw_own_below ho hb, hn⟩
def nat_Nat_String.f (l0 : List Int) : Option ByteArray := if Str.Small l0 ∧ l0.length < 10000000000000 then (if l0 = [] then some ⟨#[48]⟩ else some ⟨(Str.str l0).toArray⟩) else none
set_option maxHeartbeats 4000000 in
set_option maxRecDepth 100000 in
theorem nat_Nat_String.calls (A0 : Option Addr) (c0 : Nat) (l0 : List Int) (r : ByteArray) (w : World) (hr0 : Kd.C (Kd.int .u32) w A0 l0.length l0) (hc0 : l0.length ≤ c0) (hG : Tryz.Gl w) (h : nat_Nat_String.f l0 = some r) :
  Calls Tryz.prog 135 #[.slice A0 l0.length c0] w fun e w' => e = .returned (.string r) ∧ Below w.heap.size w w' := by
 unfold nat_Nat_String.f at h
 by_cases hs : Str.Small l0 ∧ l0.length < 10000000000000
 case neg => rw [if_neg hs] at h; cases h
 rw [if_pos hs] at h
 obtain ⟨hsm, hlen⟩ := hs
 by_cases hz : l0 = []
 ·rw [if_pos hz] at h
  obtain rfl := Option.some.inj h
  subst hz
  clear hr0 hc0
  go_enter Tryz.func135, Tryz.ntmps135
  go_wp2
  go_ret
  exact ⟨rfl, Below.refl _ _⟩
 rw [if_neg hz] at h
 obtain rfl := Option.some.inj h
 have hpos : 0 < l0.length := List.length_pos_iff.2 hz
 obtain ⟨_, _, hx⟩ := hr0
 obtain ⟨ad, rfl, hcell0⟩ := hx hpos
 have hcell : ∀ j, j < l0.length → w.cell? (ad.add j) = some (.int .u32 (l0.getD j 0)) := fun j hj => by
  obtain ⟨c, _, hR, hcl⟩ := hcell0 j (l0.getD j 0) (by rw [List.getD_eq_getElem?_getD, List.getElem?_eq_getElem hj]; rfl)
  have e : c = [.int .u32 (l0.getD j 0)] := hR
  subst e
  have := hcl 0 _ rfl
  have h1 : (Kd.int .u32).sz = 1 := rfl
  rw [h1, Nat.mul_one, Nat.add_zero] at this
  exact this
 have hsz : ad.block < w.heap.size := by have := World.block_lt_of_cell? w _ (hcell 0 hpos); unfold Addr.add at this; revert this; split <;> exact id
 clear hx hcell0
 -- the top digit
 obtain ⟨dt, hdt⟩ : ∃ d : Nat, l0.getD (l0.length - 1) 0 = (d : Int) := ⟨(l0.getD (l0.length - 1) 0).toNat, by have := hsm (l0.getD (l0.length - 1) 0) (by rw [List.getD_eq_getElem?_getD, List.getElem?_eq_getElem (by omega)]; exact List.getElem_mem _); omega⟩
 have hdtlt : dt < 1000000000 := by have := hsm (l0.getD (l0.length - 1) 0) (by rw [List.getD_eq_getElem?_getD, List.getElem?_eq_getElem (by omega)]; exact List.getElem_mem _); omega
 have hct := hcell (l0.length - 1) (by omega)
 rw [hdt] at hct
 have HT := Aside0.mk hdt
 have HCell := Aside0.mk hcell
 have HS := Aside0.mk hsm
 have HL := Aside0.mk hlen
 have HZ := Aside0.mk hz
 clear hdt hcell hsm hz h
 have hne : ((l0.length : Int) == 0) = false := beq_eq_false_iff_ne.mpr (by omega)
 have hct' : ∀ (o1 : Obj), (w.alloc o1).cell? (ad.add (l0.length - 1)) = some (.int .u32 dt) := fun o1 => by
  rw [((Below.refl w.heap.size w).alloc (Nat.le_refl _) o1).cell (by unfold Addr.add; split <;> exact hsz)]; exact hct
 clear hct
 go_enter Tryz.func135, Tryz.ntmps135
 go_wp2_with (fail)
 refine (Tryz.strconv_FormatUint dt (by omega) _ (hG.alloc _)).mono ?_
 rintro e w1 ⟨rfl, hb1⟩
 have hA0 : Lib.IsBuilder 155 5 w.heap.size w.heap.size [] (w.alloc (.cells #[.pointer none, .slice none 0 0] 155)) :=
  .inl ⟨Nat.le_refl _, .slice none 0 0, heap_alloc_new _ _, ⟨rfl, .inl ⟨rfl, rfl⟩⟩, by simp [Value.ownBlock]⟩
 have hA1 : Lib.IsBuilder 155 5 w.heap.size w.heap.size [] w1 := hA0.elim (fun x => .inl (Str.builder_below x hb1)) (fun x => .inr (Str.builder_below x hb1))
 have HB1 := Aside0.mk (show Below w.heap.size w w1 from below_step ((Below.refl _ _).alloc (Nat.le_refl _) _) hb1)
 clear hb1 hA0 hct'
 have hd9 := Str.nDigits9 hdtlt
 go_wp2_with (fail)
 refine (Tryz.Builder_WriteString _ _ _ _ _ hA1 (by simp [ByteArray.size]; omega) HB1.out.size).mono ?_
 rintro e w2 ⟨rfl, hA2, hb2⟩
 have HB2 := Aside0.mk (show Below w.heap.size w w2 from HB1.out.trans hb2)
 have HA2 := Aside0.mk (show Lib.BuilderAt 155 5 w.heap.size w.heap.size (.pointer (some ⟨w.heap.size, 0, none⟩)) (Lib.byteCells (Str.str (l0.drop (l0.length - 1)))) w2 by
  have e1 : l0.drop (l0.length - 1) = [l0.getD (l0.length - 1) 0] := by
   rw [List.drop_eq_getElem_cons (show l0.length - 1 < l0.length by omega), List.getD_eq_getElem?_getD, List.getElem?_eq_getElem (show l0.length - 1 < l0.length by omega), show l0.length - 1 + 1 = l0.length by omega, List.drop_length]
   rfl
  rw [e1, HT.out]
  exact hA2)
 clear hA2 hb2 HB1 hA1 hd9 HT
 go_wp2
 go_loopw [4] (fun i wr => ∃ k : Nat, k < l0.length ∧ i = .int .i64 ((k : Int) - 1) ∧ Aside0 (Lib.BuilderAt 155 5 w.heap.size w.heap.size (.pointer (some ⟨w.heap.size, 0, none⟩)) (Lib.byteCells (Str.str (l0.drop k))) wr) ∧ Aside0 (Below w.heap.size w wr)) (fun i _ => (intOf i + 1).toNat)
 case atStart => exact ⟨l0.length - 1, by omega, by congr 1; omega, HA2, HB2⟩
 case round =>
  obtain ⟨k, hk, rfl, HA, HB⟩ := hrel
  clear HA2 HB2
  cases k with
  | zero =>
   go_wp2_with (fail)
   refine (Tryz.Builder_String_any _ _ _ _ (.inr HA.out) HB.out.size).mono ?_
   rintro e w3 ⟨rfl, hb3⟩
   go_wp2
   go_ret
   exact ⟨rfl, HB.out.trans hb3⟩
  | succ k =>
   obtain ⟨dk, hdk⟩ : ∃ d : Nat, l0.getD k 0 = (d : Int) := ⟨(l0.getD k 0).toNat, by have := HS.out (l0.getD k 0) (by rw [List.getD_eq_getElem?_getD, List.getElem?_eq_getElem (by omega)]; exact List.getElem_mem _); omega⟩
   have hdklt : dk < 1000000000 := by have := HS.out (l0.getD k 0) (by rw [List.getD_eq_getElem?_getD, List.getElem?_eq_getElem (by omega)]; exact List.getElem_mem _); omega
   have hck : wr.cell? (ad.add k) = some (.int .u32 dk) := by rw [HB.out.cell (by unfold Addr.add; split <;> exact hsz), HCell.out k (by omega), hdk]
   have HD := Aside0.mk hdk
   clear hdk
   rw [show (((k + 1 : Nat) : Int) - 1) = (k : Int) from by omega]
   go_wp2_with (fail)
   obtain ⟨sD, hsD⟩ : ∃ s : ByteArray, s = ⟨(Lib.decDigits dk).toArray⟩ := ⟨_, rfl⟩
   have hfm := Tryz.strconv_FormatUint dk (by omega) wr (hG.below HB.out)
   rw [← hsD] at hfm
   have hszD : sD.size ≤ 9 := by rw [hsD]; simpa [ByteArray.size] using Str.nDigits9 hdklt
   have HsD := Aside0.mk hsD
   clear hsD
   refine hfm.mono ?_
   clear hfm
   rintro e w3 ⟨rfl, hb3⟩
   have HA3 := Aside0.mk (Str.builder_below HA.out hb3)
   have HB3 := Aside0.mk (show Below w.heap.size w w3 from below_step HB.out hb3)
   clear hb3 HA HB hck
   go_wp2_with (fail)
   rw [show (9 - (sD.size : Int)) = ((9 - sD.size : Nat) : Int) from by omega]
   obtain ⟨sR, hsR⟩ : ∃ s : ByteArray, s = ⟨(Lib.repeatL [48] (9 - sD.size)).toArray⟩ := ⟨_, rfl⟩
   have hrep := Tryz.strings_Repeat ⟨#[48]⟩ (9 - sD.size) w3 (by omega) (by show 1 * (9 - sD.size) ≤ 140737488355328; omega)
   rw [show (ByteArray.mk #[48]).data.toList = [48] from rfl, ← hsR] at hrep
   have hszR : sR.size = 9 - sD.size := by rw [hsR]; show (List.toArray _).size = _; rw [List.size_toArray, Lib.repeatL_length]; show _ * 1 = _; omega
   have HszR := Aside0.mk hszR
   have hle : sR.size + sD.size ≤ 9 := by omega
   have HsR := Aside0.mk hsR
   clear hsR hszR
   refine hrep.mono ?_
   clear hrep
   rintro e w4 ⟨rfl, hb4⟩
   have HA4 := Aside0.mk (Str.builder_below HA3.out hb4)
   have HB4 := Aside0.mk (show Below w.heap.size w w4 from below_step HB3.out hb4)
   clear hb4 HA3 HB3
   go_wp2_with (fail)
   have hlS := Str.str_length (l0.drop (k + 1)) (fun x hx => HS.out x (List.mem_of_mem_drop hx))
   refine (Tryz.Builder_WriteString _ _ _ _ _ (.inr HA4.out) (by have := HL.out; simp [Lib.byteCells, ByteArray.size_append] at *; omega) HB4.out.size).mono ?_
   rintro e w5 ⟨rfl, hA5, hb5⟩
   have HB5 := Aside0.mk (show Below w.heap.size w w5 from HB4.out.trans hb5)
   have HA5 := Aside0.mk (show Lib.BuilderAt 155 5 w.heap.size w.heap.size (.pointer (some ⟨w.heap.size, 0, none⟩)) (Lib.byteCells (Str.str (l0.drop k))) w5 by
    have e1 : Lib.byteCells (Str.str (l0.drop k)) = Lib.byteCells (Str.str (l0.drop (k + 1))) ++ Lib.byteCells (sR ++ sD).data.toList := by
     rw [Str.str_drop l0 k hk, Lib.byteCells, Lib.byteCells, Lib.byteCells, ← List.map_append]
     congr 2
     have e2 : (l0[k]'(by omega)).toNat = dk := by
      have := HD.out
      rw [List.getD_eq_getElem?_getD, List.getElem?_eq_getElem (by omega)] at this
      have h3 : l0[k]'(by omega) = (dk : Int) := this
      rw [h3]; rfl
     have hl : sD.size = (Lib.decDigits dk).length := by rw [HsD.out]; simp [ByteArray.size]
     rw [e2, Str.pad9, ← hl, ByteArray.data_append, Array.toList_append, HsR.out, HsD.out]
     dsimp only
     congr 1
     generalize 9 - (ByteArray.mk (Lib.decDigits dk).toArray).size = m
     induction m with
     | zero => rfl
     | succ m ih => rw [List.replicate_succ, ih]; rfl
    rw [e1]
    exact hA5)
   clear hA5 hb5 HA4 HB4 hlS
   go_wp2
   go_roundw
   case rel => exact ⟨k, by omega, rfl, HA5, HB5⟩
   case measure => simp [intOf]

end
def frac_Frac_Rat.f (a0_0 : Bool) (l0_1 : List Int) (l0_2 : List Int) : Option (ByteArray × ByteArray) := (nat_Nat_String.f l0_1).bind fun t255 => (if a0_0 = true then (if 1 + t255.size ≤ 9223372036854775807 then ((nat_Nat_String.f l0_2).bind fun t256 => (some ((⟨#[45]⟩ : ByteArray) ++ t255, t256))) else (none)) else ((nat_Nat_String.f l0_2).bind fun t257 => (some (t255, t257))))
set_option maxHeartbeats 8000000 in
set_option maxRecDepth 100000 in
theorem frac_Frac_Rat.calls (a0_0 : Bool) (A0_1 : Option Addr) (c0_1 : Nat) (l0_1 : List Int) (A0_2 : Option Addr) (c0_2 : Nat) (l0_2 : List Int) (r1 : ByteArray) (r2 : ByteArray) (w : World) (hr0_1 : Kd.C (Kd.int .u32) w A0_1 l0_1.length l0_1) (hc0_1 : l0_1.length ≤ c0_1) (hr0_2 : Kd.C (Kd.int .u32) w A0_2 l0_2.length l0_2) (hc0_2 : l0_2.length ≤ c0_2) (hG : Tryz.Gl w) (h : frac_Frac_Rat.f a0_0 l0_1 l0_2 = some (r1, r2)) :
  Calls Tryz.prog 96 #[.agg #[.bool a0_0, .slice A0_1 l0_1.length c0_1, .slice A0_2 l0_2.length c0_2]] w fun e w' => e = .returned (.agg #[.string r1, .string r2]) ∧ Below w.heap.size w w' := by
 have hu103 := Tryz.underlying103
 have hu61 := Tryz.underlying61
 have HG := Aside0.mk hG
 clear hG
 have HR0_1 := Aside0.mk hr0_1
 have HC0_1 := Aside0.mk hc0_1
 clear hr0_1 hc0_1
 have HR0_2 := Aside0.mk hr0_2
 have HC0_2 := Aside0.mk hc0_2
 clear hr0_2 hc0_2
 have HB := Aside0.mk (Below.refl w.heap.size w)
 have H : ((nat_Nat_String.f l0_1).bind fun t255 => (if a0_0 = true then (if 1 + t255.size ≤ 9223372036854775807 then ((nat_Nat_String.f l0_2).bind fun t256 => (some ((⟨#[45]⟩ : ByteArray) ++ t255, t256))) else (none)) else ((nat_Nat_String.f l0_2).bind fun t257 => (some (t255, t257))))) = some (r1, r2) := h
 clear h
 obtain ⟨t255, A2, H⟩ := zB H
 by_cases c3 : a0_0 = true
 ·subst c3
  have H1 : (if 1 + t255.size ≤ 9223372036854775807 then ((nat_Nat_String.f l0_2).bind fun t256 => (some ((⟨#[45]⟩ : ByteArray) ++ t255, t256))) else (none)) = some (r1, r2) := by rw [if_pos rfl] at H; exact H
  clear H
  have H := H1
  clear H1
  by_cases c4 : 1 + t255.size ≤ 9223372036854775807
  ·rw [if_pos c4] at H
   have c4b0 := eq_true c4
   have c4b1 : decide (1 + t255.size ≤ 9223372036854775807) = true := decide_eq_true c4
   try have c4b2 : (9223372036854775807 < 1 + t255.size) = False := eq_false (Nat.not_lt.2 c4)
   obtain ⟨t256, A5, H⟩ := zB H
   simp only [Option.some.injEq, Prod.mk.injEq] at H
   obtain ⟨rfl, rfl⟩ := H
   go_enter Tryz.func96, Tryz.ntmps96
   go_wp2_with (first | ((with_reducible refine gate_dst (N := 1) rfl ?_); refine box_ev 1 #[.bool true, .slice A0_1 l0_1.length c0_1, .slice A0_2 l0_2.length c0_2] 103 ?_; intro gb253 hg w6 hbox hb; have BK253 := Aside0.mk (hbox); have GW253 := sG hg; have GE253 := sG hg; replace HB := sB hb; clear hb hbox hg) | ((with_reducible refine gate_dst (N := 2) rfl ?_); refine box_ev 2 #[.string (⟨#[]⟩ : ByteArray), .string (⟨#[]⟩ : ByteArray)] 61 ?_; intro gb254 hg w7 hbox hb; have BK254 := Aside0.mk (hbox); have GW254 := sG hg; have GE254 := sG hg; replace HB := sB hb; have NB253_254 := Aside0.mk ((by rw [hg]; exact Nat.ne_of_lt (blk_lt (g := gb253) (o := .cells #[.bool true, .slice A0_1 l0_1.length c0_1, .slice A0_2 l0_2.length c0_2] 103 (0, 0)) (zb BK253)) : gb253 ≠ gb254)); have NB254_253 := Aside0.mk ((by rw [hg]; exact Nat.ne_of_gt (blk_lt (g := gb253) (o := .cells #[.bool true, .slice A0_1 l0_1.length c0_1, .slice A0_2 l0_2.length c0_2] 103 (0, 0)) (zb BK253)) : gb254 ≠ gb253)); replace BK253 := sK BK253 hb; clear hb hbox hg; have hnb8 := NB253_254.out; have hnc8 := NB254_253.out; obtain ⟨hcz9_0, hfz9_0⟩ := zc BK253 0 (.bool true) rfl; obtain ⟨hcz9_1, hfz9_1⟩ := zc BK253 1 (.slice A0_1 l0_1.length c0_1) rfl; obtain ⟨hcz9_2, hfz9_2⟩ := zc BK253 2 (.slice A0_2 l0_2.length c0_2) rfl) | (refine zg (some 6) Tryz.func135 #[.slice A0_1 l0_1.length c0_1] ?_; (with_reducible refine (nat_Nat_String.calls _ _ l0_1 t255 _ ?side1 ?side2 ?side3 A2.out).mono ?_); (case side1 => exact zC (Kd.C_below HR0_1.out HB.out)); (case side2 => exact HC0_1.out); (case side3 => exact Tryz.Gl.below HG.out bw); rintro e w10 ⟨rfl, hb⟩; refine ⟨_, rfl, ?_⟩; replace BK253 := sK BK253 hb; replace BK254 := sK BK254 hb; replace HB := sB hb; clear hb; obtain ⟨hcz11_0, hfz11_0⟩ := zc BK253 0 (.bool true) rfl; obtain ⟨hcz11_1, hfz11_1⟩ := zc BK253 1 (.slice A0_1 l0_1.length c0_1) rfl; obtain ⟨hcz11_2, hfz11_2⟩ := zc BK253 2 (.slice A0_2 l0_2.length c0_2) rfl) | (refine zg (some 14) Tryz.func135 #[.slice A0_2 l0_2.length c0_2] ?_; (with_reducible refine (nat_Nat_String.calls _ _ l0_2 t256 _ ?side1 ?side2 ?side3 A5.out).mono ?_); (case side1 => exact zC (Kd.C_below HR0_2.out HB.out)); (case side2 => exact HC0_2.out); (case side3 => exact Tryz.Gl.below HG.out bw); rintro e w12 ⟨rfl, hb⟩; refine ⟨_, rfl, ?_⟩; replace BK253 := sK BK253 hb; replace BK254 := sK BK254 hb; replace HB := sB hb; clear hb; obtain ⟨hcz13_0, hfz13_0⟩ := zc BK254 0 (.string (⟨#[]⟩ : ByteArray)) rfl; obtain ⟨hcz13_1, hfz13_1⟩ := zc BK254 1 (.string (⟨#[]⟩ : ByteArray)) rfl))
   refine bodyPost_ret (results_cell_row rfl _ _ gb254 61 #[.string ((⟨#[45]⟩ : ByteArray) ++ t255), .string t256] (0, 0) _ rfl (zp BK254) Tryz.underlying61 rfl (by kernel_rfl)) rfl ?_
   exact ⟨ze, bw⟩
  ·rw [if_neg c4] at H
   cases H
 ·replace c3 := Bool.eq_false_iff.mpr c3
  subst c3
  have H1 : ((nat_Nat_String.f l0_2).bind fun t257 => (some (t255, t257))) = some (r1, r2) := by rw [if_neg (show ¬ (false = true) by decide)] at H; exact H
  clear H
  have H := H1
  clear H1
  obtain ⟨t257, A14, H⟩ := zB H
  simp only [Option.some.injEq, Prod.mk.injEq] at H
  obtain ⟨rfl, rfl⟩ := H
  go_enter Tryz.func96, Tryz.ntmps96
  go_wp2_with (first | ((with_reducible refine gate_dst (N := 1) rfl ?_); refine box_ev 1 #[.bool false, .slice A0_1 l0_1.length c0_1, .slice A0_2 l0_2.length c0_2] 103 ?_; intro gb253 hg w15 hbox hb; have BK253 := Aside0.mk (hbox); have GW253 := sG hg; have GE253 := sG hg; replace HB := sB hb; clear hb hbox hg) | ((with_reducible refine gate_dst (N := 2) rfl ?_); refine box_ev 2 #[.string (⟨#[]⟩ : ByteArray), .string (⟨#[]⟩ : ByteArray)] 61 ?_; intro gb254 hg w16 hbox hb; have BK254 := Aside0.mk (hbox); have GW254 := sG hg; have GE254 := sG hg; replace HB := sB hb; have NB253_254 := Aside0.mk ((by rw [hg]; exact Nat.ne_of_lt (blk_lt (g := gb253) (o := .cells #[.bool false, .slice A0_1 l0_1.length c0_1, .slice A0_2 l0_2.length c0_2] 103 (0, 0)) (zb BK253)) : gb253 ≠ gb254)); have NB254_253 := Aside0.mk ((by rw [hg]; exact Nat.ne_of_gt (blk_lt (g := gb253) (o := .cells #[.bool false, .slice A0_1 l0_1.length c0_1, .slice A0_2 l0_2.length c0_2] 103 (0, 0)) (zb BK253)) : gb254 ≠ gb253)); replace BK253 := sK BK253 hb; clear hb hbox hg; have hnb17 := NB253_254.out; have hnc17 := NB254_253.out; obtain ⟨hcz18_0, hfz18_0⟩ := zc BK253 0 (.bool false) rfl; obtain ⟨hcz18_1, hfz18_1⟩ := zc BK253 1 (.slice A0_1 l0_1.length c0_1) rfl; obtain ⟨hcz18_2, hfz18_2⟩ := zc BK253 2 (.slice A0_2 l0_2.length c0_2) rfl) | (refine zg (some 6) Tryz.func135 #[.slice A0_1 l0_1.length c0_1] ?_; (with_reducible refine (nat_Nat_String.calls _ _ l0_1 t255 _ ?side1 ?side2 ?side3 A2.out).mono ?_); (case side1 => exact zC (Kd.C_below HR0_1.out HB.out)); (case side2 => exact HC0_1.out); (case side3 => exact Tryz.Gl.below HG.out bw); rintro e w19 ⟨rfl, hb⟩; refine ⟨_, rfl, ?_⟩; replace BK253 := sK BK253 hb; replace BK254 := sK BK254 hb; replace HB := sB hb; clear hb; obtain ⟨hcz20_0, hfz20_0⟩ := zc BK253 0 (.bool false) rfl; obtain ⟨hcz20_1, hfz20_1⟩ := zc BK253 1 (.slice A0_1 l0_1.length c0_1) rfl; obtain ⟨hcz20_2, hfz20_2⟩ := zc BK253 2 (.slice A0_2 l0_2.length c0_2) rfl) | (refine zg (some 14) Tryz.func135 #[.slice A0_2 l0_2.length c0_2] ?_; (with_reducible refine (nat_Nat_String.calls _ _ l0_2 t257 _ ?side1 ?side2 ?side3 A14.out).mono ?_); (case side1 => exact zC (Kd.C_below HR0_2.out HB.out)); (case side2 => exact HC0_2.out); (case side3 => exact Tryz.Gl.below HG.out bw); rintro e w21 ⟨rfl, hb⟩; refine ⟨_, rfl, ?_⟩; replace BK253 := sK BK253 hb; replace BK254 := sK BK254 hb; replace HB := sB hb; clear hb; obtain ⟨hcz22_0, hfz22_0⟩ := zc BK254 0 (.string (⟨#[]⟩ : ByteArray)) rfl; obtain ⟨hcz22_1, hfz22_1⟩ := zc BK254 1 (.string (⟨#[]⟩ : ByteArray)) rfl))
  refine bodyPost_ret (results_cell_row rfl _ _ gb254 61 #[.string t255, .string t257] (0, 0) _ rfl (zp BK254) Tryz.underlying61 rfl (by kernel_rfl)) rfl ?_
  exact ⟨ze, bw⟩

def num_Make.f (k : Nat) (a0 : Int) (a1 : Int) : Option (ByteArray × ByteArray × Int) := if a1 = 0 then (some ((⟨#[]⟩ : ByteArray), (⟨#[]⟩ : ByteArray), 23)) else ((frac_Quotient.f k a0 a1).bind fun bt259 => ((frac_Frac_Rat.f bt259.1 bt259.2.1 bt259.2.2).bind fun bt266 => (some (bt266.1, bt266.2, 0))))
theorem num_Make.mono : ∀ a0 a1 k, LeO (num_Make.f k a0 a1) (num_Make.f (k + 1) a0 a1) := by
 intro a0 a1 k
 unfold num_Make.f
 have m0 := frac_Quotient.mono
 exact zM
set_option maxHeartbeats 8000000 in
set_option maxRecDepth 100000 in
theorem num_Make.calls (k : Nat) (a0 : Int) (a1 : Int) (r1 : ByteArray) (r2 : ByteArray) (r3 : Int) (w : World) (hG : Tryz.Gl w) (h : num_Make.f k a0 a1 = some (r1, r2, r3)) :
  Calls Tryz.prog 46 #[.int .i64 a0, .int .i64 a1] w fun e w' => e = .returned (.tuple #[.agg #[.string r1, .string r2], .int .i64 r3]) ∧ Below w.heap.size w w' := by
 have hu61 := Tryz.underlying61
 have HG := Aside0.mk hG
 clear hG
 have HB := Aside0.mk (Below.refl w.heap.size w)
 have H : (if a1 = 0 then (some ((⟨#[]⟩ : ByteArray), (⟨#[]⟩ : ByteArray), 23)) else ((frac_Quotient.f k a0 a1).bind fun bt259 => ((frac_Frac_Rat.f bt259.1 bt259.2.1 bt259.2.2).bind fun bt266 => (some (bt266.1, bt266.2, 0))))) = some (r1, r2, r3) := h
 clear h
 by_cases c3 : a1 = 0
 ·rw [if_pos c3] at H
  have c3b0 : (a1 == 0) = true := beq_iff_eq.mpr c3
  have c3b1 : (a1 != 0) = false := bne_eq_false_iff_eq.mpr c3
  clear c3
  simp only [Option.some.injEq, Prod.mk.injEq] at H
  obtain ⟨rfl, rfl, rfl⟩ := H
  go_enter Tryz.func46, Tryz.ntmps46
  go_wp2_with (first | ((with_reducible refine gate_dst (N := 4) rfl ?_); refine box_ev 4 #[.string (⟨#[]⟩ : ByteArray), .string (⟨#[]⟩ : ByteArray)] 61 ?_; intro gb258 hg w4 hbox hb; have BK258 := Aside0.mk (hbox); have GW258 := sG hg; have GE258 := sG hg; replace HB := sB hb; clear hb hbox hg; obtain ⟨hcz5_0, hfz5_0⟩ := zc BK258 0 (.string (⟨#[]⟩ : ByteArray)) rfl; obtain ⟨hcz5_1, hfz5_1⟩ := zc BK258 1 (.string (⟨#[]⟩ : ByteArray)) rfl))
  refine bodyPost_ret (results_ct rfl _ _ gb258 61 #[.string (⟨#[]⟩ : ByteArray), .string (⟨#[]⟩ : ByteArray)] (0, 0) _ rfl (zp BK258) Tryz.underlying61 rfl (by kernel_rfl)) rfl ?_
  exact ⟨ze, bw⟩
 ·rw [if_neg c3] at H
  have c3b0 : (a1 == 0) = false := beq_eq_false_iff_ne.mpr c3
  have c3b1 : (a1 != 0) = true := bne_iff_ne.mpr c3
  replace H := Option.bind_eq_some_iff.mp H
  obtain ⟨⟨t259, t260, t263⟩, A60, H⟩ := H
  replace H : ((frac_Frac_Rat.f t259 t260 t263).bind fun bt266 => (some (bt266.1, bt266.2, 0))) = some (r1, r2, r3) := H
  have A6 := Aside0.mk A60
  clear A60
  replace H := Option.bind_eq_some_iff.mp H
  obtain ⟨⟨t266, t267⟩, A70, H⟩ := H
  replace H : (some (t266, t267, 0)) = some (r1, r2, r3) := H
  have A7 := Aside0.mk A70
  clear A70
  simp only [Option.some.injEq, Prod.mk.injEq] at H
  obtain ⟨rfl, rfl, rfl⟩ := H
  go_enter Tryz.func46, Tryz.ntmps46
  go_wp2_with (first | ((with_reducible refine gate_dst (N := 4) rfl ?_); refine box_ev 4 #[.string (⟨#[]⟩ : ByteArray), .string (⟨#[]⟩ : ByteArray)] 61 ?_; intro gb258 hg w8 hbox hb; have BK258 := Aside0.mk (hbox); have GW258 := sG hg; have GE258 := sG hg; replace HB := sB hb; clear hb hbox hg) | (refine zg (some 11) Tryz.func95 #[.int .i64 a0, .int .i64 a1] ?_; (with_reducible refine (frac_Quotient.calls k a0 a1 t259 t260 t263 _ A6.out).mono ?_); rintro e w9 ⟨v261, v264, rfl, ho0, ho1, hb⟩; refine ⟨_, rfl, ?_⟩; have HO262 := Aside0.mk (Kd.V_lower (Kd.V_mono (ok' := fun k_ => k_ ≠ gb258) ho0 (fun k_ hk_ => (Kd.freshB (g := gb258) (o := .cells #[.string (⟨#[]⟩ : ByteArray), .string (⟨#[]⟩ : ByteArray)] 61 (0, 0)) (zb BK258) k_ hk_))) bs); have HO265 := Aside0.mk (Kd.V_lower (Kd.V_mono (ok' := fun k_ => k_ ≠ gb258) ho1 (fun k_ hk_ => (Kd.freshB (g := gb258) (o := .cells #[.string (⟨#[]⟩ : ByteArray), .string (⟨#[]⟩ : ByteArray)] 61 (0, 0)) (zb BK258) k_ hk_))) bs); replace BK258 := sK BK258 hb; replace HB := sB hb; clear hb ho0 ho1; obtain ⟨Ao10, co10, rfl⟩ := Kd.V_slice HO262.out; obtain ⟨Ao11, co11, rfl⟩ := Kd.V_slice HO265.out) | (refine zg (some 12) Tryz.func96 #[.agg #[.bool t259, .slice Ao10 t260.length co10, .slice Ao11 t263.length co11]] ?_; (with_reducible refine (frac_Frac_Rat.calls t259 _ _ t260 _ _ t263 t266 t267 _ ?side1 ?side2 ?side3 ?side4 ?side5 A7.out).mono ?_); (case side1 => exact zC (Kd.V_reads' HO262.out).2.2); (case side2 => exact (Kd.V_reads' HO262.out).2.1); (case side3 => exact zC (Kd.V_reads' HO265.out).2.2); (case side4 => exact (Kd.V_reads' HO265.out).2.1); (case side5 => exact Tryz.Gl.below HG.out bw); rintro e w12 ⟨rfl, hb⟩; refine ⟨_, rfl, ?_⟩; replace HO262 := Aside0.mk (Kd.V_below (zV HO262) hb); replace HO265 := Aside0.mk (Kd.V_below (zV HO265) hb); replace BK258 := sK BK258 hb; replace HB := sB hb; clear hb; obtain ⟨hcz13_0, hfz13_0⟩ := zc BK258 0 (.string (⟨#[]⟩ : ByteArray)) rfl; obtain ⟨hcz13_1, hfz13_1⟩ := zc BK258 1 (.string (⟨#[]⟩ : ByteArray)) rfl))
  refine bodyPost_ret (results_ct rfl _ _ gb258 61 #[.string t266, .string t267] (0, 0) _ rfl (zp BK258) Tryz.underlying61 rfl (by kernel_rfl)) rfl ?_
  exact ⟨ze, bw⟩

def stringslite_HasPrefix.f (a0 : ByteArray) (a1 : ByteArray) : Option (Bool) := if (a0.size : Int) ≥ (a1.size : Int) then (if 0 ≤ (a1.size : Int) then (if (a1.size : Int) ≤ (a0.size : Int) then (some ((a0.extract 0 ((a1.size : Int) : Int).toNat).toList == a1.toList)) else (none)) else (none)) else (some false)
set_option maxHeartbeats 8000000 in
set_option maxRecDepth 100000 in
theorem stringslite_HasPrefix.calls (a0 : ByteArray) (a1 : ByteArray) (r : Bool) (w : World) (h : stringslite_HasPrefix.f a0 a1 = some r) :
  Calls Tryz.prog 170 #[.string a0, .string a1] w fun e w' => e = .returned (.bool r) ∧ Drawn0 w w' := by
 have H : (if (a0.size : Int) ≥ (a1.size : Int) then (if 0 ≤ (a1.size : Int) then (if (a1.size : Int) ≤ (a0.size : Int) then (some ((a0.extract 0 ((a1.size : Int) : Int).toNat).toList == a1.toList)) else (none)) else (none)) else (some false)) = some r := h
 clear h
 by_cases c3 : (a0.size : Int) ≥ (a1.size : Int)
 ·rw [if_pos c3] at H
  have c3b0 : decide ((a1.size : Int) ≤ (a0.size : Int)) = true := decide_eq_true c3
  have c3b1 : decide (a1.size ≤ a0.size) = true := decide_eq_true (Int.ofNat_le.mp c3)
  clear c3
  by_cases c4 : 0 ≤ (a1.size : Int)
  ·rw [if_pos c4] at H
   have c4b0 := eq_true c4
   have c4b1 : decide (0 ≤ (a1.size : Int)) = true := decide_eq_true c4
   clear c4
   by_cases c5 : (a1.size : Int) ≤ (a0.size : Int)
   ·rw [if_pos c5] at H
    have c5b0 := eq_true c5
    have c5b1 : decide ((a1.size : Int) ≤ (a0.size : Int)) = true := decide_eq_true c5
    clear c5
    obtain rfl := Option.some.inj H
    go_enter Tryz.func170, Tryz.ntmps170
    go_wp2
    go_ret
    exact ⟨zs, by repeat (first | exact Drawn0.refl _ | apply Drawn0.step)⟩
   ·rw [if_neg c5] at H
    cases H
  ·rw [if_neg c4] at H
   cases H
 ·rw [if_neg c3] at H
  have c3b0 : decide ((a1.size : Int) ≤ (a0.size : Int)) = false := decide_eq_false c3
  have c3b1 : decide (a1.size ≤ a0.size) = false := decide_eq_false (fun h => c3 (Int.ofNat_le.mpr h))
  clear c3
  obtain rfl := Option.some.inj H
  go_enter Tryz.func170, Tryz.ntmps170
  go_wp2
  go_ret
  exact ⟨zs, by repeat (first | exact Drawn0.refl _ | apply Drawn0.step)⟩

def stringslite_CutPrefix.f (a0 : ByteArray) (a1 : ByteArray) : Option (ByteArray × Bool) := (stringslite_HasPrefix.f a0 a1).bind fun t268 => (if t268 = true then (if 0 ≤ (a1.size : Int) then (if (a1.size : Int) ≤ (a0.size : Int) then (some (a0.extract ((a1.size : Int) : Int).toNat a0.size, true)) else (none)) else (none)) else (some (a0, false)))
set_option maxHeartbeats 8000000 in
set_option maxRecDepth 100000 in
theorem stringslite_CutPrefix.calls (a0 : ByteArray) (a1 : ByteArray) (r1 : ByteArray) (r2 : Bool) (w : World) (h : stringslite_CutPrefix.f a0 a1 = some (r1, r2)) :
  Calls Tryz.prog 140 #[.string a0, .string a1] w fun e w' => e = .returned (.tuple #[.string r1, .bool r2]) ∧ Drawn0 w w' := by
 have H : ((stringslite_HasPrefix.f a0 a1).bind fun t268 => (if t268 = true then (if 0 ≤ (a1.size : Int) then (if (a1.size : Int) ≤ (a0.size : Int) then (some (a0.extract ((a1.size : Int) : Int).toNat a0.size, true)) else (none)) else (none)) else (some (a0, false)))) = some (r1, r2) := h
 clear h
 obtain ⟨t268, A3, H⟩ := zB H
 by_cases c4 : t268 = true
 ·subst c4
  have H1 : (if 0 ≤ (a1.size : Int) then (if (a1.size : Int) ≤ (a0.size : Int) then (some (a0.extract ((a1.size : Int) : Int).toNat a0.size, true)) else (none)) else (none)) = some (r1, r2) := by rw [if_pos rfl] at H; exact H
  clear H
  have H := H1
  clear H1
  by_cases c5 : 0 ≤ (a1.size : Int)
  ·rw [if_pos c5] at H
   have c5b0 := eq_true c5
   have c5b1 : decide (0 ≤ (a1.size : Int)) = true := decide_eq_true c5
   clear c5
   by_cases c6 : (a1.size : Int) ≤ (a0.size : Int)
   ·rw [if_pos c6] at H
    have c6b0 := eq_true c6
    have c6b1 : decide ((a1.size : Int) ≤ (a0.size : Int)) = true := decide_eq_true c6
    clear c6
    simp only [Option.some.injEq, Prod.mk.injEq] at H
    obtain ⟨rfl, rfl⟩ := H
    go_enter Tryz.func140, Tryz.ntmps140
    go_wp2_with (first | (refine zg (some 8) Tryz.func170 #[.string a0, .string a1] ?_; (with_reducible refine (stringslite_HasPrefix.calls a0 a1 true _ A3.out).mono ?_); rintro e w' ⟨rfl, ⟨nd, rfl⟩⟩; refine ⟨_, rfl, ?_⟩))
    go_ret2
    exact ⟨zs, by repeat (first | exact Drawn0.refl _ | apply Drawn0.step)⟩
   ·rw [if_neg c6] at H
    cases H
  ·rw [if_neg c5] at H
   cases H
 ·replace c4 := Bool.eq_false_iff.mpr c4
  subst c4
  have H1 : (some (a0, false)) = some (r1, r2) := by rw [if_neg (show ¬ (false = true) by decide)] at H; exact H
  clear H
  have H := H1
  clear H1
  simp only [Option.some.injEq, Prod.mk.injEq] at H
  obtain ⟨rfl, rfl⟩ := H
  go_enter Tryz.func140, Tryz.ntmps140
  go_wp2_with (first | (refine zg (some 8) Tryz.func170 #[.string a0, .string a1] ?_; (with_reducible refine (stringslite_HasPrefix.calls a0 a1 false _ A3.out).mono ?_); rintro e w' ⟨rfl, ⟨nd, rfl⟩⟩; refine ⟨_, rfl, ?_⟩))
  go_ret2
  exact ⟨zs, by repeat (first | exact Drawn0.refl _ | apply Drawn0.step)⟩

def strings_CutPrefix.f (a0 : ByteArray) (a1 : ByteArray) : Option (ByteArray × Bool) := (stringslite_CutPrefix.f a0 a1).bind fun bt269 => (some (bt269.1, bt269.2))
set_option maxHeartbeats 8000000 in
set_option maxRecDepth 100000 in
theorem strings_CutPrefix.calls (a0 : ByteArray) (a1 : ByteArray) (r1 : ByteArray) (r2 : Bool) (w : World) (h : strings_CutPrefix.f a0 a1 = some (r1, r2)) :
  Calls Tryz.prog 102 #[.string a0, .string a1] w fun e w' => e = .returned (.tuple #[.string r1, .bool r2]) ∧ Drawn0 w w' := by
 have H : ((stringslite_CutPrefix.f a0 a1).bind fun bt269 => (some (bt269.1, bt269.2))) = some (r1, r2) := h
 clear h
 replace H := Option.bind_eq_some_iff.mp H
 obtain ⟨⟨t269, t270⟩, A30, H⟩ := H
 replace H : (some (t269, t270)) = some (r1, r2) := H
 have A3 := Aside0.mk A30
 clear A30
 simp only [Option.some.injEq, Prod.mk.injEq] at H
 obtain ⟨rfl, rfl⟩ := H
 go_enter Tryz.func102, Tryz.ntmps102
 go_wp2_with (first | (refine zg (some 8) Tryz.func140 #[.string a0, .string a1] ?_; (with_reducible refine (stringslite_CutPrefix.calls a0 a1 t269 t270 _ A3.out).mono ?_); rintro e w' ⟨rfl, ⟨nd, rfl⟩⟩; refine ⟨_, rfl, ?_⟩))
 go_ret2
 exact ⟨zs, by repeat (first | exact Drawn0.refl _ | apply Drawn0.step)⟩

section
def strings_Trim.f (a0 : ByteArray) (a1 : ByteArray) : Option ByteArray := if a0.size ≤ 9223372036854775807 ∧ a1.size < 4294967281 ∧ a1.data.toList.all (fun b => decide (b.toNat < 128)) = true then some ⟨(Lib.trimS a0.data.toList a1.data.toList).toArray⟩ else none
theorem strings_Trim.calls (a0 : ByteArray) (a1 : ByteArray) (r : ByteArray) (w : World) (h : strings_Trim.f a0 a1 = some r) :
  Calls Tryz.prog 142 #[.string a0, .string a1] w fun e w' => e = .returned (.string r) ∧ Below w.heap.size w w' := by
 unfold strings_Trim.f at h
 by_cases c : a0.size ≤ 9223372036854775807 ∧ a1.size < 4294967281 ∧ a1.data.toList.all (fun b => decide (b.toNat < 128)) = true
 ·rw [if_pos c] at h
  obtain rfl := Option.some.inj h
  exact Any.strings_Trim_laid Tryz.lays160 (by kernel_rfl) a0 a1 w c.1 c.2.1 (ascii_of_all c.2.2)
 ·rw [if_neg c] at h; cases h

end
def num_digits.f (a0 : ByteArray) : Option (Bool) := if a0.toList = ([] : List UInt8) then (some false) else ((strings_Trim.f a0 (⟨#[48, 49, 50, 51, 52, 53, 54, 55, 56, 57]⟩ : ByteArray)).bind fun t271 => (if t271.toList = ([] : List UInt8) then (if 0 < (a0.size : Int) then (if (bt a0 0) = 48 then (some (a0.toList == ([48] : List UInt8))) else (some true)) else (none)) else (some false)))
set_option maxHeartbeats 8000000 in
set_option maxRecDepth 100000 in
theorem num_digits.calls (a0 : ByteArray) (r : Bool) (w : World) (h : num_digits.f a0 = some r) :
  Calls Tryz.prog 106 #[.string a0] w fun e w' => e = .returned (.bool r) ∧ Below w.heap.size w w' := by
 have HB := Aside0.mk (Below.refl w.heap.size w)
 have H : (if a0.toList = ([] : List UInt8) then (some false) else ((strings_Trim.f a0 (⟨#[48, 49, 50, 51, 52, 53, 54, 55, 56, 57]⟩ : ByteArray)).bind fun t271 => (if t271.toList = ([] : List UInt8) then (if 0 < (a0.size : Int) then (if (bt a0 0) = 48 then (some (a0.toList == ([48] : List UInt8))) else (some true)) else (none)) else (some false)))) = some r := h
 clear h
 by_cases c2 : a0.toList = ([] : List UInt8)
 ·rw [if_pos c2] at H
  have c2b0 : (a0.toList == ([] : List UInt8)) = true := beq_iff_eq.mpr c2
  have c2b1 : (a0.toList != ([] : List UInt8)) = false := bne_eq_false_iff_eq.mpr c2
  clear c2
  obtain rfl := Option.some.inj H
  go_enter Tryz.func106, Tryz.ntmps106
  go_wp2
  go_ret
  exact ⟨ze, bw⟩
 ·rw [if_neg c2] at H
  have c2b0 : (a0.toList == ([] : List UInt8)) = false := beq_eq_false_iff_ne.mpr c2
  have c2b1 : (a0.toList != ([] : List UInt8)) = true := bne_iff_ne.mpr c2
  obtain ⟨t271, A3, H⟩ := zB H
  by_cases c4 : t271.toList = ([] : List UInt8)
  ·rw [if_pos c4] at H
   have c4b0 : (t271.toList == ([] : List UInt8)) = true := beq_iff_eq.mpr c4
   have c4b1 : (t271.toList != ([] : List UInt8)) = false := bne_eq_false_iff_eq.mpr c4
   clear c4
   by_cases c5 : 0 < (a0.size : Int)
   ·rw [if_pos c5] at H
    have c5b0 : decide (0 < (a0.size : Int)) = true := decide_eq_true c5
    have c5b1 : decide (0 < a0.size) = true := decide_eq_true (by omega)
    clear c5
    by_cases c7 : (bt a0 0) = 48
    ·rw [if_pos c7] at H
     have c7b0 : ((bt a0 0) == 48) = true := beq_iff_eq.mpr c7
     have c7b1 : ((bt a0 0) != 48) = false := bne_eq_false_iff_eq.mpr c7
     clear c7
     obtain rfl := Option.some.inj H
     go_enter Tryz.func106, Tryz.ntmps106
     go_wp2_with (first | (go_at_call 142; (with_reducible refine (strings_Trim.calls a0 (⟨#[48, 49, 50, 51, 52, 53, 54, 55, 56, 57]⟩ : ByteArray) t271 _ A3.out).mono ?_); rintro e w8 ⟨rfl, hb⟩; replace HB := sB hb; clear hb; have p6 : 0 ≤ (0 : Int) := (by omega); have q6 : 0 < a0.size := (by have : (0 : Int) < (a0.size : Int) := zd; omega); have hx6 : ∀ h : 0 < a0.size, ((a0[0]'h).toNat : Int) = bt a0 0 := bt_at a0 0; clear p6; have qi6 : (0 < (a0.size : Int)) = True := eq_true (zd); replace q6 := eq_true q6))
     go_ret
     exact ⟨ze, bw⟩
    ·rw [if_neg c7] at H
     have c7b0 : ((bt a0 0) == 48) = false := beq_eq_false_iff_ne.mpr c7
     have c7b1 : ((bt a0 0) != 48) = true := bne_iff_ne.mpr c7
     obtain rfl := Option.some.inj H
     go_enter Tryz.func106, Tryz.ntmps106
     go_wp2_with (first | (go_at_call 142; (with_reducible refine (strings_Trim.calls a0 (⟨#[48, 49, 50, 51, 52, 53, 54, 55, 56, 57]⟩ : ByteArray) t271 _ A3.out).mono ?_); rintro e w9 ⟨rfl, hb⟩; replace HB := sB hb; clear hb; have p6 : 0 ≤ (0 : Int) := (by omega); have q6 : 0 < a0.size := (by have : (0 : Int) < (a0.size : Int) := zd; omega); have hx6 : ∀ h : 0 < a0.size, ((a0[0]'h).toNat : Int) = bt a0 0 := bt_at a0 0; clear p6; have qi6 : (0 < (a0.size : Int)) = True := eq_true (zd); replace q6 := eq_true q6))
     go_ret
     exact ⟨ze, bw⟩
   ·rw [if_neg c5] at H
    cases H
  ·rw [if_neg c4] at H
   have c4b0 : (t271.toList == ([] : List UInt8)) = false := beq_eq_false_iff_ne.mpr c4
   have c4b1 : (t271.toList != ([] : List UInt8)) = true := bne_iff_ne.mpr c4
   obtain rfl := Option.some.inj H
   go_enter Tryz.func106, Tryz.ntmps106
   go_wp2_with (first | (go_at_call 142; (with_reducible refine (strings_Trim.calls a0 (⟨#[48, 49, 50, 51, 52, 53, 54, 55, 56, 57]⟩ : ByteArray) t271 _ A3.out).mono ?_); rintro e w10 ⟨rfl, hb⟩; replace HB := sB hb; clear hb))
   go_ret
   exact ⟨ze, bw⟩

section
def strconv_ParseUint.f (a0 : ByteArray) (a1 : Int) (a2 : Int) : Option (Int × Option Int) :=
 if a0.size ≤ 9223372036854775806 ∧ a1 = 10 ∧ a2 = 32 then (match Lib.parseUintB 32 a0.data.toList with
  | .ok u => some ((u : Int), none)
  | _ => none) else none
theorem strconv_ParseUint.calls (a0 : ByteArray) (a1 : Int) (a2 : Int) (r1 : Int) (r2 : Option Int) (w : World) (h : strconv_ParseUint.f a0 a1 a2 = some (r1, r2)) :
  Calls Tryz.prog 146 #[.string a0, .int .i64 a1, .int .i64 a2] w fun e w' => e = .returned (.tuple #[.int .u64 r1, errW r2]) ∧ Below w.heap.size w w' := by
 unfold strconv_ParseUint.f at h
 by_cases c : a0.size ≤ 9223372036854775806 ∧ a1 = 10 ∧ a2 = 32
 case neg => rw [if_neg c] at h; cases h
 rw [if_pos c] at h
 obtain ⟨hs, rfl, rfl⟩ := c
 cases hp : Lib.parseUintB 32 a0.data.toList with
 | ok u =>
  rw [hp] at h
  simp only [Option.some.injEq, Prod.mk.injEq] at h
  obtain ⟨rfl, rfl⟩ := h
  refine (Tryz.strconv_ParseUint_10_at32_ok a0 hs u hp w).mono ?_
  rintro e w' ⟨rfl, rfl | rfl⟩
  ·exact ⟨rfl, Below.refl _ _⟩
  ·exact ⟨rfl, Lib.bytesWorld_below _ _ _⟩
 | _ => rw [hp] at h; cases h

end
def nat_Parse.l0 : Nat → ByteArray → List Int → Int → Option (List Int)
 | 0, _, _, _ => none
 | k + 1, x0, x3, x4 => if x4 > 0 then (if 0 ≤ (mx (wrap64 (x4 - 9)) 0) then (if (mx (wrap64 (x4 - 9)) 0) ≤ x4 then (if x4 ≤ (x0.size : Int) then ((strconv_ParseUint.f (x0.extract ((mx (wrap64 (x4 - 9)) 0) : Int).toNat (x4 : Int).toNat) 10 32).bind fun bt272 => (if x3.length < 35184372088832 then (nat_Parse.l0 k x0 (x3 ++ [(bt272.1) % 4294967296]) (wrap64 (x4 - 9))) else (none))) else (none)) else (none)) else (none)) else ((nat_trim.f k x3).bind fun t277 => (some t277))
def nat_Parse.f (k : Nat) (a0 : ByteArray) : Option (List Int) := nat_Parse.l0 k a0 ([] : List Int) (a0.size : Int)
theorem nat_Parse.mono_l : ∀ k, (∀ y0 y1 y2, LeO (nat_Parse.l0 k y0 y1 y2) (nat_Parse.l0 (k + 1) y0 y1 y2))
 | 0 => fun _ _ _ r h => by simp [nat_Parse.l0] at h
 | k + 1 => by
  have ih0 := nat_Parse.mono_l k
  ·intro y0 y1 y2
   unfold nat_Parse.l0
   have m0 := nat_trim.mono
   exact zM
theorem nat_Parse.mono : ∀ a0 k, LeO (nat_Parse.f k a0) (nat_Parse.f (k + 1) a0) := by
 intro a0 k
 have ih0 := nat_Parse.mono_l k
 unfold nat_Parse.f
 have m0 := nat_trim.mono
 exact zM
set_option maxHeartbeats 8000000 in
set_option maxRecDepth 100000 in
theorem nat_Parse.calls (k : Nat) (a0 : ByteArray) (r : List Int) (w : World) (h : nat_Parse.f k a0 = some r) :
  Calls Tryz.prog 108 #[.string a0] w fun e w' => ∃ v0_ : Value, e = .returned (v0_) ∧ Kd.V (Kd.int .u32) 97 w' w.heap.size (fun k_ => (w.heap.size ≤ k_)) v0_ r ∧ Below w.heap.size w w' := by
 have HB := Aside0.mk (Below.refl w.heap.size w)
 have H : (nat_Parse.l0 k a0 ([] : List Int) (a0.size : Int)) = some r := h
 clear h
 have H' := Aside0.mk H
 clear H
 go_enter Tryz.func108, Tryz.ntmps108
 go_wp2
 go_loopg [3, 4] k (fun kq v3 v4 w' => ∃ (x3_1 : List Int) (x4_1 : Int), v4 = .int .i64 x4_1 ∧ Aside0 (nat_Parse.l0 kq a0 x3_1 x4_1 = some r) ∧ Aside0 (kq ≤ k) ∧ Aside0 (Kd.R (Kd.int .u32) 97 w' w.heap.size (fun k_ => (w.heap.size ≤ k_)) v3 x3_1) ∧ Aside0 (Below w.heap.size w w'))
 case atStart => exact ⟨(([] : List Int)), ((a0.size : Int)), zs, H', ⟨Nat.le_refl _⟩, ⟨by first | exact Kd.R_nil _ _ _ _ _ | exact Kd.N_nil _ _ _ _ _ | exact Kd.V_nil _ _ _ _ _ | exact Kd.Q_nil _ _ _ _ _ | exact Kd.S_nil _ _ _ _ _⟩, ⟨bw⟩⟩
 case round =>
  clear H'
  try clear c1
  obtain ⟨x3_1, x4_1, rfl, HA, HK1, HO_3, HB⟩ := hrel
  cases gk with
  | zero => exact absurd HA.out (by simp [nat_Parse.l0])
  | succ k1 =>
   have H := HA.out
   clear HA
   simp only [nat_Parse.l0] at H
   by_cases c2 : x4_1 > 0
   ·rw [if_pos c2] at H
    have c2b0 : decide (0 < x4_1) = true := decide_eq_true c2
    clear c2
    obtain ⟨ji3, hji3⟩ : ∃ j_ : Int, (mx (wrap64 (x4_1 - 9)) 0) = j_ := ⟨_, rfl⟩
    replace H : (if 0 ≤ (ji3) then (if (ji3) ≤ x4_1 then (if x4_1 ≤ (a0.size : Int) then ((strconv_ParseUint.f (a0.extract ((ji3) : Int).toNat (x4_1 : Int).toNat) 10 32).bind fun bt272 => (if x3_1.length < 35184372088832 then (nat_Parse.l0 k1 a0 (x3_1 ++ [(bt272.1) % 4294967296]) (wrap64 (x4_1 - 9))) else (none))) else (none)) else (none)) else (none)) = some r := by first | (rw [hji3] at H; exact H) | (simp only [hji3] at H ⊢; exact H)
    have hji3_ : (if (wrap64 (x4_1 - 9)) < 0 then 0 else (wrap64 (x4_1 - 9))) = ji3 := hji3
    by_cases c4 : 0 ≤ (ji3)
    ·rw [if_pos c4] at H
     have c4b0 := eq_true c4
     have c4b1 : decide (0 ≤ (ji3)) = true := decide_eq_true c4
     clear c4
     by_cases c5 : (ji3) ≤ x4_1
     ·rw [if_pos c5] at H
      have c5b0 := eq_true c5
      have c5b1 : decide ((ji3) ≤ x4_1) = true := decide_eq_true c5
      clear c5
      by_cases c6 : x4_1 ≤ (a0.size : Int)
      ·rw [if_pos c6] at H
       have c6b0 := eq_true c6
       have c6b1 : decide (x4_1 ≤ (a0.size : Int)) = true := decide_eq_true c6
       clear c6
       replace H := Option.bind_eq_some_iff.mp H
       obtain ⟨⟨t272, t273⟩, A70, H⟩ := H
       replace H : (if x3_1.length < 35184372088832 then (nat_Parse.l0 k1 a0 (x3_1 ++ [(t272) % 4294967296]) (wrap64 (x4_1 - 9))) else (none)) = some r := H
       have A7 := Aside0.mk A70
       clear A70
       by_cases c8 : x3_1.length < 35184372088832
       ·rw [if_pos c8] at H
        have LMc8 := Aside0.mk c8
        clear c8
        obtain ⟨y274, hy274⟩ : ∃ y_ : List Int, y_ = (x3_1 ++ [(t272) % 4294967296]) := ⟨_, rfl⟩
        replace H : (nat_Parse.l0 k1 a0 y274 (wrap64 (x4_1 - 9))) = some r := zy hy274 H
        have Ny274 := Aside0.mk hy274
        clear hy274
        have H' := Aside0.mk H
        clear H
        go_wp2_with (first | ((with_reducible refine gate_callee (f := 146) rfl ?_); refine goesL_ (some 20) rfl rfl Tryz.func146 (by kernel_rfl) rfl #[.string (a0.extract ((ji3) : Int).toNat (x4_1 : Int).toNat), .int .i64 10, .int .i64 32] rfl (by (try simp only [List.map_toArray, List.map_cons, List.map_nil]); first | done | (simp only [hji3]; rfl) | rfl | (simp only [List.length_drop, List.length_take]; rfl)) ?_; (with_reducible refine (strconv_ParseUint.calls (a0.extract ((ji3) : Int).toNat (x4_1 : Int).toNat) 10 32 t272 t273 _ A7.out).mono ?_); rintro e w9 ⟨rfl, hb⟩; refine ⟨_, rfl, ?_⟩; replace HO_3 := Aside0.mk (Kd.R_below (zR HO_3) hb); replace HB := sB hb; clear hb; (try simp only [errW_none, errW_some])) | ((with_reducible refine gate_builtin (b := .append) (xs := #[.tmp 23, .tmp 26]) rfl ?_); at_builtin; refine Kd.R_append (Kd.int .u32) (w0 := w) w.heap.size rfl (.tmp 23) (.tmp 26) 101 97 (.int .u32 0) 4 rfl Tryz.underlying101 info97 rfl (by decide) (by omega) u3 x3_1 ((t272) % 4294967296) [.int .u32 ((t272) % 4294967296)] (fun k_ => (w.heap.size ≤ k_)) (fun _ => False) rfl rfl ?aP (fun _ hk => hk.elim) ?aF ?aO ?aB ?aS ?aL ?_; (case aP => exact rfl); (case aB => exact bw); (case aF => exact (fun k_ hk => (Nat.le_trans bs hk))); (case aO => exact (zR HO_3)); (case aS => exact bs); (case aL => have := LMc8.out; omega); intro v275 w10 ho hb hg hat; rw [← Ny274.out] at ho; replace HB := Aside0.mk (hb); have HO276 := Aside0.mk (ho); clear HO_3; clear ho hb hg hat))
        go_roundg k1
        case measure => have := HK1.out; omega
        case rel => exact ⟨(y274), (wrap64 (x4_1 - 9)), zs, H', ⟨by have := HK1.out; omega⟩, ⟨zR HO276⟩, ⟨bw⟩⟩
       ·rw [if_neg c8] at H
        cases H
      ·rw [if_neg c6] at H
       cases H
     ·rw [if_neg c5] at H
      cases H
    ·rw [if_neg c4] at H
     cases H
   ·rw [if_neg c2] at H
    have c2b0 : decide (0 < x4_1) = false := decide_eq_false c2
    clear c2
    obtain ⟨t277, A11, H⟩ := zB H
    obtain rfl := Option.some.inj H
    obtain ⟨Ao12, co12, rfl⟩ := Kd.R_slice HO_3.out
    go_wp2_with (first | (refine zg (some 29) Tryz.func147 #[.slice Ao12 x3_1.length co12] ?_; (with_reducible refine (nat_trim.calls k1 (fun k_ => some k_ = (.slice Ao12 x3_1.length co12 : Value).ownBlock) _ _ x3_1 t277 _ ?side1 A11.out).mono ?_); (case side1 => exact Kd.R_V (Kd.R_tight rfl (HO_3.out))); rintro e w13 ⟨v278, rfl, ho0, hb⟩; refine ⟨_, rfl, ?_⟩; have HO279 := Aside0.mk (Kd.V_lower (Kd.V_mono (ok' := fun k_ => (w.heap.size ≤ k_)) ho0 (fun k_ hk_ => Or.elim hk_ (fun hs_ => ((HO_3.out).1 k_ hs_.symm)) (fun hn_ => (Nat.le_trans bs hn_)))) bs); replace HO_3 := Aside0.mk (Kd.R_below (zR HO_3) hb); replace HB := sB hb; clear hb ho0))
    go_ret
    exact ⟨_, ze, zV HO279, bw⟩

end Go.Proofs.YtaffkbemjbfajaaGreatDoor.PNumForms
