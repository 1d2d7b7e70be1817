-- By a program of this session (a changed copy of the kit's printer): functions of the seat as plain Lean functions, each with its proof over the machine.
import Derived.Test.YtaffkbemjbfajaaGreatDoorPNumFormsx0
import Derived.Test.YtaffkbemjbfajaaGreatDoorPNumFormsx2
import Derived.Test.YtaffkbemjbfajaaGreatDoorPNumFormsx5
namespace Go.Proofs.YtaffkbemjbfajaaGreatDoor.PNumForms
open Go.RowKit Go.Proofs.YtaffkbemjbfajaaGreatDoorW.PrintWords Go.Proofs.YtaffkbemjbfajaaGreatDoorW.PrintLast Go.Proofs.YtaffkbemjbfajaaGreatDoorW.PrintMore
attribute [local go_sem] max2_int min2_int max_two min_two max_three min_three max_four min_four   -- for this text's walks alone
set_option linter.unusedVariables false
set_option linter.unusedSimpArgs false

section
namespace Back
def seq (l : List Int) (k : Nat) : List (Int × Int) := (List.range k).map fun (j : Nat) => ((l.length : Int) - 1 - (j : Int), (l[l.length - 1 - j]?).getD 0)
theorem seq_succ (l : List Int) (k : Nat) : seq l (k + 1) = seq l k ++ [((l.length : Int) - 1 - (k : Int), (l[l.length - 1 - k]?).getD 0)] := by simp [seq, List.range_succ]
theorem seq_length (l : List Int) (k : Nat) : (seq l k).length = k := by simp [seq]
def Keep (n₀ Bs : Nat) (W W' : World) : Prop := Below n₀ W W' ∧ ∀ v, W.cell? ⟨Bs, 0, none⟩ = some v → W'.cell? ⟨Bs, 0, none⟩ = some v
theorem Keep.refl (n₀ Bs : Nat) (W : World) : Keep n₀ Bs W W := ⟨Below.refl _ _, fun _ h => h⟩
theorem Keep.trans {n₀ Bs : Nat} {A B C : World} (h : Keep n₀ Bs A B) (k : Keep n₀ Bs B C) : Keep n₀ Bs A C := ⟨h.1.trans k.1, fun v e => k.2 v (h.2 v e)⟩
theorem Keep.put {n₀ Bs : Nat} {w : World} (hn : n₀ ≤ w.heap.size) (W : World) (l : Nat) (o o' : Obj) (hl : w.heap.size ≤ l) (h : W.heap[l]? = some o) (hc : o.isCells = false) (hw : o.isWalk = false) : Keep n₀ Bs W (W.putObj l o') :=
 ⟨belowK_b hn W l o o' hl h hc hw, fun v e => cell_kept e (grownBy_putObj' W l o') (fun r e => by cases e; exact ⟨o, h, hc⟩)⟩

attribute [local go_sem] Oper.semAt_some

set_option maxRecDepth 100000 in
set_option maxHeartbeats 2000000 in
theorem back1_in (F : Fence) (n : Nat) (h8 : F.fn 204) (hro : F.round = none) (hn : 1 ≤ n) (l Bs n₀ cap : Nat) (ad : Addr) (zs : List Int) (hreach : zs.length ≤ 9223372036854775807) (J Jx : List (Int × Int) → World → Prop)
  (hY : ∀ pre x W, J pre W → pre.length < zs.length → YieldAt F (n - 1) Tryz.prog l #[.int .i64 x.1, .int .u32 x.2] W fun e W' =>
   (e = .returned (.bool true) ∧ J (pre ++ [x]) W' ∧ Keep n₀ Bs W W') ∨ (e = .returned (.bool false) ∧ Jx (pre ++ [x]) W'))
  (W : World) (hBs : W.cell? ⟨Bs, 0, none⟩ = some (.slice (some ad) zs.length cap)) (hb : 0 < zs.length → ad.block < n₀) (hc : ∀ j, j < zs.length → W.cell? (ad.add j) = some (.int .u32 (zs[j]?.getD 0))) (h0 : J [] W) :
  CallsIn F n Tryz.prog 204 #[.func (.yield l) #[] #[], .pointer (some ⟨Bs, 0, none⟩)] W fun e W' => (∃ v, e = .returned v) ∧
   ((∃ ys, ys = seq zs zs.length ∧ J ys W') ∨ (∃ pre, (∃ k, k ≤ zs.length ∧ pre = seq zs k) ∧ Jx pre W')) := by
 refine callsIn_of_wp Tryz.func204 rfl h8 ?_ hro
 simp only [Tryz.ntmps204, List.size_toArray, List.length_cons, List.length_nil, Nat.reduceAdd, Nat.reduceSub, Array.replicate_succ, Array.replicate_zero, List.push_toArray, List.append_toArray, List.nil_append, List.cons_append]
 gi_wp2
 gi_loopw [3] (fun i wr => ∃ k : Nat, k ≤ zs.length ∧ i = .int .i64 ((zs.length : Int) - 1 - k) ∧ J (seq zs k) wr ∧ Keep n₀ Bs W wr)
  (fun i _ => (intOf i + 1).toNat)
 case atStart => exact ⟨0, Nat.zero_le _, by simp, h0, Keep.refl _ _ _⟩
 case round =>
  obtain ⟨k, hk, rfl, hJs, hnx⟩ := hrel
  have hbs := hnx.2 _ hBs
  by_cases hlt : k < zs.length
  ·have hcx : wr.cell? (ad.add (zs.length - 1 - k)) = some (.int .u32 (zs[zs.length - 1 - k]?.getD 0)) := (hnx.1.cell (p := ad.add (zs.length - 1 - k)) (by unfold Addr.add; split <;> exact hb (by omega))).trans (hc _ (by omega))
   obtain ⟨fn, tmps, assign, body, hy, hR⟩ := hY _ ((zs.length : Int) - 1 - k, zs[zs.length - 1 - k]?.getD 0) wr hJs (by rw [seq_length]; exact hlt)
   dsimp only at hy
   have hidx : ((zs.length : Int) - 1 - k).toNat = zs.length - 1 - k := by omega
   gi_wp2
   refine hR.mono ?_
   rintro e W3 (⟨rfl, hJ3, hk3⟩ | ⟨rfl, hJx3⟩)
   ·gi_wp2
    go_roundw
    case rel => exact ⟨k + 1, by omega, by congr 1; omega, by rw [seq_succ]; exact hJ3, hnx.trans hk3⟩
    case measure => simp [intOf]; omega
   ·gi_wp2
    refine bodyPost_ret (results_none rfl _ _ _) rfl ?_
    exact ⟨⟨_, rfl⟩, .inr ⟨_, ⟨k + 1, by omega, (seq_succ _ _).symm⟩, hJx3⟩⟩
  ·obtain rfl : k = zs.length := by omega
   gi_wp2
   go_end0
   exact ⟨⟨_, rfl⟩, .inl ⟨_, rfl, hJs⟩⟩

set_option maxRecDepth 100000 in
set_option maxHeartbeats 1000000 in
theorem back1_nil_in (F : Fence) (n : Nat) (h8 : F.fn 204) (hro : F.round = none) (l Bs : Nat) (A : Option Addr) (cap : Nat) (J : List (Int × Int) → World → Prop) (W : World) (hBs : W.cell? ⟨Bs, 0, none⟩ = some (.slice A 0 cap)) (h0 : J [] W) :
  CallsIn F n Tryz.prog 204 #[.func (.yield l) #[] #[], .pointer (some ⟨Bs, 0, none⟩)] W fun e W' => (∃ v, e = .returned v) ∧ J [] W' := by
 refine callsIn_of_wp Tryz.func204 rfl h8 ?_ hro
 simp only [Tryz.ntmps204, List.size_toArray, List.length_cons, List.length_nil, Nat.reduceAdd, Nat.reduceSub, Array.replicate_succ, Array.replicate_zero, List.push_toArray, List.append_toArray, List.nil_append, List.cons_append]
 gi_wp2
 gi_loopw [3] (fun i wr => i = .int .i64 (-1) ∧ J [] wr) (fun _ _ => 0)
 case atStart => exact ⟨rfl, h0⟩
 case round =>
  obtain ⟨rfl, hJs⟩ := hrel
  gi_wp2
  go_end0
  exact ⟨⟨_, rfl⟩, hJs⟩

set_option maxHeartbeats 1000000 in
theorem back_in (F : Fence) (n : Nat) (h6 : F.fn 181) (hro : F.round = none) (a : Option Addr) (len cap : Nat) (w : World) :
  CallsIn F n Tryz.prog 181 #[.slice a len cap] w fun e w' => e = .returned (.func (.func 204) #[] #[.pointer (some ⟨w.heap.size, 0, none⟩)]) ∧ w' = w.alloc (.cells #[.slice a len cap] 101) := by
 refine callsIn_of_wp Tryz.func181 rfl h6 ?_ hro
 simp only [Tryz.ntmps181, List.size_toArray, List.length_cons, List.length_nil, Nat.reduceAdd, Nat.reduceSub, Array.replicate_succ, Array.replicate_zero, List.push_toArray, List.append_toArray, List.nil_append, List.cons_append]
 gi_wp2
 go_ret
 exact ⟨rfl, rfl⟩

theorem back_stops (F : Fence) (n : Nat) (h8 : F.fn 204) (hro : F.round = none) (hn : 1 ≤ n) (Bs n₀ cap : Nat) (A : Option Addr) (zs : List Int) (w0 w : World) (hr : Kd.C (Kd.int .u32) w0 A zs.length zs) (hn0 : n₀ = w0.heap.size) (hle : n₀ ≤ w.heap.size) (hbl : Below n₀ w0 w) (hBs : Bs < w.heap.size)
  (hc : w.cell? ⟨Bs, 0, none⟩ = some (.slice A zs.length cap)) :
  SeqStopsK F n Tryz.prog 204 #[.pointer (some ⟨Bs, 0, none⟩)] (fun x : Int × Int => #[Value.int .i64 x.1, Value.int .u32 x.2]) (Keep n₀ Bs) (fun ys => ys = seq zs zs.length)
   (fun pre => ∃ k, k ≤ zs.length ∧ pre = seq zs k) zs.length w := fun l J Jx W hW _ _ hY h0 => by
 have hc' := (hW.cell (p := ⟨Bs, 0, none⟩) hBs).trans hc
 rcases Nat.eq_zero_or_pos zs.length with hz | hz
 ·obtain rfl : zs = [] := List.eq_nil_of_length_eq_zero hz
  exact (back1_nil_in F n h8 hro l Bs A cap J W hc' h0).mono fun e W' ⟨he, hj⟩ => ⟨he, .inl ⟨_, rfl, hj⟩⟩
 ·obtain ⟨_, hm, hx⟩ := hr
  obtain ⟨ad, rfl, hcell0⟩ := hx hz
  have hcell : ∀ j, j < zs.length → w0.cell? (ad.add j) = some (.int .u32 (zs.getD j 0)) := fun j hj => by
   obtain ⟨c, _, hR, hcl⟩ := hcell0 j (zs.getD j 0) (by rw [List.getD_eq_getElem?_getD, List.getElem?_eq_getElem hj]; rfl)
   have e : c = [.int .u32 (zs.getD j 0)] := hR
   subst e
   have := hcl 0 _ rfl
   have h1 : (Kd.int .u32).sz = 1 := rfl
   rw [h1, Nat.mul_one, Nat.add_zero] at this
   exact this
  have hlt : ad.block < n₀ := by have := World.block_lt_of_cell? w0 _ (hcell 0 hz); rw [hn0]; unfold Addr.add at this; revert this; split <;> exact id
  refine back1_in F n h8 hro hn l Bs n₀ cap ad zs hm J Jx hY W hc' (fun _ => hlt) (fun j hj => ?_) h0
  have h1 := hcell j hj
  have hj' : (ad.add j).block < n₀ := by unfold Addr.add; split <;> exact hlt
  rw [((hbl.trans (hW.mono hle)).cell (p := ad.add j) hj'), h1, List.getD_eq_getElem?_getD]
end Back

def Back.wideW (l : List Int) : Int := l.foldr (fun d n => IntKind.u64.wrap (IntKind.u64.wrap (n * 1000000000) + IntKind.u64.wrap d)) 0
def Back.acc (l : List (Int × Int)) : Int := l.foldl (fun n p => IntKind.u64.wrap (IntKind.u64.wrap (n * 1000000000) + IntKind.u64.wrap p.2)) 0
theorem Back.acc_snoc (l : List (Int × Int)) (p : Int × Int) : Back.acc (l ++ [p]) = IntKind.u64.wrap (IntKind.u64.wrap (Back.acc l * 1000000000) + IntKind.u64.wrap p.2) := by simp [Back.acc]
theorem Back.seq_all (l : List Int) : (Back.seq l l.length).map (·.2) = l.reverse := by
 apply List.ext_getElem
 ·simp [Back.seq]
 ·intro i h1 h2
  simp [Back.seq] at h1 ⊢
  rw [List.getElem?_eq_getElem (by omega)]; simp
theorem Back.acc_all (l : List Int) : Back.acc (Back.seq l l.length) = Back.wideW l := by
 have h : Back.acc (Back.seq l l.length) = ((Back.seq l l.length).map (·.2)).foldl (fun n d => IntKind.u64.wrap (IntKind.u64.wrap (n * 1000000000) + IntKind.u64.wrap d)) 0 := by
  rw [List.foldl_map]; rfl
 rw [h, Back.seq_all, List.foldl_reverse]; rfl
def nat_wide.f (l0 : List Int) : Option Int := some (Back.wideW l0)
attribute [local go_sem] Oper.semAt_some
set_option maxHeartbeats 2000000 in
set_option maxRecDepth 100000 in
theorem nat_wide.calls (A0 : Option Addr) (c0 : Nat) (l0 : List Int) (r : Int) (w : World) (hr0 : Kd.C (Kd.int .u32) w A0 l0.length l0) (hc0 : l0.length ≤ c0) (h : nat_wide.f l0 = some r) :
  Calls Tryz.prog 145 #[.slice A0 l0.length c0] w fun e w' => e = .returned (.int .u64 r) ∧ Below w.heap.size w w' := by
 unfold nat_wide.f at h
 have hres := Option.some.inj h
 clear h
 refine (callsIn_wide (n := 3)).1 ?_
 have h1 : 1 ≤ 3 := by omega
 refine callsIn_of_wp_marks Tryz.func145 rfl trivial ?_ rfl
 simp only [Tryz.ntmps145, List.size_toArray, List.length_cons, List.length_nil, Nat.reduceAdd, Nat.reduceSub, Array.replicate_succ, Array.replicate_zero, List.push_toArray, List.append_toArray, List.nil_append, List.cons_append]
 have HC := Aside0.mk hr0
 have HE := Aside0.mk hres
 clear hr0 hres hc0
 gi_wp2_with (fail)
 refine ⟨trivial, ?_⟩
 refine (Back.back_in _ 2 trivial rfl _ _ _ _).mono ?_
 rintro e w1 ⟨rfl, rfl⟩
 gi_wp2
 have bS := Boxed.new w 95 (.int .u64 0)
 have bN := Boxed.new (w.alloc (.cells #[.int .u64 0] 95)) 101 (.slice A0 l0.length c0)
 rw [World.size_alloc] at bN
 have hB0 : Below w.heap.size w ((w.alloc (.cells #[.int .u64 0] 95)).alloc (.cells #[.slice A0 l0.length c0] 101)) := ((Below.refl _ w).alloc (Nat.le_refl _) _).alloc (by simp) _
 refine wpIn_rangeFunc_ownG rfl h1 (gf := 204) (lb := #[.pointer (some ⟨w.heap.size + 1, 0, none⟩)]) rfl trivial (enters_of Tryz.func204 (by kernel_rfl) rfl)
  (Back.back_stops Fence.wide (3 - 1) trivial rfl (by omega) (w.heap.size + 1) w.heap.size c0 A0 l0 w _ HC.out rfl (by simp; omega) hB0 (by simp) bN.cell) Back.Keep.trans (Back.Keep.put (by simp; omega)) (Below.refl _ _) (fun _ => rfl)
  (fun pre W => (W.cell? ⟨w.heap.size, 0, none⟩ = some (.int .u64 (Back.acc pre)) ∧ W.frozen? ⟨w.heap.size, 0, none⟩ = false) ∧ Below w.heap.size w W)
  (fun _ _ _ => False)
  (OwnFrom.and (Own.from (fun s A B row hs hg hr => ⟨cell_kept hs.1 hg hr, (frozen_kept hs.1 hg hr).trans hs.2⟩) _) (ownFrom_below (Nat.le_refl _) (by simp; omega)))
  (fun _ _ _ _ _ hs _ _ => hs)
  ⟨⟨(bS.alloc _).cell, (bS.alloc _).frozen⟩, hB0⟩
  (fun x => { tmps := #[.slice A0 l0.length c0, undef, .int .u64 0, .pointer (some ⟨w.heap.size, 0, none⟩), undef, .int .u32 x.2, .slice A0 l0.length c0, .func (.func 204) #[] #[.pointer (some ⟨w.heap.size + 1, 0, none⟩)], .int .i64 x.1, .int .u32 x.2, undef, undef, undef, undef, undef, undef], defers := [] }) ?assign ?body ?done ?stop
 case assign =>
  intro l x W K hK
  gi_wp2
  exact hK
 case body =>
  rintro l pre x W ⟨⟨hc, hf⟩, hB⟩ _
  gi_wp2
  refine ⟨(KeepsOthers.setCell _ _ _).from _, ⟨(Below.refl w.heap.size W).setCell (p := ⟨w.heap.size, 0, none⟩) (Nat.le_refl _) _, fun v e => ?_⟩, ⟨?_, by rw [World.frozen?_setCell]; exact hf⟩, hB.setCell (p := ⟨w.heap.size, 0, none⟩) (Nat.le_refl _) _⟩
  ·rw [← e]; exact World.cell?_of_block (Below.heap_setCell W ⟨w.heap.size, 0, none⟩ _ (w.heap.size + 1) (by simp))
  ·rw [Back.acc_snoc]; exact World.cell?_setCell_same' _ _ _ (by rw [hc]; rfl)
 case done =>
  rintro D ys W hD rfl ⟨⟨hc, _⟩, hB⟩ hK
  gi_wp2
  refine ⟨by simp, .inl ⟨_, _, rfl, run_takeDeferred hK, ?_⟩⟩
  exact ⟨_, results_tmp rfl _ _ _, by rw [Back.acc_all, HE.out]; rfl, hB.trans (belowK_b (w := w) (Nat.le_refl _) W D _ _ (by simp at hD; omega) hK rfl rfl)⟩
 case stop =>
  rintro D c pre W _ _ h _
  exact h.elim

end
mutual
def nat_Gcd.l0 : Nat → List Int → List Int → Option (List Int)
 | 0, _, _ => none
 | k + 1, x0, x1 => if (x0.length : Int) > 2 then (nat_Gcd.j1 k x0 x1 true) else (nat_Gcd.j1 k x0 x1 (decide ((x1.length : Int) > 2)))
def nat_Gcd.j1 : Nat → List Int → List Int → Bool → Option (List Int)
 | 0, _, _, _ => none
 | k + 1, x0, x1, x16 => if x16 = true then (if (x1.length : Int) = 0 then ((nat_Nat_uint32.f x0).bind fun t167 => (some t167)) else ((nat_Div.f k x0 x1).bind fun bt170 => (nat_Gcd.l0 k x1 bt170.2))) else ((nat_wide.f x0).bind fun t176 => ((nat_wide.f x1).bind fun t177 => (nat_Gcd.l1 k t176 t177)))
def nat_Gcd.l1 : Nat → Int → Int → Option (List Int)
 | 0, _, _ => none
 | k + 1, x7, x8 => if x8 = 0 then ((nat_Of.f k x7).bind fun t178 => (some t178)) else (nat_Gcd.l1 k x8 (Int.tmod x7 x8))
end
def nat_Gcd.f (k : Nat) (l0 : List Int) (l1 : List Int) : Option (List Int) := nat_Gcd.l0 k l0 l1
theorem nat_Gcd.mono_l : ∀ k, (∀ y0 y1, LeO (nat_Gcd.l0 k y0 y1) (nat_Gcd.l0 (k + 1) y0 y1)) ∧ (∀ y0 y1 y2, LeO (nat_Gcd.j1 k y0 y1 y2) (nat_Gcd.j1 (k + 1) y0 y1 y2)) ∧ (∀ y0 y1, LeO (nat_Gcd.l1 k y0 y1) (nat_Gcd.l1 (k + 1) y0 y1))
 | 0 => ⟨fun _ _ r h => by simp [nat_Gcd.l0] at h, fun _ _ _ r h => by simp [nat_Gcd.j1] at h, fun _ _ r h => by simp [nat_Gcd.l1] at h⟩
 | k + 1 => by
  obtain ⟨ih0, ih1, ih2⟩ := nat_Gcd.mono_l k
  refine ⟨?_, ?_, ?_⟩
  ·intro y0 y1
   unfold nat_Gcd.l0
   have m0 := nat_Div.mono
   have m1 := nat_Of.mono
   exact zM
  ·intro y0 y1 y2
   unfold nat_Gcd.j1
   have m0 := nat_Div.mono
   have m1 := nat_Of.mono
   exact zM
  ·intro y0 y1
   unfold nat_Gcd.l1
   have m0 := nat_Div.mono
   have m1 := nat_Of.mono
   exact zM
theorem nat_Gcd.mono : ∀ a0 a1 k, LeO (nat_Gcd.f k a0 a1) (nat_Gcd.f (k + 1) a0 a1) := by
 intro a0 a1 k
 obtain ⟨ih0, ih1, ih2⟩ := nat_Gcd.mono_l k
 unfold nat_Gcd.f
 have m0 := nat_Div.mono
 have m1 := nat_Of.mono
 exact zM
set_option maxHeartbeats 8000000 in
set_option maxRecDepth 100000 in
theorem nat_Gcd.calls (k : Nat) (P0_ : Nat → Prop) (A0 : Option Addr) (c0 : Nat) (l0 : List Int) (P1_ : Nat → Prop) (A1 : Option Addr) (c1 : Nat) (l1 : List Int) (r : List Int) (w : World) (hs0 : Kd.V (Kd.int .u32) 97 w w.heap.size (fun k_ => P0_ k_) (.slice A0 l0.length c0) l0) (hs1 : Kd.V (Kd.int .u32) 97 w w.heap.size (fun k_ => P1_ k_) (.slice A1 l1.length c1) l1) (h : nat_Gcd.f k l0 l1 = some r) :
  Calls Tryz.prog 107 #[.slice A0 l0.length c0, .slice A1 l1.length c1] w fun e w' => ∃ v0_ : Value, e = .returned (v0_) ∧ Kd.R (Kd.int .u32) 97 w' w.heap.size (fun k_ => (w.heap.size ≤ k_)) v0_ r ∧ Below w.heap.size w w' := by
 have HO0 := Aside0.mk (show Kd.V (Kd.int .u32) 97 w w.heap.size (fun k_ => ((P0_ k_ ∨ P1_ k_) ∨ w.heap.size ≤ k_)) (.slice A0 l0.length c0) l0 from Kd.V_mono hs0 (fun k_ hk => .inl (.inl hk)))
 have HO1 := Aside0.mk (show Kd.V (Kd.int .u32) 97 w w.heap.size (fun k_ => ((P0_ k_ ∨ P1_ k_) ∨ w.heap.size ≤ k_)) (.slice A1 l1.length c1) l1 from Kd.V_mono hs1 (fun k_ hk => .inl (.inr hk)))
 have HB := Aside0.mk (Below.refl w.heap.size w)
 have H : (nat_Gcd.l0 k l0 l1) = some r := h
 clear h
 have H' := Aside0.mk H
 clear H
 go_enter Tryz.func107, Tryz.ntmps107
 go_wp2
 repeat (go_quiet (fail); try go_wp2)
 go_loopg [0, 1] k (fun kq v0 v1 w' => ∃ (x0_1 : List Int) (x1_1 : List Int), Aside0 (nat_Gcd.l0 kq x0_1 x1_1 = some r) ∧ Aside0 (kq ≤ k) ∧ Aside0 (Kd.V (Kd.int .u32) 97 w' w.heap.size (fun k_ => ((P0_ k_ ∨ P1_ k_) ∨ w.heap.size ≤ k_)) v0 x0_1) ∧ Aside0 (Kd.V (Kd.int .u32) 97 w' w.heap.size (fun k_ => ((P0_ k_ ∨ P1_ k_) ∨ w.heap.size ≤ k_)) v1 x1_1) ∧ Aside0 (Below w.heap.size w w'))
 case atStart => exact ⟨(l0), (l1), H', ⟨Nat.le_refl _⟩, ⟨zV HO0⟩, ⟨zV HO1⟩, ⟨bw⟩⟩
 case round =>
  clear H'
  try clear c1
  try clear p2
  obtain ⟨x0_1, x1_1, HA, HK1, HO_0, HO_1, HB⟩ := hrel
  cases gk with
  | zero => exact absurd HA.out (by simp [nat_Gcd.l0])
  | succ k1 =>
   have H := HA.out
   clear HA
   simp only [nat_Gcd.l0] at H
   have HC3 := Aside0.mk H
   clear H
   go_upto_region 1 with (fail)
   repeat (go_quiet (fail); go_upto_region 1 with (fail))
   go_cut [16] (fun v16 wc => ∃ (kq : Nat) (x16_2 : Bool), v16 = .bool x16_2 ∧ Aside0 (nat_Gcd.j1 kq x0_1 x1_1 x16_2 = some r) ∧ Aside0 (kq ≤ k1) ∧ Aside0 (Kd.V (Kd.int .u32) 97 wc w.heap.size (fun k_ => ((P0_ k_ ∨ P1_ k_) ∨ w.heap.size ≤ k_)) u0 x0_1) ∧ Aside0 (Kd.V (Kd.int .u32) 97 wc w.heap.size (fun k_ => ((P0_ k_ ∨ P1_ k_) ∨ w.heap.size ≤ k_)) u1 x1_1) ∧ Aside0 (Below w.heap.size w wc))
   case first =>
    have H := HC3.out
    clear HC3
    by_cases c4 : (x0_1.length : Int) > 2
    ·rw [if_pos c4] at H
     have c4b0 : decide (2 < (x0_1.length : Int)) = true := decide_eq_true c4
     have c4b1 : decide (2 < x0_1.length) = true := decide_eq_true (by omega)
     clear c4
     (first | rw [c4b0] | (simp only [i64_w, i32_w]; rw [c4b0]) | skip)
     have H' := Aside0.mk H
     clear H
     obtain ⟨Ao5, co5, rfl⟩ := Kd.V_slice HO_0.out
     go_wp2
     repeat (go_quiet (fail); try go_wp2)
     go_meet
     case rel => exact ⟨_, (true), zs, H', ⟨by have := HK1.out; first | omega | exact Nat.le_refl _⟩, ⟨zV HO_0⟩, ⟨zV HO_1⟩, ⟨bw⟩⟩
    ·rw [if_neg c4] at H
     have c4b0 : decide (2 < (x0_1.length : Int)) = false := decide_eq_false c4
     have c4b1 : decide (2 < x0_1.length) = false := decide_eq_false (by omega)
     clear c4
     (first | rw [c4b0] | (simp only [i64_w, i32_w]; rw [c4b0]) | skip)
     have H' := Aside0.mk H
     clear H
     obtain ⟨Ao6, co6, rfl⟩ := Kd.V_slice HO_0.out
     obtain ⟨Ao7, co7, rfl⟩ := Kd.V_slice HO_1.out
     go_wp2
     repeat (go_quiet (fail); try go_wp2)
     go_meet
     case rel => exact ⟨_, (decide ((x1_1.length : Int) > 2)), zs, H', ⟨by have := HK1.out; first | omega | exact Nat.le_refl _⟩, ⟨zV HO_0⟩, ⟨zV HO_1⟩, ⟨bw⟩⟩
   case rest =>
    clear HC3
    try clear c1
    try clear p2
    try clear c4
    try clear c4b0
    try clear c4b1
    try clear p2
    obtain ⟨kq, x16_2, rfl, HA, HJ2, HO_0, HO_1, HB⟩ := hcut
    cases kq with
    | zero => exact absurd HA.out (by simp [nat_Gcd.j1])
    | succ kj2 =>
     have H := HA.out
     clear HA
     simp only [nat_Gcd.j1] at H
     by_cases c8 : x16_2 = true
     ·subst c8
      have H1 : (if (x1_1.length : Int) = 0 then ((nat_Nat_uint32.f x0_1).bind fun t167 => (some t167)) else ((nat_Div.f kj2 x0_1 x1_1).bind fun bt170 => (nat_Gcd.l0 kj2 x1_1 bt170.2))) = some r := by rw [if_pos rfl] at H; exact H
      clear H
      have H := H1
      clear H1
      by_cases c9 : (x1_1.length : Int) = 0
      ·rw [if_pos c9] at H
       have c9b0 : ((x1_1.length : Int) == 0) = true := beq_iff_eq.mpr c9
       have c9b1 : ((x1_1.length : Int) != 0) = false := bne_eq_false_iff_eq.mpr c9
       clear c9
       obtain ⟨t167, A10, H⟩ := zB H
       obtain rfl := Option.some.inj H
       obtain ⟨Ao11, co11, rfl⟩ := Kd.V_slice HO_1.out
       obtain ⟨Ao12, co12, rfl⟩ := Kd.V_slice HO_0.out
       go_wp2_with (first | (go_at_call 143; (with_reducible refine (nat_Nat_uint32.calls _ _ x0_1 t167 _ ?side1 ?side2 A10.out).mono ?_); (case side1 => exact zC (Kd.V_reads' HO_0.out).2.2); (case side2 => exact (Kd.V_reads' HO_0.out).2.1); rintro e w13 ⟨v168, rfl, ho0, hb⟩; replace HO_0 := Aside0.mk (Kd.V_elder' (zV HO_0) (Kd.R_base ho0) hb); replace HO_1 := Aside0.mk (Kd.V_elder' (zV HO_1) (Kd.R_base ho0) hb); have HO169 := Aside0.mk (Kd.R_lower (Kd.R_newM (M := fun k_ => (w.heap.size ≤ k_)) ho0 bs (fun k_ h_ => h_)) bs); replace HB := sB hb; clear hb ho0))
       repeat (go_quiet (first | (go_at_call 143; (with_reducible refine (nat_Nat_uint32.calls _ _ x0_1 t167 _ ?side1 ?side2 A10.out).mono ?_); (case side1 => exact zC (Kd.V_reads' HO_0.out).2.2); (case side2 => exact (Kd.V_reads' HO_0.out).2.1); rintro e w13 ⟨v168, rfl, ho0, hb⟩; replace HO_0 := Aside0.mk (Kd.V_elder' (zV HO_0) (Kd.R_base ho0) hb); replace HO_1 := Aside0.mk (Kd.V_elder' (zV HO_1) (Kd.R_base ho0) hb); have HO169 := Aside0.mk (Kd.R_lower (Kd.R_newM (M := fun k_ => (w.heap.size ≤ k_)) ho0 bs (fun k_ h_ => h_)) bs); replace HB := sB hb; clear hb ho0)); try go_wp2_with (first | (go_at_call 143; (with_reducible refine (nat_Nat_uint32.calls _ _ x0_1 t167 _ ?side1 ?side2 A10.out).mono ?_); (case side1 => exact zC (Kd.V_reads' HO_0.out).2.2); (case side2 => exact (Kd.V_reads' HO_0.out).2.1); rintro e w13 ⟨v168, rfl, ho0, hb⟩; replace HO_0 := Aside0.mk (Kd.V_elder' (zV HO_0) (Kd.R_base ho0) hb); replace HO_1 := Aside0.mk (Kd.V_elder' (zV HO_1) (Kd.R_base ho0) hb); have HO169 := Aside0.mk (Kd.R_lower (Kd.R_newM (M := fun k_ => (w.heap.size ≤ k_)) ho0 bs (fun k_ h_ => h_)) bs); replace HB := sB hb; clear hb ho0)))
       go_ret
       exact ⟨_, ze, by (with_reducible repeat (first | apply Kd.R_alloc | apply Kd.R_drewN | apply Kd.R_drew)); exact Kd.R_mono HO169.out (fun _ hk => hk.1), bw⟩
      ·rw [if_neg c9] at H
       have c9b0 : ((x1_1.length : Int) == 0) = false := beq_eq_false_iff_ne.mpr c9
       have c9b1 : ((x1_1.length : Int) != 0) = true := bne_iff_ne.mpr c9
       have c9b2 : ¬ (x1_1 = []) := fun h_ => c9 (by rw [h_]; rfl)
       replace H := Option.bind_eq_some_iff.mp H
       obtain ⟨⟨t170, t173⟩, A140, H⟩ := H
       replace H : (nat_Gcd.l0 kj2 x1_1 t173) = some r := H
       have A14 := Aside0.mk A140
       clear A140
       have H' := Aside0.mk H
       clear H
       obtain ⟨Ao15, co15, rfl⟩ := Kd.V_slice HO_1.out
       obtain ⟨Ao16, co16, rfl⟩ := Kd.V_slice HO_0.out
       go_wp2_with (first | (go_at_call 144; (with_reducible refine (nat_Div.calls kj2 _ _ x0_1 _ _ x1_1 t170 t173 _ ?side1 ?side2 ?side3 ?side4 A14.out).mono ?_); (case side1 => exact zC (Kd.V_reads' HO_0.out).2.2); (case side2 => exact (Kd.V_reads' HO_0.out).2.1); (case side3 => exact zC (Kd.V_reads' HO_1.out).2.2); (case side4 => exact (Kd.V_reads' HO_1.out).2.1); rintro e w17 ⟨v171, v174, rfl, ho0, ho1, hb⟩; replace HO_0 := Aside0.mk (Kd.V_below (zV HO_0) hb); replace HO_1 := Aside0.mk (Kd.V_below (zV HO_1) hb); have HO172 := Aside0.mk (Kd.V_lower (Kd.V_mono (ok' := fun k_ => ((P0_ k_ ∨ P1_ k_) ∨ w.heap.size ≤ k_)) ho0 (fun k_ hk_ => (.inr (Nat.le_trans bs hk_)))) bs); have HO175 := Aside0.mk (Kd.V_lower (Kd.V_mono (ok' := fun k_ => ((P0_ k_ ∨ P1_ k_) ∨ w.heap.size ≤ k_)) ho1 (fun k_ hk_ => (.inr (Nat.le_trans bs hk_)))) bs); replace HB := sB hb; clear hb ho0 ho1))
       repeat (go_quiet (first | (go_at_call 144; (with_reducible refine (nat_Div.calls kj2 _ _ x0_1 _ _ x1_1 t170 t173 _ ?side1 ?side2 ?side3 ?side4 A14.out).mono ?_); (case side1 => exact zC (Kd.V_reads' HO_0.out).2.2); (case side2 => exact (Kd.V_reads' HO_0.out).2.1); (case side3 => exact zC (Kd.V_reads' HO_1.out).2.2); (case side4 => exact (Kd.V_reads' HO_1.out).2.1); rintro e w17 ⟨v171, v174, rfl, ho0, ho1, hb⟩; replace HO_0 := Aside0.mk (Kd.V_below (zV HO_0) hb); replace HO_1 := Aside0.mk (Kd.V_below (zV HO_1) hb); have HO172 := Aside0.mk (Kd.V_lower (Kd.V_mono (ok' := fun k_ => ((P0_ k_ ∨ P1_ k_) ∨ w.heap.size ≤ k_)) ho0 (fun k_ hk_ => (.inr (Nat.le_trans bs hk_)))) bs); have HO175 := Aside0.mk (Kd.V_lower (Kd.V_mono (ok' := fun k_ => ((P0_ k_ ∨ P1_ k_) ∨ w.heap.size ≤ k_)) ho1 (fun k_ hk_ => (.inr (Nat.le_trans bs hk_)))) bs); replace HB := sB hb; clear hb ho0 ho1)); try go_wp2_with (first | (go_at_call 144; (with_reducible refine (nat_Div.calls kj2 _ _ x0_1 _ _ x1_1 t170 t173 _ ?side1 ?side2 ?side3 ?side4 A14.out).mono ?_); (case side1 => exact zC (Kd.V_reads' HO_0.out).2.2); (case side2 => exact (Kd.V_reads' HO_0.out).2.1); (case side3 => exact zC (Kd.V_reads' HO_1.out).2.2); (case side4 => exact (Kd.V_reads' HO_1.out).2.1); rintro e w17 ⟨v171, v174, rfl, ho0, ho1, hb⟩; replace HO_0 := Aside0.mk (Kd.V_below (zV HO_0) hb); replace HO_1 := Aside0.mk (Kd.V_below (zV HO_1) hb); have HO172 := Aside0.mk (Kd.V_lower (Kd.V_mono (ok' := fun k_ => ((P0_ k_ ∨ P1_ k_) ∨ w.heap.size ≤ k_)) ho0 (fun k_ hk_ => (.inr (Nat.le_trans bs hk_)))) bs); have HO175 := Aside0.mk (Kd.V_lower (Kd.V_mono (ok' := fun k_ => ((P0_ k_ ∨ P1_ k_) ∨ w.heap.size ≤ k_)) ho1 (fun k_ hk_ => (.inr (Nat.le_trans bs hk_)))) bs); replace HB := sB hb; clear hb ho0 ho1)))
       go_roundg kj2
       case measure => have := HK1.out; have := HJ2.out; omega
       case rel => exact ⟨(x1_1), (t173), H', ⟨by have := HK1.out; have := HJ2.out; omega⟩, ⟨zV HO_1⟩, ⟨zV HO175⟩, ⟨bw⟩⟩
     ·replace c8 := Bool.eq_false_iff.mpr c8
      subst c8
      have H1 : ((nat_wide.f x0_1).bind fun t176 => ((nat_wide.f x1_1).bind fun t177 => (nat_Gcd.l1 kj2 t176 t177))) = some r := by rw [if_neg (show ¬ (false = true) by decide)] at H; exact H
      clear H
      have H := H1
      clear H1
      obtain ⟨t176, A18, H⟩ := zB H
      obtain ⟨t177, A19, H⟩ := zB H
      have H' := Aside0.mk H
      clear H
      obtain ⟨Ao20, co20, rfl⟩ := Kd.V_slice HO_0.out
      go_wp2_with (first | (go_at_call 145; (with_reducible refine (nat_wide.calls _ _ x0_1 t176 _ ?side1 ?side2 A18.out).mono ?_); (case side1 => exact zC (Kd.V_reads' HO_0.out).2.2); (case side2 => exact (Kd.V_reads' HO_0.out).2.1); rintro e w21 ⟨rfl, hb⟩; replace HO_0 := Aside0.mk (Kd.V_below (zV HO_0) hb); replace HO_1 := Aside0.mk (Kd.V_below (zV HO_1) hb); replace HB := sB hb; clear hb; obtain ⟨Ao22, co22, rfl⟩ := Kd.V_slice HO_1.out) | (go_at_call 145; (with_reducible refine (nat_wide.calls _ _ x1_1 t177 _ ?side1 ?side2 A19.out).mono ?_); (case side1 => exact zC (Kd.V_reads' HO_1.out).2.2); (case side2 => exact (Kd.V_reads' HO_1.out).2.1); rintro e w23 ⟨rfl, hb⟩; replace HO_0 := Aside0.mk (Kd.V_below (zV HO_0) hb); replace HO_1 := Aside0.mk (Kd.V_below (zV HO_1) hb); replace HB := sB hb; clear hb))
      repeat (go_quiet (first | (go_at_call 145; (with_reducible refine (nat_wide.calls _ _ x0_1 t176 _ ?side1 ?side2 A18.out).mono ?_); (case side1 => exact zC (Kd.V_reads' HO_0.out).2.2); (case side2 => exact (Kd.V_reads' HO_0.out).2.1); rintro e w21 ⟨rfl, hb⟩; replace HO_0 := Aside0.mk (Kd.V_below (zV HO_0) hb); replace HO_1 := Aside0.mk (Kd.V_below (zV HO_1) hb); replace HB := sB hb; clear hb; obtain ⟨Ao22, co22, rfl⟩ := Kd.V_slice HO_1.out) | (go_at_call 145; (with_reducible refine (nat_wide.calls _ _ x1_1 t177 _ ?side1 ?side2 A19.out).mono ?_); (case side1 => exact zC (Kd.V_reads' HO_1.out).2.2); (case side2 => exact (Kd.V_reads' HO_1.out).2.1); rintro e w23 ⟨rfl, hb⟩; replace HO_0 := Aside0.mk (Kd.V_below (zV HO_0) hb); replace HO_1 := Aside0.mk (Kd.V_below (zV HO_1) hb); replace HB := sB hb; clear hb)); try go_wp2_with (first | (go_at_call 145; (with_reducible refine (nat_wide.calls _ _ x0_1 t176 _ ?side1 ?side2 A18.out).mono ?_); (case side1 => exact zC (Kd.V_reads' HO_0.out).2.2); (case side2 => exact (Kd.V_reads' HO_0.out).2.1); rintro e w21 ⟨rfl, hb⟩; replace HO_0 := Aside0.mk (Kd.V_below (zV HO_0) hb); replace HO_1 := Aside0.mk (Kd.V_below (zV HO_1) hb); replace HB := sB hb; clear hb; obtain ⟨Ao22, co22, rfl⟩ := Kd.V_slice HO_1.out) | (go_at_call 145; (with_reducible refine (nat_wide.calls _ _ x1_1 t177 _ ?side1 ?side2 A19.out).mono ?_); (case side1 => exact zC (Kd.V_reads' HO_1.out).2.2); (case side2 => exact (Kd.V_reads' HO_1.out).2.1); rintro e w23 ⟨rfl, hb⟩; replace HO_0 := Aside0.mk (Kd.V_below (zV HO_0) hb); replace HO_1 := Aside0.mk (Kd.V_below (zV HO_1) hb); replace HB := sB hb; clear hb)))
      go_loopg [7, 8] kj2 (fun kq v7 v8 w' => ∃ (x7_3 : Int) (x8_3 : Int), v7 = .int .u64 x7_3 ∧ v8 = .int .u64 x8_3 ∧ Aside0 (nat_Gcd.l1 kq x7_3 x8_3 = some r) ∧ Aside0 (kq ≤ kj2) ∧ Aside0 (Below w.heap.size w w'))
      case atStart => exact ⟨(t176), (t177), zs, zs, H', ⟨Nat.le_refl _⟩, ⟨bw⟩⟩
      case round =>
       clear H'
       try clear c1
       try clear p2
       try clear c4
       try clear c4b0
       try clear c4b1
       try clear c8
       try clear c9
       try clear c9b0
       try clear c9b1
       try clear c9b2
       try clear c10
       try clear p2
       obtain ⟨x7_3, x8_3, rfl, rfl, HA, HK3, HB⟩ := hrel
       cases gk with
       | zero => exact absurd HA.out (by simp [nat_Gcd.l1])
       | succ k3 =>
        have H := HA.out
        clear HA
        simp only [nat_Gcd.l1] at H
        by_cases c24 : x8_3 = 0
        ·rw [if_pos c24] at H
         have c24b0 : (x8_3 == 0) = true := beq_iff_eq.mpr c24
         have c24b1 : (x8_3 != 0) = false := bne_eq_false_iff_eq.mpr c24
         clear c24
         obtain ⟨t178, A25, H⟩ := zB H
         obtain rfl := Option.some.inj H
         go_wp2_with (first | (go_at_call 136; (with_reducible refine (nat_Of.calls k3 x7_3 t178 _ A25.out).mono ?_); rintro e w26 ⟨v179, rfl, ho0, hb⟩; have HO180 := Aside0.mk (Kd.R_lower (Kd.R_newM (M := fun k_ => (w.heap.size ≤ k_)) ho0 bs (fun k_ h_ => h_)) bs); replace HB := sB hb; clear hb ho0))
         repeat (go_quiet (first | (go_at_call 136; (with_reducible refine (nat_Of.calls k3 x7_3 t178 _ A25.out).mono ?_); rintro e w26 ⟨v179, rfl, ho0, hb⟩; have HO180 := Aside0.mk (Kd.R_lower (Kd.R_newM (M := fun k_ => (w.heap.size ≤ k_)) ho0 bs (fun k_ h_ => h_)) bs); replace HB := sB hb; clear hb ho0)); try go_wp2_with (first | (go_at_call 136; (with_reducible refine (nat_Of.calls k3 x7_3 t178 _ A25.out).mono ?_); rintro e w26 ⟨v179, rfl, ho0, hb⟩; have HO180 := Aside0.mk (Kd.R_lower (Kd.R_newM (M := fun k_ => (w.heap.size ≤ k_)) ho0 bs (fun k_ h_ => h_)) bs); replace HB := sB hb; clear hb ho0)))
         go_ret
         exact ⟨_, ze, by (with_reducible repeat (first | apply Kd.R_alloc | apply Kd.R_drewN | apply Kd.R_drew)); exact Kd.R_mono HO180.out (fun _ hk => hk.1), bw⟩
        ·rw [if_neg c24] at H
         have c24b0 : (x8_3 == 0) = false := beq_eq_false_iff_ne.mpr c24
         have c24b1 : (x8_3 != 0) = true := bne_iff_ne.mpr c24
         have H' := Aside0.mk H
         clear H
         go_wp2
         repeat (go_quiet (fail); try go_wp2)
         go_roundg k3
         case measure => have := HK1.out; have := HJ2.out; have := HK3.out; omega
         case rel => exact ⟨(x8_3), (Int.tmod x7_3 x8_3), zs, zs, H', ⟨by have := HK1.out; have := HJ2.out; have := HK3.out; omega⟩, ⟨bw⟩⟩

def nat_Nat_One.f (l0 : List Int) : Option (Bool) := if (l0.length : Int) = 1 then (if 0 < (l0.length : Int) then (some ((rd l0 0) == 1)) else (none)) else (some false)
set_option maxHeartbeats 8000000 in
set_option maxRecDepth 100000 in
theorem nat_Nat_One.calls (A0 : Option Addr) (c0 : Nat) (l0 : List Int) (r : Bool) (w : World) (hr0 : Kd.C (Kd.int .u32) w A0 l0.length l0) (hc0 : l0.length ≤ c0) (h : nat_Nat_One.f l0 = some r) :
  Calls Tryz.prog 109 #[.slice A0 l0.length c0] w fun e w' => e = .returned (.bool r) ∧ Drawn0 w w' := by
 have HR0 := Aside0.mk hr0
 have HC0 := Aside0.mk hc0
 clear hr0 hc0
 have H : (if (l0.length : Int) = 1 then (if 0 < (l0.length : Int) then (some ((rd l0 0) == 1)) else (none)) else (some false)) = some r := h
 clear h
 by_cases c2 : (l0.length : Int) = 1
 ·rw [if_pos c2] at H
  have c2b0 : ((l0.length : Int) == 1) = true := beq_iff_eq.mpr c2
  have c2b1 : ((l0.length : Int) != 1) = false := bne_eq_false_iff_eq.mpr c2
  clear c2
  by_cases c3 : 0 < (l0.length : Int)
  ·rw [if_pos c3] at H
   have c3b0 : decide (0 < (l0.length : Int)) = true := decide_eq_true c3
   have c3b1 : decide (0 < l0.length) = true := decide_eq_true (by omega)
   clear c3
   obtain rfl := Option.some.inj H
   have p181 : 0 ≤ (0 : Int) := (by omega)
   have q181 : 0 < (l0.length : Int) := zd
   obtain ⟨ad181, e181, hx181_0⟩ := Kd.at_int HR0.out 0 p181 q181
   cases e181
   have qi181 : (0 < l0.length) = True := eq_true (by omega)
   (try rw [show ((0 : Int)).toNat = 0 from rfl] at hx181_0)
   (try rw [Addr.add_zero'] at hx181_0)
   replace p181 := eq_true p181
   replace q181 := eq_true q181
   go_enter Tryz.func109, Tryz.ntmps109
   go_wp2
   go_ret
   exact ⟨zs, by repeat (first | exact Drawn0.refl _ | apply Drawn0.step)⟩
  ·rw [if_neg c3] at H
   cases H
 ·rw [if_neg c2] at H
  have c2b0 : ((l0.length : Int) == 1) = false := beq_eq_false_iff_ne.mpr c2
  have c2b1 : ((l0.length : Int) != 1) = true := bne_iff_ne.mpr c2
  obtain rfl := Option.some.inj H
  go_enter Tryz.func109, Tryz.ntmps109
  go_wp2
  go_ret
  exact ⟨zs, by repeat (first | exact Drawn0.refl _ | apply Drawn0.step)⟩

def nat_Nat_Zero.f (l0 : List Int) : Option (Bool) := some ((l0.length : Int) == 0)
set_option maxHeartbeats 8000000 in
set_option maxRecDepth 100000 in
theorem nat_Nat_Zero.calls (A0 : Option Addr) (c0 : Nat) (l0 : List Int) (r : Bool) (w : World) (hr0 : Kd.C (Kd.int .u32) w A0 l0.length l0) (hc0 : l0.length ≤ c0) (h : nat_Nat_Zero.f l0 = some r) :
  Calls Tryz.prog 151 #[.slice A0 l0.length c0] w fun e w' => e = .returned (.bool r) ∧ Drawn0 w w' := by
 have HR0 := Aside0.mk hr0
 have HC0 := Aside0.mk hc0
 clear hr0 hc0
 have H : (some ((l0.length : Int) == 0)) = some r := h
 clear h
 obtain rfl := Option.some.inj H
 go_enter Tryz.func151, Tryz.ntmps151
 go_wp2
 go_ret
 exact ⟨zs, by repeat (first | exact Drawn0.refl _ | apply Drawn0.step)⟩

def frac_Reduced.f (k : Nat) (a0 : Bool) (l1 : List Int) (l2 : List Int) : Option (Bool × List Int × List Int) := (nat_Nat_Zero.f l1).bind fun t183 => (if t183 = true then ((frac_one.f k).bind fun t184 => (some (false, ([] : List Int), t184))) else ((nat_Nat_One.f l2).bind fun t187 => (if t187 = true then (some (a0, l1, l2)) else ((nat_Gcd.f k l1 l2).bind fun t188 => ((nat_Nat_One.f t188).bind fun t191 => (if t191 = true then (some (a0, l1, l2)) else ((nat_Div.f k l1 t188).bind fun bt192 => ((nat_Div.f k l2 t188).bind fun bt198 => (some (a0, bt192.1, bt198.1))))))))))
theorem frac_Reduced.mono : ∀ a0 a1 a2 k, LeO (frac_Reduced.f k a0 a1 a2) (frac_Reduced.f (k + 1) a0 a1 a2) := by
 intro a0 a1 a2 k
 unfold frac_Reduced.f
 have m0 := frac_one.mono
 have m1 := nat_Div.mono
 have m2 := nat_Gcd.mono
 exact zM
set_option maxHeartbeats 8000000 in
set_option maxRecDepth 100000 in
theorem frac_Reduced.calls (k : Nat) (a0 : Bool) (P1_ : Nat → Prop) (A1 : Option Addr) (c1 : Nat) (l1 : List Int) (P2_ : Nat → Prop) (A2 : Option Addr) (c2 : Nat) (l2 : List Int) (r1 : Bool) (r2 : List Int) (r3 : List Int) (w : World) (hs1 : Kd.V (Kd.int .u32) 97 w w.heap.size (fun k_ => P1_ k_) (.slice A1 l1.length c1) l1) (hs2 : Kd.V (Kd.int .u32) 97 w w.heap.size (fun k_ => P2_ k_) (.slice A2 l2.length c2) l2) (h : frac_Reduced.f k a0 l1 l2 = some (r1, r2, r3)) :
  Calls Tryz.prog 148 #[.bool a0, .slice A1 l1.length c1, .slice A2 l2.length c2] w fun e w' => ∃ v1_ v2_ : Value, e = .returned (.agg #[.bool r1, v1_, v2_]) ∧ Kd.V (Kd.int .u32) 97 w' w.heap.size (fun k_ => ((P1_ k_ ∨ P2_ k_) ∨ w.heap.size ≤ k_)) v1_ r2 ∧ Kd.V (Kd.int .u32) 97 w' w.heap.size (fun k_ => ((P1_ k_ ∨ P2_ k_) ∨ w.heap.size ≤ k_)) v2_ r3 ∧ Below w.heap.size w w' := by
 have hu103 := Tryz.underlying103
 have HO1 := Aside0.mk (show Kd.V (Kd.int .u32) 97 w w.heap.size (fun k_ => ((P1_ k_ ∨ P2_ k_) ∨ w.heap.size ≤ k_)) (.slice A1 l1.length c1) l1 from Kd.V_mono hs1 (fun k_ hk => .inl (.inl hk)))
 have HO2 := Aside0.mk (show Kd.V (Kd.int .u32) 97 w w.heap.size (fun k_ => ((P1_ k_ ∨ P2_ k_) ∨ w.heap.size ≤ k_)) (.slice A2 l2.length c2) l2 from Kd.V_mono hs2 (fun k_ hk => .inl (.inr hk)))
 have HB := Aside0.mk (Below.refl w.heap.size w)
 have H : ((nat_Nat_Zero.f l1).bind fun t183 => (if t183 = true then ((frac_one.f k).bind fun t184 => (some (false, ([] : List Int), t184))) else ((nat_Nat_One.f l2).bind fun t187 => (if t187 = true then (some (a0, l1, l2)) else ((nat_Gcd.f k l1 l2).bind fun t188 => ((nat_Nat_One.f t188).bind fun t191 => (if t191 = true then (some (a0, l1, l2)) else ((nat_Div.f k l1 t188).bind fun bt192 => ((nat_Div.f k l2 t188).bind fun bt198 => (some (a0, bt192.1, bt198.1))))))))))) = some (r1, r2, r3) := h
 clear h
 obtain ⟨t183, A4, H⟩ := zB H
 by_cases c5 : t183 = true
 ·subst c5
  have H1 : ((frac_one.f k).bind fun t184 => (some (false, ([] : List Int), t184))) = some (r1, r2, r3) := by rw [if_pos rfl] at H; exact H
  clear H
  have H := H1
  clear H1
  obtain ⟨t184, A6, H⟩ := zB H
  simp only [Option.some.injEq, Prod.mk.injEq] at H
  obtain ⟨rfl, rfl, rfl⟩ := H
  go_enter Tryz.func148, Tryz.ntmps148
  go_wp2_with (first | ((with_reducible refine gate_dst (N := 6) rfl ?_); refine box_ev 6 #[.bool false, .slice none 0 0, .slice none 0 0] 103 ?_; intro gb182 hg w7 hbox hb; replace HO1 := Aside0.mk (Kd.V_below (Kd.V_elderB (zV HO1) gb182 (Nat.le_of_eq hg.symm)) hb); replace HO2 := Aside0.mk (Kd.V_below (Kd.V_elderB (zV HO2) gb182 (Nat.le_of_eq hg.symm)) hb); have BK182 := Aside0.mk (hbox); have GW182 := sG hg; have GE182 := sG hg; replace HB := sB hb; clear hb hbox hg) | (refine zg (some 9) Tryz.func151 #[.slice A1 l1.length c1] ?_; (with_reducible refine (nat_Nat_Zero.calls _ _ l1 true _ ?side1 ?side2 A4.out).mono ?_); (case side1 => exact zC (Kd.V_reads' HO1.out).2.2); (case side2 => exact (Kd.V_reads' HO1.out).2.1); rintro e w' ⟨rfl, ⟨nd, rfl⟩⟩; refine ⟨_, rfl, ?_⟩; (try (rw [drewN_self w7]; generalize hq_ : World.drewN w7 _ = w7; have n0_ : Aside0 (Kd.V (Kd.int .u32) 97 w7 w.heap.size (fun k_ => ((P1_ k_ ∨ P2_ k_) ∨ w.heap.size ≤ k_) ∧ k_ ≠ gb182) (.slice A1 l1.length c1) l1) := ⟨by rw [← hq_]; exact (zV HO1)⟩; have n1_ : Aside0 (Kd.V (Kd.int .u32) 97 w7 w.heap.size (fun k_ => ((P1_ k_ ∨ P2_ k_) ∨ w.heap.size ≤ k_) ∧ k_ ≠ gb182) (.slice A2 l2.length c2) l2) := ⟨by rw [← hq_]; exact (zV HO2)⟩; have n2_ : Aside0 (w7.heap[gb182]? = some (.cells #[.bool false, .slice none 0 0, .slice none 0 0] 103 (0, 0))) := ⟨by rw [← hq_]; exact (zb BK182)⟩; have n3_ : Aside0 (Below w.heap.size w w7) := ⟨by rw [← hq_]; exact bw⟩; clear HO1 HO2 BK182 HB hq_; have HO1 := n0_; have HO2 := n1_; have BK182 := n2_; have HB := n3_; clear n0_ n1_ n2_ n3_))) | (refine zg (some 10) Tryz.func137 #[] ?_; (with_reducible refine (frac_one.calls k  t184 _ A6.out).mono ?_); rintro e w8 ⟨v185, rfl, ho0, hb⟩; refine ⟨_, rfl, ?_⟩; replace HO1 := Aside0.mk (Kd.V_elder' (zV HO1) (Kd.R_base ho0) hb); replace HO2 := Aside0.mk (Kd.V_elder' (zV HO2) (Kd.R_base ho0) hb); have HO186 := Aside0.mk (Kd.R_lower (Kd.R_newM (M := fun k_ => (w.heap.size ≤ k_)) ho0 bs (fun k_ h_ => h_)) bs); replace BK182 := sK BK182 hb; replace HB := sB hb; clear hb ho0; obtain ⟨Ao9, co9, rfl⟩ := Kd.R_slice HO186.out; obtain ⟨hcz10_0, hfz10_0⟩ := zc BK182 0 (.bool false) rfl; obtain ⟨hcz10_1, hfz10_1⟩ := zc BK182 1 (.slice none 0 0) rfl; obtain ⟨hcz10_2, hfz10_2⟩ := zc BK182 2 (.slice none 0 0) rfl))
  refine bodyPost_ret (results_cell_row rfl _ _ gb182 103 #[.bool false, .slice none 0 0, .slice Ao9 t184.length co9] (0, 0) _ rfl (zp BK182) Tryz.underlying103 rfl (by kernel_rfl)) rfl ?_
  exact ⟨_, _, ze, Kd.V_mono (Kd.V_nil _ _ _ _ _) (fun k_ hk => by first | exact ⟨(.inr (hk.1)), hk.2⟩ | exact (.inr (hk))), Kd.V_mono (Kd.R_V (by (with_reducible repeat (first | apply Kd.R_alloc | apply Kd.R_drewN | apply Kd.R_drew)); exact Kd.R_mono (Kd.R_far (p := ⟨gb182, 2, none⟩) (Kd.R_far (p := ⟨gb182, 1, none⟩) (Kd.R_far (p := ⟨gb182, 0, none⟩) (Kd.R_types HO186.out BK182.out (by decide)) (fun k_ hk => by first | exact hk.2 | simp_all) (.bool false)) (fun k_ hk => by first | exact hk.2 | simp_all) (.slice none 0 0)) (fun k_ hk => by first | exact hk.2 | simp_all) (.slice Ao9 t184.length co9)) (fun k_ hk => by first | exact hk.1.1 | simp_all))) (fun k_ hk => by first | exact ⟨(.inr (hk.1)), hk.2⟩ | exact (.inr (hk))), bw⟩
 ·replace c5 := Bool.eq_false_iff.mpr c5
  subst c5
  have H1 : ((nat_Nat_One.f l2).bind fun t187 => (if t187 = true then (some (a0, l1, l2)) else ((nat_Gcd.f k l1 l2).bind fun t188 => ((nat_Nat_One.f t188).bind fun t191 => (if t191 = true then (some (a0, l1, l2)) else ((nat_Div.f k l1 t188).bind fun bt192 => ((nat_Div.f k l2 t188).bind fun bt198 => (some (a0, bt192.1, bt198.1))))))))) = some (r1, r2, r3) := by rw [if_neg (show ¬ (false = true) by decide)] at H; exact H
  clear H
  have H := H1
  clear H1
  obtain ⟨t187, A11, H⟩ := zB H
  by_cases c12 : t187 = true
  ·subst c12
   have H1 : (some (a0, l1, l2)) = some (r1, r2, r3) := by rw [if_pos rfl] at H; exact H
   clear H
   have H := H1
   clear H1
   simp only [Option.some.injEq, Prod.mk.injEq] at H
   obtain ⟨rfl, rfl, rfl⟩ := H
   go_enter Tryz.func148, Tryz.ntmps148
   go_wp2_with (first | ((with_reducible refine gate_dst (N := 6) rfl ?_); refine box_ev 6 #[.bool false, .slice none 0 0, .slice none 0 0] 103 ?_; intro gb182 hg w13 hbox hb; replace HO1 := Aside0.mk (Kd.V_below (Kd.V_elderB (zV HO1) gb182 (Nat.le_of_eq hg.symm)) hb); replace HO2 := Aside0.mk (Kd.V_below (Kd.V_elderB (zV HO2) gb182 (Nat.le_of_eq hg.symm)) hb); have BK182 := Aside0.mk (hbox); have GW182 := sG hg; have GE182 := sG hg; replace HB := sB hb; clear hb hbox hg) | (refine zg (some 9) Tryz.func151 #[.slice A1 l1.length c1] ?_; (with_reducible refine (nat_Nat_Zero.calls _ _ l1 false _ ?side1 ?side2 A4.out).mono ?_); (case side1 => exact zC (Kd.V_reads' HO1.out).2.2); (case side2 => exact (Kd.V_reads' HO1.out).2.1); rintro e w' ⟨rfl, ⟨nd, rfl⟩⟩; refine ⟨_, rfl, ?_⟩; (try (rw [drewN_self w13]; generalize hq_ : World.drewN w13 _ = w13; have n0_ : Aside0 (Kd.V (Kd.int .u32) 97 w13 w.heap.size (fun k_ => ((P1_ k_ ∨ P2_ k_) ∨ w.heap.size ≤ k_) ∧ k_ ≠ gb182) (.slice A1 l1.length c1) l1) := ⟨by rw [← hq_]; exact (zV HO1)⟩; have n1_ : Aside0 (Kd.V (Kd.int .u32) 97 w13 w.heap.size (fun k_ => ((P1_ k_ ∨ P2_ k_) ∨ w.heap.size ≤ k_) ∧ k_ ≠ gb182) (.slice A2 l2.length c2) l2) := ⟨by rw [← hq_]; exact (zV HO2)⟩; have n2_ : Aside0 (w13.heap[gb182]? = some (.cells #[.bool false, .slice none 0 0, .slice none 0 0] 103 (0, 0))) := ⟨by rw [← hq_]; exact (zb BK182)⟩; have n3_ : Aside0 (Below w.heap.size w w13) := ⟨by rw [← hq_]; exact bw⟩; clear HO1 HO2 BK182 HB hq_; have HO1 := n0_; have HO2 := n1_; have BK182 := n2_; have HB := n3_; clear n0_ n1_ n2_ n3_))) | (refine zg (some 13) Tryz.func109 #[.slice A2 l2.length c2] ?_; (with_reducible refine (nat_Nat_One.calls _ _ l2 true _ ?side1 ?side2 A11.out).mono ?_); (case side1 => exact zC (Kd.V_reads' HO2.out).2.2); (case side2 => exact (Kd.V_reads' HO2.out).2.1); rintro e w' ⟨rfl, ⟨nd, rfl⟩⟩; refine ⟨_, rfl, ?_⟩; (try (rw [drewN_self w13]; generalize hq_ : World.drewN w13 _ = w13; have n0_ : Aside0 (Kd.V (Kd.int .u32) 97 w13 w.heap.size (fun k_ => ((P1_ k_ ∨ P2_ k_) ∨ w.heap.size ≤ k_) ∧ k_ ≠ gb182) (.slice A1 l1.length c1) l1) := ⟨by rw [← hq_]; exact (zV HO1)⟩; have n1_ : Aside0 (Kd.V (Kd.int .u32) 97 w13 w.heap.size (fun k_ => ((P1_ k_ ∨ P2_ k_) ∨ w.heap.size ≤ k_) ∧ k_ ≠ gb182) (.slice A2 l2.length c2) l2) := ⟨by rw [← hq_]; exact (zV HO2)⟩; have n2_ : Aside0 (w13.heap[gb182]? = some (.cells #[.bool false, .slice none 0 0, .slice none 0 0] 103 (0, 0))) := ⟨by rw [← hq_]; exact (zb BK182)⟩; have n3_ : Aside0 (Below w.heap.size w w13) := ⟨by rw [← hq_]; exact bw⟩; clear HO1 HO2 BK182 HB hq_; have HO1 := n0_; have HO2 := n1_; have BK182 := n2_; have HB := n3_; clear n0_ n1_ n2_ n3_)); obtain ⟨hcz14_0, hfz14_0⟩ := zc BK182 0 (.bool false) rfl; obtain ⟨hcz14_1, hfz14_1⟩ := zc BK182 1 (.slice none 0 0) rfl; obtain ⟨hcz14_2, hfz14_2⟩ := zc BK182 2 (.slice none 0 0) rfl))
   refine bodyPost_ret (results_cell_row rfl _ _ gb182 103 #[.bool a0, .slice A1 l1.length c1, .slice A2 l2.length c2] (0, 0) _ rfl (zp BK182) Tryz.underlying103 rfl (by kernel_rfl)) rfl ?_
   exact ⟨_, _, ze, by (with_reducible repeat (first | apply Kd.V_alloc | apply Kd.V_drewN | apply Kd.V_drew)); exact Kd.V_mono (Kd.V_far (p := ⟨gb182, 2, none⟩) (Kd.V_far (p := ⟨gb182, 1, none⟩) (Kd.V_far (p := ⟨gb182, 0, none⟩) (Kd.V_mono HO1.out (fun k_ hk => (⟨hk, by first | exact hk.2 | simp_all⟩ : _ ∧ k_ ≠ gb182))) (fun k_ hk => by first | exact hk.2 | simp_all) (.bool a0)) (fun k_ hk => by first | exact hk.2 | simp_all) (.slice A1 l1.length c1)) (fun k_ hk => by first | exact hk.2 | simp_all) (.slice A2 l2.length c2)) (fun k_ hk => by first | exact hk.1.1 | simp_all), by (with_reducible repeat (first | apply Kd.V_alloc | apply Kd.V_drewN | apply Kd.V_drew)); exact Kd.V_mono (Kd.V_far (p := ⟨gb182, 2, none⟩) (Kd.V_far (p := ⟨gb182, 1, none⟩) (Kd.V_far (p := ⟨gb182, 0, none⟩) (Kd.V_mono HO2.out (fun k_ hk => (⟨hk, by first | exact hk.2 | simp_all⟩ : _ ∧ k_ ≠ gb182))) (fun k_ hk => by first | exact hk.2 | simp_all) (.bool a0)) (fun k_ hk => by first | exact hk.2 | simp_all) (.slice A1 l1.length c1)) (fun k_ hk => by first | exact hk.2 | simp_all) (.slice A2 l2.length c2)) (fun k_ hk => by first | exact hk.1.1 | simp_all), bw⟩
  ·replace c12 := Bool.eq_false_iff.mpr c12
   subst c12
   have H1 : ((nat_Gcd.f k l1 l2).bind fun t188 => ((nat_Nat_One.f t188).bind fun t191 => (if t191 = true then (some (a0, l1, l2)) else ((nat_Div.f k l1 t188).bind fun bt192 => ((nat_Div.f k l2 t188).bind fun bt198 => (some (a0, bt192.1, bt198.1))))))) = some (r1, r2, r3) := by rw [if_neg (show ¬ (false = true) by decide)] at H; exact H
   clear H
   have H := H1
   clear H1
   obtain ⟨t188, A15, H⟩ := zB H
   obtain ⟨t191, A16, H⟩ := zB H
   by_cases c17 : t191 = true
   ·subst c17
    have H1 : (some (a0, l1, l2)) = some (r1, r2, r3) := by rw [if_pos rfl] at H; exact H
    clear H
    have H := H1
    clear H1
    simp only [Option.some.injEq, Prod.mk.injEq] at H
    obtain ⟨rfl, rfl, rfl⟩ := H
    go_enter Tryz.func148, Tryz.ntmps148
    go_wp2_with (first | ((with_reducible refine gate_dst (N := 6) rfl ?_); refine box_ev 6 #[.bool false, .slice none 0 0, .slice none 0 0] 103 ?_; intro gb182 hg w18 hbox hb; replace HO1 := Aside0.mk (Kd.V_below (Kd.V_elderB (zV HO1) gb182 (Nat.le_of_eq hg.symm)) hb); replace HO2 := Aside0.mk (Kd.V_below (Kd.V_elderB (zV HO2) gb182 (Nat.le_of_eq hg.symm)) hb); have BK182 := Aside0.mk (hbox); have GW182 := sG hg; have GE182 := sG hg; replace HB := sB hb; clear hb hbox hg) | (refine zg (some 9) Tryz.func151 #[.slice A1 l1.length c1] ?_; (with_reducible refine (nat_Nat_Zero.calls _ _ l1 false _ ?side1 ?side2 A4.out).mono ?_); (case side1 => exact zC (Kd.V_reads' HO1.out).2.2); (case side2 => exact (Kd.V_reads' HO1.out).2.1); rintro e w' ⟨rfl, ⟨nd, rfl⟩⟩; refine ⟨_, rfl, ?_⟩; (try (rw [drewN_self w18]; generalize hq_ : World.drewN w18 _ = w18; have n0_ : Aside0 (Kd.V (Kd.int .u32) 97 w18 w.heap.size (fun k_ => ((P1_ k_ ∨ P2_ k_) ∨ w.heap.size ≤ k_) ∧ k_ ≠ gb182) (.slice A1 l1.length c1) l1) := ⟨by rw [← hq_]; exact (zV HO1)⟩; have n1_ : Aside0 (Kd.V (Kd.int .u32) 97 w18 w.heap.size (fun k_ => ((P1_ k_ ∨ P2_ k_) ∨ w.heap.size ≤ k_) ∧ k_ ≠ gb182) (.slice A2 l2.length c2) l2) := ⟨by rw [← hq_]; exact (zV HO2)⟩; have n2_ : Aside0 (w18.heap[gb182]? = some (.cells #[.bool false, .slice none 0 0, .slice none 0 0] 103 (0, 0))) := ⟨by rw [← hq_]; exact (zb BK182)⟩; have n3_ : Aside0 (Below w.heap.size w w18) := ⟨by rw [← hq_]; exact bw⟩; clear HO1 HO2 BK182 HB hq_; have HO1 := n0_; have HO2 := n1_; have BK182 := n2_; have HB := n3_; clear n0_ n1_ n2_ n3_))) | (refine zg (some 13) Tryz.func109 #[.slice A2 l2.length c2] ?_; (with_reducible refine (nat_Nat_One.calls _ _ l2 false _ ?side1 ?side2 A11.out).mono ?_); (case side1 => exact zC (Kd.V_reads' HO2.out).2.2); (case side2 => exact (Kd.V_reads' HO2.out).2.1); rintro e w' ⟨rfl, ⟨nd, rfl⟩⟩; refine ⟨_, rfl, ?_⟩; (try (rw [drewN_self w18]; generalize hq_ : World.drewN w18 _ = w18; have n0_ : Aside0 (Kd.V (Kd.int .u32) 97 w18 w.heap.size (fun k_ => ((P1_ k_ ∨ P2_ k_) ∨ w.heap.size ≤ k_) ∧ k_ ≠ gb182) (.slice A1 l1.length c1) l1) := ⟨by rw [← hq_]; exact (zV HO1)⟩; have n1_ : Aside0 (Kd.V (Kd.int .u32) 97 w18 w.heap.size (fun k_ => ((P1_ k_ ∨ P2_ k_) ∨ w.heap.size ≤ k_) ∧ k_ ≠ gb182) (.slice A2 l2.length c2) l2) := ⟨by rw [← hq_]; exact (zV HO2)⟩; have n2_ : Aside0 (w18.heap[gb182]? = some (.cells #[.bool false, .slice none 0 0, .slice none 0 0] 103 (0, 0))) := ⟨by rw [← hq_]; exact (zb BK182)⟩; have n3_ : Aside0 (Below w.heap.size w w18) := ⟨by rw [← hq_]; exact bw⟩; clear HO1 HO2 BK182 HB hq_; have HO1 := n0_; have HO2 := n1_; have BK182 := n2_; have HB := n3_; clear n0_ n1_ n2_ n3_))) | (refine zg (some 17) Tryz.func107 #[.slice A1 l1.length c1, .slice A2 l2.length c2] ?_; (with_reducible refine (nat_Gcd.calls k (fun k_ => (((P1_ k_ ∨ P2_ k_) ∨ w.heap.size ≤ k_) ∧ k_ ≠ gb182)) _ _ l1 (fun k_ => (((P1_ k_ ∨ P2_ k_) ∨ w.heap.size ≤ k_) ∧ k_ ≠ gb182)) _ _ l2 t188 _ ?side1 ?side2 A15.out).mono ?_); (case side1 => exact HO1.out); (case side2 => exact HO2.out); rintro e w19 ⟨v189, rfl, ho0, hb⟩; refine ⟨_, rfl, ?_⟩; replace HO1 := Aside0.mk (Kd.V_elder' (zV HO1) (Kd.R_base ho0) hb); replace HO2 := Aside0.mk (Kd.V_elder' (zV HO2) (Kd.R_base ho0) hb); have HO190 := Aside0.mk (Kd.R_lower (Kd.R_newM (M := fun k_ => (w.heap.size ≤ k_)) (Kd.R_mono (ok' := fun k_ => True) ho0 (fun _ hk_ => trivial)) bs (fun k_ h_ => h_)) bs); replace BK182 := sK BK182 hb; replace HB := sB hb; clear hb ho0; obtain ⟨Ao20, co20, rfl⟩ := Kd.R_slice HO190.out) | (refine zg (some 19) Tryz.func109 #[.slice Ao20 t188.length co20] ?_; (with_reducible refine (nat_Nat_One.calls _ _ t188 true _ ?side1 ?side2 A16.out).mono ?_); (case side1 => exact zC (Kd.R_reads' HO190.out).2.2); (case side2 => exact (Kd.R_reads' HO190.out).2.1); rintro e w' ⟨rfl, ⟨nd, rfl⟩⟩; refine ⟨_, rfl, ?_⟩; (try (rw [drewN_self w19]; generalize hq_ : World.drewN w19 _ = w19; have n0_ : Aside0 (Kd.V (Kd.int .u32) 97 w19 w.heap.size (fun k_ => ((P1_ k_ ∨ P2_ k_) ∨ w.heap.size ≤ k_) ∧ some k_ ≠ (.slice Ao20 t188.length co20 : Value).ownBlock ∧ k_ ≠ gb182) (.slice A1 l1.length c1) l1) := ⟨by rw [← hq_]; exact (by (with_reducible repeat (first | apply Kd.V_alloc | apply Kd.V_drewN | apply Kd.V_drew)); exact Kd.V_mono HO1.out (fun _ hk => ⟨hk.1.1, ⟨hk.2, hk.1.2⟩⟩))⟩; have n1_ : Aside0 (Kd.R (Kd.int .u32) 97 w19 w.heap.size (fun k_ => (w.heap.size ≤ k_)) (.slice Ao20 t188.length co20) t188) := ⟨by rw [← hq_]; exact (by (with_reducible repeat (first | apply Kd.R_alloc | apply Kd.R_drewN | apply Kd.R_drew)); exact Kd.R_mono HO190.out (fun k_ hk => by first | exact hk.1 | simp_all))⟩; have n2_ : Aside0 (Kd.V (Kd.int .u32) 97 w19 w.heap.size (fun k_ => ((P1_ k_ ∨ P2_ k_) ∨ w.heap.size ≤ k_) ∧ some k_ ≠ (.slice Ao20 t188.length co20 : Value).ownBlock ∧ k_ ≠ gb182) (.slice A2 l2.length c2) l2) := ⟨by rw [← hq_]; exact (by (with_reducible repeat (first | apply Kd.V_alloc | apply Kd.V_drewN | apply Kd.V_drew)); exact Kd.V_mono HO2.out (fun _ hk => ⟨hk.1.1, ⟨hk.2, hk.1.2⟩⟩))⟩; have n3_ : Aside0 (w19.heap[gb182]? = some (.cells #[.bool false, .slice none 0 0, .slice none 0 0] 103 (0, 0))) := ⟨by rw [← hq_]; exact (zb BK182)⟩; have n4_ : Aside0 (Below w.heap.size w w19) := ⟨by rw [← hq_]; exact bw⟩; clear HO1 HO190 HO2 BK182 HB hq_; have HO1 := n0_; have HO190 := n1_; have HO2 := n2_; have BK182 := n3_; have HB := n4_; clear n0_ n1_ n2_ n3_ n4_)); obtain ⟨hcz21_0, hfz21_0⟩ := zc BK182 0 (.bool false) rfl; obtain ⟨hcz21_1, hfz21_1⟩ := zc BK182 1 (.slice none 0 0) rfl; obtain ⟨hcz21_2, hfz21_2⟩ := zc BK182 2 (.slice none 0 0) rfl))
    refine bodyPost_ret (results_cell_row rfl _ _ gb182 103 #[.bool a0, .slice A1 l1.length c1, .slice A2 l2.length c2] (0, 0) _ rfl (zp BK182) Tryz.underlying103 rfl (by kernel_rfl)) rfl ?_
    exact ⟨_, _, ze, by (with_reducible repeat (first | apply Kd.V_alloc | apply Kd.V_drewN | apply Kd.V_drew)); exact Kd.V_mono (Kd.V_far (p := ⟨gb182, 2, none⟩) (Kd.V_far (p := ⟨gb182, 1, none⟩) (Kd.V_far (p := ⟨gb182, 0, none⟩) (Kd.V_mono HO1.out (fun k_ hk => (⟨hk, by first | exact hk.1.2 | simp_all⟩ : _ ∧ k_ ≠ gb182))) (fun k_ hk => by first | exact hk.2 | simp_all) (.bool a0)) (fun k_ hk => by first | exact hk.2 | simp_all) (.slice A1 l1.length c1)) (fun k_ hk => by first | exact hk.2 | simp_all) (.slice A2 l2.length c2)) (fun k_ hk => by first | exact hk.1.1.1 | simp_all), by (with_reducible repeat (first | apply Kd.V_alloc | apply Kd.V_drewN | apply Kd.V_drew)); exact Kd.V_mono (Kd.V_far (p := ⟨gb182, 2, none⟩) (Kd.V_far (p := ⟨gb182, 1, none⟩) (Kd.V_far (p := ⟨gb182, 0, none⟩) (Kd.V_mono HO2.out (fun k_ hk => (⟨hk, by first | exact hk.1.2 | simp_all⟩ : _ ∧ k_ ≠ gb182))) (fun k_ hk => by first | exact hk.2 | simp_all) (.bool a0)) (fun k_ hk => by first | exact hk.2 | simp_all) (.slice A1 l1.length c1)) (fun k_ hk => by first | exact hk.2 | simp_all) (.slice A2 l2.length c2)) (fun k_ hk => by first | exact hk.1.1.1 | simp_all), bw⟩
   ·replace c17 := Bool.eq_false_iff.mpr c17
    subst c17
    have H1 : ((nat_Div.f k l1 t188).bind fun bt192 => ((nat_Div.f k l2 t188).bind fun bt198 => (some (a0, bt192.1, bt198.1)))) = some (r1, r2, r3) := by rw [if_neg (show ¬ (false = true) by decide)] at H; exact H
    clear H
    have H := H1
    clear H1
    replace H := Option.bind_eq_some_iff.mp H
    obtain ⟨⟨t192, t195⟩, A220, H⟩ := H
    replace H : ((nat_Div.f k l2 t188).bind fun bt198 => (some (a0, t192, bt198.1))) = some (r1, r2, r3) := H
    have A22 := Aside0.mk A220
    clear A220
    replace H := Option.bind_eq_some_iff.mp H
    obtain ⟨⟨t198, t201⟩, A230, H⟩ := H
    replace H : (some (a0, t192, t198)) = some (r1, r2, r3) := H
    have A23 := Aside0.mk A230
    clear A230
    simp only [Option.some.injEq, Prod.mk.injEq] at H
    obtain ⟨rfl, rfl, rfl⟩ := H
    go_enter Tryz.func148, Tryz.ntmps148
    go_wp2_with (first | ((with_reducible refine gate_dst (N := 6) rfl ?_); refine box_ev 6 #[.bool false, .slice none 0 0, .slice none 0 0] 103 ?_; intro gb182 hg w24 hbox hb; replace HO1 := Aside0.mk (Kd.V_below (Kd.V_elderB (zV HO1) gb182 (Nat.le_of_eq hg.symm)) hb); replace HO2 := Aside0.mk (Kd.V_below (Kd.V_elderB (zV HO2) gb182 (Nat.le_of_eq hg.symm)) hb); have BK182 := Aside0.mk (hbox); have GW182 := sG hg; have GE182 := sG hg; replace HB := sB hb; clear hb hbox hg) | (refine zg (some 9) Tryz.func151 #[.slice A1 l1.length c1] ?_; (with_reducible refine (nat_Nat_Zero.calls _ _ l1 false _ ?side1 ?side2 A4.out).mono ?_); (case side1 => exact zC (Kd.V_reads' HO1.out).2.2); (case side2 => exact (Kd.V_reads' HO1.out).2.1); rintro e w' ⟨rfl, ⟨nd, rfl⟩⟩; refine ⟨_, rfl, ?_⟩; (try (rw [drewN_self w24]; generalize hq_ : World.drewN w24 _ = w24; have n0_ : Aside0 (Kd.V (Kd.int .u32) 97 w24 w.heap.size (fun k_ => ((P1_ k_ ∨ P2_ k_) ∨ w.heap.size ≤ k_) ∧ k_ ≠ gb182) (.slice A1 l1.length c1) l1) := ⟨by rw [← hq_]; exact (zV HO1)⟩; have n1_ : Aside0 (Kd.V (Kd.int .u32) 97 w24 w.heap.size (fun k_ => ((P1_ k_ ∨ P2_ k_) ∨ w.heap.size ≤ k_) ∧ k_ ≠ gb182) (.slice A2 l2.length c2) l2) := ⟨by rw [← hq_]; exact (zV HO2)⟩; have n2_ : Aside0 (w24.heap[gb182]? = some (.cells #[.bool false, .slice none 0 0, .slice none 0 0] 103 (0, 0))) := ⟨by rw [← hq_]; exact (zb BK182)⟩; have n3_ : Aside0 (Below w.heap.size w w24) := ⟨by rw [← hq_]; exact bw⟩; clear HO1 HO2 BK182 HB hq_; have HO1 := n0_; have HO2 := n1_; have BK182 := n2_; have HB := n3_; clear n0_ n1_ n2_ n3_))) | (refine zg (some 13) Tryz.func109 #[.slice A2 l2.length c2] ?_; (with_reducible refine (nat_Nat_One.calls _ _ l2 false _ ?side1 ?side2 A11.out).mono ?_); (case side1 => exact zC (Kd.V_reads' HO2.out).2.2); (case side2 => exact (Kd.V_reads' HO2.out).2.1); rintro e w' ⟨rfl, ⟨nd, rfl⟩⟩; refine ⟨_, rfl, ?_⟩; (try (rw [drewN_self w24]; generalize hq_ : World.drewN w24 _ = w24; have n0_ : Aside0 (Kd.V (Kd.int .u32) 97 w24 w.heap.size (fun k_ => ((P1_ k_ ∨ P2_ k_) ∨ w.heap.size ≤ k_) ∧ k_ ≠ gb182) (.slice A1 l1.length c1) l1) := ⟨by rw [← hq_]; exact (zV HO1)⟩; have n1_ : Aside0 (Kd.V (Kd.int .u32) 97 w24 w.heap.size (fun k_ => ((P1_ k_ ∨ P2_ k_) ∨ w.heap.size ≤ k_) ∧ k_ ≠ gb182) (.slice A2 l2.length c2) l2) := ⟨by rw [← hq_]; exact (zV HO2)⟩; have n2_ : Aside0 (w24.heap[gb182]? = some (.cells #[.bool false, .slice none 0 0, .slice none 0 0] 103 (0, 0))) := ⟨by rw [← hq_]; exact (zb BK182)⟩; have n3_ : Aside0 (Below w.heap.size w w24) := ⟨by rw [← hq_]; exact bw⟩; clear HO1 HO2 BK182 HB hq_; have HO1 := n0_; have HO2 := n1_; have BK182 := n2_; have HB := n3_; clear n0_ n1_ n2_ n3_))) | (refine zg (some 17) Tryz.func107 #[.slice A1 l1.length c1, .slice A2 l2.length c2] ?_; (with_reducible refine (nat_Gcd.calls k (fun k_ => (((P1_ k_ ∨ P2_ k_) ∨ w.heap.size ≤ k_) ∧ k_ ≠ gb182)) _ _ l1 (fun k_ => (((P1_ k_ ∨ P2_ k_) ∨ w.heap.size ≤ k_) ∧ k_ ≠ gb182)) _ _ l2 t188 _ ?side1 ?side2 A15.out).mono ?_); (case side1 => exact HO1.out); (case side2 => exact HO2.out); rintro e w25 ⟨v189, rfl, ho0, hb⟩; refine ⟨_, rfl, ?_⟩; replace HO1 := Aside0.mk (Kd.V_elder' (zV HO1) (Kd.R_base ho0) hb); replace HO2 := Aside0.mk (Kd.V_elder' (zV HO2) (Kd.R_base ho0) hb); have HO190 := Aside0.mk (Kd.R_lower (Kd.R_newM (M := fun k_ => (w.heap.size ≤ k_)) (Kd.R_mono (ok' := fun k_ => True) ho0 (fun _ hk_ => trivial)) bs (fun k_ h_ => h_)) bs); replace BK182 := sK BK182 hb; replace HB := sB hb; clear hb ho0; obtain ⟨Ao26, co26, rfl⟩ := Kd.R_slice HO190.out) | (refine zg (some 19) Tryz.func109 #[.slice Ao26 t188.length co26] ?_; (with_reducible refine (nat_Nat_One.calls _ _ t188 false _ ?side1 ?side2 A16.out).mono ?_); (case side1 => exact zC (Kd.R_reads' HO190.out).2.2); (case side2 => exact (Kd.R_reads' HO190.out).2.1); rintro e w' ⟨rfl, ⟨nd, rfl⟩⟩; refine ⟨_, rfl, ?_⟩; (try (rw [drewN_self w25]; generalize hq_ : World.drewN w25 _ = w25; have n0_ : Aside0 (Kd.V (Kd.int .u32) 97 w25 w.heap.size (fun k_ => ((P1_ k_ ∨ P2_ k_) ∨ w.heap.size ≤ k_) ∧ some k_ ≠ (.slice Ao26 t188.length co26 : Value).ownBlock ∧ k_ ≠ gb182) (.slice A1 l1.length c1) l1) := ⟨by rw [← hq_]; exact (by (with_reducible repeat (first | apply Kd.V_alloc | apply Kd.V_drewN | apply Kd.V_drew)); exact Kd.V_mono HO1.out (fun _ hk => ⟨hk.1.1, ⟨hk.2, hk.1.2⟩⟩))⟩; have n1_ : Aside0 (Kd.R (Kd.int .u32) 97 w25 w.heap.size (fun k_ => (w.heap.size ≤ k_)) (.slice Ao26 t188.length co26) t188) := ⟨by rw [← hq_]; exact (by (with_reducible repeat (first | apply Kd.R_alloc | apply Kd.R_drewN | apply Kd.R_drew)); exact Kd.R_mono HO190.out (fun k_ hk => by first | exact hk.1 | simp_all))⟩; have n2_ : Aside0 (Kd.V (Kd.int .u32) 97 w25 w.heap.size (fun k_ => ((P1_ k_ ∨ P2_ k_) ∨ w.heap.size ≤ k_) ∧ some k_ ≠ (.slice Ao26 t188.length co26 : Value).ownBlock ∧ k_ ≠ gb182) (.slice A2 l2.length c2) l2) := ⟨by rw [← hq_]; exact (by (with_reducible repeat (first | apply Kd.V_alloc | apply Kd.V_drewN | apply Kd.V_drew)); exact Kd.V_mono HO2.out (fun _ hk => ⟨hk.1.1, ⟨hk.2, hk.1.2⟩⟩))⟩; have n3_ : Aside0 (w25.heap[gb182]? = some (.cells #[.bool false, .slice none 0 0, .slice none 0 0] 103 (0, 0))) := ⟨by rw [← hq_]; exact (zb BK182)⟩; have n4_ : Aside0 (Below w.heap.size w w25) := ⟨by rw [← hq_]; exact bw⟩; clear HO1 HO190 HO2 BK182 HB hq_; have HO1 := n0_; have HO190 := n1_; have HO2 := n2_; have BK182 := n3_; have HB := n4_; clear n0_ n1_ n2_ n3_ n4_))) | (refine zg (some 24) Tryz.func144 #[.slice A1 l1.length c1, .slice Ao26 t188.length co26] ?_; (with_reducible refine (nat_Div.calls k _ _ l1 _ _ t188 t192 t195 _ ?side1 ?side2 ?side3 ?side4 A22.out).mono ?_); (case side1 => exact zC (Kd.V_reads' HO1.out).2.2); (case side2 => exact (Kd.V_reads' HO1.out).2.1); (case side3 => exact zC (Kd.R_reads' HO190.out).2.2); (case side4 => exact (Kd.R_reads' HO190.out).2.1); rintro e w27 ⟨v193, v196, rfl, ho0, ho1, hb⟩; refine ⟨_, rfl, ?_⟩; replace HO1 := Aside0.mk (Kd.V_below (zV HO1) hb); replace HO2 := Aside0.mk (Kd.V_below (zV HO2) hb); have HO194 := Aside0.mk (Kd.V_lower (Kd.V_mono (ok' := fun k_ => ((P1_ k_ ∨ P2_ k_) ∨ w.heap.size ≤ k_) ∧ some k_ ≠ (.slice Ao26 t188.length co26 : Value).ownBlock ∧ k_ ≠ gb182) ho0 (fun k_ hk_ => ⟨(.inr (Nat.le_trans bs hk_)), (Kd.fresh' (Kd.R_lt (zR HO190)) k_ hk_), (Kd.freshB (g := gb182) (o := .cells #[.bool false, .slice none 0 0, .slice none 0 0] 103 (0, 0)) (zb BK182) k_ hk_)⟩)) bs); have HO197 := Aside0.mk (Kd.V_lower (Kd.V_mono (ok' := fun k_ => ((P1_ k_ ∨ P2_ k_) ∨ w.heap.size ≤ k_) ∧ some k_ ≠ (.slice Ao26 t188.length co26 : Value).ownBlock ∧ k_ ≠ gb182) ho1 (fun k_ hk_ => ⟨(.inr (Nat.le_trans bs hk_)), (Kd.fresh' (Kd.R_lt (zR HO190)) k_ hk_), (Kd.freshB (g := gb182) (o := .cells #[.bool false, .slice none 0 0, .slice none 0 0] 103 (0, 0)) (zb BK182) k_ hk_)⟩)) bs); replace HO190 := Aside0.mk (Kd.R_below (zR HO190) hb); replace BK182 := sK BK182 hb; replace HB := sB hb; clear hb ho0 ho1) | (refine zg (some 30) Tryz.func144 #[.slice A2 l2.length c2, .slice Ao26 t188.length co26] ?_; (with_reducible refine (nat_Div.calls k _ _ l2 _ _ t188 t198 t201 _ ?side1 ?side2 ?side3 ?side4 A23.out).mono ?_); (case side1 => exact zC (Kd.V_reads' HO2.out).2.2); (case side2 => exact (Kd.V_reads' HO2.out).2.1); (case side3 => exact zC (Kd.R_reads' HO190.out).2.2); (case side4 => exact (Kd.R_reads' HO190.out).2.1); rintro e w28 ⟨v199, v202, rfl, ho0, ho1, hb⟩; refine ⟨_, rfl, ?_⟩; replace HO1 := Aside0.mk (Kd.V_below (zV HO1) hb); replace HO2 := Aside0.mk (Kd.V_below (zV HO2) hb); replace HO194 := Aside0.mk (Kd.V_below (zV HO194) hb); replace HO197 := Aside0.mk (Kd.V_below (zV HO197) hb); have HO200 := Aside0.mk (Kd.V_lower (Kd.V_mono (ok' := fun k_ => ((P1_ k_ ∨ P2_ k_) ∨ w.heap.size ≤ k_) ∧ some k_ ≠ (.slice Ao26 t188.length co26 : Value).ownBlock ∧ k_ ≠ gb182) ho0 (fun k_ hk_ => ⟨(.inr (Nat.le_trans bs hk_)), (Kd.fresh' (Kd.R_lt (zR HO190)) k_ hk_), (Kd.freshB (g := gb182) (o := .cells #[.bool false, .slice none 0 0, .slice none 0 0] 103 (0, 0)) (zb BK182) k_ hk_)⟩)) bs); have HO203 := Aside0.mk (Kd.V_lower (Kd.V_mono (ok' := fun k_ => ((P1_ k_ ∨ P2_ k_) ∨ w.heap.size ≤ k_) ∧ some k_ ≠ (.slice Ao26 t188.length co26 : Value).ownBlock ∧ k_ ≠ gb182) ho1 (fun k_ hk_ => ⟨(.inr (Nat.le_trans bs hk_)), (Kd.fresh' (Kd.R_lt (zR HO190)) k_ hk_), (Kd.freshB (g := gb182) (o := .cells #[.bool false, .slice none 0 0, .slice none 0 0] 103 (0, 0)) (zb BK182) k_ hk_)⟩)) bs); replace HO190 := Aside0.mk (Kd.R_below (zR HO190) hb); replace BK182 := sK BK182 hb; replace HB := sB hb; clear hb ho0 ho1; obtain ⟨Ao29, co29, rfl⟩ := Kd.V_slice HO200.out; obtain ⟨Ao30, co30, rfl⟩ := Kd.V_slice HO194.out; obtain ⟨hcz31_0, hfz31_0⟩ := zc BK182 0 (.bool false) rfl; obtain ⟨hcz31_1, hfz31_1⟩ := zc BK182 1 (.slice none 0 0) rfl; obtain ⟨hcz31_2, hfz31_2⟩ := zc BK182 2 (.slice none 0 0) rfl))
    refine bodyPost_ret (results_cell_row rfl _ _ gb182 103 #[.bool a0, .slice Ao30 t192.length co30, .slice Ao29 t198.length co29] (0, 0) _ rfl (zp BK182) Tryz.underlying103 rfl (by kernel_rfl)) rfl ?_
    exact ⟨_, _, ze, by (with_reducible repeat (first | apply Kd.V_alloc | apply Kd.V_drewN | apply Kd.V_drew)); exact Kd.V_mono (Kd.V_far (p := ⟨gb182, 2, none⟩) (Kd.V_far (p := ⟨gb182, 1, none⟩) (Kd.V_far (p := ⟨gb182, 0, none⟩) (Kd.V_mono HO194.out (fun k_ hk => (⟨hk, by first | exact hk.2.2 | simp_all⟩ : _ ∧ k_ ≠ gb182))) (fun k_ hk => by first | exact hk.2 | simp_all) (.bool a0)) (fun k_ hk => by first | exact hk.2 | simp_all) (.slice Ao30 t192.length co30)) (fun k_ hk => by first | exact hk.2 | simp_all) (.slice Ao29 t198.length co29)) (fun k_ hk => by first | exact hk.1.1 | simp_all), by (with_reducible repeat (first | apply Kd.V_alloc | apply Kd.V_drewN | apply Kd.V_drew)); exact Kd.V_mono (Kd.V_far (p := ⟨gb182, 2, none⟩) (Kd.V_far (p := ⟨gb182, 1, none⟩) (Kd.V_far (p := ⟨gb182, 0, none⟩) (Kd.V_mono HO200.out (fun k_ hk => (⟨hk, by first | exact hk.2.2 | simp_all⟩ : _ ∧ k_ ≠ gb182))) (fun k_ hk => by first | exact hk.2 | simp_all) (.bool a0)) (fun k_ hk => by first | exact hk.2 | simp_all) (.slice Ao30 t192.length co30)) (fun k_ hk => by first | exact hk.2 | simp_all) (.slice Ao29 t198.length co29)) (fun k_ hk => by first | exact hk.1.1 | simp_all), bw⟩

end Go.Proofs.YtaffkbemjbfajaaGreatDoor.PNumForms
