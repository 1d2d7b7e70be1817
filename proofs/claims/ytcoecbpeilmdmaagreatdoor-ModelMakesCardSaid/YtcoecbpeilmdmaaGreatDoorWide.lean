/-
  nat.wide gives the low 64 bits of a row of digits. No condition.
-/
import Derived.Test.YtcoecbpeilmdmaaGreatDoorProg
import Derived.Below
import Derived.Deep.Draws
import Derived.Deep.AppendLies
import Derived.Maps.AppendAt
import Derived.OwnWalk
import Derived.Laws.BytesArg
import Derived.Laws.MakeOwn
import Derived.Laws.OwnMore
import Derived.Deep.OwnRows
import Derived.Tactics
import Derived.Lib.ConvBytes
import Derived.Laws.Slices
import Derived.WalkKit
import Derived.KernelRfl
import Derived.RowKit3
import Derived.Deep.LoopGhost
import Derived.Deep.QuietTactic
import Derived.BigQuiet
import Derived.WideLaws
import Derived.Deep.DeepCutAuto
import Derived.Deep.CutBlock
import Derived.Deep.RegionHeld3
import Derived.Laws.Rows
import Derived.Lib.AppendStr
import Derived.ArgAppend
import Derived.Laws.IdiomCopy
import Derived.OrdersHeld
import Derived.Laws.BitsLemmas
import Derived.RowKit
import Derived.Lib.SliceRun
import Derived.Lib.AtoiErrMem
import Derived.RangeFuncNested
import Derived.RangeFuncBound
import Derived.RangeFuncCalls
import Derived.RangeFuncLeaves
import Derived.Shelf.Abstract
import Derived.Shelf.RegionOpen
import Derived.OwnWalkIn
import Derived.TacticsInMore
import Derived.LoopNIn
import Derived.LoopIn
import Derived.RangeFuncBox
import Derived.Test.YtcoecbpeilmdmaaGreatDoorCxc
set_option linter.unusedVariables false
set_option linter.unusedSimpArgs false
namespace Go.Proofs.YtcoecbpeilmdmaaGreatDoor.Wide
open Go.RowKit Go.Proofs.Tryz
set_option linter.unusedVariables false
set_option linter.unusedSimpArgs false
set_option maxHeartbeats 8000000
set_option maxRecDepth 100000
/-- Something kept apart from what arithmetic looks at. -/
structure Aside0 (p : Prop) : Prop where
  out : p
/-- A row of 32-bit numbers. -/
def RowU (w : World) (A : Option Addr) (n : Nat) (l : List Int) : Prop := l.length = n ∧ n ≤ 9223372036854775807 ∧ (0 < n → ∃ ad, A = some ad ∧ ∀ j x, l[j]? = some x → w.cell? (ad.add j) = some (.int .u32 x))
namespace Back
/-- What has come when k rounds are over: the last k elements, from the end on, each with its index. -/
def seq (l : List Int) (k : Nat) : List (Int × Int) := (List.range k).map fun (j : Nat) => ((l.length : Int) - 1 - (j : Int), (l[l.length - 1 - j]?).getD 0)
theorem seq_succ (l : List Int) (k : Nat) : seq l (k + 1) = seq l k ++ [((l.length : Int) - 1 - (k : Int), (l[l.length - 1 - k]?).getD 0)] := by simp [seq, List.range_succ]
theorem seq_length (l : List Int) (k : Nat) : (seq l k).length = k := by simp [seq]
/-- What a round keeps: what lay below n₀, and the box of the slice. -/
def Keep (n₀ Bs : Nat) (W W' : World) : Prop := Below n₀ W W' ∧ ∀ v, W.cell? ⟨Bs, 0, none⟩ = some v → W'.cell? ⟨Bs, 0, none⟩ = some v
theorem Keep.refl (n₀ Bs : Nat) (W : World) : Keep n₀ Bs W W := ⟨Below.refl _ _, fun _ h => h⟩
theorem Keep.trans {n₀ Bs : Nat} {A B C : World} (h : Keep n₀ Bs A B) (k : Keep n₀ Bs B C) : Keep n₀ Bs A C := ⟨h.1.trans k.1, fun v e => k.2 v (h.2 v e)⟩
theorem Keep.put {n₀ Bs : Nat} {w : World} (hn : n₀ ≤ w.heap.size) (W : World) (l : Nat) (o o' : Obj) (hl : w.heap.size ≤ l) (h : W.heap[l]? = some o) (hc : o.isCells = false) (hw : o.isWalk = false) : Keep n₀ Bs W (W.putObj l o') :=
  ⟨belowK_b hn W l o o' hl h hc hw, fun v e => cell_kept e (grownBy_putObj' W l o') (fun r e => by cases e; exact ⟨o, h, hc⟩)⟩

attribute [local go_sem] Oper.semAt_some

set_option maxRecDepth 100000 in
set_option maxHeartbeats 2000000 in
/-- slices.Backward's closure: for every loop body that keeps what lay below n₀ and the slice's box. -/
theorem back1_in (F : Fence) (n : Nat) (h8 : F.fn 172) (hro : F.round = none) (hn : 1 ≤ n) (l Bs n₀ cap : Nat) (ad : Addr) (zs : List Int) (hreach : zs.length ≤ 9223372036854775807) (J Jx : List (Int × Int) → World → Prop)
    (hY : ∀ pre x W, J pre W → pre.length < zs.length → YieldAt F (n - 1) Tryz.prog l #[.int .i64 x.1, .int .u32 x.2] W fun e W' =>
      (e = .returned (.bool true) ∧ J (pre ++ [x]) W' ∧ Keep n₀ Bs W W') ∨ (e = .returned (.bool false) ∧ Jx (pre ++ [x]) W'))
    (W : World) (hBs : W.cell? ⟨Bs, 0, none⟩ = some (.slice (some ad) zs.length cap)) (hb : 0 < zs.length → ad.block < n₀) (hc : ∀ j, j < zs.length → W.cell? (ad.add j) = some (.int .u32 (zs[j]?.getD 0))) (h0 : J [] W) :
    CallsIn F n Tryz.prog 172 #[.func (.yield l) #[] #[], .pointer (some ⟨Bs, 0, none⟩)] W fun e W' => (∃ v, e = .returned v) ∧
      ((∃ ys, ys = seq zs zs.length ∧ J ys W') ∨ (∃ pre, (∃ k, k ≤ zs.length ∧ pre = seq zs k) ∧ Jx pre W')) := by
  refine callsIn_of_wp Tryz.func172 rfl h8 ?_ hro
  simp only [Tryz.ntmps172, List.size_toArray, List.length_cons, List.length_nil, Nat.reduceAdd, Nat.reduceSub, Array.replicate_succ, Array.replicate_zero, List.push_toArray, List.append_toArray, List.nil_append, List.cons_append]
  gi_wp2
  gi_loopw [3] (fun i wr => ∃ k : Nat, k ≤ zs.length ∧ i = .int .i64 ((zs.length : Int) - 1 - k) ∧ J (seq zs k) wr ∧ Keep n₀ Bs W wr)
    (fun i _ => (intOf i + 1).toNat)
  case atStart => exact ⟨0, Nat.zero_le _, by simp, h0, Keep.refl _ _ _⟩
  case round =>
    obtain ⟨k, hk, rfl, hJs, hnx⟩ := hrel
    have hbs := hnx.2 _ hBs
    by_cases hlt : k < zs.length
    · have hcx : wr.cell? (ad.add (zs.length - 1 - k)) = some (.int .u32 (zs[zs.length - 1 - k]?.getD 0)) := (hnx.1.cell (p := ad.add (zs.length - 1 - k)) (by unfold Addr.add; split <;> exact hb (by omega))).trans (hc _ (by omega))
      obtain ⟨fn, tmps, assign, body, hy, hR⟩ := hY _ ((zs.length : Int) - 1 - k, zs[zs.length - 1 - k]?.getD 0) wr hJs (by rw [seq_length]; exact hlt)
      dsimp only at hy
      have hidx : ((zs.length : Int) - 1 - k).toNat = zs.length - 1 - k := by omega
      gi_wp2
      refine hR.mono ?_
      rintro e W3 (⟨rfl, hJ3, hk3⟩ | ⟨rfl, hJx3⟩)
      · gi_wp2
        go_roundw
        case rel => exact ⟨k + 1, by omega, by congr 1; omega, by rw [seq_succ]; exact hJ3, hnx.trans hk3⟩
        case measure => simp [intOf]; omega
      · gi_wp2
        refine bodyPost_ret (results_none rfl _ _ _) rfl ?_
        exact ⟨⟨_, rfl⟩, .inr ⟨_, ⟨k + 1, by omega, (seq_succ _ _).symm⟩, hJx3⟩⟩
    · obtain rfl : k = zs.length := by omega
      gi_wp2
      go_end0
      exact ⟨⟨_, rfl⟩, .inl ⟨_, rfl, hJs⟩⟩

set_option maxRecDepth 100000 in
set_option maxHeartbeats 1000000 in
theorem back1_nil_in (F : Fence) (n : Nat) (h8 : F.fn 172) (hro : F.round = none) (l Bs : Nat) (A : Option Addr) (cap : Nat) (J : List (Int × Int) → World → Prop) (W : World) (hBs : W.cell? ⟨Bs, 0, none⟩ = some (.slice A 0 cap)) (h0 : J [] W) :
    CallsIn F n Tryz.prog 172 #[.func (.yield l) #[] #[], .pointer (some ⟨Bs, 0, none⟩)] W fun e W' => (∃ v, e = .returned v) ∧ J [] W' := by
  refine callsIn_of_wp Tryz.func172 rfl h8 ?_ hro
  simp only [Tryz.ntmps172, List.size_toArray, List.length_cons, List.length_nil, Nat.reduceAdd, Nat.reduceSub, Array.replicate_succ, Array.replicate_zero, List.push_toArray, List.append_toArray, List.nil_append, List.cons_append]
  gi_wp2
  gi_loopw [3] (fun i wr => i = .int .i64 (-1) ∧ J [] wr) (fun _ _ => 0)
  case atStart => exact ⟨rfl, h0⟩
  case round =>
    obtain ⟨rfl, hJs⟩ := hrel
    gi_wp2
    go_end0
    exact ⟨⟨_, rfl⟩, hJs⟩

set_option maxHeartbeats 1000000 in
theorem back_in (F : Fence) (n : Nat) (h6 : F.fn 142) (hro : F.round = none) (a : Option Addr) (len cap : Nat) (w : World) :
    CallsIn F n Tryz.prog 142 #[.slice a len cap] w fun e w' => e = .returned (.func (.func 172) #[] #[.pointer (some ⟨w.heap.size, 0, none⟩)]) ∧ w' = w.alloc (.cells #[.slice a len cap] 112) := by
  refine callsIn_of_wp Tryz.func142 rfl h6 ?_ hro
  simp only [Tryz.ntmps142, List.size_toArray, List.length_cons, List.length_nil, Nat.reduceAdd, Nat.reduceSub, Array.replicate_succ, Array.replicate_zero, List.push_toArray, List.append_toArray, List.nil_append, List.cons_append]
  gi_wp2
  go_ret
  exact ⟨rfl, rfl⟩

/-- slices.Backward(s) hands back a value that gives the elements from the end on, each with its index: all; or the first k of them. -/
theorem back_stops (F : Fence) (n : Nat) (h8 : F.fn 172) (hro : F.round = none) (hn : 1 ≤ n) (Bs n₀ cap : Nat) (A : Option Addr) (zs : List Int) (w0 w : World) (hr : RowU w0 A zs.length zs) (hn0 : n₀ = w0.heap.size) (hle : n₀ ≤ w.heap.size) (hbl : Below n₀ w0 w) (hBs : Bs < w.heap.size)
    (hc : w.cell? ⟨Bs, 0, none⟩ = some (.slice A zs.length cap)) :
    SeqStopsK F n Tryz.prog 172 #[.pointer (some ⟨Bs, 0, none⟩)] (fun x : Int × Int => #[Value.int .i64 x.1, Value.int .u32 x.2]) (Keep n₀ Bs) (fun ys => ys = seq zs zs.length)
      (fun pre => ∃ k, k ≤ zs.length ∧ pre = seq zs k) zs.length w := fun l J Jx W hW _ _ hY h0 => by
  have hc' := (hW.cell (p := ⟨Bs, 0, none⟩) hBs).trans hc
  rcases Nat.eq_zero_or_pos zs.length with hz | hz
  · obtain rfl : zs = [] := List.eq_nil_of_length_eq_zero hz
    exact (back1_nil_in F n h8 hro l Bs A cap J W hc' h0).mono fun e W' ⟨he, hj⟩ => ⟨he, .inl ⟨_, rfl, hj⟩⟩
  · obtain ⟨_, hm, hx⟩ := hr
    obtain ⟨ad, rfl, hcell0⟩ := hx hz
    have hcell : ∀ j, j < zs.length → w0.cell? (ad.add j) = some (.int .u32 (zs.getD j 0)) := fun j hj => hcell0 j (zs.getD j 0) (by rw [List.getD_eq_getElem?_getD, List.getElem?_eq_getElem hj]; rfl)
    have hlt : ad.block < n₀ := by have := World.block_lt_of_cell? w0 _ (hcell 0 hz); rw [hn0]; unfold Addr.add at this; revert this; split <;> exact id
    refine back1_in F n h8 hro hn l Bs n₀ cap ad zs hm J Jx hY W hc' (fun _ => hlt) (fun j hj => ?_) h0
    have h1 := hcell j hj
    have hj' : (ad.add j).block < n₀ := by unfold Addr.add; split <;> exact hlt
    rw [((hbl.trans (hW.mono hle)).cell (p := ad.add j) hj'), h1, List.getD_eq_getElem?_getD]
end Back

def Back.wideW (l : List Int) : Int := l.foldr (fun d n => IntKind.u64.wrap (IntKind.u64.wrap (n * 1000000000) + IntKind.u64.wrap d)) 0
def Back.acc (l : List (Int × Int)) : Int := l.foldl (fun n p => IntKind.u64.wrap (IntKind.u64.wrap (n * 1000000000) + IntKind.u64.wrap p.2)) 0
theorem Back.acc_snoc (l : List (Int × Int)) (p : Int × Int) : Back.acc (l ++ [p]) = IntKind.u64.wrap (IntKind.u64.wrap (Back.acc l * 1000000000) + IntKind.u64.wrap p.2) := by simp [Back.acc]
theorem Back.seq_all (l : List Int) : (Back.seq l l.length).map (·.2) = l.reverse := by
  apply List.ext_getElem
  · simp [Back.seq]
  · intro i h1 h2
    simp [Back.seq] at h1 ⊢
    rw [List.getElem?_eq_getElem (by omega)]; simp
theorem Back.acc_all (l : List Int) : Back.acc (Back.seq l l.length) = Back.wideW l := by
  have h : Back.acc (Back.seq l l.length) = ((Back.seq l l.length).map (·.2)).foldl (fun n d => IntKind.u64.wrap (IntKind.u64.wrap (n * 1000000000) + IntKind.u64.wrap d)) 0 := by
    rw [List.foldl_map]; rfl
  rw [h, Back.seq_all, List.foldl_reverse]; rfl
def YW.f (l0 : List Int) : Option Int := some (Back.wideW l0)
attribute [local go_sem] Oper.semAt_some
set_option maxHeartbeats 2000000 in
set_option maxRecDepth 100000 in
theorem YW.calls (A0 : Option Addr) (c0 : Nat) (l0 : List Int) (r : Int) (w : World) (hr0 : RowU w A0 l0.length l0) (hc0 : l0.length ≤ c0) (h : YW.f l0 = some r) :
    Calls Tryz.prog 111 #[.slice A0 l0.length c0] w fun e w' => e = .returned (.int .u64 r) ∧ Below w.heap.size w w' := by
  unfold YW.f at h
  have hres := Option.some.inj h
  clear h
  refine (callsIn_wide (n := 3)).1 ?_
  have h1 : 1 ≤ 3 := by omega
  refine callsIn_of_wp_marks Tryz.func111 rfl trivial ?_ rfl
  simp only [Tryz.ntmps111, List.size_toArray, List.length_cons, List.length_nil, Nat.reduceAdd, Nat.reduceSub, Array.replicate_succ, Array.replicate_zero, List.push_toArray, List.append_toArray, List.nil_append, List.cons_append]
  have HC := Aside0.mk hr0
  have HE := Aside0.mk hres
  clear hr0 hres hc0
  gi_wp2_with (fail)
  refine ⟨trivial, ?_⟩
  refine (Back.back_in _ 2 trivial rfl _ _ _ _).mono ?_
  rintro e w1 ⟨rfl, rfl⟩
  gi_wp2
  have bS := Boxed.new w 76 (.int .u64 0)
  have bN := Boxed.new (w.alloc (.cells #[.int .u64 0] 76)) 112 (.slice A0 l0.length c0)
  rw [World.size_alloc] at bN
  have hB0 : Below w.heap.size w ((w.alloc (.cells #[.int .u64 0] 76)).alloc (.cells #[.slice A0 l0.length c0] 112)) := ((Below.refl _ w).alloc (Nat.le_refl _) _).alloc (by simp) _
  refine wpIn_rangeFunc_ownG rfl h1 (gf := 172) (lb := #[.pointer (some ⟨w.heap.size + 1, 0, none⟩)]) rfl trivial (enters_of Tryz.func172 (by kernel_rfl) rfl)
    (Back.back_stops Fence.wide (3 - 1) trivial rfl (by omega) (w.heap.size + 1) w.heap.size c0 A0 l0 w _ HC.out rfl (by simp; omega) hB0 (by simp) bN.cell) Back.Keep.trans (Back.Keep.put (by simp; omega)) (Below.refl _ _) (fun _ => rfl)
    (fun pre W => (W.cell? ⟨w.heap.size, 0, none⟩ = some (.int .u64 (Back.acc pre)) ∧ W.frozen? ⟨w.heap.size, 0, none⟩ = false) ∧ Below w.heap.size w W)
    (fun _ _ _ => False)
    (OwnFrom.and (Own.from (fun s A B row hs hg hr => ⟨cell_kept hs.1 hg hr, (frozen_kept hs.1 hg hr).trans hs.2⟩) _) (ownFrom_below (Nat.le_refl _) (by simp; omega)))
    (fun _ _ _ _ _ hs _ _ => hs)
    ⟨⟨(bS.alloc _).cell, (bS.alloc _).frozen⟩, hB0⟩
    (fun x => { tmps := #[.slice A0 l0.length c0, undef, .int .u64 0, .pointer (some ⟨w.heap.size, 0, none⟩), undef, .int .u32 x.2, .slice A0 l0.length c0, .func (.func 172) #[] #[.pointer (some ⟨w.heap.size + 1, 0, none⟩)], .int .i64 x.1, .int .u32 x.2, undef, undef, undef, undef, undef, undef], defers := [] }) ?assign ?body ?done ?stop
  case assign =>
    intro l x W K hK
    gi_wp2
    exact hK
  case body =>
    rintro l pre x W ⟨⟨hc, hf⟩, hB⟩ _
    gi_wp2
    refine ⟨(KeepsOthers.setCell _ _ _).from _, ⟨(Below.refl w.heap.size W).setCell (p := ⟨w.heap.size, 0, none⟩) (Nat.le_refl _) _, fun v e => ?_⟩, ⟨?_, by rw [World.frozen?_setCell]; exact hf⟩, hB.setCell (p := ⟨w.heap.size, 0, none⟩) (Nat.le_refl _) _⟩
    · rw [← e]; exact World.cell?_of_block (Below.heap_setCell W ⟨w.heap.size, 0, none⟩ _ (w.heap.size + 1) (by simp))
    · rw [Back.acc_snoc]; exact World.cell?_setCell_same' _ _ _ (by rw [hc]; rfl)
  case done =>
    rintro D ys W hD rfl ⟨⟨hc, _⟩, hB⟩ hK
    gi_wp2
    refine ⟨by simp, .inl ⟨_, _, rfl, run_takeDeferred hK, ?_⟩⟩
    exact ⟨_, results_tmp rfl _ _ _, by rw [Back.acc_all, HE.out]; rfl, hB.trans (belowK_b (w := w) (Nat.le_refl _) W D _ _ (by simp at hD; omega) hK rfl rfl)⟩
  case stop =>
    rintro D c pre W _ _ h _
    exact h.elim
theorem wide_known {E : Go.Proofs.YtcoecbpeilmdmaaGreatDoorCx.Env} : Go.Proofs.YtcoecbpeilmdmaaGreatDoorCx.KnownOk Tryz.prog E 111 (Go.Proofs.YtcoecbpeilmdmaaGreatDoorCx.readKn .u32 .u64 Back.wideW) := by
  refine Go.Proofs.YtcoecbpeilmdmaaGreatDoorCx.readKn_ok (fun args w => Go.Proofs.YtcoecbpeilmdmaaGreatDoorCx.callFunc_body Tryz.func111 rfl rfl args w) ?_
  intro A c l w h1 h2 h3
  refine YW.calls A c l _ w ⟨rfl, h1, fun hp => ?_⟩ h2 rfl
  obtain ⟨ad, e, hc⟩ := h3 hp
  exact ⟨ad, e, hc⟩
end Go.Proofs.YtcoecbpeilmdmaaGreatDoor.Wide
