-- By a program of this session (a changed copy of the kit's printer): functions of the seat as plain Lean functions, each with its proof over the machine.
import Derived.Test.YtaffkbemjbfajaaGreatDoorPNumFormsx0
import Derived.Test.YtaffkbemjbfajaaGreatDoorPNumFormsx11
import Derived.Test.YtaffkbemjbfajaaGreatDoorPNumFormsx12
namespace Go.Proofs.YtaffkbemjbfajaaGreatDoor.PNumForms
open Go.RowKit Go.Proofs.YtaffkbemjbfajaaGreatDoorW.PrintWords Go.Proofs.YtaffkbemjbfajaaGreatDoorW.PrintLast Go.Proofs.YtaffkbemjbfajaaGreatDoorW.PrintMore
attribute [local go_sem] max2_int min2_int max_two min_two max_three min_three max_four min_four   -- for this text's walks alone
set_option linter.unusedVariables false
set_option linter.unusedSimpArgs false

section
def weftref1_natDiv.bs (k : Nat) (b r : List Int) : Nat → Int → Int → Option Int
 | 0, _, _ => none
 | m + 1, lo, hi => if lo < hi then (weftref1_natOf.f k ((lo + hi + 1) / 2)).bind fun t => (weftref1_natMul.f k b t).bind fun p => (weftref1_natCmp.f k p r).bind fun c => if c ≤ 0 then weftref1_natDiv.bs k b r m ((lo + hi + 1) / 2) hi else weftref1_natDiv.bs k b r m lo ((lo + hi + 1) / 2 - 1) else some lo
def weftref1_natDiv.lp (k : Nat) (a b : List Int) : Nat → List Int → List Int → Option (List Int × List Int)
 | 0, r, q => some (q, r)
 | i + 1, r, q => (weftref1_nat_int.f r).bind fun r' => (weftref1_nat_tidy.f k (rd a (i : Int) :: r')).bind fun r1 => (weftref1_natDiv.bs k b r1 10000 0 9999).bind fun low =>
  if low > 0 then (weftref1_natOf.f k low).bind fun t => (weftref1_natMul.f k b t).bind fun p => (weftref1_natAdd.f k r1 p (-1)).bind fun r2 => weftref1_natDiv.lp k a b i r2 (low :: q)
  else weftref1_natDiv.lp k a b i r1 (low :: q)
def weftref1_natDiv.f (k : Nat) (l0 : List Int) (l1 : List Int) : Option (List Int × List Int) :=
 if l0.length < 1000000000 ∧ l1.length < 1000000000 then (weftref1_natCmp.f k l0 l1).bind fun c =>
  if c < 0 then some ([], l0)
  else if 1 ≤ l1.length ∧ l1.length ≤ l0.length then (weftref1_nat_int.f (l0.drop (l0.length - l1.length + 1))).bind fun r' => (weftref1_nat_tidy.f k r').bind fun r0 =>
   (weftref1_natDiv.lp k l0 l1 (l0.length - l1.length + 1) r0 []).bind fun z => (weftref1_nat_tidy.f k z.1).bind fun q => some (q, z.2)
  else none
 else none
theorem weftref1_natDiv.mono_bs (k : Nat) (b r : List Int) : ∀ m lo hi, LeO (weftref1_natDiv.bs k b r m lo hi) (weftref1_natDiv.bs (k + 1) b r m lo hi)
 | 0, _, _ => LeO.refl _
 | m + 1, lo, hi => LeO.ite (LeO.bind (weftref1_natOf.mono _ k) fun _ => LeO.bind (weftref1_natMul.mono _ _ k) fun _ => LeO.bind (weftref1_natCmp.mono _ _ k) fun _ => LeO.ite (weftref1_natDiv.mono_bs k b r m _ _) (weftref1_natDiv.mono_bs k b r m _ _)) (LeO.refl _)
theorem weftref1_natDiv.mono_lp (k : Nat) (a b : List Int) : ∀ i r q, LeO (weftref1_natDiv.lp k a b i r q) (weftref1_natDiv.lp (k + 1) a b i r q)
 | 0, _, _ => LeO.refl _
 | i + 1, r, q => LeO.bind (LeO.refl _) fun _ => LeO.bind (weftref1_nat_tidy.mono _ k) fun _ => LeO.bind (weftref1_natDiv.mono_bs k b _ _ _ _) fun _ => LeO.ite (LeO.bind (weftref1_natOf.mono _ k) fun _ => LeO.bind (weftref1_natMul.mono _ _ k) fun _ => LeO.bind (weftref1_natAdd.mono _ _ _ k) fun _ => weftref1_natDiv.mono_lp k a b i _ _) (weftref1_natDiv.mono_lp k a b i _ _)
theorem weftref1_natDiv.mono : ∀ a0 a1 k, LeO (weftref1_natDiv.f k a0 a1) (weftref1_natDiv.f (k + 1) a0 a1) := by
 intro a0 a1 k
 unfold weftref1_natDiv.f
 exact LeO.ite (LeO.bind (weftref1_natCmp.mono _ _ k) fun _ => LeO.ite (LeO.refl _) (LeO.ite (LeO.bind (LeO.refl _) fun _ => LeO.bind (weftref1_nat_tidy.mono _ k) fun _ => LeO.bind (weftref1_natDiv.mono_lp k _ _ _ _ _) fun _ => LeO.bind (weftref1_nat_tidy.mono _ k) fun _ => LeO.refl _) (LeO.none _))) (LeO.none _)
set_option maxHeartbeats 8000000 in
set_option maxRecDepth 100000 in
theorem weftref1_natDiv.less_ (k : Nat) (P0_ : Nat → Prop) (A0 : Option Addr) (c0 : Nat) (l0 : List Int) (A1 : Option Addr) (c1 : Nat) (l1 : List Int) (c : Int) (w : World) (hs0 : Kd.V (Kd.int .i64) 3 w w.heap.size (fun k_ => P0_ k_) (.slice A0 l0.length c0) l0) (hr1 : Kd.C (Kd.int .i64) w A1 l1.length l1) (hc1 : l1.length ≤ c1) (hc : weftref1_natCmp.f k l0 l1 = some c) (hlt : c < 0) :
  Calls Tryz.prog 134 #[.slice A0 l0.length c0, .slice A1 l1.length c1] w fun e w' => ∃ v0_ v1_ : Value, e = .returned (.tuple #[v0_, v1_]) ∧ Kd.V (Kd.int .i64) 3 w' w.heap.size (fun k_ => (P0_ k_ ∨ w.heap.size ≤ k_)) v0_ [] ∧ Kd.V (Kd.int .i64) 3 w' w.heap.size (fun k_ => (P0_ k_ ∨ w.heap.size ≤ k_)) v1_ l0 ∧ Below w.heap.size w w' := by
 have hcmp := fun (W : World) (h0 : Kd.C (Kd.int .i64) W A0 l0.length l0) (h1 : Kd.C (Kd.int .i64) W A1 l1.length l1) => weftref1_natCmp.calls k A0 c0 l0 A1 c1 l1 c W h0 (Kd.V_reads' hs0).2.1 h1 hc1 hc
 have HS0 := Aside0.mk hs0
 have HR1 := Aside0.mk hr1
 have c3b0 : decide (c < 0) = true := decide_eq_true hlt
 have HB := Aside0.mk (Below.refl w.heap.size w)
 clear hs0 hr1 hc1 hc hlt
 go_enter Tryz.func134, Tryz.ntmps134
 go_wp2_with (first
  | (go_at_call 120; (with_reducible refine (hcmp _ ?s1 ?s2).mono ?_); (case s1 => exact (Kd.V_reads' HS0.out).2.2); (case s2 => exact HR1.out); clear hcmp; rintro e w' ⟨rfl, ⟨nd, rfl⟩⟩; have HB1 := Aside0.mk (pw_below_drewN HB.out nd))
  | fail)
 go_ret2
 exact ⟨_, _, rfl, Kd.V_nil _ _ _ _ _, Kd.V_mono (Kd.V_drewN HS0.out nd) (fun _ h => .inl h), HB1.out⟩
set_option maxHeartbeats 8000000 in
set_option maxRecDepth 100000 in
theorem weftref1_natDiv.big_ (k : Nat) (P0_ : Nat → Prop) (A0 : Option Addr) (c0 : Nat) (l0 : List Int) (A1 : Option Addr) (c1 : Nat) (l1 : List Int) (c : Int) (r' r0 z1 z2 q : List Int) (w : World) (hs0 : Kd.V (Kd.int .i64) 3 w w.heap.size (fun k_ => P0_ k_) (.slice A0 l0.length c0) l0) (hr1 : Kd.C (Kd.int .i64) w A1 l1.length l1) (hc1 : l1.length ≤ c1) (hc : weftref1_natCmp.f k l0 l1 = some c) (hlt : ¬ c < 0)
  (hl1 : 1 ≤ l1.length) (hle : l1.length ≤ l0.length) (hbig : l0.length < 1000000000) (hcl : weftref1_nat_int.f (l0.drop (l0.length - l1.length + 1)) = some r') (htd : weftref1_nat_tidy.f k r' = some r0) (hlp : weftref1_natDiv.lp k l0 l1 (l0.length - l1.length + 1) r0 [] = some (z1, z2)) (hq : weftref1_nat_tidy.f k z1 = some q) :
  Calls Tryz.prog 134 #[.slice A0 l0.length c0, .slice A1 l1.length c1] w fun e w' => ∃ v0_ v1_ : Value, e = .returned (.tuple #[v0_, v1_]) ∧ Kd.V (Kd.int .i64) 3 w' w.heap.size (fun k_ => (P0_ k_ ∨ w.heap.size ≤ k_)) v0_ q ∧ Kd.V (Kd.int .i64) 3 w' w.heap.size (fun k_ => (P0_ k_ ∨ w.heap.size ≤ k_)) v1_ z2 ∧ Below w.heap.size w w' := by
 have hc0 := (Kd.V_reads' hs0).2.1
 have hr0 := (Kd.V_reads' hs0).2.2
 have hcmp := fun (W : World) (h0 : Kd.C (Kd.int .i64) W A0 l0.length l0) (h1 : Kd.C (Kd.int .i64) W A1 l1.length l1) => weftref1_natCmp.calls k A0 c0 l0 A1 c1 l1 c W h0 hc0 h1 hc1 hc
 obtain ⟨d1, hd1⟩ : ∃ j : Int, wrap64 ((l0.length : Int) - (l1.length : Int)) = j := ⟨_, rfl⟩
 have ed1 : d1 = ((l0.length - l1.length : Nat) : Int) := by rw [← hd1]; unfold wrap64; omega
 obtain ⟨d2, hd2⟩ : ∃ j : Int, wrap64 (d1 + 1) = j := ⟨_, rfl⟩
 have ed2 : d2 = ((l0.length - l1.length + 1 : Nat) : Int) := by rw [← hd2]; unfold wrap64; omega
 have hd1w : IntKind.i64.wrap ((l0.length : Int) - (l1.length : Int)) = d1 := (i64_w _).trans hd1
 have hd2w : IntKind.i64.wrap (d1 + 1) = d2 := (i64_w _).trans hd2
 have info3c : (Tryz.prog.info? 3).map (fun i => (i.zero, i.size, i.bytes)) = some (some (.int .i64 0), 1, 8) := by kernel_rfl
 obtain ⟨i0, hi0, _, hsz0, _⟩ := info_parts info3c
 have hcut := cut_from (P := Tryz.prog) 65 3 .i64 Tryz.underlying65 hi0 1 hsz0 A0 l0.length c0 d2 (by omega) (by omega)
 obtain ⟨y0, hy0⟩ : ∃ y : List Int, y = l0.drop (l0.length - l1.length + 1) := ⟨_, rfl⟩
 obtain ⟨A0', hA0'⟩ : ∃ A : Option Addr, A = (if c0 = d2.toNat then A0 else A0.map (·.add (d2.toNat * 1))) := ⟨_, rfl⟩
 have hy0l : y0.length = l0.length - d2.toNat := by rw [hy0, List.length_drop]; omega
 rw [← hA0', ← hy0l] at hcut
 have hC0 := fun (W : World) (h : Kd.C (Kd.int .i64) W A0 l0.length l0) => Kd.C_drop (m := d2.toNat) h (by omega) hc0
 have hC0' : ∀ (W : World), Kd.C (Kd.int .i64) W A0 l0.length l0 → Kd.C (Kd.int .i64) W A0' y0.length y0 := by
  intro W h
  have := hC0 W h
  rw [hA0', hy0, show l0.length - l1.length + 1 = d2.toNat by omega]
  exact this
 rw [← hy0] at hcl
 have hclone := fun (W : World) (h0 : Kd.C (Kd.int .i64) W A0' y0.length y0) => weftref1_nat_int.calls A0' (c0 - d2.toNat) y0 r' W h0 (by omega) hcl
 have htidy := fun (A : Option Addr) (c : Nat) (W : World) (h0 : Kd.V (Kd.int .i64) 3 W W.heap.size (fun b => w.heap.size ≤ b) (.slice A r'.length c) r') => weftref1_nat_tidy.calls k (fun b => w.heap.size ≤ b) A c r' r0 W h0 htd
 have c3b0 : decide (c < 0) = false := decide_eq_false hlt
 have HS0 := Aside0.mk hs0
 have HR0 := Aside0.mk hr0
 have HR1 := Aside0.mk hr1
 have HC0 := Aside0.mk hC0'
 have HLP := Aside0.mk hlp
 have HLE := Aside0.mk hle
 have HC1 := Aside0.mk hc1
 have HL1X := Aside0.mk hl1
 have HBIG := Aside0.mk hbig
 have HQ := Aside0.mk hq
 have HD := Aside0.mk ed1
 have HB := Aside0.mk (Below.refl w.heap.size w)
 clear hs0 hr0 hr1 hc0 hc1 hc hlt hcl htd hlp hle hbig hq ed2 ed1 hi0 hsz0 info3c hy0 hA0' hC0 hC0' hl1 hy0l
 go_enter Tryz.func134, Tryz.ntmps134
 go_wp2_with (first
  | (go_at_call 120; (with_reducible refine (hcmp _ ?s1 ?s2).mono ?_); (case s1 => exact HR0.out); (case s2 => exact HR1.out); clear hcmp; rintro e w' ⟨rfl, ⟨nd, rfl⟩⟩; have HB1 := Aside0.mk (pw_below_drewN HB.out nd))
  | (go_at_call 160; (with_reducible refine (hclone _ ?s3).mono ?_); (case s3 => exact HC0.out _ (Kd.C_drewN HR0.out _)); clear hclone; rintro e w5 ⟨v5, rfl, hv, hb⟩; obtain ⟨A5, c5, e5⟩ := Kd.R_slice hv; subst e5; have HB5 := Aside0.mk (below_step HB1.out hb); have HV5 := Aside0.mk (Kd.R_V (base' := w.heap.size) (Kd.R_mono (ok' := fun b => w.heap.size ≤ b) (Kd.R_bound hv) (fun _ hk => Nat.le_trans HB1.out.size hk.2.1))); clear hv hb)
  | (go_at_call 141; (with_reducible refine (htidy _ _ _ ?s4).mono ?_); (case s4 => exact HV5.out); clear htidy; rintro e w6 ⟨v6, rfl, hv, hb⟩; have HB6 := Aside0.mk (below_step HB5.out hb); have HV6 := Aside0.mk (Kd.V_lower (base' := w.heap.size) (Kd.V_mono (ok' := fun b => w.heap.size ≤ b) hv (fun _ hk => hk.elim id (fun h => Nat.le_trans HB5.out.size h))) HB5.out.size); clear hv hb)
  | fail)
 clear HC0 HB1 HV5 HB5 HB
 go_loopg [6, 8, 9] (l0.length - l1.length + 1) (fun kq v6 v8 v9 w' => ∃ (i : Nat) (r q_ : List Int), v9 = .int .i64 ((i : Int) - 1) ∧ Aside0 (weftref1_natDiv.lp k l0 l1 i r q_ = some (z1, z2)) ∧ Aside0 (i ≤ kq) ∧ Aside0 (q_.length + i = l0.length - l1.length + 1) ∧ Aside0 (Kd.R (Kd.int .i64) 3 w' w.heap.size (fun _ => True) v6 q_) ∧ Aside0 (Kd.V (Kd.int .i64) 3 w' w.heap.size (fun b => w.heap.size ≤ b ∧ some b ≠ v6.ownBlock) v8 r) ∧ Aside0 (Below w.heap.size w w'))
 case atStart => exact ⟨l0.length - l1.length + 1, r0, [], by rw [HD.out]; congr 1; omega, HLP, ⟨Nat.le_refl _⟩, ⟨by simp⟩, ⟨Kd.R_nil _ _ _ _ _⟩, ⟨Kd.V_apart_nil HV6.out⟩, HB6⟩
 case round =>
  obtain ⟨i, r, q_, rfl, HL, HI, HQL, HR, HV, HB⟩ := hrel
  clear HLP HV6 HB6
  obtain ⟨Ar, cr, er⟩ := Kd.V_slice HV.out
  subst er
  cases i with
  | zero =>
   have hz := HL.out
   simp only [weftref1_natDiv.lp, Option.some.injEq, Prod.mk.injEq] at hz
   obtain ⟨rfl, rfl⟩ := hz
   clear HL
   have hq := HQ.out
   obtain ⟨Aq, cq, eq⟩ := Kd.R_slice HR.out
   subst eq
   have htidy := fun (W : World) (h0 : Kd.V (Kd.int .i64) 3 W W.heap.size (fun b => w.heap.size ≤ b) (.slice Aq q_.length cq) q_) => weftref1_nat_tidy.calls k (fun b => w.heap.size ≤ b) Aq cq q_ q W h0 hq
   clear hq hd1 hd2 hd1w hd2w hcut c3b0
   go_wp2_with (first
    | (go_at_call 141; (with_reducible refine (htidy _ ?s9).mono ?_); (case s9 => exact Kd.R_V (Kd.R_mono (Kd.R_bound HR.out) (fun _ hk => hk.2.1))); clear htidy; rintro e w9 ⟨v9, rfl, hv, hb⟩; have HV9 := Aside0.mk hv; have HB9 := Aside0.mk (below_step HB.out hb); have HVr := Aside0.mk (Kd.V_below HV.out hb); clear hv hb)
    | fail)
   go_ret2
   exact ⟨_, _, rfl, Kd.V_mono HV9.out (fun b hb => .inr (hb.elim id (fun h => Nat.le_trans HB.out.size h))), Kd.V_mono HVr.out (fun b hb => .inr hb.1), HB9.out⟩
  | succ i =>
   have ej : (((i + 1 : Nat) : Int) - 1) = (i : Int) := by omega
   rw [ej]
   have hl := HL.out
   simp only [weftref1_natDiv.lp] at hl
   obtain ⟨rc, hrc, hl⟩ := Option.bind_eq_some_iff.1 hl
   obtain ⟨r1, hr1', hl⟩ := Option.bind_eq_some_iff.1 hl
   obtain ⟨low, hlow, hl⟩ := Option.bind_eq_some_iff.1 hl
   have hrcl : rc = r ∧ r.length < 17592186044416 := by
    unfold weftref1_nat_int.f at hrc
    split at hrc
    ·exact ⟨(Option.some.inj hrc).symm, by assumption⟩
    ·cases hrc
   have hiL : i < l0.length := by have := HQL.out; have := HLE.out; have := HL1X.out; omega
   obtain ⟨ad, ead, hx⟩ := Kd.at_int HR0.out (i : Int) (by omega) (by omega)
   subst ead
   rw [Int.toNat_natCast] at hx
   have hxr := (HB.out.cell (World.block_lt_of_cell? w _ hx)).trans hx
   have hb64 : (i : Int) < (l0.length : Int) := by omega
   have hbI : ((i : Int) < (l0.length : Int)) = True := eq_true (by omega)
   have hbN : (i < l0.length) = True := eq_true (by omega)
   have hclone := fun (W : World) (h0 : Kd.C (Kd.int .i64) W Ar r.length r) => weftref1_nat_int.calls Ar cr r rc W h0 (Kd.V_reads' HV.out).2.1 hrc
   obtain ⟨y1, hy1⟩ : ∃ y : List Int, rd l0 (i : Int) :: rc = y := ⟨_, rfl⟩
   rw [hy1] at hr1'
   have HY1 := Aside0.mk hy1
   clear hy1
   have htidy := fun (A : Option Addr) (c : Nat) (W : World) (h0 : Kd.V (Kd.int .i64) 3 W W.heap.size (fun b => wr.heap.size ≤ b) (.slice A y1.length c) y1) => weftref1_nat_tidy.calls k (fun b => wr.heap.size ≤ b) A c y1 r1 W h0 hr1'
   have HL1 := Aside0.mk hl
   have HLOW := Aside0.mk hlow
   have HRCL := Aside0.mk hrcl
   clear hl hlow hrc hr1' hrcl HL hiL hx hd1 hd2 hd1w hd2w hcut c3b0 hb64
   go_wp2_with (fail)
   go_region_held3 (fun w' => w'.cell? (ad.add i) = some (.int .i64 (rd l0 (i : Int)))) (first | (with_reducible exact hx7) | (with_reducible exact hx6) | (with_reducible exact hk5) | (with_reducible exact hxr) | (exact hxr) | (exact pw_cell_below (below_alloc (Below.refl _ _) _) hk5) | (exact pw_cell_below (below_alloc (Below.refl _ _) _) hxr))
    (first
     | (go_at_call 160; (refine (hclone _ (by (with_reducible repeat (first | apply Kd.C_alloc | apply Kd.C_drewN | apply Kd.C_drew)); exact (Kd.V_reads' HV.out).2.2)).mono ?_); rintro e w5 ⟨v5, rfl, hv5_, hb5_⟩; have hb5 : Below wr.heap.size wr w5 := below_step (by repeat (first | exact Below.refl _ _ | apply below_alloc | apply pw_below_drewN | apply below_drew)) hb5_; have hv5 : Kd.R (Kd.int .i64) 3 w5 wr.heap.size (fun _ => True) v5 rc := Kd.R_lower hv5_ (below_size (by repeat (first | exact Below.refl _ _ | apply below_alloc | apply pw_below_drewN | apply below_drew))); have hk5 := pw_cell_below hb5 hxr)
     | (go_at_call 161; have hA : Kd.R (Kd.int .i64) 3 (w5.alloc (.cells #[.int .i64 (rd l0 (i : Int))] 3)) w.heap.size (fun _ => True) v5 rc := Kd.R_alloc (Kd.R_lower hv5 HB.out.size) _; have hBq : v5.ownBlock ≠ some w5.heap.size := (fun e_ => absurd (own_lt (Kd.own_of_R hv5) _ e_) (Nat.lt_irrefl _)); have hCq : w.heap.size ≤ (w5.alloc (.cells #[.int .i64 (rd l0 (i : Int))] 3)).heap.size := (by have := HB.out.size; have := hb5.size; simp; omega); have hDq : rc.length < 17592186044416 := (by rw [HRCL.out.1]; exact HRCL.out.2); have hEq := blk_new w5 (.cells #[.int .i64 (rd l0 (i : Int))] 3); (with_reducible refine (Ins.ins w.heap.size v5 rc (rd l0 (i : Int)) w5.heap.size (w5.alloc (.cells #[.int .i64 (rd l0 (i : Int))] 3)) hA hEq hBq hCq hDq).mono ?_); clear hA hBq hCq hDq hEq; rintro e w6 ⟨v6, rfl, hr6, hg6, ha6⟩; rw [HY1.out] at hr6; have hB6 : Below wr.heap.size wr w6 := (hb5.alloc hb5.size _).grown hg6 (by have := hb5.size; simp; omega) (own_base (Kd.own_of_R hv5)); have hk6 : ∀ b, v6.ownBlock = some b → wr.heap.size ≤ b := (fun b hb => by rcases ha6 with ha6 | ⟨b', ha6, hb'⟩; (rw [ha6] at hb; exact own_base (Kd.own_of_R hv5) _ hb); (rw [ha6] at hb; injection hb with hb; have := hb5.size; simp at hb'; omega)); obtain ⟨A6, c6, e6⟩ := Kd.R_slice hr6; subst e6; have hx6 := pw_cell_below hB6 hxr; clear hg6 ha6 hv5 hb5 hk5 hv5_ hb5_)
     | (go_at_call 161; have hA : Kd.R (Kd.int .i64) 3 w5 w.heap.size (fun _ => True) v5 rc := Kd.R_lower hv5 HB.out.size; have hEq : w5.heap[wr.heap.size]? = some (.cells #[.int .i64 (rd l0 (i : Int))] 3 (0, 0)) := (hb5_.block _ (by simp)).trans (blk_new wr _); have hFq : wr.heap.size + 1 ≤ w5.heap.size := (by have := hb5_.size; simp at this; omega); have hOq : ∀ b, v5.ownBlock = some b → wr.heap.size + 1 ≤ b := (fun b hb => by have := own_base (Kd.own_of_R hv5_) b hb; simp at this; omega); have hBq : v5.ownBlock ≠ some wr.heap.size := (fun e_ => by have := hOq _ e_; omega); have hCq : w.heap.size ≤ w5.heap.size := (by have := HB.out.size; omega); have hDq : rc.length < 17592186044416 := (by rw [HRCL.out.1]; exact HRCL.out.2); (with_reducible refine (Ins.ins w.heap.size v5 rc (rd l0 (i : Int)) wr.heap.size w5 hA hEq hBq hCq hDq).mono ?_); clear hA hBq hCq hDq hEq; rintro e w6 ⟨v6, rfl, hr6, hg6, ha6⟩; rw [HY1.out] at hr6; have hB6 : Below wr.heap.size wr w6 := hb5.grown hg6 hb5.size (fun b hb => by have := hOq b hb; omega); have hk6 : ∀ b, v6.ownBlock = some b → wr.heap.size ≤ b := (fun b hb => by rcases ha6 with ha6 | ⟨b', ha6, hb'⟩; (rw [ha6] at hb; have := hOq b hb; omega); (rw [ha6] at hb; injection hb with hb; have := hb5.size; omega)); obtain ⟨A6, c6, e6⟩ := Kd.R_slice hr6; subst e6; have hx6 := pw_cell_below hB6 hxr; clear hg6 ha6 hv5 hb5 hk5 hv5_ hb5_ hOq hFq)
     | (go_at_call 141; have hT1 := Kd.R_tight rfl hr6; have hT2 := Kd.R_mono (ok' := fun b => wr.heap.size ≤ b) hT1 (fun b hb => hk6 b hb.symm); have hT : Kd.V (Kd.int .i64) 3 w6 w6.heap.size (fun b => wr.heap.size ≤ b) (.slice A6 y1.length c6) y1 := Kd.R_V hT2; refine (htidy A6 c6 w6 hT).mono ?_; clear hT1 hT2 hT; rintro e w7 ⟨v7, rfl, hv7, hb7⟩; have hB7 : Below wr.heap.size wr w7 := below_then hB6 hB6.size hb7; have hx7 := pw_cell_below hB7 hxr; replace hv7 : Kd.V (Kd.int .i64) 3 w7 w.heap.size (fun b => wr.heap.size ≤ b) v7 r1 := Kd.V_lower (base' := w.heap.size) (Kd.V_mono (ok' := fun b => wr.heap.size ≤ b) hv7 (fun b hb => hb.elim id (fun h => Nat.le_trans hB6.size h))) (Nat.le_trans HB.out.size hB6.size); clear hb7 hB6 hx6 hr6 hk6))
   all_goals
    clear hxr hx7 hclone htidy
    have HB7 := Aside0.mk (below_step HB.out hB7)
    have HBr := Aside0.mk hB7
    obtain ⟨A7, c7, e7⟩ := Kd.V_slice hv7
    subst e7
    have HV7 := Aside0.mk hv7
    clear hv7 hB7
    have hc1 := HC1.out
    have hc7 := (Kd.V_reads' HV7.out).2.1
    have hof := fun (x : Int) (t : List Int) (W : World) (ht : weftref1_natOf.f k x = some t) => weftref1_natOf.calls k x t W ht
    have hmul := fun (t p : List Int) (A : Option Addr) (c : Nat) (W : World) (h0 : Kd.C (Kd.int .i64) W A1 l1.length l1) (h1 : Kd.C (Kd.int .i64) W A t.length t) (h2 : t.length ≤ c) (hp : weftref1_natMul.f k l1 t = some p) => weftref1_natMul.calls k A1 c1 l1 A c t p W h0 hc1 h1 h2 hp
    have hcm2 := fun (p : List Int) (cc : Int) (A : Option Addr) (c : Nat) (W : World) (h0 : Kd.C (Kd.int .i64) W A p.length p) (h2 : p.length ≤ c) (h1 : Kd.C (Kd.int .i64) W A7 r1.length r1) (hp : weftref1_natCmp.f k p r1 = some cc) => weftref1_natCmp.calls k A c p A7 c7 r1 cc W h0 h2 h1 hc7 hp
    have hadd := fun (p r2 : List Int) (A : Option Addr) (c : Nat) (W : World) (h0 : Kd.C (Kd.int .i64) W A7 r1.length r1) (h1 : Kd.C (Kd.int .i64) W A p.length p) (h2 : p.length ≤ c) (hp : weftref1_natAdd.f k r1 p (-1) = some r2) => weftref1_natAdd.calls k A7 c7 r1 A c p (-1) r2 W h0 hc7 h1 h2 hp
    clear hc1 hc7
    go_wp2_with (fail)
    go_loopg [10, 11] 10000 (fun kq v10 v11 w' => ∃ (m : Nat) (lo hi : Int), v10 = .int .i64 lo ∧ v11 = .int .i64 hi ∧ Aside0 (weftref1_natDiv.bs k l1 r1 m lo hi = some low) ∧ Aside0 (m ≤ kq) ∧ (0 ≤ lo ∧ lo ≤ 9999) ∧ (0 ≤ hi ∧ hi ≤ 9999) ∧ Aside0 (Below w7.heap.size w7 w'))
    case atStart => exact ⟨10000, 0, 9999, rfl, rfl, HLOW, ⟨Nat.le_refl _⟩, ⟨by omega, by omega⟩, ⟨by omega, by omega⟩, ⟨Below.refl _ _⟩⟩
    case round =>
     obtain ⟨m, lo, hi, rfl, rfl, HBS, HM, ⟨hlo0, hlo1⟩, ⟨hhi0, hhi1⟩, HB8⟩ := hrel
     cases m with
     | zero => exact absurd HBS.out (by simp [weftref1_natDiv.bs])
     | succ m =>
      have hbs := HBS.out
      simp only [weftref1_natDiv.bs] at hbs
      clear HBS
      by_cases hlt : lo < hi
      ·rw [if_pos hlt] at hbs
       have c45 : decide (lo < hi) = true := decide_eq_true hlt
       obtain ⟨md, hmd⟩ : ∃ x : Int, (lo + hi + 1) / 2 = x := ⟨_, rfl⟩
       have hmd0 : 0 ≤ md := by omega
       have hmd1 : md ≤ 9999 := by omega
       have HMD := Aside0.mk (show 1 ≤ md by omega)
       rw [hmd] at hbs
       obtain ⟨t, ht, hbs⟩ := Option.bind_eq_some_iff.1 hbs
       obtain ⟨p, hp, hbs⟩ := Option.bind_eq_some_iff.1 hbs
       obtain ⟨cc, hcc, hbs⟩ := Option.bind_eq_some_iff.1 hbs
       have HT := Aside0.mk ht
       have HP := Aside0.mk hp
       have HCC := Aside0.mk hcc
       clear ht hp hcc
       by_cases hc0 : cc ≤ 0
       ·rw [if_pos hc0] at hbs
        have HBS := Aside0.mk hbs
        have c58 : decide (cc ≤ 0) = true := decide_eq_true hc0
        clear hbs hc0
        go_wp2_with (first
          | (go_at_call 98; (with_reducible refine (hof md t _ HT.out).mono ?_); rintro e w8 ⟨v8, rfl, hv, hb⟩; obtain ⟨At, ct, et⟩ := Kd.R_slice hv; subst et; have HT8 := Aside0.mk (Kd.R_reads' hv); have HB9 := Aside0.mk (below_step HB8.out hb); clear hv hb)
          | (go_at_call 112; (with_reducible refine (hmul t p At ct _ (Kd.C_below HR1.out (below_step HB7.out HB9.out)) HT8.out.2.2 HT8.out.2.1 HP.out).mono ?_); rintro e w9 ⟨v9, rfl, hv, hb⟩; obtain ⟨Ap, cp, ep⟩ := Kd.V_slice hv; subst ep; have HP9 := Aside0.mk (Kd.V_reads' hv); have HB10 := Aside0.mk (below_step HB9.out hb); clear hv hb)
          | (go_at_call 120; (with_reducible refine (hcm2 p cc Ap cp _ HP9.out.2.2 HP9.out.2.1 (Kd.C_below (Kd.V_reads' HV7.out).2.2 HB10.out) HCC.out).mono ?_); rintro e w' ⟨rfl, ⟨nd2, rfl⟩⟩; have HB11 := Aside0.mk (pw_below_drewN HB10.out nd2)))
        go_roundg m
        case measure => have := HM.out; omega
        case rel => exact ⟨m, md, hi, rfl, rfl, HBS, ⟨Nat.le_refl _⟩, ⟨hmd0, hmd1⟩, ⟨hhi0, hhi1⟩, HB11⟩
       ·rw [if_neg hc0] at hbs
        have HBS := Aside0.mk hbs
        have c58 : decide (cc ≤ 0) = false := decide_eq_false hc0
        clear hbs hc0
        go_wp2_with (first
          | (go_at_call 98; (with_reducible refine (hof md t _ HT.out).mono ?_); rintro e w8 ⟨v8, rfl, hv, hb⟩; obtain ⟨At, ct, et⟩ := Kd.R_slice hv; subst et; have HT8 := Aside0.mk (Kd.R_reads' hv); have HB9 := Aside0.mk (below_step HB8.out hb); clear hv hb)
          | (go_at_call 112; (with_reducible refine (hmul t p At ct _ (Kd.C_below HR1.out (below_step HB7.out HB9.out)) HT8.out.2.2 HT8.out.2.1 HP.out).mono ?_); rintro e w9 ⟨v9, rfl, hv, hb⟩; obtain ⟨Ap, cp, ep⟩ := Kd.V_slice hv; subst ep; have HP9 := Aside0.mk (Kd.V_reads' hv); have HB10 := Aside0.mk (below_step HB9.out hb); clear hv hb)
          | (go_at_call 120; (with_reducible refine (hcm2 p cc Ap cp _ HP9.out.2.2 HP9.out.2.1 (Kd.C_below (Kd.V_reads' HV7.out).2.2 HB10.out) HCC.out).mono ?_); rintro e w' ⟨rfl, ⟨nd2, rfl⟩⟩; have HB11 := Aside0.mk (pw_below_drewN HB10.out nd2)))
        go_roundg m
        case measure => have := HM.out; omega
        case rel => exact ⟨m, lo, md - 1, rfl, rfl, HBS, ⟨Nat.le_refl _⟩, ⟨hlo0, hlo1⟩, ⟨by have := HMD.out; omega, by omega⟩, HB11⟩
      ·rw [if_neg hlt] at hbs
       have elo := Option.some.inj hbs
       subst elo
       clear hbs
       have c45 : decide (lo < hi) = false := decide_eq_false hlt
       have HQ44 := Aside0.mk (show q_.length < 17592186044416 by have := HQL.out; have := HBIG.out; omega)
       have hl1 := HL1.out
       clear HL1 hlt
       by_cases hpos : lo > 0
       ·rw [if_pos hpos] at hl1
        have c63 : decide (0 < lo) = true := decide_eq_true hpos
        obtain ⟨t, ht, hl1⟩ := Option.bind_eq_some_iff.1 hl1
        obtain ⟨p, hp, hl1⟩ := Option.bind_eq_some_iff.1 hl1
        obtain ⟨r2, hr2, hl1⟩ := Option.bind_eq_some_iff.1 hl1
        have HT := Aside0.mk ht
        have HP := Aside0.mk hp
        have HR2 := Aside0.mk hr2
        have HL := Aside0.mk hl1
        clear ht hp hr2 hl1
        go_wp2_with (first
          | (go_at_call 98; (with_reducible refine (hof lo t _ HT.out).mono ?_); rintro e w8 ⟨v8, rfl, hv, hb⟩; obtain ⟨At, ct, et⟩ := Kd.R_slice hv; subst et; have HT8 := Aside0.mk (Kd.R_reads' hv); have HB9 := Aside0.mk (below_step HB8.out hb); clear hv hb)
          | (go_at_call 112; (with_reducible refine (hmul t p At ct _ (Kd.C_below HR1.out (below_step HB7.out HB9.out)) HT8.out.2.2 HT8.out.2.1 HP.out).mono ?_); rintro e w9 ⟨v9, rfl, hv, hb⟩; obtain ⟨Ap, cp, ep⟩ := Kd.V_slice hv; subst ep; have HP9 := Aside0.mk (Kd.V_reads' hv); have HB10 := Aside0.mk (below_step HB9.out hb); clear hv hb)
          | (go_at_call 119; (with_reducible refine (hadd p r2 Ap cp _ (Kd.C_below (Kd.V_reads' HV7.out).2.2 HB10.out) HP9.out.2.2 HP9.out.2.1 HR2.out).mono ?_); rintro e w12 ⟨v12, rfl, hv, hb⟩; have HV12 := Aside0.mk (Kd.V_bound hv); have HB12 := Aside0.mk (below_step HB10.out hb); clear hv hb)
          | (go_at_call 161; have hRx := Kd.R_below HR.out (below_step HBr.out HB12.out); have hAx := Kd.R_alloc hRx (.cells #[.int .i64 lo] 3); have hNx := blk_new w12 (.cells #[.int .i64 lo] 3); have hBx : u6.ownBlock ≠ some w12.heap.size := (fun e_ => absurd (own_lt (Kd.own_of_R hRx) _ e_) (Nat.lt_irrefl _)); have hCx : w.heap.size ≤ (w12.alloc (.cells #[.int .i64 lo] 3)).heap.size := (by have := HB7.out.size; have := HB12.out.size; simp; omega); (with_reducible refine (Ins.ins w.heap.size u6 q_ lo w12.heap.size (w12.alloc (.cells #[.int .i64 lo] 3)) hAx hNx hBx hCx HQ44.out).mono ?_); clear hAx hNx hBx hCx; rintro e w13 ⟨v13, rfl, hr13, hg13, ha13⟩; have HR13 := Aside0.mk hr13; have HG13 := Aside0.mk hg13; have HA13 := Aside0.mk ha13; clear hr13 hg13 ha13 hRx))
        have hs1 := Kd.own_of_R HR.out
        have hsz1 := HB7.out.size
        have hsz2 := HBr.out.size
        have hsz3 := HB12.out.size
        have hsz4 := HB10.out.size
        have hsz5 := HB.out.size
        have HVn := Aside0.mk (show Kd.V (Kd.int .i64) 3 w13 w.heap.size (fun b => w.heap.size ≤ b ∧ some b ≠ v13.ownBlock) v12 r2 from Kd.V_lower (base' := w.heap.size) (Kd.V_mono (Kd.V_grown (Kd.V_alloc HV12.out _) HG13.out (fun b hb he => by have := own_lt hs1 b he.symm; have := hb.1; omega)) (fun b hb => ⟨by have := hb.1; omega, fun he => by
         rcases HA13.out with h | ⟨b', h, hb'⟩
         ·rw [h] at he; have := own_lt hs1 b he.symm; have := hb.1; omega
         ·rw [h] at he; injection he with he; have := hb.2; simp at hb'; omega⟩)) (by omega))
        have HBn := Aside0.mk (show Below w.heap.size w w13 from (below_alloc (below_step HB7.out HB12.out) _).grown HG13.out (by simp; omega) (fun b hb => own_base hs1 b hb))
        clear hs1 hsz1 hsz2 hsz3 hsz4 hsz5
        go_roundg i
        case measure => have := HI.out; omega
        case rel => exact ⟨i, r2, lo :: q_, congrArg (Value.int .i64) (show wrap64 ((i : Int) - 1) = (i : Int) - 1 by unfold wrap64; have := HQL.out; have := HBIG.out; omega), HL, ⟨Nat.le_refl _⟩, ⟨by have := HQL.out; simp; omega⟩, HR13, HVn, HBn⟩
       ·rw [if_neg hpos] at hl1
        have c63 : decide (0 < lo) = false := decide_eq_false hpos
        have HL := Aside0.mk hl1
        clear hl1
        go_wp2_with (first
          | (go_at_call 161; have hRx := Kd.R_below HR.out (below_step HBr.out HB8.out); have hAx := Kd.R_alloc hRx (.cells #[.int .i64 lo] 3); have hNx := blk_new wr (.cells #[.int .i64 lo] 3); have hBx : u6.ownBlock ≠ some wr.heap.size := (fun e_ => absurd (own_lt (Kd.own_of_R hRx) _ e_) (Nat.lt_irrefl _)); have hCx : w.heap.size ≤ (wr.alloc (.cells #[.int .i64 lo] 3)).heap.size := (by have := HB7.out.size; have := HB8.out.size; simp; omega); (with_reducible refine (Ins.ins w.heap.size u6 q_ lo wr.heap.size (wr.alloc (.cells #[.int .i64 lo] 3)) hAx hNx hBx hCx HQ44.out).mono ?_); clear hAx hNx hBx hCx; rintro e w13 ⟨v13, rfl, hr13, hg13, ha13⟩; have HR13 := Aside0.mk hr13; have HG13 := Aside0.mk hg13; have HA13 := Aside0.mk ha13; clear hr13 hg13 ha13 hRx))
        have hs1 := Kd.own_of_R HR.out
        have hsz1 := HB7.out.size
        have hsz2 := HBr.out.size
        have hsz3 := HB8.out.size
        have hsz5 := HB.out.size
        have HVn := Aside0.mk (show Kd.V (Kd.int .i64) 3 w13 w.heap.size (fun b => w.heap.size ≤ b ∧ some b ≠ v13.ownBlock) (.slice A7 r1.length c7) r1 from Kd.V_mono (Kd.V_grown (Kd.V_alloc (Kd.V_below (Kd.V_bound HV7.out) HB8.out) _) HG13.out (fun b hb he => by have := own_lt hs1 b he.symm; have := hb.1; omega)) (fun b hb => ⟨by have := hb.1; omega, fun he => by
         rcases HA13.out with h | ⟨b', h, hb'⟩
         ·rw [h] at he; have := own_lt hs1 b he.symm; have := hb.1; omega
         ·rw [h] at he; injection he with he; have := hb.2; simp at hb'; omega⟩))
        have HBn := Aside0.mk (show Below w.heap.size w w13 from (below_alloc (below_step HB7.out HB8.out) _).grown HG13.out (by simp; omega) (fun b hb => own_base hs1 b hb))
        clear hs1 hsz1 hsz2 hsz3 hsz5
        go_roundg i
        case measure => have := HI.out; omega
        case rel => exact ⟨i, r1, lo :: q_, congrArg (Value.int .i64) (show wrap64 ((i : Int) - 1) = (i : Int) - 1 by unfold wrap64; have := HQL.out; have := HBIG.out; omega), HL, ⟨Nat.le_refl _⟩, ⟨by have := HQL.out; simp; omega⟩, HR13, HVn, HBn⟩
set_option maxHeartbeats 2000000 in
theorem weftref1_natDiv.calls (k : Nat) (P0_ : Nat → Prop) (A0 : Option Addr) (c0 : Nat) (l0 : List Int) (A1 : Option Addr) (c1 : Nat) (l1 : List Int) (r1 : List Int) (r2 : List Int) (w : World) (hs0 : Kd.V (Kd.int .i64) 3 w w.heap.size (fun k_ => P0_ k_) (.slice A0 l0.length c0) l0) (hr1 : Kd.C (Kd.int .i64) w A1 l1.length l1) (hc1 : l1.length ≤ c1) (h : weftref1_natDiv.f k l0 l1 = some (r1, r2)) :
  Calls Tryz.prog 134 #[.slice A0 l0.length c0, .slice A1 l1.length c1] w fun e w' => ∃ v0_ v1_ : Value, e = .returned (.tuple #[v0_, v1_]) ∧ Kd.V (Kd.int .i64) 3 w' w.heap.size (fun k_ => (P0_ k_ ∨ w.heap.size ≤ k_)) v0_ r1 ∧ Kd.V (Kd.int .i64) 3 w' w.heap.size (fun k_ => (P0_ k_ ∨ w.heap.size ≤ k_)) v1_ r2 ∧ Below w.heap.size w w' := by
 unfold weftref1_natDiv.f at h
 by_cases hl : l0.length < 1000000000 ∧ l1.length < 1000000000
 case neg => rw [if_neg hl] at h; cases h
 rw [if_pos hl] at h
 obtain ⟨c, hc, h⟩ := Option.bind_eq_some_iff.1 h
 by_cases hlt : c < 0
 ·rw [if_pos hlt] at h
  simp only [Option.some.injEq, Prod.mk.injEq] at h
  obtain ⟨rfl, rfl⟩ := h
  exact weftref1_natDiv.less_ k P0_ A0 c0 l0 A1 c1 l1 c w hs0 hr1 hc1 hc hlt
 rw [if_neg hlt] at h
 by_cases h2 : 1 ≤ l1.length ∧ l1.length ≤ l0.length
 case neg => rw [if_neg h2] at h; cases h
 rw [if_pos h2] at h
 obtain ⟨r', hr', h⟩ := Option.bind_eq_some_iff.1 h
 obtain ⟨r0, hr0, h⟩ := Option.bind_eq_some_iff.1 h
 obtain ⟨⟨z1, z2⟩, hz, h⟩ := Option.bind_eq_some_iff.1 h
 obtain ⟨q, hq, h⟩ := Option.bind_eq_some_iff.1 h
 simp only [Option.some.injEq, Prod.mk.injEq] at h
 obtain ⟨rfl, rfl⟩ := h
 exact weftref1_natDiv.big_ k P0_ A0 c0 l0 A1 c1 l1 c r' r0 z1 _ _ w hs0 hr1 hc1 hc hlt h2.1 h2.2 hl.1 hr' hr0 hz hq

end
def weftref1_natGCD.l0 : Nat → List Int → List Int → Option (List Int)
 | 0, _, _ => none
 | k + 1, x0, x1 => if (x1.length : Int) > 0 then ((weftref1_natDiv.f k x0 x1).bind fun bt417 => (weftref1_natGCD.l0 k x1 bt417.2)) else (some x0)
def weftref1_natGCD.f (k : Nat) (l0 : List Int) (l1 : List Int) : Option (List Int) := weftref1_natGCD.l0 k l0 l1
theorem weftref1_natGCD.mono_l : ∀ k, (∀ y0 y1, LeO (weftref1_natGCD.l0 k y0 y1) (weftref1_natGCD.l0 (k + 1) y0 y1))
 | 0 => fun _ _ r h => by simp [weftref1_natGCD.l0] at h
 | k + 1 => by
  have ih0 := weftref1_natGCD.mono_l k
  ·intro y0 y1
   unfold weftref1_natGCD.l0
   have m0 := weftref1_natDiv.mono
   exact zM
theorem weftref1_natGCD.mono : ∀ a0 a1 k, LeO (weftref1_natGCD.f k a0 a1) (weftref1_natGCD.f (k + 1) a0 a1) := by
 intro a0 a1 k
 have ih0 := weftref1_natGCD.mono_l k
 unfold weftref1_natGCD.f
 have m0 := weftref1_natDiv.mono
 exact zM
set_option maxHeartbeats 8000000 in
set_option maxRecDepth 100000 in
theorem weftref1_natGCD.calls (k : Nat) (P0_ : Nat → Prop) (A0 : Option Addr) (c0 : Nat) (l0 : List Int) (P1_ : Nat → Prop) (A1 : Option Addr) (c1 : Nat) (l1 : List Int) (r : List Int) (w : World) (hs0 : Kd.V (Kd.int .i64) 3 w w.heap.size (fun k_ => P0_ k_) (.slice A0 l0.length c0) l0) (hs1 : Kd.V (Kd.int .i64) 3 w w.heap.size (fun k_ => P1_ k_) (.slice A1 l1.length c1) l1) (h : weftref1_natGCD.f k l0 l1 = some r) :
  Calls Tryz.prog 104 #[.slice A0 l0.length c0, .slice A1 l1.length c1] w fun e w' => ∃ v0_ : Value, e = .returned (v0_) ∧ Kd.V (Kd.int .i64) 3 w' w.heap.size (fun k_ => ((P0_ k_ ∨ P1_ k_) ∨ w.heap.size ≤ k_)) v0_ r ∧ Below w.heap.size w w' := by
 have HO0 := Aside0.mk (show Kd.V (Kd.int .i64) 3 w w.heap.size (fun k_ => ((P0_ k_ ∨ P1_ k_) ∨ w.heap.size ≤ k_)) (.slice A0 l0.length c0) l0 from Kd.V_mono hs0 (fun k_ hk => .inl (.inl hk)))
 have HO1 := Aside0.mk (show Kd.V (Kd.int .i64) 3 w w.heap.size (fun k_ => ((P0_ k_ ∨ P1_ k_) ∨ w.heap.size ≤ k_)) (.slice A1 l1.length c1) l1 from Kd.V_mono hs1 (fun k_ hk => .inl (.inr hk)))
 have HB := Aside0.mk (Below.refl w.heap.size w)
 have H : (weftref1_natGCD.l0 k l0 l1) = some r := h
 clear h
 have H' := Aside0.mk H
 clear H
 go_enter Tryz.func104, Tryz.ntmps104
 go_wp2
 go_loopg [0, 1] k (fun kq v0 v1 w' => ∃ (x0_1 : List Int) (x1_1 : List Int), Aside0 (weftref1_natGCD.l0 kq x0_1 x1_1 = some r) ∧ Aside0 (kq ≤ k) ∧ Aside0 (Kd.V (Kd.int .i64) 3 w' w.heap.size (fun k_ => ((P0_ k_ ∨ P1_ k_) ∨ w.heap.size ≤ k_)) v0 x0_1) ∧ Aside0 (Kd.V (Kd.int .i64) 3 w' w.heap.size (fun k_ => ((P0_ k_ ∨ P1_ k_) ∨ w.heap.size ≤ k_)) v1 x1_1) ∧ Aside0 (Below w.heap.size w w'))
 case atStart => exact ⟨(l0), (l1), H', ⟨Nat.le_refl _⟩, ⟨zV HO0⟩, ⟨zV HO1⟩, ⟨bw⟩⟩
 case round =>
  clear H'
  try clear c1
  try clear p2
  obtain ⟨x0_1, x1_1, HA, HK1, HO_0, HO_1, HB⟩ := hrel
  cases gk with
  | zero => exact absurd HA.out (by simp [weftref1_natGCD.l0])
  | succ k1 =>
   have H := HA.out
   clear HA
   simp only [weftref1_natGCD.l0] at H
   by_cases c3 : (x1_1.length : Int) > 0
   ·rw [if_pos c3] at H
    have c3b0 : decide (0 < (x1_1.length : Int)) = true := decide_eq_true c3
    have c3b1 : decide (0 < x1_1.length) = true := decide_eq_true (by omega)
    clear c3
    replace H := Option.bind_eq_some_iff.mp H
    obtain ⟨⟨t417, t420⟩, A40, H⟩ := H
    replace H : (weftref1_natGCD.l0 k1 x1_1 t420) = some r := H
    have A4 := Aside0.mk A40
    clear A40
    have H' := Aside0.mk H
    clear H
    obtain ⟨Ao5, co5, rfl⟩ := Kd.V_slice HO_1.out
    obtain ⟨Ao6, co6, rfl⟩ := Kd.V_slice HO_0.out
    go_wp2_with (first | (refine zg (some 13) Tryz.func134 #[.slice Ao6 x0_1.length co6, .slice Ao5 x1_1.length co5] ?_; (with_reducible refine (weftref1_natDiv.calls k1 (fun k_ => ((P0_ k_ ∨ P1_ k_) ∨ w.heap.size ≤ k_)) _ _ x0_1 _ _ x1_1 t417 t420 _ ?side1 ?side2 ?side3 A4.out).mono ?_); (case side1 => exact HO_0.out); (case side2 => exact zC (Kd.V_reads' HO_1.out).2.2); (case side3 => exact (Kd.V_reads' HO_1.out).2.1); rintro e w7 ⟨v418, v421, rfl, ho0, ho1, hb⟩; refine ⟨_, rfl, ?_⟩; replace HO_0 := Aside0.mk (Kd.V_below (zV HO_0) hb); replace HO_1 := Aside0.mk (Kd.V_below (zV HO_1) hb); have HO419 := Aside0.mk (Kd.V_lower (Kd.V_mono (ok' := fun k_ => ((P0_ k_ ∨ P1_ k_) ∨ w.heap.size ≤ k_)) ho0 (fun k_ hk_ => Or.elim hk_ (fun hs_ => hs_) (fun hn_ => (.inr (Nat.le_trans bs hn_))))) bs); have HO422 := Aside0.mk (Kd.V_lower (Kd.V_mono (ok' := fun k_ => ((P0_ k_ ∨ P1_ k_) ∨ w.heap.size ≤ k_)) ho1 (fun k_ hk_ => Or.elim hk_ (fun hs_ => hs_) (fun hn_ => (.inr (Nat.le_trans bs hn_))))) bs); replace HB := sB hb; clear hb ho0 ho1))
    go_roundg k1
    case measure => have := HK1.out; omega
    case rel => exact ⟨(x1_1), (t420), H', ⟨by have := HK1.out; omega⟩, ⟨zV HO_1⟩, ⟨zV HO422⟩, ⟨bw⟩⟩
   ·rw [if_neg c3] at H
    have c3b0 : decide (0 < (x1_1.length : Int)) = false := decide_eq_false c3
    have c3b1 : decide (0 < x1_1.length) = false := decide_eq_false (by omega)
    clear c3
    obtain rfl := Option.some.inj H
    obtain ⟨Ao8, co8, rfl⟩ := Kd.V_slice HO_1.out
    go_wp2
    go_ret
    exact ⟨_, ze, zV HO_0, bw⟩

section
def strconv_Atoi.f (a0 : ByteArray) : Option (Int × Option Int) := if a0.size ≤ 18 then (Lib.atoi a0.data.toList).map (fun n => (n, none)) else none
theorem strconv_Atoi.calls (a0 : ByteArray) (r1 : Int) (r2 : Option Int) (w : World) (h : strconv_Atoi.f a0 = some (r1, r2)) :
  Calls Tryz.prog 133 #[.string a0] w fun e w' => e = .returned (.tuple #[.int .i64 r1, errW r2]) ∧ Below w.heap.size w w' := by
 unfold strconv_Atoi.f at h
 by_cases c : a0.size ≤ 18
 ·rw [if_pos c] at h
  obtain ⟨n, hn, he⟩ := Option.map_eq_some_iff.1 h
  obtain ⟨rfl, rfl⟩ := Prod.mk.inj he
  refine (Tryz.strconv_Atoi a0 n c hn w).mono ?_
  rintro e w' ⟨rfl, t, rfl⟩
  exact ⟨rfl, Lib.bytesWorld_below _ _ _⟩
 ·rw [if_neg c] at h; cases h

end
def weftref1_natRead.l0 : Nat → ByteArray → List Int → Option (List Int)
 | 0, _, _ => none
 | k + 1, x0, x3 => if (x0.size : Int) > 0 then (if 0 ≤ (mx 0 (wrap64 ((x0.size : Int) - 4))) then (if (mx 0 (wrap64 ((x0.size : Int) - 4))) ≤ (x0.size : Int) then ((strconv_Atoi.f (x0.extract ((mx 0 (wrap64 ((x0.size : Int) - 4))) : Int).toNat x0.size)).bind fun bt423 => (if x3.length < 17592186044416 then (weftref1_natRead.l0 k (x0.extract 0 ((mx 0 (wrap64 ((x0.size : Int) - 4))) : Int).toNat) (x3 ++ [bt423.1])) else (none))) else (none)) else (none)) else ((weftref1_nat_tidy.f k x3).bind fun t428 => (some t428))
def weftref1_natRead.f (k : Nat) (a0 : ByteArray) : Option (List Int) := weftref1_natRead.l0 k a0 ([] : List Int)
theorem weftref1_natRead.mono_l : ∀ k, (∀ y0 y1, LeO (weftref1_natRead.l0 k y0 y1) (weftref1_natRead.l0 (k + 1) y0 y1))
 | 0 => fun _ _ r h => by simp [weftref1_natRead.l0] at h
 | k + 1 => by
  have ih0 := weftref1_natRead.mono_l k
  ·intro y0 y1
   unfold weftref1_natRead.l0
   have m0 := weftref1_nat_tidy.mono
   exact zM
theorem weftref1_natRead.mono : ∀ a0 k, LeO (weftref1_natRead.f k a0) (weftref1_natRead.f (k + 1) a0) := by
 intro a0 k
 have ih0 := weftref1_natRead.mono_l k
 unfold weftref1_natRead.f
 have m0 := weftref1_nat_tidy.mono
 exact zM
set_option maxHeartbeats 8000000 in
set_option maxRecDepth 100000 in
theorem weftref1_natRead.calls (k : Nat) (a0 : ByteArray) (r : List Int) (w : World) (h : weftref1_natRead.f k a0 = some r) :
  Calls Tryz.prog 105 #[.string a0] w fun e w' => ∃ v0_ : Value, e = .returned (v0_) ∧ Kd.V (Kd.int .i64) 3 w' w.heap.size (fun k_ => (w.heap.size ≤ k_)) v0_ r ∧ Below w.heap.size w w' := by
 have HB := Aside0.mk (Below.refl w.heap.size w)
 have H : (weftref1_natRead.l0 k a0 ([] : List Int)) = some r := h
 clear h
 have H' := Aside0.mk H
 clear H
 go_enter Tryz.func105, Tryz.ntmps105
 go_wp2
 go_loopg [0, 3] k (fun kq v0 v3 w' => ∃ (x0_1 : ByteArray) (x3_1 : List Int), v0 = .string x0_1 ∧ Aside0 (weftref1_natRead.l0 kq x0_1 x3_1 = some r) ∧ Aside0 (kq ≤ k) ∧ Aside0 (Kd.R (Kd.int .i64) 3 w' w.heap.size (fun k_ => (w.heap.size ≤ k_)) v3 x3_1) ∧ Aside0 (Below w.heap.size w w'))
 case atStart => exact ⟨(a0), (([] : List Int)), zs, H', ⟨Nat.le_refl _⟩, ⟨by first | exact Kd.R_nil _ _ _ _ _ | exact Kd.N_nil _ _ _ _ _ | exact Kd.V_nil _ _ _ _ _ | exact Kd.Q_nil _ _ _ _ _ | exact Kd.S_nil _ _ _ _ _⟩, ⟨bw⟩⟩
 case round =>
  clear H'
  try clear c1
  obtain ⟨x0_1, x3_1, rfl, HA, HK1, HO_3, HB⟩ := hrel
  cases gk with
  | zero => exact absurd HA.out (by simp [weftref1_natRead.l0])
  | succ k1 =>
   have H := HA.out
   clear HA
   simp only [weftref1_natRead.l0] at H
   by_cases c2 : (x0_1.size : Int) > 0
   ·rw [if_pos c2] at H
    have c2b0 : decide (0 < (x0_1.size : Int)) = true := decide_eq_true c2
    have c2b1 : decide (0 < x0_1.size) = true := decide_eq_true (by omega)
    clear c2
    obtain ⟨ji3, hji3⟩ : ∃ j_ : Int, (mx 0 (wrap64 ((x0_1.size : Int) - 4))) = j_ := ⟨_, rfl⟩
    replace H : (if 0 ≤ (ji3) then (if (ji3) ≤ (x0_1.size : Int) then ((strconv_Atoi.f (x0_1.extract ((ji3) : Int).toNat x0_1.size)).bind fun bt423 => (if x3_1.length < 17592186044416 then (weftref1_natRead.l0 k1 (x0_1.extract 0 ((ji3) : Int).toNat) (x3_1 ++ [bt423.1])) else (none))) else (none)) else (none)) = some r := by first | (rw [hji3] at H; exact H) | (simp only [hji3] at H ⊢; exact H)
    have hji3_ : (if 0 < (wrap64 ((x0_1.size : Int) - 4)) then (wrap64 ((x0_1.size : Int) - 4)) else 0) = ji3 := hji3
    by_cases c4 : 0 ≤ (ji3)
    ·rw [if_pos c4] at H
     have c4b0 := eq_true c4
     have c4b1 : decide (0 ≤ (ji3)) = true := decide_eq_true c4
     clear c4
     by_cases c5 : (ji3) ≤ (x0_1.size : Int)
     ·rw [if_pos c5] at H
      have c5b0 := eq_true c5
      have c5b1 : decide ((ji3) ≤ (x0_1.size : Int)) = true := decide_eq_true c5
      clear c5
      replace H := Option.bind_eq_some_iff.mp H
      obtain ⟨⟨t423, t424⟩, A60, H⟩ := H
      replace H : (if x3_1.length < 17592186044416 then (weftref1_natRead.l0 k1 (x0_1.extract 0 ((ji3) : Int).toNat) (x3_1 ++ [t423])) else (none)) = some r := H
      have A6 := Aside0.mk A60
      clear A60
      by_cases c7 : x3_1.length < 17592186044416
      ·rw [if_pos c7] at H
       have LMc7 := Aside0.mk c7
       clear c7
       obtain ⟨y425, hy425⟩ : ∃ y_ : List Int, y_ = (x3_1 ++ [t423]) := ⟨_, rfl⟩
       replace H : (weftref1_natRead.l0 k1 (x0_1.extract 0 ((ji3) : Int).toNat) y425) = some r := zy hy425 H
       have Ny425 := Aside0.mk hy425
       clear hy425
       have c8b0 := eq_true (zd : 0 ≤ (ji3))
       have c9b0 := eq_true (zd : (ji3) ≤ (x0_1.size : Int))
       have H' := Aside0.mk H
       clear H
       go_wp2_with (first | ((with_reducible refine gate_callee (f := 133) rfl ?_); refine goesL_ (some 18) rfl rfl Tryz.func133 (by kernel_rfl) rfl #[.string (x0_1.extract ((ji3) : Int).toNat x0_1.size)] rfl (by (try simp only [List.map_toArray, List.map_cons, List.map_nil]); first | done | (simp only [hji3]; rfl) | rfl | (simp only [List.length_drop, List.length_take]; rfl)) ?_; (with_reducible refine (strconv_Atoi.calls (x0_1.extract ((ji3) : Int).toNat x0_1.size) t423 t424 _ A6.out).mono ?_); rintro e w10 ⟨rfl, hb⟩; refine ⟨_, rfl, ?_⟩; replace HO_3 := Aside0.mk (Kd.R_below (zR HO_3) hb); replace HB := sB hb; clear hb; (try simp only [errW_none, errW_some])) | ((with_reducible refine gate_builtin (b := .append) (xs := #[.tmp 21, .tmp 23]) rfl ?_); at_builtin; refine Kd.R_append (Kd.int .i64) (w0 := w) w.heap.size rfl (.tmp 21) (.tmp 23) 65 3 (.int .i64 0) 8 rfl Tryz.underlying65 info3 rfl (by decide) (by omega) u3 x3_1 t423 [.int .i64 t423] (fun k_ => (w.heap.size ≤ k_)) (fun _ => False) rfl rfl ?aP (fun _ hk => hk.elim) ?aF ?aO ?aB ?aS ?aL ?_; (case aP => exact rfl); (case aB => exact bw); (case aF => exact (fun k_ hk => (Nat.le_trans bs hk))); (case aO => exact (zR HO_3)); (case aS => exact bs); (case aL => have := LMc7.out; omega); intro v426 w11 ho hb hg hat; rw [← Ny425.out] at ho; replace HB := Aside0.mk (hb); have HO427 := Aside0.mk (ho); clear HO_3; clear ho hb hg hat))
       go_roundg k1
       case measure => have := HK1.out; omega
       case rel => exact ⟨(x0_1.extract 0 ((ji3) : Int).toNat), (y425), (by first | rfl | (simp; done) | (simp only [← hji3] <;> (first | rfl | simp)) | (simp [*]; done)), H', ⟨by have := HK1.out; omega⟩, ⟨zR HO427⟩, ⟨bw⟩⟩
      ·rw [if_neg c7] at H
       cases H
     ·rw [if_neg c5] at H
      cases H
    ·rw [if_neg c4] at H
     cases H
   ·rw [if_neg c2] at H
    have c2b0 : decide (0 < (x0_1.size : Int)) = false := decide_eq_false c2
    have c2b1 : decide (0 < x0_1.size) = false := decide_eq_false (by omega)
    clear c2
    obtain ⟨t428, A12, H⟩ := zB H
    obtain rfl := Option.some.inj H
    obtain ⟨Ao13, co13, rfl⟩ := Kd.R_slice HO_3.out
    go_wp2_with (first | (refine zg (some 29) Tryz.func141 #[.slice Ao13 x3_1.length co13] ?_; (with_reducible refine (weftref1_nat_tidy.calls k1 (fun k_ => some k_ = (.slice Ao13 x3_1.length co13 : Value).ownBlock) _ _ x3_1 t428 _ ?side1 A12.out).mono ?_); (case side1 => exact Kd.R_V (Kd.R_tight rfl (HO_3.out))); rintro e w14 ⟨v429, rfl, ho0, hb⟩; refine ⟨_, rfl, ?_⟩; have HO430 := Aside0.mk (Kd.V_lower (Kd.V_mono (ok' := fun k_ => (w.heap.size ≤ k_)) ho0 (fun k_ hk_ => Or.elim hk_ (fun hs_ => ((HO_3.out).1 k_ hs_.symm)) (fun hn_ => (Nat.le_trans bs hn_)))) bs); replace HO_3 := Aside0.mk (Kd.R_below (zR HO_3) hb); replace HB := sB hb; clear hb ho0))
    go_ret
    exact ⟨_, ze, zV HO430, bw⟩

end Go.Proofs.YtaffkbemjbfajaaGreatDoor.PNumForms
