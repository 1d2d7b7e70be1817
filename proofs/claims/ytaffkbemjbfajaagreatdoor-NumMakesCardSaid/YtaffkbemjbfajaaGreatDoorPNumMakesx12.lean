-- By a program of this session (a changed copy of the kit's printer): functions of the seat as plain Lean functions, each with its proof over the machine.
import Derived.Test.YtaffkbemjbfajaaGreatDoorPNumMakesx0
import Derived.Test.YtaffkbemjbfajaaGreatDoorPNumMakesx10
import Derived.Test.YtaffkbemjbfajaaGreatDoorPNumMakesx11
namespace Go.Proofs.YtaffkbemjbfajaaGreatDoor.PNumMakes
open Go.RowKit Go.Proofs.YtaffkbemjbfajaaGreatDoorW.PrintWords Go.Proofs.YtaffkbemjbfajaaGreatDoorW.PrintLast Go.Proofs.YtaffkbemjbfajaaGreatDoorW.PrintMore
attribute [local go_sem] max2_int min2_int max_two min_two max_three min_three max_four min_four   -- for this text's walks alone
set_option linter.unusedVariables false
set_option linter.unusedSimpArgs false

section
def weftref1_natDiv.bs (k : Nat) (b r : List Int) : Nat → Int → Int → Option Int
 | 0, _, _ => none
 | m + 1, lo, hi => if lo < hi then (weftref1_natOf.f k ((lo + hi + 1) / 2)).bind fun t => (weftref1_natMul.f k b t).bind fun p => (weftref1_natCmp.f k p r).bind fun c => if c ≤ 0 then weftref1_natDiv.bs k b r m ((lo + hi + 1) / 2) hi else weftref1_natDiv.bs k b r m lo ((lo + hi + 1) / 2 - 1) else some lo
def weftref1_natDiv.lp (k : Nat) (a b : List Int) : Nat → List Int → List Int → Option (List Int × List Int)
 | 0, r, q => some (q, r)
 | i + 1, r, q => (weftref1_nat_int.f r).bind fun r' => (weftref1_nat_tidy.f k (rd a (i : Int) :: r')).bind fun r1 => (weftref1_natDiv.bs k b r1 10000 0 9999).bind fun low =>
  if low > 0 then (weftref1_natOf.f k low).bind fun t => (weftref1_natMul.f k b t).bind fun p => (weftref1_natAdd.f k r1 p (-1)).bind fun r2 => weftref1_natDiv.lp k a b i r2 (low :: q)
  else weftref1_natDiv.lp k a b i r1 (low :: q)
def weftref1_natDiv.f (k : Nat) (l0 : List Int) (l1 : List Int) : Option (List Int × List Int) :=
 if l0.length < 1000000000 ∧ l1.length < 1000000000 then (weftref1_natCmp.f k l0 l1).bind fun c =>
  if c < 0 then some ([], l0)
  else if 1 ≤ l1.length ∧ l1.length ≤ l0.length then (weftref1_nat_int.f (l0.drop (l0.length - l1.length + 1))).bind fun r' => (weftref1_nat_tidy.f k r').bind fun r0 =>
   (weftref1_natDiv.lp k l0 l1 (l0.length - l1.length + 1) r0 []).bind fun z => (weftref1_nat_tidy.f k z.1).bind fun q => some (q, z.2)
  else none
 else none
theorem weftref1_natDiv.mono_bs (k : Nat) (b r : List Int) : ∀ m lo hi, LeO (weftref1_natDiv.bs k b r m lo hi) (weftref1_natDiv.bs (k + 1) b r m lo hi)
 | 0, _, _ => LeO.refl _
 | m + 1, lo, hi => LeO.ite (LeO.bind (weftref1_natOf.mono _ k) fun _ => LeO.bind (weftref1_natMul.mono _ _ k) fun _ => LeO.bind (weftref1_natCmp.mono _ _ k) fun _ => LeO.ite (weftref1_natDiv.mono_bs k b r m _ _) (weftref1_natDiv.mono_bs k b r m _ _)) (LeO.refl _)
theorem weftref1_natDiv.mono_lp (k : Nat) (a b : List Int) : ∀ i r q, LeO (weftref1_natDiv.lp k a b i r q) (weftref1_natDiv.lp (k + 1) a b i r q)
 | 0, _, _ => LeO.refl _
 | i + 1, r, q => LeO.bind (LeO.refl _) fun _ => LeO.bind (weftref1_nat_tidy.mono _ k) fun _ => LeO.bind (weftref1_natDiv.mono_bs k b _ _ _ _) fun _ => LeO.ite (LeO.bind (weftref1_natOf.mono _ k) fun _ => LeO.bind (weftref1_natMul.mono _ _ k) fun _ => LeO.bind (weftref1_natAdd.mono _ _ _ k) fun _ => weftref1_natDiv.mono_lp k a b i _ _) (weftref1_natDiv.mono_lp k a b i _ _)
theorem weftref1_natDiv.mono : ∀ a0 a1 k, LeO (weftref1_natDiv.f k a0 a1) (weftref1_natDiv.f (k + 1) a0 a1) := by
 intro a0 a1 k
 unfold weftref1_natDiv.f
 exact LeO.ite (LeO.bind (weftref1_natCmp.mono _ _ k) fun _ => LeO.ite (LeO.refl _) (LeO.ite (LeO.bind (LeO.refl _) fun _ => LeO.bind (weftref1_nat_tidy.mono _ k) fun _ => LeO.bind (weftref1_natDiv.mono_lp k _ _ _ _ _) fun _ => LeO.bind (weftref1_nat_tidy.mono _ k) fun _ => LeO.refl _) (LeO.none _))) (LeO.none _)
set_option maxHeartbeats 8000000 in
set_option maxRecDepth 100000 in
theorem weftref1_natDiv.less_ (k : Nat) (P0_ : Nat → Prop) (A0 : Option Addr) (c0 : Nat) (l0 : List Int) (A1 : Option Addr) (c1 : Nat) (l1 : List Int) (c : Int) (w : World) (hs0 : Kd.V (Kd.int .i64) 3 w w.heap.size (fun k_ => P0_ k_) (.slice A0 l0.length c0) l0) (hr1 : Kd.C (Kd.int .i64) w A1 l1.length l1) (hc1 : l1.length ≤ c1) (hc : weftref1_natCmp.f k l0 l1 = some c) (hlt : c < 0) :
  Calls Tryz.prog 134 #[.slice A0 l0.length c0, .slice A1 l1.length c1] w fun e w' => ∃ v0_ v1_ : Value, e = .returned (.tuple #[v0_, v1_]) ∧ Kd.V (Kd.int .i64) 3 w' w.heap.size (fun k_ => (P0_ k_ ∨ w.heap.size ≤ k_)) v0_ [] ∧ Kd.V (Kd.int .i64) 3 w' w.heap.size (fun k_ => (P0_ k_ ∨ w.heap.size ≤ k_)) v1_ l0 ∧ Below w.heap.size w w' := by
 have hcmp := fun (W : World) (h0 : Kd.C (Kd.int .i64) W A0 l0.length l0) (h1 : Kd.C (Kd.int .i64) W A1 l1.length l1) => weftref1_natCmp.calls k A0 c0 l0 A1 c1 l1 c W h0 (Kd.V_reads' hs0).2.1 h1 hc1 hc
 have HS0 := Aside0.mk hs0
 have HR1 := Aside0.mk hr1
 have c3b0 : decide (c < 0) = true := decide_eq_true hlt
 have HB := Aside0.mk (Below.refl w.heap.size w)
 clear hs0 hr1 hc1 hc hlt
 go_enter Tryz.func134, Tryz.ntmps134
 go_wp2_with (first
  | (go_at_call 120; (with_reducible refine (hcmp _ ?s1 ?s2).mono ?_); (case s1 => exact (Kd.V_reads' HS0.out).2.2); (case s2 => exact HR1.out); clear hcmp; rintro e w' ⟨rfl, ⟨nd, rfl⟩⟩; have HB1 := Aside0.mk (pw_below_drewN HB.out nd))
  | fail)
 go_ret2
 exact ⟨_, _, rfl, Kd.V_nil _ _ _ _ _, Kd.V_mono (Kd.V_drewN HS0.out nd) (fun _ h => .inl h), HB1.out⟩
set_option maxHeartbeats 8000000 in
set_option maxRecDepth 100000 in
theorem weftref1_natDiv.big_ (k : Nat) (P0_ : Nat → Prop) (A0 : Option Addr) (c0 : Nat) (l0 : List Int) (A1 : Option Addr) (c1 : Nat) (l1 : List Int) (c : Int) (r' r0 z1 z2 q : List Int) (w : World) (hs0 : Kd.V (Kd.int .i64) 3 w w.heap.size (fun k_ => P0_ k_) (.slice A0 l0.length c0) l0) (hr1 : Kd.C (Kd.int .i64) w A1 l1.length l1) (hc1 : l1.length ≤ c1) (hc : weftref1_natCmp.f k l0 l1 = some c) (hlt : ¬ c < 0)
  (hl1 : 1 ≤ l1.length) (hle : l1.length ≤ l0.length) (hbig : l0.length < 1000000000) (hcl : weftref1_nat_int.f (l0.drop (l0.length - l1.length + 1)) = some r') (htd : weftref1_nat_tidy.f k r' = some r0) (hlp : weftref1_natDiv.lp k l0 l1 (l0.length - l1.length + 1) r0 [] = some (z1, z2)) (hq : weftref1_nat_tidy.f k z1 = some q) :
  Calls Tryz.prog 134 #[.slice A0 l0.length c0, .slice A1 l1.length c1] w fun e w' => ∃ v0_ v1_ : Value, e = .returned (.tuple #[v0_, v1_]) ∧ Kd.V (Kd.int .i64) 3 w' w.heap.size (fun k_ => (P0_ k_ ∨ w.heap.size ≤ k_)) v0_ q ∧ Kd.V (Kd.int .i64) 3 w' w.heap.size (fun k_ => (P0_ k_ ∨ w.heap.size ≤ k_)) v1_ z2 ∧ Below w.heap.size w w' := by
 have hc0 := (Kd.V_reads' hs0).2.1
 have hr0 := (Kd.V_reads' hs0).2.2
 have hcmp := fun (W : World) (h0 : Kd.C (Kd.int .i64) W A0 l0.length l0) (h1 : Kd.C (Kd.int .i64) W A1 l1.length l1) => weftref1_natCmp.calls k A0 c0 l0 A1 c1 l1 c W h0 hc0 h1 hc1 hc
 obtain ⟨d1, hd1⟩ : ∃ j : Int, wrap64 ((l0.length : Int) - (l1.length : Int)) = j := ⟨_, rfl⟩
 have ed1 : d1 = ((l0.length - l1.length : Nat) : Int) := by rw [← hd1]; unfold wrap64; omega
 obtain ⟨d2, hd2⟩ : ∃ j : Int, wrap64 (d1 + 1) = j := ⟨_, rfl⟩
 have ed2 : d2 = ((l0.length - l1.length + 1 : Nat) : Int) := by rw [← hd2]; unfold wrap64; omega
 have hd1w : IntKind.i64.wrap ((l0.length : Int) - (l1.length : Int)) = d1 := (i64_w _).trans hd1
 have hd2w : IntKind.i64.wrap (d1 + 1) = d2 := (i64_w _).trans hd2
 have info3c : (Tryz.prog.info? 3).map (fun i => (i.zero, i.size, i.bytes)) = some (some (.int .i64 0), 1, 8) := by kernel_rfl
 obtain ⟨i0, hi0, _, hsz0, _⟩ := info_parts info3c
 have hcut := cut_from (P := Tryz.prog) 65 3 .i64 Tryz.underlying65 hi0 1 hsz0 A0 l0.length c0 d2 (by omega) (by omega)
 obtain ⟨y0, hy0⟩ : ∃ y : List Int, y = l0.drop (l0.length - l1.length + 1) := ⟨_, rfl⟩
 obtain ⟨A0', hA0'⟩ : ∃ A : Option Addr, A = (if c0 = d2.toNat then A0 else A0.map (·.add (d2.toNat * 1))) := ⟨_, rfl⟩
 have hy0l : y0.length = l0.length - d2.toNat := by rw [hy0, List.length_drop]; omega
 rw [← hA0', ← hy0l] at hcut
 have hC0 := fun (W : World) (h : Kd.C (Kd.int .i64) W A0 l0.length l0) => Kd.C_drop (m := d2.toNat) h (by omega) hc0
 have hC0' : ∀ (W : World), Kd.C (Kd.int .i64) W A0 l0.length l0 → Kd.C (Kd.int .i64) W A0' y0.length y0 := by
  intro W h
  have := hC0 W h
  rw [hA0', hy0, show l0.length - l1.length + 1 = d2.toNat by omega]
  exact this
 rw [← hy0] at hcl
 have hclone := fun (W : World) (h0 : Kd.C (Kd.int .i64) W A0' y0.length y0) => weftref1_nat_int.calls A0' (c0 - d2.toNat) y0 r' W h0 (by omega) hcl
 have htidy := fun (A : Option Addr) (c : Nat) (W : World) (h0 : Kd.V (Kd.int .i64) 3 W W.heap.size (fun b => w.heap.size ≤ b) (.slice A r'.length c) r') => weftref1_nat_tidy.calls k (fun b => w.heap.size ≤ b) A c r' r0 W h0 htd
 have c3b0 : decide (c < 0) = false := decide_eq_false hlt
 have HS0 := Aside0.mk hs0
 have HR0 := Aside0.mk hr0
 have HR1 := Aside0.mk hr1
 have HC0 := Aside0.mk hC0'
 have HLP := Aside0.mk hlp
 have HLE := Aside0.mk hle
 have HC1 := Aside0.mk hc1
 have HL1X := Aside0.mk hl1
 have HBIG := Aside0.mk hbig
 have HQ := Aside0.mk hq
 have HD := Aside0.mk ed1
 have HB := Aside0.mk (Below.refl w.heap.size w)
 clear hs0 hr0 hr1 hc0 hc1 hc hlt hcl htd hlp hle hbig hq ed2 ed1 hi0 hsz0 info3c hy0 hA0' hC0 hC0' hl1 hy0l
 go_enter Tryz.func134, Tryz.ntmps134
 go_wp2_with (first
  | (go_at_call 120; (with_reducible refine (hcmp _ ?s1 ?s2).mono ?_); (case s1 => exact HR0.out); (case s2 => exact HR1.out); clear hcmp; rintro e w' ⟨rfl, ⟨nd, rfl⟩⟩; have HB1 := Aside0.mk (pw_below_drewN HB.out nd))
  | (go_at_call 160; (with_reducible refine (hclone _ ?s3).mono ?_); (case s3 => exact HC0.out _ (Kd.C_drewN HR0.out _)); clear hclone; rintro e w5 ⟨v5, rfl, hv, hb⟩; obtain ⟨A5, c5, e5⟩ := Kd.R_slice hv; subst e5; have HB5 := Aside0.mk (below_step HB1.out hb); have HV5 := Aside0.mk (Kd.R_V (base' := w.heap.size) (Kd.R_mono (ok' := fun b => w.heap.size ≤ b) (Kd.R_bound hv) (fun _ hk => Nat.le_trans HB1.out.size hk.2.1))); clear hv hb)
  | (go_at_call 141; (with_reducible refine (htidy _ _ _ ?s4).mono ?_); (case s4 => exact HV5.out); clear htidy; rintro e w6 ⟨v6, rfl, hv, hb⟩; have HB6 := Aside0.mk (below_step HB5.out hb); have HV6 := Aside0.mk (Kd.V_lower (base' := w.heap.size) (Kd.V_mono (ok' := fun b => w.heap.size ≤ b) hv (fun _ hk => hk.elim id (fun h => Nat.le_trans HB5.out.size h))) HB5.out.size); clear hv hb)
  | fail)
 clear HC0 HB1 HV5 HB5 HB
 go_loopg [6, 8, 9] (l0.length - l1.length + 1) (fun kq v6 v8 v9 w' => ∃ (i : Nat) (r q_ : List Int), v9 = .int .i64 ((i : Int) - 1) ∧ Aside0 (weftref1_natDiv.lp k l0 l1 i r q_ = some (z1, z2)) ∧ Aside0 (i ≤ kq) ∧ Aside0 (q_.length + i = l0.length - l1.length + 1) ∧ Aside0 (Kd.R (Kd.int .i64) 3 w' w.heap.size (fun _ => True) v6 q_) ∧ Aside0 (Kd.V (Kd.int .i64) 3 w' w.heap.size (fun b => w.heap.size ≤ b ∧ some b ≠ v6.ownBlock) v8 r) ∧ Aside0 (Below w.heap.size w w'))
 case atStart => exact ⟨l0.length - l1.length + 1, r0, [], by rw [HD.out]; congr 1; omega, HLP, ⟨Nat.le_refl _⟩, ⟨by simp⟩, ⟨Kd.R_nil _ _ _ _ _⟩, ⟨Kd.V_apart_nil HV6.out⟩, HB6⟩
 case round =>
  obtain ⟨i, r, q_, rfl, HL, HI, HQL, HR, HV, HB⟩ := hrel
  clear HLP HV6 HB6
  obtain ⟨Ar, cr, er⟩ := Kd.V_slice HV.out
  subst er
  cases i with
  | zero =>
   have hz := HL.out
   simp only [weftref1_natDiv.lp, Option.some.injEq, Prod.mk.injEq] at hz
   obtain ⟨rfl, rfl⟩ := hz
   clear HL
   have hq := HQ.out
   obtain ⟨Aq, cq, eq⟩ := Kd.R_slice HR.out
   subst eq
   have htidy := fun (W : World) (h0 : Kd.V (Kd.int .i64) 3 W W.heap.size (fun b => w.heap.size ≤ b) (.slice Aq q_.length cq) q_) => weftref1_nat_tidy.calls k (fun b => w.heap.size ≤ b) Aq cq q_ q W h0 hq
   clear hq hd1 hd2 hd1w hd2w hcut c3b0
   go_wp2_with (first
    | (go_at_call 141; (with_reducible refine (htidy _ ?s9).mono ?_); (case s9 => exact Kd.R_V (Kd.R_mono (Kd.R_bound HR.out) (fun _ hk => hk.2.1))); clear htidy; rintro e w9 ⟨v9, rfl, hv, hb⟩; have HV9 := Aside0.mk hv; have HB9 := Aside0.mk (below_step HB.out hb); have HVr := Aside0.mk (Kd.V_below HV.out hb); clear hv hb)
    | fail)
   go_ret2
   exact ⟨_, _, rfl, Kd.V_mono HV9.out (fun b hb => .inr (hb.elim id (fun h => Nat.le_trans HB.out.size h))), Kd.V_mono HVr.out (fun b hb => .inr hb.1), HB9.out⟩
  | succ i =>
   have ej : (((i + 1 : Nat) : Int) - 1) = (i : Int) := by omega
   rw [ej]
   have hl := HL.out
   simp only [weftref1_natDiv.lp] at hl
   obtain ⟨rc, hrc, hl⟩ := Option.bind_eq_some_iff.1 hl
   obtain ⟨r1, hr1', hl⟩ := Option.bind_eq_some_iff.1 hl
   obtain ⟨low, hlow, hl⟩ := Option.bind_eq_some_iff.1 hl
   have hrcl : rc = r ∧ r.length < 17592186044416 := by
    unfold weftref1_nat_int.f at hrc
    split at hrc
    ·exact ⟨(Option.some.inj hrc).symm, by assumption⟩
    ·cases hrc
   have hiL : i < l0.length := by have := HQL.out; have := HLE.out; have := HL1X.out; omega
   obtain ⟨ad, ead, hx⟩ := Kd.at_int HR0.out (i : Int) (by omega) (by omega)
   subst ead
   rw [Int.toNat_natCast] at hx
   have hxr := (HB.out.cell (World.block_lt_of_cell? w _ hx)).trans hx
   have hb64 : (i : Int) < (l0.length : Int) := by omega
   have hbI : ((i : Int) < (l0.length : Int)) = True := eq_true (by omega)
   have hbN : (i < l0.length) = True := eq_true (by omega)
   have hclone := fun (W : World) (h0 : Kd.C (Kd.int .i64) W Ar r.length r) => weftref1_nat_int.calls Ar cr r rc W h0 (Kd.V_reads' HV.out).2.1 hrc
   obtain ⟨y1, hy1⟩ : ∃ y : List Int, rd l0 (i : Int) :: rc = y := ⟨_, rfl⟩
   rw [hy1] at hr1'
   have HY1 := Aside0.mk hy1
   clear hy1
   have htidy := fun (A : Option Addr) (c : Nat) (W : World) (h0 : Kd.V (Kd.int .i64) 3 W W.heap.size (fun b => wr.heap.size ≤ b) (.slice A y1.length c) y1) => weftref1_nat_tidy.calls k (fun b => wr.heap.size ≤ b) A c y1 r1 W h0 hr1'
   have HL1 := Aside0.mk hl
   have HLOW := Aside0.mk hlow
   have HRCL := Aside0.mk hrcl
   clear hl hlow hrc hr1' hrcl HL hiL hx hd1 hd2 hd1w hd2w hcut c3b0 hb64
   go_wp2_with (fail)
   go_region_held3 (fun w' => w'.cell? (ad.add i) = some (.int .i64 (rd l0 (i : Int)))) (first | (with_reducible exact hx7) | (with_reducible exact hx6) | (with_reducible exact hk5) | (with_reducible exact hxr) | (exact hxr) | (exact pw_cell_below (below_alloc (Below.refl _ _) _) hk5) | (exact pw_cell_below (below_alloc (Below.refl _ _) _) hxr))
    (first
     | (go_at_call 160; (refine (hclone _ (by (with_reducible repeat (first | apply Kd.C_alloc | apply Kd.C_drewN | apply Kd.C_drew)); exact (Kd.V_reads' HV.out).2.2)).mono ?_); rintro e w5 ⟨v5, rfl, hv5_, hb5_⟩; have hb5 : Below wr.heap.size wr w5 := below_step (by repeat (first | exact Below.refl _ _ | apply below_alloc | apply pw_below_drewN | apply below_drew)) hb5_; have hv5 : Kd.R (Kd.int .i64) 3 w5 wr.heap.size (fun _ => True) v5 rc := Kd.R_lower hv5_ (below_size (by repeat (first | exact Below.refl _ _ | apply below_alloc | apply pw_below_drewN | apply below_drew))); have hk5 := pw_cell_below hb5 hxr)
     | (go_at_call 161; have hA : Kd.R (Kd.int .i64) 3 (w5.alloc (.cells #[.int .i64 (rd l0 (i : Int))] 3)) w.heap.size (fun _ => True) v5 rc := Kd.R_alloc (Kd.R_lower hv5 HB.out.size) _; have hBq : v5.ownBlock ≠ some w5.heap.size := (fun e_ => absurd (own_lt (Kd.own_of_R hv5) _ e_) (Nat.lt_irrefl _)); have hCq : w.heap.size ≤ (w5.alloc (.cells #[.int .i64 (rd l0 (i : Int))] 3)).heap.size := (by have := HB.out.size; have := hb5.size; simp; omega); have hDq : rc.length < 17592186044416 := (by rw [HRCL.out.1]; exact HRCL.out.2); have hEq := blk_new w5 (.cells #[.int .i64 (rd l0 (i : Int))] 3); (with_reducible refine (Ins.ins w.heap.size v5 rc (rd l0 (i : Int)) w5.heap.size (w5.alloc (.cells #[.int .i64 (rd l0 (i : Int))] 3)) hA hEq hBq hCq hDq).mono ?_); clear hA hBq hCq hDq hEq; rintro e w6 ⟨v6, rfl, hr6, hg6, ha6⟩; rw [HY1.out] at hr6; have hB6 : Below wr.heap.size wr w6 := (hb5.alloc hb5.size _).grown hg6 (by have := hb5.size; simp; omega) (own_base (Kd.own_of_R hv5)); have hk6 : ∀ b, v6.ownBlock = some b → wr.heap.size ≤ b := (fun b hb => by rcases ha6 with ha6 | ⟨b', ha6, hb'⟩; (rw [ha6] at hb; exact own_base (Kd.own_of_R hv5) _ hb); (rw [ha6] at hb; injection hb with hb; have := hb5.size; simp at hb'; omega)); obtain ⟨A6, c6, e6⟩ := Kd.R_slice hr6; subst e6; have hx6 := pw_cell_below hB6 hxr; clear hg6 ha6 hv5 hb5 hk5 hv5_ hb5_)
     | (go_at_call 161; have hA : Kd.R (Kd.int .i64) 3 w5 w.heap.size (fun _ => True) v5 rc := Kd.R_lower hv5 HB.out.size; have hEq : w5.heap[wr.heap.size]? = some (.cells #[.int .i64 (rd l0 (i : Int))] 3 (0, 0)) := (hb5_.block _ (by simp)).trans (blk_new wr _); have hFq : wr.heap.size + 1 ≤ w5.heap.size := (by have := hb5_.size; simp at this; omega); have hOq : ∀ b, v5.ownBlock = some b → wr.heap.size + 1 ≤ b := (fun b hb => by have := own_base (Kd.own_of_R hv5_) b hb; simp at this; omega); have hBq : v5.ownBlock ≠ some wr.heap.size := (fun e_ => by have := hOq _ e_; omega); have hCq : w.heap.size ≤ w5.heap.size := (by have := HB.out.size; omega); have hDq : rc.length < 17592186044416 := (by rw [HRCL.out.1]; exact HRCL.out.2); (with_reducible refine (Ins.ins w.heap.size v5 rc (rd l0 (i : Int)) wr.heap.size w5 hA hEq hBq hCq hDq).mono ?_); clear hA hBq hCq hDq hEq; rintro e w6 ⟨v6, rfl, hr6, hg6, ha6⟩; rw [HY1.out] at hr6; have hB6 : Below wr.heap.size wr w6 := hb5.grown hg6 hb5.size (fun b hb => by have := hOq b hb; omega); have hk6 : ∀ b, v6.ownBlock = some b → wr.heap.size ≤ b := (fun b hb => by rcases ha6 with ha6 | ⟨b', ha6, hb'⟩; (rw [ha6] at hb; have := hOq b hb; omega); (rw [ha6] at hb; injection hb with hb; have := hb5.size; omega)); obtain ⟨A6, c6, e6⟩ := Kd.R_slice hr6; subst e6; have hx6 := pw_cell_below hB6 hxr; clear hg6 ha6 hv5 hb5 hk5 hv5_ hb5_ hOq hFq)
     | (go_at_call 141; have hT1 := Kd.R_tight rfl hr6; have hT2 := Kd.R_mono (ok' := fun b => wr.heap.size ≤ b) hT1 (fun b hb => hk6 b hb.symm); have hT : Kd.V (Kd.int .i64) 3 w6 w6.heap.size (fun b => wr.heap.size ≤ b) (.slice A6 y1.length c6) y1 := Kd.R_V hT2; refine (htidy A6 c6 w6 hT).mono ?_; clear hT1 hT2 hT; rintro e w7 ⟨v7, rfl, hv7, hb7⟩; have hB7 : Below wr.heap.size wr w7 := below_then hB6 hB6.size hb7; have hx7 := pw_cell_below hB7 hxr; replace hv7 : Kd.V (Kd.int .i64) 3 w7 w.heap.size (fun b => wr.heap.size ≤ b) v7 r1 := Kd.V_lower (base' := w.heap.size) (Kd.V_mono (ok' := fun b => wr.heap.size ≤ b) hv7 (fun b hb => hb.elim id (fun h => Nat.le_trans hB6.size h))) (Nat.le_trans HB.out.size hB6.size); clear hb7 hB6 hx6 hr6 hk6))
   all_goals
    clear hxr hx7 hclone htidy
    have HB7 := Aside0.mk (below_step HB.out hB7)
    have HBr := Aside0.mk hB7
    obtain ⟨A7, c7, e7⟩ := Kd.V_slice hv7
    subst e7
    have HV7 := Aside0.mk hv7
    clear hv7 hB7
    have hc1 := HC1.out
    have hc7 := (Kd.V_reads' HV7.out).2.1
    have hof := fun (x : Int) (t : List Int) (W : World) (ht : weftref1_natOf.f k x = some t) => weftref1_natOf.calls k x t W ht
    have hmul := fun (t p : List Int) (A : Option Addr) (c : Nat) (W : World) (h0 : Kd.C (Kd.int .i64) W A1 l1.length l1) (h1 : Kd.C (Kd.int .i64) W A t.length t) (h2 : t.length ≤ c) (hp : weftref1_natMul.f k l1 t = some p) => weftref1_natMul.calls k A1 c1 l1 A c t p W h0 hc1 h1 h2 hp
    have hcm2 := fun (p : List Int) (cc : Int) (A : Option Addr) (c : Nat) (W : World) (h0 : Kd.C (Kd.int .i64) W A p.length p) (h2 : p.length ≤ c) (h1 : Kd.C (Kd.int .i64) W A7 r1.length r1) (hp : weftref1_natCmp.f k p r1 = some cc) => weftref1_natCmp.calls k A c p A7 c7 r1 cc W h0 h2 h1 hc7 hp
    have hadd := fun (p r2 : List Int) (A : Option Addr) (c : Nat) (W : World) (h0 : Kd.C (Kd.int .i64) W A7 r1.length r1) (h1 : Kd.C (Kd.int .i64) W A p.length p) (h2 : p.length ≤ c) (hp : weftref1_natAdd.f k r1 p (-1) = some r2) => weftref1_natAdd.calls k A7 c7 r1 A c p (-1) r2 W h0 hc7 h1 h2 hp
    clear hc1 hc7
    go_wp2_with (fail)
    go_loopg [10, 11] 10000 (fun kq v10 v11 w' => ∃ (m : Nat) (lo hi : Int), v10 = .int .i64 lo ∧ v11 = .int .i64 hi ∧ Aside0 (weftref1_natDiv.bs k l1 r1 m lo hi = some low) ∧ Aside0 (m ≤ kq) ∧ (0 ≤ lo ∧ lo ≤ 9999) ∧ (0 ≤ hi ∧ hi ≤ 9999) ∧ Aside0 (Below w7.heap.size w7 w'))
    case atStart => exact ⟨10000, 0, 9999, rfl, rfl, HLOW, ⟨Nat.le_refl _⟩, ⟨by omega, by omega⟩, ⟨by omega, by omega⟩, ⟨Below.refl _ _⟩⟩
    case round =>
     obtain ⟨m, lo, hi, rfl, rfl, HBS, HM, ⟨hlo0, hlo1⟩, ⟨hhi0, hhi1⟩, HB8⟩ := hrel
     cases m with
     | zero => exact absurd HBS.out (by simp [weftref1_natDiv.bs])
     | succ m =>
      have hbs := HBS.out
      simp only [weftref1_natDiv.bs] at hbs
      clear HBS
      by_cases hlt : lo < hi
      ·rw [if_pos hlt] at hbs
       have c45 : decide (lo < hi) = true := decide_eq_true hlt
       obtain ⟨md, hmd⟩ : ∃ x : Int, (lo + hi + 1) / 2 = x := ⟨_, rfl⟩
       have hmd0 : 0 ≤ md := by omega
       have hmd1 : md ≤ 9999 := by omega
       have HMD := Aside0.mk (show 1 ≤ md by omega)
       rw [hmd] at hbs
       obtain ⟨t, ht, hbs⟩ := Option.bind_eq_some_iff.1 hbs
       obtain ⟨p, hp, hbs⟩ := Option.bind_eq_some_iff.1 hbs
       obtain ⟨cc, hcc, hbs⟩ := Option.bind_eq_some_iff.1 hbs
       have HT := Aside0.mk ht
       have HP := Aside0.mk hp
       have HCC := Aside0.mk hcc
       clear ht hp hcc
       by_cases hc0 : cc ≤ 0
       ·rw [if_pos hc0] at hbs
        have HBS := Aside0.mk hbs
        have c58 : decide (cc ≤ 0) = true := decide_eq_true hc0
        clear hbs hc0
        go_wp2_with (first
          | (go_at_call 98; (with_reducible refine (hof md t _ HT.out).mono ?_); rintro e w8 ⟨v8, rfl, hv, hb⟩; obtain ⟨At, ct, et⟩ := Kd.R_slice hv; subst et; have HT8 := Aside0.mk (Kd.R_reads' hv); have HB9 := Aside0.mk (below_step HB8.out hb); clear hv hb)
          | (go_at_call 112; (with_reducible refine (hmul t p At ct _ (Kd.C_below HR1.out (below_step HB7.out HB9.out)) HT8.out.2.2 HT8.out.2.1 HP.out).mono ?_); rintro e w9 ⟨v9, rfl, hv, hb⟩; obtain ⟨Ap, cp, ep⟩ := Kd.V_slice hv; subst ep; have HP9 := Aside0.mk (Kd.V_reads' hv); have HB10 := Aside0.mk (below_step HB9.out hb); clear hv hb)
          | (go_at_call 120; (with_reducible refine (hcm2 p cc Ap cp _ HP9.out.2.2 HP9.out.2.1 (Kd.C_below (Kd.V_reads' HV7.out).2.2 HB10.out) HCC.out).mono ?_); rintro e w' ⟨rfl, ⟨nd2, rfl⟩⟩; have HB11 := Aside0.mk (pw_below_drewN HB10.out nd2)))
        go_roundg m
        case measure => have := HM.out; omega
        case rel => exact ⟨m, md, hi, rfl, rfl, HBS, ⟨Nat.le_refl _⟩, ⟨hmd0, hmd1⟩, ⟨hhi0, hhi1⟩, HB11⟩
       ·rw [if_neg hc0] at hbs
        have HBS := Aside0.mk hbs
        have c58 : decide (cc ≤ 0) = false := decide_eq_false hc0
        clear hbs hc0
        go_wp2_with (first
          | (go_at_call 98; (with_reducible refine (hof md t _ HT.out).mono ?_); rintro e w8 ⟨v8, rfl, hv, hb⟩; obtain ⟨At, ct, et⟩ := Kd.R_slice hv; subst et; have HT8 := Aside0.mk (Kd.R_reads' hv); have HB9 := Aside0.mk (below_step HB8.out hb); clear hv hb)
          | (go_at_call 112; (with_reducible refine (hmul t p At ct _ (Kd.C_below HR1.out (below_step HB7.out HB9.out)) HT8.out.2.2 HT8.out.2.1 HP.out).mono ?_); rintro e w9 ⟨v9, rfl, hv, hb⟩; obtain ⟨Ap, cp, ep⟩ := Kd.V_slice hv; subst ep; have HP9 := Aside0.mk (Kd.V_reads' hv); have HB10 := Aside0.mk (below_step HB9.out hb); clear hv hb)
          | (go_at_call 120; (with_reducible refine (hcm2 p cc Ap cp _ HP9.out.2.2 HP9.out.2.1 (Kd.C_below (Kd.V_reads' HV7.out).2.2 HB10.out) HCC.out).mono ?_); rintro e w' ⟨rfl, ⟨nd2, rfl⟩⟩; have HB11 := Aside0.mk (pw_below_drewN HB10.out nd2)))
        go_roundg m
        case measure => have := HM.out; omega
        case rel => exact ⟨m, lo, md - 1, rfl, rfl, HBS, ⟨Nat.le_refl _⟩, ⟨hlo0, hlo1⟩, ⟨by have := HMD.out; omega, by omega⟩, HB11⟩
      ·rw [if_neg hlt] at hbs
       have elo := Option.some.inj hbs
       subst elo
       clear hbs
       have c45 : decide (lo < hi) = false := decide_eq_false hlt
       have HQ44 := Aside0.mk (show q_.length < 17592186044416 by have := HQL.out; have := HBIG.out; omega)
       have hl1 := HL1.out
       clear HL1 hlt
       by_cases hpos : lo > 0
       ·rw [if_pos hpos] at hl1
        have c63 : decide (0 < lo) = true := decide_eq_true hpos
        obtain ⟨t, ht, hl1⟩ := Option.bind_eq_some_iff.1 hl1
        obtain ⟨p, hp, hl1⟩ := Option.bind_eq_some_iff.1 hl1
        obtain ⟨r2, hr2, hl1⟩ := Option.bind_eq_some_iff.1 hl1
        have HT := Aside0.mk ht
        have HP := Aside0.mk hp
        have HR2 := Aside0.mk hr2
        have HL := Aside0.mk hl1
        clear ht hp hr2 hl1
        go_wp2_with (first
          | (go_at_call 98; (with_reducible refine (hof lo t _ HT.out).mono ?_); rintro e w8 ⟨v8, rfl, hv, hb⟩; obtain ⟨At, ct, et⟩ := Kd.R_slice hv; subst et; have HT8 := Aside0.mk (Kd.R_reads' hv); have HB9 := Aside0.mk (below_step HB8.out hb); clear hv hb)
          | (go_at_call 112; (with_reducible refine (hmul t p At ct _ (Kd.C_below HR1.out (below_step HB7.out HB9.out)) HT8.out.2.2 HT8.out.2.1 HP.out).mono ?_); rintro e w9 ⟨v9, rfl, hv, hb⟩; obtain ⟨Ap, cp, ep⟩ := Kd.V_slice hv; subst ep; have HP9 := Aside0.mk (Kd.V_reads' hv); have HB10 := Aside0.mk (below_step HB9.out hb); clear hv hb)
          | (go_at_call 119; (with_reducible refine (hadd p r2 Ap cp _ (Kd.C_below (Kd.V_reads' HV7.out).2.2 HB10.out) HP9.out.2.2 HP9.out.2.1 HR2.out).mono ?_); rintro e w12 ⟨v12, rfl, hv, hb⟩; have HV12 := Aside0.mk (Kd.V_bound hv); have HB12 := Aside0.mk (below_step HB10.out hb); clear hv hb)
          | (go_at_call 161; have hRx := Kd.R_below HR.out (below_step HBr.out HB12.out); have hAx := Kd.R_alloc hRx (.cells #[.int .i64 lo] 3); have hNx := blk_new w12 (.cells #[.int .i64 lo] 3); have hBx : u6.ownBlock ≠ some w12.heap.size := (fun e_ => absurd (own_lt (Kd.own_of_R hRx) _ e_) (Nat.lt_irrefl _)); have hCx : w.heap.size ≤ (w12.alloc (.cells #[.int .i64 lo] 3)).heap.size := (by have := HB7.out.size; have := HB12.out.size; simp; omega); (with_reducible refine (Ins.ins w.heap.size u6 q_ lo w12.heap.size (w12.alloc (.cells #[.int .i64 lo] 3)) hAx hNx hBx hCx HQ44.out).mono ?_); clear hAx hNx hBx hCx; rintro e w13 ⟨v13, rfl, hr13, hg13, ha13⟩; have HR13 := Aside0.mk hr13; have HG13 := Aside0.mk hg13; have HA13 := Aside0.mk ha13; clear hr13 hg13 ha13 hRx))
        have hs1 := Kd.own_of_R HR.out
        have hsz1 := HB7.out.size
        have hsz2 := HBr.out.size
        have hsz3 := HB12.out.size
        have hsz4 := HB10.out.size
        have hsz5 := HB.out.size
        have HVn := Aside0.mk (show Kd.V (Kd.int .i64) 3 w13 w.heap.size (fun b => w.heap.size ≤ b ∧ some b ≠ v13.ownBlock) v12 r2 from Kd.V_lower (base' := w.heap.size) (Kd.V_mono (Kd.V_grown (Kd.V_alloc HV12.out _) HG13.out (fun b hb he => by have := own_lt hs1 b he.symm; have := hb.1; omega)) (fun b hb => ⟨by have := hb.1; omega, fun he => by
         rcases HA13.out with h | ⟨b', h, hb'⟩
         ·rw [h] at he; have := own_lt hs1 b he.symm; have := hb.1; omega
         ·rw [h] at he; injection he with he; have := hb.2; simp at hb'; omega⟩)) (by omega))
        have HBn := Aside0.mk (show Below w.heap.size w w13 from (below_alloc (below_step HB7.out HB12.out) _).grown HG13.out (by simp; omega) (fun b hb => own_base hs1 b hb))
        clear hs1 hsz1 hsz2 hsz3 hsz4 hsz5
        go_roundg i
        case measure => have := HI.out; omega
        case rel => exact ⟨i, r2, lo :: q_, congrArg (Value.int .i64) (show wrap64 ((i : Int) - 1) = (i : Int) - 1 by unfold wrap64; have := HQL.out; have := HBIG.out; omega), HL, ⟨Nat.le_refl _⟩, ⟨by have := HQL.out; simp; omega⟩, HR13, HVn, HBn⟩
       ·rw [if_neg hpos] at hl1
        have c63 : decide (0 < lo) = false := decide_eq_false hpos
        have HL := Aside0.mk hl1
        clear hl1
        go_wp2_with (first
          | (go_at_call 161; have hRx := Kd.R_below HR.out (below_step HBr.out HB8.out); have hAx := Kd.R_alloc hRx (.cells #[.int .i64 lo] 3); have hNx := blk_new wr (.cells #[.int .i64 lo] 3); have hBx : u6.ownBlock ≠ some wr.heap.size := (fun e_ => absurd (own_lt (Kd.own_of_R hRx) _ e_) (Nat.lt_irrefl _)); have hCx : w.heap.size ≤ (wr.alloc (.cells #[.int .i64 lo] 3)).heap.size := (by have := HB7.out.size; have := HB8.out.size; simp; omega); (with_reducible refine (Ins.ins w.heap.size u6 q_ lo wr.heap.size (wr.alloc (.cells #[.int .i64 lo] 3)) hAx hNx hBx hCx HQ44.out).mono ?_); clear hAx hNx hBx hCx; rintro e w13 ⟨v13, rfl, hr13, hg13, ha13⟩; have HR13 := Aside0.mk hr13; have HG13 := Aside0.mk hg13; have HA13 := Aside0.mk ha13; clear hr13 hg13 ha13 hRx))
        have hs1 := Kd.own_of_R HR.out
        have hsz1 := HB7.out.size
        have hsz2 := HBr.out.size
        have hsz3 := HB8.out.size
        have hsz5 := HB.out.size
        have HVn := Aside0.mk (show Kd.V (Kd.int .i64) 3 w13 w.heap.size (fun b => w.heap.size ≤ b ∧ some b ≠ v13.ownBlock) (.slice A7 r1.length c7) r1 from Kd.V_mono (Kd.V_grown (Kd.V_alloc (Kd.V_below (Kd.V_bound HV7.out) HB8.out) _) HG13.out (fun b hb he => by have := own_lt hs1 b he.symm; have := hb.1; omega)) (fun b hb => ⟨by have := hb.1; omega, fun he => by
         rcases HA13.out with h | ⟨b', h, hb'⟩
         ·rw [h] at he; have := own_lt hs1 b he.symm; have := hb.1; omega
         ·rw [h] at he; injection he with he; have := hb.2; simp at hb'; omega⟩))
        have HBn := Aside0.mk (show Below w.heap.size w w13 from (below_alloc (below_step HB7.out HB8.out) _).grown HG13.out (by simp; omega) (fun b hb => own_base hs1 b hb))
        clear hs1 hsz1 hsz2 hsz3 hsz5
        go_roundg i
        case measure => have := HI.out; omega
        case rel => exact ⟨i, r1, lo :: q_, congrArg (Value.int .i64) (show wrap64 ((i : Int) - 1) = (i : Int) - 1 by unfold wrap64; have := HQL.out; have := HBIG.out; omega), HL, ⟨Nat.le_refl _⟩, ⟨by have := HQL.out; simp; omega⟩, HR13, HVn, HBn⟩
set_option maxHeartbeats 2000000 in
theorem weftref1_natDiv.calls (k : Nat) (P0_ : Nat → Prop) (A0 : Option Addr) (c0 : Nat) (l0 : List Int) (A1 : Option Addr) (c1 : Nat) (l1 : List Int) (r1 : List Int) (r2 : List Int) (w : World) (hs0 : Kd.V (Kd.int .i64) 3 w w.heap.size (fun k_ => P0_ k_) (.slice A0 l0.length c0) l0) (hr1 : Kd.C (Kd.int .i64) w A1 l1.length l1) (hc1 : l1.length ≤ c1) (h : weftref1_natDiv.f k l0 l1 = some (r1, r2)) :
  Calls Tryz.prog 134 #[.slice A0 l0.length c0, .slice A1 l1.length c1] w fun e w' => ∃ v0_ v1_ : Value, e = .returned (.tuple #[v0_, v1_]) ∧ Kd.V (Kd.int .i64) 3 w' w.heap.size (fun k_ => (P0_ k_ ∨ w.heap.size ≤ k_)) v0_ r1 ∧ Kd.V (Kd.int .i64) 3 w' w.heap.size (fun k_ => (P0_ k_ ∨ w.heap.size ≤ k_)) v1_ r2 ∧ Below w.heap.size w w' := by
 unfold weftref1_natDiv.f at h
 by_cases hl : l0.length < 1000000000 ∧ l1.length < 1000000000
 case neg => rw [if_neg hl] at h; cases h
 rw [if_pos hl] at h
 obtain ⟨c, hc, h⟩ := Option.bind_eq_some_iff.1 h
 by_cases hlt : c < 0
 ·rw [if_pos hlt] at h
  simp only [Option.some.injEq, Prod.mk.injEq] at h
  obtain ⟨rfl, rfl⟩ := h
  exact weftref1_natDiv.less_ k P0_ A0 c0 l0 A1 c1 l1 c w hs0 hr1 hc1 hc hlt
 rw [if_neg hlt] at h
 by_cases h2 : 1 ≤ l1.length ∧ l1.length ≤ l0.length
 case neg => rw [if_neg h2] at h; cases h
 rw [if_pos h2] at h
 obtain ⟨r', hr', h⟩ := Option.bind_eq_some_iff.1 h
 obtain ⟨r0, hr0, h⟩ := Option.bind_eq_some_iff.1 h
 obtain ⟨⟨z1, z2⟩, hz, h⟩ := Option.bind_eq_some_iff.1 h
 obtain ⟨q, hq, h⟩ := Option.bind_eq_some_iff.1 h
 simp only [Option.some.injEq, Prod.mk.injEq] at h
 obtain ⟨rfl, rfl⟩ := h
 exact weftref1_natDiv.big_ k P0_ A0 c0 l0 A1 c1 l1 c r' r0 z1 _ _ w hs0 hr1 hc1 hc hlt h2.1 h2.2 hl.1 hr' hr0 hz hq

end
def weftref1_natGCD.l0 : Nat → List Int → List Int → Option (List Int)
 | 0, _, _ => none
 | k + 1, x0, x1 => if (x1.length : Int) > 0 then ((weftref1_natDiv.f k x0 x1).bind fun bt362 => (weftref1_natGCD.l0 k x1 bt362.2)) else (some x0)
def weftref1_natGCD.f (k : Nat) (l0 : List Int) (l1 : List Int) : Option (List Int) := weftref1_natGCD.l0 k l0 l1
theorem weftref1_natGCD.mono_l : ∀ k, (∀ y0 y1, LeO (weftref1_natGCD.l0 k y0 y1) (weftref1_natGCD.l0 (k + 1) y0 y1))
 | 0 => fun _ _ r h => by simp [weftref1_natGCD.l0] at h
 | k + 1 => by
  have ih0 := weftref1_natGCD.mono_l k
  ·intro y0 y1
   unfold weftref1_natGCD.l0
   repeat' first
   | (with_reducible exact ih0 _ _)
   | (with_reducible exact weftref1_natDiv.mono _ _ _)
   | (with_reducible exact LeO.refl _)
   | (with_reducible exact LeO.none _)
   | (with_reducible refine LeO.ite ?_ ?_)
   | (with_reducible refine LeO.bind ?_ (fun _ => ?_))
   | exact ih0 _ _
   | exact weftref1_natDiv.mono _ _ _
   | exact LeO.none _
   | refine LeO.ite ?_ ?_
   | refine LeO.bind ?_ (fun _ => ?_)
theorem weftref1_natGCD.mono : ∀ a0 a1 k, LeO (weftref1_natGCD.f k a0 a1) (weftref1_natGCD.f (k + 1) a0 a1) := by
 intro a0 a1 k
 have ih0 := weftref1_natGCD.mono_l k
 unfold weftref1_natGCD.f
 repeat' first
   | (with_reducible exact ih0 _ _)
   | (with_reducible exact weftref1_natDiv.mono _ _ _)
   | (with_reducible exact LeO.refl _)
   | (with_reducible exact LeO.none _)
   | (with_reducible refine LeO.ite ?_ ?_)
   | (with_reducible refine LeO.bind ?_ (fun _ => ?_))
   | exact ih0 _ _
   | exact weftref1_natDiv.mono _ _ _
   | exact LeO.none _
   | refine LeO.ite ?_ ?_
   | refine LeO.bind ?_ (fun _ => ?_)
set_option maxHeartbeats 8000000 in
set_option maxRecDepth 100000 in
theorem weftref1_natGCD.calls (k : Nat) (P0_ : Nat → Prop) (A0 : Option Addr) (c0 : Nat) (l0 : List Int) (P1_ : Nat → Prop) (A1 : Option Addr) (c1 : Nat) (l1 : List Int) (r : List Int) (w : World) (hs0 : Kd.V (Kd.int .i64) 3 w w.heap.size (fun k_ => P0_ k_) (.slice A0 l0.length c0) l0) (hs1 : Kd.V (Kd.int .i64) 3 w w.heap.size (fun k_ => P1_ k_) (.slice A1 l1.length c1) l1) (h : weftref1_natGCD.f k l0 l1 = some r) :
  Calls Tryz.prog 104 #[.slice A0 l0.length c0, .slice A1 l1.length c1] w fun e w' => ∃ v0_ : Value, e = .returned (v0_) ∧ Kd.V (Kd.int .i64) 3 w' w.heap.size (fun k_ => ((P0_ k_ ∨ P1_ k_) ∨ w.heap.size ≤ k_)) v0_ r ∧ Below w.heap.size w w' := by
 have HO0 := Aside0.mk (show Kd.V (Kd.int .i64) 3 w w.heap.size (fun k_ => ((P0_ k_ ∨ P1_ k_) ∨ w.heap.size ≤ k_)) (.slice A0 l0.length c0) l0 from Kd.V_mono hs0 (fun k_ hk => .inl (.inl hk)))
 have HO1 := Aside0.mk (show Kd.V (Kd.int .i64) 3 w w.heap.size (fun k_ => ((P0_ k_ ∨ P1_ k_) ∨ w.heap.size ≤ k_)) (.slice A1 l1.length c1) l1 from Kd.V_mono hs1 (fun k_ hk => .inl (.inr hk)))
 have HB := Aside0.mk (Below.refl w.heap.size w)
 have H : (weftref1_natGCD.l0 k l0 l1) = some r := h
 clear h
 have H' := Aside0.mk H
 clear H
 go_enter Tryz.func104, Tryz.ntmps104
 go_wp2
 go_loopg [0, 1] k (fun kq v0 v1 w' => ∃ (x0_1 : List Int) (x1_1 : List Int), Aside0 (weftref1_natGCD.l0 kq x0_1 x1_1 = some r) ∧ Aside0 (kq ≤ k) ∧ Aside0 (Kd.V (Kd.int .i64) 3 w' w.heap.size (fun k_ => ((P0_ k_ ∨ P1_ k_) ∨ w.heap.size ≤ k_)) v0 x0_1) ∧ Aside0 (Kd.V (Kd.int .i64) 3 w' w.heap.size (fun k_ => ((P0_ k_ ∨ P1_ k_) ∨ w.heap.size ≤ k_)) v1 x1_1) ∧ Aside0 (Below w.heap.size w w'))
 case atStart => exact ⟨(l0), (l1), H', ⟨Nat.le_refl _⟩, ⟨by (with_reducible repeat (first | apply Kd.V_alloc | apply Kd.V_drewN | apply Kd.V_drew)); exact HO0.out⟩, ⟨by (with_reducible repeat (first | apply Kd.V_alloc | apply Kd.V_drewN | apply Kd.V_drew)); exact HO1.out⟩, ⟨by repeat (first | (with_reducible first | exact HB.out | apply below_alloc | apply pw_below_drewN | apply below_drew1) | exact HB.out)⟩⟩
 case round =>
  clear H'
  try clear c1
  try clear p2
  obtain ⟨x0_1, x1_1, HA, HK1, HO_0, HO_1, HB⟩ := hrel
  cases gk with
  | zero => exact absurd HA.out (by simp [weftref1_natGCD.l0])
  | succ k1 =>
   have H := HA.out
   clear HA
   simp only [weftref1_natGCD.l0] at H
   by_cases c3 : (x1_1.length : Int) > 0
   ·rw [if_pos c3] at H
    have c3b0 : decide (0 < (x1_1.length : Int)) = true := decide_eq_true c3
    have c3b1 : decide (0 < x1_1.length) = true := decide_eq_true (by omega)
    clear c3
    replace H := Option.bind_eq_some_iff.mp H
    obtain ⟨⟨t362, t365⟩, A40, H⟩ := H
    replace H : (weftref1_natGCD.l0 k1 x1_1 t365) = some r := H
    have A4 := Aside0.mk A40
    clear A40
    have H' := Aside0.mk H
    clear H
    obtain ⟨Ao5, co5, eo5⟩ := Kd.V_slice HO_1.out
    subst eo5
    obtain ⟨Ao6, co6, eo6⟩ := Kd.V_slice HO_0.out
    subst eo6
    go_wp2_with (first | ((with_reducible refine gate_callee (f := 134) rfl ?_); refine goesL_ (some 13) rfl rfl Tryz.func134 (by kernel_rfl) rfl #[.slice Ao6 x0_1.length co6, .slice Ao5 x1_1.length co5] rfl (by (try simp only [List.map_toArray, List.map_cons, List.map_nil]); first | done | rfl | (simp only [List.length_drop, List.length_take]; rfl)) ?_; (with_reducible refine (weftref1_natDiv.calls k1 (fun k_ => ((P0_ k_ ∨ P1_ k_) ∨ w.heap.size ≤ k_)) _ _ x0_1 _ _ x1_1 t362 t365 _ ?side1 ?side2 ?side3 A4.out).mono ?_); (case side1 => exact HO_0.out); (case side2 => repeat (first | exact (Kd.V_reads' HO_1.out).2.2 | (with_reducible refine Kd.C_alloc ?_ _) | (with_reducible refine Kd.C_drewN ?_ _) | (with_reducible refine Kd.C_drew ?_))); (case side3 => exact (Kd.V_reads' HO_1.out).2.1); rintro e w7 ⟨v363, v366, rfl, ho0, ho1, hb⟩; refine ⟨_, rfl, ?_⟩; have n0_ := Aside0.mk (Kd.V_below (by (with_reducible repeat (first | apply Kd.V_alloc | apply Kd.V_drewN | apply Kd.V_drew)); exact HO_0.out) hb); have n1_ := Aside0.mk (Kd.V_below (by (with_reducible repeat (first | apply Kd.V_alloc | apply Kd.V_drewN | apply Kd.V_drew)); exact HO_1.out) hb); have n2_ := Aside0.mk (Kd.V_lower (Kd.V_mono (ok' := fun k_ => ((P0_ k_ ∨ P1_ k_) ∨ w.heap.size ≤ k_)) ho0 (fun k_ hk_ => Or.elim hk_ (fun hs_ => hs_) (fun hn_ => (.inr (Nat.le_trans (below_size (by repeat (first | (with_reducible first | exact HB.out | apply below_alloc | apply pw_below_drewN | apply below_drew1) | exact HB.out))) hn_))))) (below_size (by repeat (first | (with_reducible first | exact HB.out | apply below_alloc | apply pw_below_drewN | apply below_drew1) | exact HB.out)))); have n3_ := Aside0.mk (Kd.V_lower (Kd.V_mono (ok' := fun k_ => ((P0_ k_ ∨ P1_ k_) ∨ w.heap.size ≤ k_)) ho1 (fun k_ hk_ => Or.elim hk_ (fun hs_ => hs_) (fun hn_ => (.inr (Nat.le_trans (below_size (by repeat (first | (with_reducible first | exact HB.out | apply below_alloc | apply pw_below_drewN | apply below_drew1) | exact HB.out))) hn_))))) (below_size (by repeat (first | (with_reducible first | exact HB.out | apply below_alloc | apply pw_below_drewN | apply below_drew1) | exact HB.out)))); have n4_ := Aside0.mk (below_step (by repeat (first | (with_reducible first | exact HB.out | apply below_alloc | apply pw_below_drewN | apply below_drew1) | exact HB.out)) hb); clear HO_0; clear HO_1; clear HB; have HO_0 := n0_; have HO_1 := n1_; have HO364 := n2_; have HO367 := n3_; have HB := n4_; clear n0_ n1_ n2_ n3_ n4_; (try clear hb); (try clear hb2); (try clear hk); (try clear hi); (try clear ho0); (try clear ho1)))
    go_roundg k1
    case measure => have := HK1.out; omega
    case rel => exact ⟨(x1_1), (t365), H', ⟨by have := HK1.out; omega⟩, ⟨by (with_reducible repeat (first | apply Kd.V_alloc | apply Kd.V_drewN | apply Kd.V_drew)); exact HO_1.out⟩, ⟨by (with_reducible repeat (first | apply Kd.V_alloc | apply Kd.V_drewN | apply Kd.V_drew)); exact HO367.out⟩, ⟨by repeat (first | (with_reducible first | exact HB.out | apply below_alloc | apply pw_below_drewN | apply below_drew1) | exact HB.out)⟩⟩
   ·rw [if_neg c3] at H
    have c3b0 : decide (0 < (x1_1.length : Int)) = false := decide_eq_false c3
    have c3b1 : decide (0 < x1_1.length) = false := decide_eq_false (by omega)
    clear c3
    obtain rfl := Option.some.inj H
    obtain ⟨Ao8, co8, eo8⟩ := Kd.V_slice HO_1.out
    subst eo8
    go_wp2
    go_ret
    exact ⟨_, by first | rfl | (simp [errW_none, errW_some] <;> rfl) | (simp [*, errW_none, errW_some] <;> rfl), by (with_reducible repeat (first | apply Kd.V_alloc | apply Kd.V_drewN | apply Kd.V_drew)); exact HO_0.out, by repeat (first | (with_reducible first | exact HB.out | apply below_alloc | apply pw_below_drewN | apply below_drew1) | exact HB.out)⟩

def weftref1_numOf.j0 : Nat → Bool → List Int → List Int → List Int → Bool → Option (Bool × List Int × List Int)
 | 0, _, _, _, _, _ => none
 | k + 1, x0, x1, x2, x7, x19 => if x19 = true then ((weftref1_natDiv.f k x1 x7).bind fun bt373 => ((weftref1_natDiv.f k x2 x7).bind fun bt379 => (if x0 = true then (some (decide (0 < bt373.1.length), bt373.1, bt379.1)) else (some (false, bt373.1, bt379.1))))) else (if x0 = true then (some (decide (0 < x1.length), x1, x2)) else (some (false, x1, x2)))
def weftref1_numOf.f (k : Nat) (a0 : Bool) (l1 : List Int) (l2 : List Int) : Option (Bool × List Int × List Int) := (weftref1_natGCD.f k l1 l2).bind fun t369 => (if (t369.length : Int) = 1 then (if 0 < (t369.length : Int) then (weftref1_numOf.j0 k a0 l1 l2 t369 ((rd t369 0) != 1)) else (none)) else (weftref1_numOf.j0 k a0 l1 l2 t369 true))
theorem weftref1_numOf.mono_l : ∀ k, (∀ y0 y1 y2 y3 y4, LeO (weftref1_numOf.j0 k y0 y1 y2 y3 y4) (weftref1_numOf.j0 (k + 1) y0 y1 y2 y3 y4))
 | 0 => fun _ _ _ _ _ r h => by simp [weftref1_numOf.j0] at h
 | k + 1 => by
  have ih0 := weftref1_numOf.mono_l k
  ·intro y0 y1 y2 y3 y4
   unfold weftref1_numOf.j0
   repeat' first
   | (with_reducible exact ih0 _ _ _ _ _)
   | (with_reducible exact weftref1_natDiv.mono _ _ _)
   | (with_reducible exact weftref1_natGCD.mono _ _ _)
   | (with_reducible exact LeO.refl _)
   | (with_reducible exact LeO.none _)
   | (with_reducible refine LeO.ite ?_ ?_)
   | (with_reducible refine LeO.bind ?_ (fun _ => ?_))
   | exact ih0 _ _ _ _ _
   | exact weftref1_natDiv.mono _ _ _
   | exact weftref1_natGCD.mono _ _ _
   | exact LeO.none _
   | refine LeO.ite ?_ ?_
   | refine LeO.bind ?_ (fun _ => ?_)
theorem weftref1_numOf.mono : ∀ a0 a1 a2 k, LeO (weftref1_numOf.f k a0 a1 a2) (weftref1_numOf.f (k + 1) a0 a1 a2) := by
 intro a0 a1 a2 k
 have ih0 := weftref1_numOf.mono_l k
 unfold weftref1_numOf.f
 repeat' first
   | (with_reducible exact ih0 _ _ _ _ _)
   | (with_reducible exact weftref1_natDiv.mono _ _ _)
   | (with_reducible exact weftref1_natGCD.mono _ _ _)
   | (with_reducible exact LeO.refl _)
   | (with_reducible exact LeO.none _)
   | (with_reducible refine LeO.ite ?_ ?_)
   | (with_reducible refine LeO.bind ?_ (fun _ => ?_))
   | exact ih0 _ _ _ _ _
   | exact weftref1_natDiv.mono _ _ _
   | exact weftref1_natGCD.mono _ _ _
   | exact LeO.none _
   | refine LeO.ite ?_ ?_
   | refine LeO.bind ?_ (fun _ => ?_)
set_option maxHeartbeats 8000000 in
set_option maxRecDepth 100000 in
theorem weftref1_numOf.calls (k : Nat) (a0 : Bool) (P1_ : Nat → Prop) (A1 : Option Addr) (c1 : Nat) (l1 : List Int) (P2_ : Nat → Prop) (A2 : Option Addr) (c2 : Nat) (l2 : List Int) (r1 : Bool) (r2 : List Int) (r3 : List Int) (w : World) (hs1 : Kd.V (Kd.int .i64) 3 w w.heap.size (fun k_ => P1_ k_) (.slice A1 l1.length c1) l1) (hs2 : Kd.V (Kd.int .i64) 3 w w.heap.size (fun k_ => P2_ k_) (.slice A2 l2.length c2) l2) (h : weftref1_numOf.f k a0 l1 l2 = some (r1, r2, r3)) :
  Calls Tryz.prog 101 #[.bool a0, .slice A1 l1.length c1, .slice A2 l2.length c2] w fun e w' => ∃ v1_ v2_ : Value, e = .returned (.agg #[.bool r1, v1_, v2_]) ∧ Kd.V (Kd.int .i64) 3 w' w.heap.size (fun k_ => ((P1_ k_ ∨ P2_ k_) ∨ w.heap.size ≤ k_)) v1_ r2 ∧ Kd.V (Kd.int .i64) 3 w' w.heap.size (fun k_ => ((P1_ k_ ∨ P2_ k_) ∨ w.heap.size ≤ k_)) v2_ r3 ∧ Below w.heap.size w w' := by
 have hu67 := Tryz.underlying67
 have HO1 := Aside0.mk (show Kd.V (Kd.int .i64) 3 w w.heap.size (fun k_ => ((P1_ k_ ∨ P2_ k_) ∨ w.heap.size ≤ k_)) (.slice A1 l1.length c1) l1 from Kd.V_mono hs1 (fun k_ hk => .inl (.inl hk)))
 have HO2 := Aside0.mk (show Kd.V (Kd.int .i64) 3 w w.heap.size (fun k_ => ((P1_ k_ ∨ P2_ k_) ∨ w.heap.size ≤ k_)) (.slice A2 l2.length c2) l2 from Kd.V_mono hs2 (fun k_ hk => .inl (.inr hk)))
 have HB := Aside0.mk (Below.refl w.heap.size w)
 have H : ((weftref1_natGCD.f k l1 l2).bind fun t369 => (if (t369.length : Int) = 1 then (if 0 < (t369.length : Int) then (weftref1_numOf.j0 k a0 l1 l2 t369 ((rd t369 0) != 1)) else (none)) else (weftref1_numOf.j0 k a0 l1 l2 t369 true))) = some (r1, r2, r3) := h
 clear h
 replace H := Option.bind_eq_some_iff.mp H
 obtain ⟨t369, A40, H⟩ := H
 replace H : (if (t369.length : Int) = 1 then (if 0 < (t369.length : Int) then (weftref1_numOf.j0 k a0 l1 l2 t369 ((rd t369 0) != 1)) else (none)) else (weftref1_numOf.j0 k a0 l1 l2 t369 true)) = some (r1, r2, r3) := H
 have A4 := Aside0.mk A40
 clear A40
 have HC5 := Aside0.mk H
 clear H
 go_enter Tryz.func101, Tryz.ntmps101
 go_upto_region 2 with (first | ((with_reducible refine gate_dst (N := 6) rfl ?_); (try (refine gate_guard (by rfl) ?_; dsimp only)); refine box_event ?hg (N := 6) ?hd (cs := #[.bool false, .slice none 0 0, .slice none 0 0]) (t := 67) ?hr ?_; (case hd => rfl); (case hg => rfl); (case hr => first | (go_simp; done) | (go_simp; rfl)); intro gb368 hg w6 hbox hb; have n0_ := Aside0.mk (Kd.V_below (Kd.V_elderB (by (with_reducible repeat (first | apply Kd.V_alloc | apply Kd.V_drewN | apply Kd.V_drew)); exact HO1.out) gb368 (Nat.le_of_eq hg.symm)) hb); have n1_ := Aside0.mk (Kd.V_below (Kd.V_elderB (by (with_reducible repeat (first | apply Kd.V_alloc | apply Kd.V_drewN | apply Kd.V_drew)); exact HO2.out) gb368 (Nat.le_of_eq hg.symm)) hb); have n2_ := Aside0.mk (below_step (by repeat (first | (with_reducible first | exact HB.out | apply below_alloc | apply pw_below_drewN | apply below_drew1) | exact HB.out)) hb); have n3_ := Aside0.mk (hbox); have n4_ := Aside0.mk ((by rw [hg]; exact (below_size (by repeat (first | (with_reducible first | exact HB.out | apply below_alloc | apply pw_below_drewN | apply below_drew1) | exact HB.out))) : w.heap.size ≤ gb368)); have n5_ := Aside0.mk ((by rw [hg]; exact (below_size (by repeat (first | (with_reducible first | exact HB.out | apply below_alloc | apply pw_below_drewN | apply below_drew1) | exact HB.out))) : w.heap.size ≤ gb368)); clear HO1; clear HO2; clear HB; have HO1 := n0_; have HO2 := n1_; have HB := n2_; have BK368 := n3_; have GW368 := n4_; have GE368 := n5_; clear n0_ n1_ n2_ n3_ n4_ n5_; clear hb hbox hg) | ((with_reducible refine gate_callee (f := 104) rfl ?_); refine goesL_ (some 10) rfl rfl Tryz.func104 (by kernel_rfl) rfl #[.slice A1 l1.length c1, .slice A2 l2.length c2] rfl (by (try simp only [List.map_toArray, List.map_cons, List.map_nil]); first | done | rfl | (simp only [List.length_drop, List.length_take]; rfl)) ?_; (with_reducible refine (weftref1_natGCD.calls k (fun k_ => (((P1_ k_ ∨ P2_ k_) ∨ w.heap.size ≤ k_) ∧ k_ ≠ gb368)) _ _ l1 (fun k_ => (((P1_ k_ ∨ P2_ k_) ∨ w.heap.size ≤ k_) ∧ k_ ≠ gb368)) _ _ l2 t369 _ ?side1 ?side2 A4.out).mono ?_); (case side1 => exact HO1.out); (case side2 => exact HO2.out); rintro e w7 ⟨v370, rfl, ho0, hb⟩; refine ⟨_, rfl, ?_⟩; have n0_ := Aside0.mk (Kd.V_below (by (with_reducible repeat (first | apply Kd.V_alloc | apply Kd.V_drewN | apply Kd.V_drew)); exact HO1.out) hb); have n1_ := Aside0.mk (Kd.V_below (by (with_reducible repeat (first | apply Kd.V_alloc | apply Kd.V_drewN | apply Kd.V_drew)); exact HO2.out) hb); have n2_ := Aside0.mk (Kd.V_lower (Kd.V_mono (ok' := fun k_ => ((P1_ k_ ∨ P2_ k_) ∨ w.heap.size ≤ k_) ∧ k_ ≠ gb368) ho0 (fun k_ hk_ => ⟨Or.elim hk_ (fun hs_ => Or.elim hs_ (fun hs_ => hs_.1) (fun hs_ => hs_.1)) (fun hn_ => (.inr (Nat.le_trans (below_size (by repeat (first | (with_reducible first | exact HB.out | apply below_alloc | apply pw_below_drewN | apply below_drew1 | refine below_set ?_ GE368.out) | exact HB.out))) hn_))), Or.elim hk_ (fun hs_ => Or.elim hs_ (fun hs_ => hs_.2) (fun hs_ => hs_.2)) (fun hn_ => (Kd.freshB (g := gb368) (o := .cells #[.bool false, .slice none 0 0, .slice none 0 0] 67 (0, 0)) (by (with_reducible repeat (first | refine blk_drewN ?_ _ | refine blk_drew ?_ | refine blk_alloc ?_ _)); exact BK368.out) k_ hn_))⟩)) (below_size (by repeat (first | (with_reducible first | exact HB.out | apply below_alloc | apply pw_below_drewN | apply below_drew1 | refine below_set ?_ GE368.out) | exact HB.out)))); have n3_ := Aside0.mk (blk_below (g := gb368) (o := .cells #[.bool false, .slice none 0 0, .slice none 0 0] 67 (0, 0)) (by (with_reducible repeat (first | refine blk_drewN ?_ _ | refine blk_drew ?_ | refine blk_alloc ?_ _)); exact BK368.out) hb); have n4_ := Aside0.mk (below_step (by repeat (first | (with_reducible first | exact HB.out | apply below_alloc | apply pw_below_drewN | apply below_drew1 | refine below_set ?_ GE368.out) | exact HB.out)) hb); clear HO1; clear HO2; clear BK368; clear HB; have HO1 := n0_; have HO2 := n1_; have HO371 := n2_; have BK368 := n3_; have HB := n4_; clear n0_ n1_ n2_ n3_ n4_; (try clear hb); (try clear hb2); (try clear hk); (try clear hi); (try clear ho0)))
 (try simp only [Act.put, List.setIfInBounds_toArray, List.set_cons_zero, List.set_cons_succ])
 go_cut [19] (fun v19 wc => ∃ (kq : Nat) (x19_4 : Bool), v19 = .bool x19_4 ∧ Aside0 (weftref1_numOf.j0 kq a0 l1 l2 t369 x19_4 = some (r1, r2, r3)) ∧ Aside0 (kq ≤ k) ∧ Aside0 (Kd.V (Kd.int .i64) 3 wc w.heap.size (fun k_ => ((P1_ k_ ∨ P2_ k_) ∨ w.heap.size ≤ k_) ∧ k_ ≠ gb368) (.slice A1 l1.length c1) l1) ∧ Aside0 (Kd.V (Kd.int .i64) 3 wc w.heap.size (fun k_ => ((P1_ k_ ∨ P2_ k_) ∨ w.heap.size ≤ k_) ∧ k_ ≠ gb368) (.slice A2 l2.length c2) l2) ∧ Aside0 (Kd.V (Kd.int .i64) 3 wc w.heap.size (fun k_ => ((P1_ k_ ∨ P2_ k_) ∨ w.heap.size ≤ k_) ∧ k_ ≠ gb368) v370 t369) ∧ Aside0 (wc.heap[gb368]? = some (.cells #[.bool false, (.slice none 0 0), (.slice none 0 0)] 67 (0, 0))) ∧ Aside0 (Below w.heap.size w wc))
 case first =>
  have H := HC5.out
  clear HC5
  by_cases c8 : (t369.length : Int) = 1
  ·rw [if_pos c8] at H
   have c8b0 : ((t369.length : Int) == 1) = true := beq_iff_eq.mpr c8
   have c8b1 : ((t369.length : Int) != 1) = false := bne_eq_false_iff_eq.mpr c8
   clear c8
   (first | rw [c8b0] | (simp only [i64_w, i32_w]; rw [c8b0]) | skip)
   by_cases c9 : 0 < (t369.length : Int)
   ·rw [if_pos c9] at H
    have c9b0 : decide (0 < (t369.length : Int)) = true := decide_eq_true c9
    have c9b1 : decide (0 < t369.length) = true := decide_eq_true (by omega)
    clear c9
    have H' := Aside0.mk H
    clear H
    obtain ⟨Ao10, co10, eo10⟩ := Kd.V_slice HO371.out
    subst eo10
    have p372 : 0 ≤ (0 : Int) := (by omega)
    have q372 : 0 < (t369.length : Int) := of_decide_eq_true (by first | (with_reducible assumption) | assumption)
    obtain ⟨ad372, e372, hx372_0⟩ := Kd.at_int (Kd.V_reads' HO371.out).2.2 0 p372 q372
    cases e372
    have qi372 : (0 < t369.length) = True := eq_true (by omega)
    (try rw [show ((0 : Int)).toNat = 0 from rfl] at hx372_0)
    (try rw [Addr.add_zero'] at hx372_0)
    replace p372 := eq_true p372
    replace q372 := eq_true q372
    go_wp2
    go_meet
    case rel => exact ⟨_, (((rd t369 0) != 1)), (by first | rfl | (simp; done) | (simp [*]; done)), H', ⟨by first | omega | exact Nat.le_refl _⟩, ⟨by (with_reducible repeat (first | apply Kd.V_alloc | apply Kd.V_drewN | apply Kd.V_drew)); exact HO1.out⟩, ⟨by (with_reducible repeat (first | apply Kd.V_alloc | apply Kd.V_drewN | apply Kd.V_drew)); exact HO2.out⟩, ⟨by (with_reducible repeat (first | apply Kd.V_alloc | apply Kd.V_drewN | apply Kd.V_drew)); exact HO371.out⟩, ⟨by (with_reducible repeat (first | refine blk_drewN ?_ _ | refine blk_drew ?_ | refine blk_alloc ?_ _)); exact BK368.out⟩, ⟨by repeat (first | (with_reducible first | exact HB.out | apply below_alloc | apply pw_below_drewN | apply below_drew1 | refine below_set ?_ GE368.out) | exact HB.out)⟩⟩
   ·rw [if_neg c9] at H
    exact absurd H (by simp)
  ·rw [if_neg c8] at H
   have c8b0 : ((t369.length : Int) == 1) = false := beq_eq_false_iff_ne.mpr c8
   have c8b1 : ((t369.length : Int) != 1) = true := bne_iff_ne.mpr c8
   (first | rw [c8b0] | (simp only [i64_w, i32_w]; rw [c8b0]) | skip)
   have H' := Aside0.mk H
   clear H
   obtain ⟨Ao11, co11, eo11⟩ := Kd.V_slice HO371.out
   subst eo11
   go_wp2
   go_meet
   case rel => exact ⟨_, (true), (by first | rfl | (simp; done) | (simp [*]; done)), H', ⟨by first | omega | exact Nat.le_refl _⟩, ⟨by (with_reducible repeat (first | apply Kd.V_alloc | apply Kd.V_drewN | apply Kd.V_drew)); exact HO1.out⟩, ⟨by (with_reducible repeat (first | apply Kd.V_alloc | apply Kd.V_drewN | apply Kd.V_drew)); exact HO2.out⟩, ⟨by (with_reducible repeat (first | apply Kd.V_alloc | apply Kd.V_drewN | apply Kd.V_drew)); exact HO371.out⟩, ⟨by (with_reducible repeat (first | refine blk_drewN ?_ _ | refine blk_drew ?_ | refine blk_alloc ?_ _)); exact BK368.out⟩, ⟨by repeat (first | (with_reducible first | exact HB.out | apply below_alloc | apply pw_below_drewN | apply below_drew1 | refine below_set ?_ GE368.out) | exact HB.out)⟩⟩
 case rest =>
  clear HC5
  try clear c1
  try clear c2
  try clear p2
  try clear p3
  try clear q3
  try clear hx3
  try clear qi3
  try clear c8
  try clear c8b0
  try clear c8b1
  try clear c9
  try clear c9b0
  try clear c9b1
  try clear c10
  try clear hx372_0
  try clear p372
  try clear q372
  obtain ⟨kq, x19_4, rfl, HA, HJ4, HO_1, HO_2, HO_7, BK368, HB⟩ := hcut
  cases kq with
  | zero => exact absurd HA.out (by simp [weftref1_numOf.j0])
  | succ kj4 =>
   have H := HA.out
   clear HA
   simp only [weftref1_numOf.j0] at H
   by_cases c12 : x19_4 = true
   ·subst c12
    have H1 : ((weftref1_natDiv.f kj4 l1 t369).bind fun bt373 => ((weftref1_natDiv.f kj4 l2 t369).bind fun bt379 => (if a0 = true then (some (decide (0 < bt373.1.length), bt373.1, bt379.1)) else (some (false, bt373.1, bt379.1))))) = some (r1, r2, r3) := by rw [if_pos rfl] at H; exact H
    clear H
    have H := H1
    clear H1
    replace H := Option.bind_eq_some_iff.mp H
    obtain ⟨⟨t373, t376⟩, A130, H⟩ := H
    replace H : ((weftref1_natDiv.f kj4 l2 t369).bind fun bt379 => (if a0 = true then (some (decide (0 < t373.length), t373, bt379.1)) else (some (false, t373, bt379.1)))) = some (r1, r2, r3) := H
    have A13 := Aside0.mk A130
    clear A130
    replace H := Option.bind_eq_some_iff.mp H
    obtain ⟨⟨t379, t382⟩, A140, H⟩ := H
    replace H : (if a0 = true then (some (decide (0 < t373.length), t373, t379)) else (some (false, t373, t379))) = some (r1, r2, r3) := H
    have A14 := Aside0.mk A140
    clear A140
    by_cases c15 : a0 = true
    ·subst c15
     have H1 : (some (decide (0 < t373.length), t373, t379)) = some (r1, r2, r3) := by rw [if_pos rfl] at H; exact H
     clear H
     have H := H1
     clear H1
     simp only [Option.some.injEq, Prod.mk.injEq] at H
     obtain ⟨rfl, rfl, rfl⟩ := H
     obtain ⟨Ao16, co16, eo16⟩ := Kd.V_slice HO_7.out
     subst eo16
     go_wp2_with (first | ((with_reducible refine gate_callee (f := 134) rfl ?_); refine goesL_ (some 23) rfl rfl Tryz.func134 (by kernel_rfl) rfl #[.slice A1 l1.length c1, .slice Ao16 t369.length co16] rfl (by (try simp only [List.map_toArray, List.map_cons, List.map_nil]); first | done | rfl | (simp only [List.length_drop, List.length_take]; rfl)) ?_; (with_reducible refine (weftref1_natDiv.calls kj4 (fun k_ => (((P1_ k_ ∨ P2_ k_) ∨ w.heap.size ≤ k_) ∧ k_ ≠ gb368)) _ _ l1 _ _ t369 t373 t376 _ ?side1 ?side2 ?side3 A13.out).mono ?_); (case side1 => exact HO_1.out); (case side2 => repeat (first | exact (Kd.V_reads' HO_7.out).2.2 | (with_reducible refine Kd.C_alloc ?_ _) | (with_reducible refine Kd.C_drewN ?_ _) | (with_reducible refine Kd.C_drew ?_))); (case side3 => exact (Kd.V_reads' HO_7.out).2.1); rintro e w17 ⟨v374, v377, rfl, ho0, ho1, hb⟩; refine ⟨_, rfl, ?_⟩; have n0_ := Aside0.mk (Kd.V_below (by (with_reducible repeat (first | apply Kd.V_alloc | apply Kd.V_drewN | apply Kd.V_drew)); exact HO_1.out) hb); have n1_ := Aside0.mk (Kd.V_below (by (with_reducible repeat (first | apply Kd.V_alloc | apply Kd.V_drewN | apply Kd.V_drew)); exact HO_2.out) hb); have n2_ := Aside0.mk (Kd.V_below (by (with_reducible repeat (first | apply Kd.V_alloc | apply Kd.V_drewN | apply Kd.V_drew)); exact HO_7.out) hb); have n3_ := Aside0.mk (Kd.V_lower (Kd.V_mono (ok' := fun k_ => ((P1_ k_ ∨ P2_ k_) ∨ w.heap.size ≤ k_) ∧ k_ ≠ gb368) ho0 (fun k_ hk_ => ⟨Or.elim hk_ (fun hs_ => hs_.1) (fun hn_ => (.inr (Nat.le_trans (below_size (by repeat (first | (with_reducible first | exact HB.out | apply below_alloc | apply pw_below_drewN | apply below_drew1 | refine below_set ?_ GE368.out) | exact HB.out))) hn_))), Or.elim hk_ (fun hs_ => hs_.2) (fun hn_ => (Kd.freshB (g := gb368) (o := .cells #[.bool false, .slice none 0 0, .slice none 0 0] 67 (0, 0)) (by (with_reducible repeat (first | refine blk_drewN ?_ _ | refine blk_drew ?_ | refine blk_alloc ?_ _)); exact BK368.out) k_ hn_))⟩)) (below_size (by repeat (first | (with_reducible first | exact HB.out | apply below_alloc | apply pw_below_drewN | apply below_drew1 | refine below_set ?_ GE368.out) | exact HB.out)))); have n4_ := Aside0.mk (Kd.V_lower (Kd.V_mono (ok' := fun k_ => ((P1_ k_ ∨ P2_ k_) ∨ w.heap.size ≤ k_) ∧ k_ ≠ gb368) ho1 (fun k_ hk_ => ⟨Or.elim hk_ (fun hs_ => hs_.1) (fun hn_ => (.inr (Nat.le_trans (below_size (by repeat (first | (with_reducible first | exact HB.out | apply below_alloc | apply pw_below_drewN | apply below_drew1 | refine below_set ?_ GE368.out) | exact HB.out))) hn_))), Or.elim hk_ (fun hs_ => hs_.2) (fun hn_ => (Kd.freshB (g := gb368) (o := .cells #[.bool false, .slice none 0 0, .slice none 0 0] 67 (0, 0)) (by (with_reducible repeat (first | refine blk_drewN ?_ _ | refine blk_drew ?_ | refine blk_alloc ?_ _)); exact BK368.out) k_ hn_))⟩)) (below_size (by repeat (first | (with_reducible first | exact HB.out | apply below_alloc | apply pw_below_drewN | apply below_drew1 | refine below_set ?_ GE368.out) | exact HB.out)))); have n5_ := Aside0.mk (blk_below (g := gb368) (o := .cells #[.bool false, .slice none 0 0, .slice none 0 0] 67 (0, 0)) (by (with_reducible repeat (first | refine blk_drewN ?_ _ | refine blk_drew ?_ | refine blk_alloc ?_ _)); exact BK368.out) hb); have n6_ := Aside0.mk (below_step (by repeat (first | (with_reducible first | exact HB.out | apply below_alloc | apply pw_below_drewN | apply below_drew1 | refine below_set ?_ GE368.out) | exact HB.out)) hb); clear HO_1; clear HO_2; clear HO_7; clear BK368; clear HB; have HO_1 := n0_; have HO_2 := n1_; have HO_7 := n2_; have HO375 := n3_; have HO378 := n4_; have BK368 := n5_; have HB := n6_; clear n0_ n1_ n2_ n3_ n4_ n5_ n6_; (try clear hb); (try clear hb2); (try clear hk); (try clear hi); (try clear ho0); (try clear ho1)) | ((with_reducible refine gate_callee (f := 134) rfl ?_); refine goesL_ (some 29) rfl rfl Tryz.func134 (by kernel_rfl) rfl #[.slice A2 l2.length c2, .slice Ao16 t369.length co16] rfl (by (try simp only [List.map_toArray, List.map_cons, List.map_nil]); first | done | rfl | (simp only [List.length_drop, List.length_take]; rfl)) ?_; (with_reducible refine (weftref1_natDiv.calls kj4 (fun k_ => (((P1_ k_ ∨ P2_ k_) ∨ w.heap.size ≤ k_) ∧ k_ ≠ gb368)) _ _ l2 _ _ t369 t379 t382 _ ?side1 ?side2 ?side3 A14.out).mono ?_); (case side1 => exact HO_2.out); (case side2 => repeat (first | exact (Kd.V_reads' HO_7.out).2.2 | (with_reducible refine Kd.C_alloc ?_ _) | (with_reducible refine Kd.C_drewN ?_ _) | (with_reducible refine Kd.C_drew ?_))); (case side3 => exact (Kd.V_reads' HO_7.out).2.1); rintro e w18 ⟨v380, v383, rfl, ho0, ho1, hb⟩; refine ⟨_, rfl, ?_⟩; have n0_ := Aside0.mk (Kd.V_below (by (with_reducible repeat (first | apply Kd.V_alloc | apply Kd.V_drewN | apply Kd.V_drew)); exact HO_1.out) hb); have n1_ := Aside0.mk (Kd.V_below (by (with_reducible repeat (first | apply Kd.V_alloc | apply Kd.V_drewN | apply Kd.V_drew)); exact HO_2.out) hb); have n2_ := Aside0.mk (Kd.V_below (by (with_reducible repeat (first | apply Kd.V_alloc | apply Kd.V_drewN | apply Kd.V_drew)); exact HO_7.out) hb); have n3_ := Aside0.mk (Kd.V_below (by (with_reducible repeat (first | apply Kd.V_alloc | apply Kd.V_drewN | apply Kd.V_drew)); exact HO375.out) hb); have n4_ := Aside0.mk (Kd.V_below (by (with_reducible repeat (first | apply Kd.V_alloc | apply Kd.V_drewN | apply Kd.V_drew)); exact HO378.out) hb); have n5_ := Aside0.mk (Kd.V_lower (Kd.V_mono (ok' := fun k_ => ((P1_ k_ ∨ P2_ k_) ∨ w.heap.size ≤ k_) ∧ k_ ≠ gb368) ho0 (fun k_ hk_ => ⟨Or.elim hk_ (fun hs_ => hs_.1) (fun hn_ => (.inr (Nat.le_trans (below_size (by repeat (first | (with_reducible first | exact HB.out | apply below_alloc | apply pw_below_drewN | apply below_drew1 | refine below_set ?_ GE368.out) | exact HB.out))) hn_))), Or.elim hk_ (fun hs_ => hs_.2) (fun hn_ => (Kd.freshB (g := gb368) (o := .cells #[.bool false, .slice none 0 0, .slice none 0 0] 67 (0, 0)) (by (with_reducible repeat (first | refine blk_drewN ?_ _ | refine blk_drew ?_ | refine blk_alloc ?_ _)); exact BK368.out) k_ hn_))⟩)) (below_size (by repeat (first | (with_reducible first | exact HB.out | apply below_alloc | apply pw_below_drewN | apply below_drew1 | refine below_set ?_ GE368.out) | exact HB.out)))); have n6_ := Aside0.mk (Kd.V_lower (Kd.V_mono (ok' := fun k_ => ((P1_ k_ ∨ P2_ k_) ∨ w.heap.size ≤ k_) ∧ k_ ≠ gb368) ho1 (fun k_ hk_ => ⟨Or.elim hk_ (fun hs_ => hs_.1) (fun hn_ => (.inr (Nat.le_trans (below_size (by repeat (first | (with_reducible first | exact HB.out | apply below_alloc | apply pw_below_drewN | apply below_drew1 | refine below_set ?_ GE368.out) | exact HB.out))) hn_))), Or.elim hk_ (fun hs_ => hs_.2) (fun hn_ => (Kd.freshB (g := gb368) (o := .cells #[.bool false, .slice none 0 0, .slice none 0 0] 67 (0, 0)) (by (with_reducible repeat (first | refine blk_drewN ?_ _ | refine blk_drew ?_ | refine blk_alloc ?_ _)); exact BK368.out) k_ hn_))⟩)) (below_size (by repeat (first | (with_reducible first | exact HB.out | apply below_alloc | apply pw_below_drewN | apply below_drew1 | refine below_set ?_ GE368.out) | exact HB.out)))); have n7_ := Aside0.mk (blk_below (g := gb368) (o := .cells #[.bool false, .slice none 0 0, .slice none 0 0] 67 (0, 0)) (by (with_reducible repeat (first | refine blk_drewN ?_ _ | refine blk_drew ?_ | refine blk_alloc ?_ _)); exact BK368.out) hb); have n8_ := Aside0.mk (below_step (by repeat (first | (with_reducible first | exact HB.out | apply below_alloc | apply pw_below_drewN | apply below_drew1 | refine below_set ?_ GE368.out) | exact HB.out)) hb); clear HO_1; clear HO_2; clear HO_7; clear HO375; clear HO378; clear BK368; clear HB; have HO_1 := n0_; have HO_2 := n1_; have HO_7 := n2_; have HO375 := n3_; have HO378 := n4_; have HO381 := n5_; have HO384 := n6_; have BK368 := n7_; have HB := n8_; clear n0_ n1_ n2_ n3_ n4_ n5_ n6_ n7_ n8_; (try clear hb); (try clear hb2); (try clear hk); (try clear hi); (try clear ho0); (try clear ho1); obtain ⟨Ao19, co19, eo19⟩ := Kd.V_slice HO375.out; subst eo19; obtain ⟨Ao20, co20, eo20⟩ := Kd.V_slice HO381.out; subst eo20; have hcz21_0 : w18.cell? ⟨gb368, 0, none⟩ = some (.bool false) := (blk_cell BK368.out 0).trans rfl; have hcz21_1 : w18.cell? ⟨gb368, 1, none⟩ = some (.slice none 0 0) := (blk_cell BK368.out 1).trans rfl; have hcz21_2 : w18.cell? ⟨gb368, 2, none⟩ = some (.slice none 0 0) := (blk_cell BK368.out 2).trans rfl; have hfz21_0 := blk_frozen BK368.out 0; have hfz21_1 := blk_frozen BK368.out 1; have hfz21_2 := blk_frozen BK368.out 2))
     refine bodyPost_ret (results_cell_row rfl _ _ gb368 67 #[.bool (decide (0 < t373.length)), .slice Ao19 t373.length co19, .slice Ao20 t379.length co20] (0, 0) _ rfl (by (with_reducible repeat (first | refine blk_drewN ?_ _ | refine blk_drew ?_ | refine blk_alloc ?_ _)); refine blk_put (cs := #[.bool (decide (0 < t373.length)), .slice Ao19 t373.length co19, .slice none 0 0]) ?_ 2 _ rfl; (with_reducible repeat (first | refine blk_drewN ?_ _ | refine blk_drew ?_ | refine blk_alloc ?_ _)); refine blk_put (cs := #[.bool (decide (0 < t373.length)), .slice none 0 0, .slice none 0 0]) ?_ 1 _ rfl; (with_reducible repeat (first | refine blk_drewN ?_ _ | refine blk_drew ?_ | refine blk_alloc ?_ _)); refine blk_put (cs := #[.bool false, .slice none 0 0, .slice none 0 0]) ?_ 0 _ rfl; (with_reducible repeat (first | refine blk_drewN ?_ _ | refine blk_drew ?_ | refine blk_alloc ?_ _)); exact BK368.out) Tryz.underlying67 rfl (by kernel_rfl)) rfl ?_
     exact ⟨_, _, by first | rfl | (simp [errW_none, errW_some] <;> rfl) | (simp [*, errW_none, errW_some] <;> rfl), by (with_reducible repeat (first | apply Kd.V_alloc | apply Kd.V_drewN | apply Kd.V_drew)); exact Kd.V_mono (Kd.V_far (p := ⟨gb368, 2, none⟩) (Kd.V_far (p := ⟨gb368, 1, none⟩) (Kd.V_far (p := ⟨gb368, 0, none⟩) (Kd.V_mono HO375.out (fun k_ hk => (⟨hk, hk.2⟩ : _ ∧ k_ ≠ gb368))) (fun _ hk => hk.2) (.bool (decide (0 < t373.length)))) (fun _ hk => hk.2) (.slice Ao19 t373.length co19)) (fun _ hk => hk.2) (.slice Ao20 t379.length co20)) (fun _ hk => hk.1.1), by (with_reducible repeat (first | apply Kd.V_alloc | apply Kd.V_drewN | apply Kd.V_drew)); exact Kd.V_mono (Kd.V_far (p := ⟨gb368, 2, none⟩) (Kd.V_far (p := ⟨gb368, 1, none⟩) (Kd.V_far (p := ⟨gb368, 0, none⟩) (Kd.V_mono HO381.out (fun k_ hk => (⟨hk, hk.2⟩ : _ ∧ k_ ≠ gb368))) (fun _ hk => hk.2) (.bool (decide (0 < t373.length)))) (fun _ hk => hk.2) (.slice Ao19 t373.length co19)) (fun _ hk => hk.2) (.slice Ao20 t379.length co20)) (fun _ hk => hk.1.1), by repeat (first | (with_reducible first | exact HB.out | apply below_alloc | apply pw_below_drewN | apply below_drew1 | refine below_set ?_ GE368.out) | exact HB.out)⟩
    ·replace c15 := Bool.eq_false_iff.mpr c15
     subst c15
     have H1 : (some (false, t373, t379)) = some (r1, r2, r3) := by rw [if_neg (show ¬ (false = true) by decide)] at H; exact H
     clear H
     have H := H1
     clear H1
     simp only [Option.some.injEq, Prod.mk.injEq] at H
     obtain ⟨rfl, rfl, rfl⟩ := H
     obtain ⟨Ao22, co22, eo22⟩ := Kd.V_slice HO_7.out
     subst eo22
     go_wp2_with (first | ((with_reducible refine gate_callee (f := 134) rfl ?_); refine goesL_ (some 23) rfl rfl Tryz.func134 (by kernel_rfl) rfl #[.slice A1 l1.length c1, .slice Ao22 t369.length co22] rfl (by (try simp only [List.map_toArray, List.map_cons, List.map_nil]); first | done | rfl | (simp only [List.length_drop, List.length_take]; rfl)) ?_; (with_reducible refine (weftref1_natDiv.calls kj4 (fun k_ => (((P1_ k_ ∨ P2_ k_) ∨ w.heap.size ≤ k_) ∧ k_ ≠ gb368)) _ _ l1 _ _ t369 t373 t376 _ ?side1 ?side2 ?side3 A13.out).mono ?_); (case side1 => exact HO_1.out); (case side2 => repeat (first | exact (Kd.V_reads' HO_7.out).2.2 | (with_reducible refine Kd.C_alloc ?_ _) | (with_reducible refine Kd.C_drewN ?_ _) | (with_reducible refine Kd.C_drew ?_))); (case side3 => exact (Kd.V_reads' HO_7.out).2.1); rintro e w23 ⟨v374, v377, rfl, ho0, ho1, hb⟩; refine ⟨_, rfl, ?_⟩; have n0_ := Aside0.mk (Kd.V_below (by (with_reducible repeat (first | apply Kd.V_alloc | apply Kd.V_drewN | apply Kd.V_drew)); exact HO_1.out) hb); have n1_ := Aside0.mk (Kd.V_below (by (with_reducible repeat (first | apply Kd.V_alloc | apply Kd.V_drewN | apply Kd.V_drew)); exact HO_2.out) hb); have n2_ := Aside0.mk (Kd.V_below (by (with_reducible repeat (first | apply Kd.V_alloc | apply Kd.V_drewN | apply Kd.V_drew)); exact HO_7.out) hb); have n3_ := Aside0.mk (Kd.V_lower (Kd.V_mono (ok' := fun k_ => ((P1_ k_ ∨ P2_ k_) ∨ w.heap.size ≤ k_) ∧ k_ ≠ gb368) ho0 (fun k_ hk_ => ⟨Or.elim hk_ (fun hs_ => hs_.1) (fun hn_ => (.inr (Nat.le_trans (below_size (by repeat (first | (with_reducible first | exact HB.out | apply below_alloc | apply pw_below_drewN | apply below_drew1 | refine below_set ?_ GE368.out) | exact HB.out))) hn_))), Or.elim hk_ (fun hs_ => hs_.2) (fun hn_ => (Kd.freshB (g := gb368) (o := .cells #[.bool false, .slice none 0 0, .slice none 0 0] 67 (0, 0)) (by (with_reducible repeat (first | refine blk_drewN ?_ _ | refine blk_drew ?_ | refine blk_alloc ?_ _)); exact BK368.out) k_ hn_))⟩)) (below_size (by repeat (first | (with_reducible first | exact HB.out | apply below_alloc | apply pw_below_drewN | apply below_drew1 | refine below_set ?_ GE368.out) | exact HB.out)))); have n4_ := Aside0.mk (Kd.V_lower (Kd.V_mono (ok' := fun k_ => ((P1_ k_ ∨ P2_ k_) ∨ w.heap.size ≤ k_) ∧ k_ ≠ gb368) ho1 (fun k_ hk_ => ⟨Or.elim hk_ (fun hs_ => hs_.1) (fun hn_ => (.inr (Nat.le_trans (below_size (by repeat (first | (with_reducible first | exact HB.out | apply below_alloc | apply pw_below_drewN | apply below_drew1 | refine below_set ?_ GE368.out) | exact HB.out))) hn_))), Or.elim hk_ (fun hs_ => hs_.2) (fun hn_ => (Kd.freshB (g := gb368) (o := .cells #[.bool false, .slice none 0 0, .slice none 0 0] 67 (0, 0)) (by (with_reducible repeat (first | refine blk_drewN ?_ _ | refine blk_drew ?_ | refine blk_alloc ?_ _)); exact BK368.out) k_ hn_))⟩)) (below_size (by repeat (first | (with_reducible first | exact HB.out | apply below_alloc | apply pw_below_drewN | apply below_drew1 | refine below_set ?_ GE368.out) | exact HB.out)))); have n5_ := Aside0.mk (blk_below (g := gb368) (o := .cells #[.bool false, .slice none 0 0, .slice none 0 0] 67 (0, 0)) (by (with_reducible repeat (first | refine blk_drewN ?_ _ | refine blk_drew ?_ | refine blk_alloc ?_ _)); exact BK368.out) hb); have n6_ := Aside0.mk (below_step (by repeat (first | (with_reducible first | exact HB.out | apply below_alloc | apply pw_below_drewN | apply below_drew1 | refine below_set ?_ GE368.out) | exact HB.out)) hb); clear HO_1; clear HO_2; clear HO_7; clear BK368; clear HB; have HO_1 := n0_; have HO_2 := n1_; have HO_7 := n2_; have HO375 := n3_; have HO378 := n4_; have BK368 := n5_; have HB := n6_; clear n0_ n1_ n2_ n3_ n4_ n5_ n6_; (try clear hb); (try clear hb2); (try clear hk); (try clear hi); (try clear ho0); (try clear ho1)) | ((with_reducible refine gate_callee (f := 134) rfl ?_); refine goesL_ (some 29) rfl rfl Tryz.func134 (by kernel_rfl) rfl #[.slice A2 l2.length c2, .slice Ao22 t369.length co22] rfl (by (try simp only [List.map_toArray, List.map_cons, List.map_nil]); first | done | rfl | (simp only [List.length_drop, List.length_take]; rfl)) ?_; (with_reducible refine (weftref1_natDiv.calls kj4 (fun k_ => (((P1_ k_ ∨ P2_ k_) ∨ w.heap.size ≤ k_) ∧ k_ ≠ gb368)) _ _ l2 _ _ t369 t379 t382 _ ?side1 ?side2 ?side3 A14.out).mono ?_); (case side1 => exact HO_2.out); (case side2 => repeat (first | exact (Kd.V_reads' HO_7.out).2.2 | (with_reducible refine Kd.C_alloc ?_ _) | (with_reducible refine Kd.C_drewN ?_ _) | (with_reducible refine Kd.C_drew ?_))); (case side3 => exact (Kd.V_reads' HO_7.out).2.1); rintro e w24 ⟨v380, v383, rfl, ho0, ho1, hb⟩; refine ⟨_, rfl, ?_⟩; have n0_ := Aside0.mk (Kd.V_below (by (with_reducible repeat (first | apply Kd.V_alloc | apply Kd.V_drewN | apply Kd.V_drew)); exact HO_1.out) hb); have n1_ := Aside0.mk (Kd.V_below (by (with_reducible repeat (first | apply Kd.V_alloc | apply Kd.V_drewN | apply Kd.V_drew)); exact HO_2.out) hb); have n2_ := Aside0.mk (Kd.V_below (by (with_reducible repeat (first | apply Kd.V_alloc | apply Kd.V_drewN | apply Kd.V_drew)); exact HO_7.out) hb); have n3_ := Aside0.mk (Kd.V_below (by (with_reducible repeat (first | apply Kd.V_alloc | apply Kd.V_drewN | apply Kd.V_drew)); exact HO375.out) hb); have n4_ := Aside0.mk (Kd.V_below (by (with_reducible repeat (first | apply Kd.V_alloc | apply Kd.V_drewN | apply Kd.V_drew)); exact HO378.out) hb); have n5_ := Aside0.mk (Kd.V_lower (Kd.V_mono (ok' := fun k_ => ((P1_ k_ ∨ P2_ k_) ∨ w.heap.size ≤ k_) ∧ k_ ≠ gb368) ho0 (fun k_ hk_ => ⟨Or.elim hk_ (fun hs_ => hs_.1) (fun hn_ => (.inr (Nat.le_trans (below_size (by repeat (first | (with_reducible first | exact HB.out | apply below_alloc | apply pw_below_drewN | apply below_drew1 | refine below_set ?_ GE368.out) | exact HB.out))) hn_))), Or.elim hk_ (fun hs_ => hs_.2) (fun hn_ => (Kd.freshB (g := gb368) (o := .cells #[.bool false, .slice none 0 0, .slice none 0 0] 67 (0, 0)) (by (with_reducible repeat (first | refine blk_drewN ?_ _ | refine blk_drew ?_ | refine blk_alloc ?_ _)); exact BK368.out) k_ hn_))⟩)) (below_size (by repeat (first | (with_reducible first | exact HB.out | apply below_alloc | apply pw_below_drewN | apply below_drew1 | refine below_set ?_ GE368.out) | exact HB.out)))); have n6_ := Aside0.mk (Kd.V_lower (Kd.V_mono (ok' := fun k_ => ((P1_ k_ ∨ P2_ k_) ∨ w.heap.size ≤ k_) ∧ k_ ≠ gb368) ho1 (fun k_ hk_ => ⟨Or.elim hk_ (fun hs_ => hs_.1) (fun hn_ => (.inr (Nat.le_trans (below_size (by repeat (first | (with_reducible first | exact HB.out | apply below_alloc | apply pw_below_drewN | apply below_drew1 | refine below_set ?_ GE368.out) | exact HB.out))) hn_))), Or.elim hk_ (fun hs_ => hs_.2) (fun hn_ => (Kd.freshB (g := gb368) (o := .cells #[.bool false, .slice none 0 0, .slice none 0 0] 67 (0, 0)) (by (with_reducible repeat (first | refine blk_drewN ?_ _ | refine blk_drew ?_ | refine blk_alloc ?_ _)); exact BK368.out) k_ hn_))⟩)) (below_size (by repeat (first | (with_reducible first | exact HB.out | apply below_alloc | apply pw_below_drewN | apply below_drew1 | refine below_set ?_ GE368.out) | exact HB.out)))); have n7_ := Aside0.mk (blk_below (g := gb368) (o := .cells #[.bool false, .slice none 0 0, .slice none 0 0] 67 (0, 0)) (by (with_reducible repeat (first | refine blk_drewN ?_ _ | refine blk_drew ?_ | refine blk_alloc ?_ _)); exact BK368.out) hb); have n8_ := Aside0.mk (below_step (by repeat (first | (with_reducible first | exact HB.out | apply below_alloc | apply pw_below_drewN | apply below_drew1 | refine below_set ?_ GE368.out) | exact HB.out)) hb); clear HO_1; clear HO_2; clear HO_7; clear HO375; clear HO378; clear BK368; clear HB; have HO_1 := n0_; have HO_2 := n1_; have HO_7 := n2_; have HO375 := n3_; have HO378 := n4_; have HO381 := n5_; have HO384 := n6_; have BK368 := n7_; have HB := n8_; clear n0_ n1_ n2_ n3_ n4_ n5_ n6_ n7_ n8_; (try clear hb); (try clear hb2); (try clear hk); (try clear hi); (try clear ho0); (try clear ho1); obtain ⟨Ao25, co25, eo25⟩ := Kd.V_slice HO381.out; subst eo25; obtain ⟨Ao26, co26, eo26⟩ := Kd.V_slice HO375.out; subst eo26; have hcz27_0 : w24.cell? ⟨gb368, 0, none⟩ = some (.bool false) := (blk_cell BK368.out 0).trans rfl; have hcz27_1 : w24.cell? ⟨gb368, 1, none⟩ = some (.slice none 0 0) := (blk_cell BK368.out 1).trans rfl; have hcz27_2 : w24.cell? ⟨gb368, 2, none⟩ = some (.slice none 0 0) := (blk_cell BK368.out 2).trans rfl; have hfz27_0 := blk_frozen BK368.out 0; have hfz27_1 := blk_frozen BK368.out 1; have hfz27_2 := blk_frozen BK368.out 2))
     refine bodyPost_ret (results_cell_row rfl _ _ gb368 67 #[.bool false, .slice Ao26 t373.length co26, .slice Ao25 t379.length co25] (0, 0) _ rfl (by (with_reducible repeat (first | refine blk_drewN ?_ _ | refine blk_drew ?_ | refine blk_alloc ?_ _)); refine blk_put (cs := #[.bool false, .slice Ao26 t373.length co26, .slice none 0 0]) ?_ 2 _ rfl; (with_reducible repeat (first | refine blk_drewN ?_ _ | refine blk_drew ?_ | refine blk_alloc ?_ _)); refine blk_put (cs := #[.bool false, .slice none 0 0, .slice none 0 0]) ?_ 1 _ rfl; (with_reducible repeat (first | refine blk_drewN ?_ _ | refine blk_drew ?_ | refine blk_alloc ?_ _)); refine blk_put (cs := #[.bool false, .slice none 0 0, .slice none 0 0]) ?_ 0 _ rfl; (with_reducible repeat (first | refine blk_drewN ?_ _ | refine blk_drew ?_ | refine blk_alloc ?_ _)); exact BK368.out) Tryz.underlying67 rfl (by kernel_rfl)) rfl ?_
     exact ⟨_, _, by first | rfl | (simp [errW_none, errW_some] <;> rfl) | (simp [*, errW_none, errW_some] <;> rfl), by (with_reducible repeat (first | apply Kd.V_alloc | apply Kd.V_drewN | apply Kd.V_drew)); exact Kd.V_mono (Kd.V_far (p := ⟨gb368, 2, none⟩) (Kd.V_far (p := ⟨gb368, 1, none⟩) (Kd.V_far (p := ⟨gb368, 0, none⟩) (Kd.V_mono HO375.out (fun k_ hk => (⟨hk, hk.2⟩ : _ ∧ k_ ≠ gb368))) (fun _ hk => hk.2) (.bool false)) (fun _ hk => hk.2) (.slice Ao26 t373.length co26)) (fun _ hk => hk.2) (.slice Ao25 t379.length co25)) (fun _ hk => hk.1.1), by (with_reducible repeat (first | apply Kd.V_alloc | apply Kd.V_drewN | apply Kd.V_drew)); exact Kd.V_mono (Kd.V_far (p := ⟨gb368, 2, none⟩) (Kd.V_far (p := ⟨gb368, 1, none⟩) (Kd.V_far (p := ⟨gb368, 0, none⟩) (Kd.V_mono HO381.out (fun k_ hk => (⟨hk, hk.2⟩ : _ ∧ k_ ≠ gb368))) (fun _ hk => hk.2) (.bool false)) (fun _ hk => hk.2) (.slice Ao26 t373.length co26)) (fun _ hk => hk.2) (.slice Ao25 t379.length co25)) (fun _ hk => hk.1.1), by repeat (first | (with_reducible first | exact HB.out | apply below_alloc | apply pw_below_drewN | apply below_drew1 | refine below_set ?_ GE368.out) | exact HB.out)⟩
   ·replace c12 := Bool.eq_false_iff.mpr c12
    subst c12
    have H1 : (if a0 = true then (some (decide (0 < l1.length), l1, l2)) else (some (false, l1, l2))) = some (r1, r2, r3) := by rw [if_neg (show ¬ (false = true) by decide)] at H; exact H
    clear H
    have H := H1
    clear H1
    by_cases c28 : a0 = true
    ·subst c28
     have H1 : (some (decide (0 < l1.length), l1, l2)) = some (r1, r2, r3) := by rw [if_pos rfl] at H; exact H
     clear H
     have H := H1
     clear H1
     simp only [Option.some.injEq, Prod.mk.injEq] at H
     obtain ⟨rfl, rfl, rfl⟩ := H
     have hcz29_0 : wc.cell? ⟨gb368, 0, none⟩ = some (.bool false) := (blk_cell BK368.out 0).trans rfl
     have hcz29_1 : wc.cell? ⟨gb368, 1, none⟩ = some (.slice none 0 0) := (blk_cell BK368.out 1).trans rfl
     have hcz29_2 : wc.cell? ⟨gb368, 2, none⟩ = some (.slice none 0 0) := (blk_cell BK368.out 2).trans rfl
     have hfz29_0 := blk_frozen BK368.out 0
     have hfz29_1 := blk_frozen BK368.out 1
     have hfz29_2 := blk_frozen BK368.out 2
     go_wp2
     refine bodyPost_ret (results_cell_row rfl _ _ gb368 67 #[.bool (decide (0 < l1.length)), .slice A1 l1.length c1, .slice A2 l2.length c2] (0, 0) _ rfl (by (with_reducible repeat (first | refine blk_drewN ?_ _ | refine blk_drew ?_ | refine blk_alloc ?_ _)); refine blk_put (cs := #[.bool (decide (0 < l1.length)), .slice A1 l1.length c1, .slice none 0 0]) ?_ 2 _ rfl; (with_reducible repeat (first | refine blk_drewN ?_ _ | refine blk_drew ?_ | refine blk_alloc ?_ _)); refine blk_put (cs := #[.bool (decide (0 < l1.length)), .slice none 0 0, .slice none 0 0]) ?_ 1 _ rfl; (with_reducible repeat (first | refine blk_drewN ?_ _ | refine blk_drew ?_ | refine blk_alloc ?_ _)); refine blk_put (cs := #[.bool false, .slice none 0 0, .slice none 0 0]) ?_ 0 _ rfl; (with_reducible repeat (first | refine blk_drewN ?_ _ | refine blk_drew ?_ | refine blk_alloc ?_ _)); exact BK368.out) Tryz.underlying67 rfl (by kernel_rfl)) rfl ?_
     exact ⟨_, _, by first | rfl | (simp [errW_none, errW_some] <;> rfl) | (simp [*, errW_none, errW_some] <;> rfl), by (with_reducible repeat (first | apply Kd.V_alloc | apply Kd.V_drewN | apply Kd.V_drew)); exact Kd.V_mono (Kd.V_far (p := ⟨gb368, 2, none⟩) (Kd.V_far (p := ⟨gb368, 1, none⟩) (Kd.V_far (p := ⟨gb368, 0, none⟩) (Kd.V_mono HO_1.out (fun k_ hk => (⟨hk, hk.2⟩ : _ ∧ k_ ≠ gb368))) (fun _ hk => hk.2) (.bool (decide (0 < l1.length)))) (fun _ hk => hk.2) (.slice A1 l1.length c1)) (fun _ hk => hk.2) (.slice A2 l2.length c2)) (fun _ hk => hk.1.1), by (with_reducible repeat (first | apply Kd.V_alloc | apply Kd.V_drewN | apply Kd.V_drew)); exact Kd.V_mono (Kd.V_far (p := ⟨gb368, 2, none⟩) (Kd.V_far (p := ⟨gb368, 1, none⟩) (Kd.V_far (p := ⟨gb368, 0, none⟩) (Kd.V_mono HO_2.out (fun k_ hk => (⟨hk, hk.2⟩ : _ ∧ k_ ≠ gb368))) (fun _ hk => hk.2) (.bool (decide (0 < l1.length)))) (fun _ hk => hk.2) (.slice A1 l1.length c1)) (fun _ hk => hk.2) (.slice A2 l2.length c2)) (fun _ hk => hk.1.1), by repeat (first | (with_reducible first | exact HB.out | apply below_alloc | apply pw_below_drewN | apply below_drew1 | refine below_set ?_ GE368.out) | exact HB.out)⟩
    ·replace c28 := Bool.eq_false_iff.mpr c28
     subst c28
     have H1 : (some (false, l1, l2)) = some (r1, r2, r3) := by rw [if_neg (show ¬ (false = true) by decide)] at H; exact H
     clear H
     have H := H1
     clear H1
     simp only [Option.some.injEq, Prod.mk.injEq] at H
     obtain ⟨rfl, rfl, rfl⟩ := H
     have hcz30_0 : wc.cell? ⟨gb368, 0, none⟩ = some (.bool false) := (blk_cell BK368.out 0).trans rfl
     have hcz30_1 : wc.cell? ⟨gb368, 1, none⟩ = some (.slice none 0 0) := (blk_cell BK368.out 1).trans rfl
     have hcz30_2 : wc.cell? ⟨gb368, 2, none⟩ = some (.slice none 0 0) := (blk_cell BK368.out 2).trans rfl
     have hfz30_0 := blk_frozen BK368.out 0
     have hfz30_1 := blk_frozen BK368.out 1
     have hfz30_2 := blk_frozen BK368.out 2
     go_wp2
     refine bodyPost_ret (results_cell_row rfl _ _ gb368 67 #[.bool false, .slice A1 l1.length c1, .slice A2 l2.length c2] (0, 0) _ rfl (by (with_reducible repeat (first | refine blk_drewN ?_ _ | refine blk_drew ?_ | refine blk_alloc ?_ _)); refine blk_put (cs := #[.bool false, .slice A1 l1.length c1, .slice none 0 0]) ?_ 2 _ rfl; (with_reducible repeat (first | refine blk_drewN ?_ _ | refine blk_drew ?_ | refine blk_alloc ?_ _)); refine blk_put (cs := #[.bool false, .slice none 0 0, .slice none 0 0]) ?_ 1 _ rfl; (with_reducible repeat (first | refine blk_drewN ?_ _ | refine blk_drew ?_ | refine blk_alloc ?_ _)); refine blk_put (cs := #[.bool false, .slice none 0 0, .slice none 0 0]) ?_ 0 _ rfl; (with_reducible repeat (first | refine blk_drewN ?_ _ | refine blk_drew ?_ | refine blk_alloc ?_ _)); exact BK368.out) Tryz.underlying67 rfl (by kernel_rfl)) rfl ?_
     exact ⟨_, _, by first | rfl | (simp [errW_none, errW_some] <;> rfl) | (simp [*, errW_none, errW_some] <;> rfl), by (with_reducible repeat (first | apply Kd.V_alloc | apply Kd.V_drewN | apply Kd.V_drew)); exact Kd.V_mono (Kd.V_far (p := ⟨gb368, 2, none⟩) (Kd.V_far (p := ⟨gb368, 1, none⟩) (Kd.V_far (p := ⟨gb368, 0, none⟩) (Kd.V_mono HO_1.out (fun k_ hk => (⟨hk, hk.2⟩ : _ ∧ k_ ≠ gb368))) (fun _ hk => hk.2) (.bool false)) (fun _ hk => hk.2) (.slice A1 l1.length c1)) (fun _ hk => hk.2) (.slice A2 l2.length c2)) (fun _ hk => hk.1.1), by (with_reducible repeat (first | apply Kd.V_alloc | apply Kd.V_drewN | apply Kd.V_drew)); exact Kd.V_mono (Kd.V_far (p := ⟨gb368, 2, none⟩) (Kd.V_far (p := ⟨gb368, 1, none⟩) (Kd.V_far (p := ⟨gb368, 0, none⟩) (Kd.V_mono HO_2.out (fun k_ hk => (⟨hk, hk.2⟩ : _ ∧ k_ ≠ gb368))) (fun _ hk => hk.2) (.bool false)) (fun _ hk => hk.2) (.slice A1 l1.length c1)) (fun _ hk => hk.2) (.slice A2 l2.length c2)) (fun _ hk => hk.1.1), by repeat (first | (with_reducible first | exact HB.out | apply below_alloc | apply pw_below_drewN | apply below_drew1 | refine below_set ?_ GE368.out) | exact HB.out)⟩

section
def weftref1_Quo.f (k : Nat) (a0 : Int) (a1 : Int) : Option (Bool × List Int × List Int) := (weftref1_size.f a0).bind fun t386 => ((weftref1_natOf.f k t386).bind fun t387 => ((weftref1_size.f a1).bind fun t390 => ((weftref1_natOf.f k t390).bind fun t391 => ((weftref1_numOf.f k ((decide (a0 < 0)) != (decide (a1 < 0))) t387 t391).bind fun bt394 => (some (bt394.1, bt394.2.1, bt394.2.2))))))
theorem weftref1_Quo.mono : ∀ a0 a1 k, LeO (weftref1_Quo.f k a0 a1) (weftref1_Quo.f (k + 1) a0 a1) := by
 intro a0 a1 k
 unfold weftref1_Quo.f
 repeat' first
   | (with_reducible exact weftref1_natOf.mono _ _)
   | (with_reducible exact weftref1_numOf.mono _ _ _ _)
   | (with_reducible exact LeO.refl _)
   | (with_reducible exact LeO.none _)
   | (with_reducible refine LeO.ite ?_ ?_)
   | (with_reducible refine LeO.bind ?_ (fun _ => ?_))
   | exact weftref1_natOf.mono _ _
   | exact weftref1_numOf.mono _ _ _ _
   | exact LeO.none _
   | refine LeO.ite ?_ ?_
   | refine LeO.bind ?_ (fun _ => ?_)
set_option maxHeartbeats 8000000 in
set_option maxRecDepth 100000 in
theorem weftref1_Quo.calls (k : Nat) (a0 : Int) (a1 : Int) (r1 : Bool) (r2 : List Int) (r3 : List Int) (w : World) (h : weftref1_Quo.f k a0 a1 = some (r1, r2, r3)) :
  Calls Tryz.prog 51 #[.int .i64 a0, .int .i64 a1] w fun e w' => ∃ v1_ v2_ : Value, e = .returned (.agg #[.bool r1, v1_, v2_]) ∧ Kd.V (Kd.int .i64) 3 w' w.heap.size (fun k_ => (w.heap.size ≤ k_)) v1_ r2 ∧ Kd.V (Kd.int .i64) 3 w' w.heap.size (fun k_ => (w.heap.size ≤ k_)) v2_ r3 ∧ Below w.heap.size w w' := by
 have hu67 := Tryz.underlying67
 have HB := Aside0.mk (Below.refl w.heap.size w)
 have H : ((weftref1_size.f a0).bind fun t386 => ((weftref1_natOf.f k t386).bind fun t387 => ((weftref1_size.f a1).bind fun t390 => ((weftref1_natOf.f k t390).bind fun t391 => ((weftref1_numOf.f k ((decide (a0 < 0)) != (decide (a1 < 0))) t387 t391).bind fun bt394 => (some (bt394.1, bt394.2.1, bt394.2.2))))))) = some (r1, r2, r3) := h
 clear h
 replace H := Option.bind_eq_some_iff.mp H
 obtain ⟨t386, A30, H⟩ := H
 replace H : ((weftref1_natOf.f k t386).bind fun t387 => ((weftref1_size.f a1).bind fun t390 => ((weftref1_natOf.f k t390).bind fun t391 => ((weftref1_numOf.f k ((decide (a0 < 0)) != (decide (a1 < 0))) t387 t391).bind fun bt394 => (some (bt394.1, bt394.2.1, bt394.2.2)))))) = some (r1, r2, r3) := H
 have A3 := Aside0.mk A30
 clear A30
 replace H := Option.bind_eq_some_iff.mp H
 obtain ⟨t387, A40, H⟩ := H
 replace H : ((weftref1_size.f a1).bind fun t390 => ((weftref1_natOf.f k t390).bind fun t391 => ((weftref1_numOf.f k ((decide (a0 < 0)) != (decide (a1 < 0))) t387 t391).bind fun bt394 => (some (bt394.1, bt394.2.1, bt394.2.2))))) = some (r1, r2, r3) := H
 have A4 := Aside0.mk A40
 clear A40
 replace H := Option.bind_eq_some_iff.mp H
 obtain ⟨t390, A50, H⟩ := H
 replace H : ((weftref1_natOf.f k t390).bind fun t391 => ((weftref1_numOf.f k ((decide (a0 < 0)) != (decide (a1 < 0))) t387 t391).bind fun bt394 => (some (bt394.1, bt394.2.1, bt394.2.2)))) = some (r1, r2, r3) := H
 have A5 := Aside0.mk A50
 clear A50
 replace H := Option.bind_eq_some_iff.mp H
 obtain ⟨t391, A60, H⟩ := H
 replace H : ((weftref1_numOf.f k ((decide (a0 < 0)) != (decide (a1 < 0))) t387 t391).bind fun bt394 => (some (bt394.1, bt394.2.1, bt394.2.2))) = some (r1, r2, r3) := H
 have A6 := Aside0.mk A60
 clear A60
 replace H := Option.bind_eq_some_iff.mp H
 obtain ⟨⟨t394, t395, t398⟩, A70, H⟩ := H
 obtain ⟨b1_, hb1_⟩ : ∃ b_, decide (a0 < 0) = b_ := ⟨_, rfl⟩
 obtain ⟨b2_, hb2_⟩ : ∃ b_, decide (a1 < 0) = b_ := ⟨_, rfl⟩
 rw [hb1_, hb2_, show (b1_ != b2_) = !(b1_ == b2_) from rfl] at A70
 replace H : (some (t394, t395, t398)) = some (r1, r2, r3) := H
 have A7 := Aside0.mk A70
 clear A70
 simp only [Option.some.injEq, Prod.mk.injEq] at H
 obtain ⟨rfl, rfl, rfl⟩ := H
 go_enter Tryz.func51, Tryz.ntmps51
 go_wp2_with (first | ((with_reducible refine gate_dst (N := 4) rfl ?_); refine box_event ?hg (N := 4) ?hd (cs := #[.bool false, .slice none 0 0, .slice none 0 0]) (t := 67) ?hr ?_; (case hd => rfl); (case hg => rfl); (case hr => first | (go_simp; done) | (go_simp; rfl)); intro gb385 hg w8 hbox hb; have n0_ := Aside0.mk (below_step (by repeat (first | (with_reducible first | exact HB.out | apply below_alloc | apply pw_below_drewN | apply below_drew1) | exact HB.out)) hb); have n1_ := Aside0.mk (hbox); have n2_ := Aside0.mk ((by rw [hg]; exact (below_size (by repeat (first | (with_reducible first | exact HB.out | apply below_alloc | apply pw_below_drewN | apply below_drew1) | exact HB.out))) : w.heap.size ≤ gb385)); have n3_ := Aside0.mk ((by rw [hg]; exact (below_size (by repeat (first | (with_reducible first | exact HB.out | apply below_alloc | apply pw_below_drewN | apply below_drew1) | exact HB.out))) : w.heap.size ≤ gb385)); clear HB; have HB := n0_; have BK385 := n1_; have GW385 := n2_; have GE385 := n3_; clear n0_ n1_ n2_ n3_; clear hb hbox hg) | ((with_reducible refine gate_callee (f := 99) rfl ?_); refine goesL_ (some 11) rfl rfl Tryz.func99 (by kernel_rfl) rfl #[.int .i64 a0] rfl (by (try simp only [List.map_toArray, List.map_cons, List.map_nil]); first | done | rfl | (simp only [List.length_drop, List.length_take]; rfl)) ?_; (with_reducible refine (weftref1_size.calls a0 t386 _ A3.out).mono ?_); rintro e w' ⟨rfl, ⟨nd, rfl⟩⟩; refine ⟨_, rfl, ?_⟩; (try (rw [drewN_self w8]; generalize hq_ : World.drewN w8 _ = w8; have n0_ : Aside0 (w8.heap[gb385]? = some (.cells #[.bool false, .slice none 0 0, .slice none 0 0] 67 (0, 0))) := ⟨by rw [← hq_]; exact (by (with_reducible repeat (first | refine blk_drewN ?_ _ | refine blk_drew ?_ | refine blk_alloc ?_ _)); exact BK385.out)⟩; have n1_ : Aside0 (Below w.heap.size w w8) := ⟨by rw [← hq_]; exact (by repeat (first | (with_reducible first | exact HB.out | apply below_alloc | apply pw_below_drewN | apply below_drew1 | refine below_set ?_ GE385.out) | exact HB.out))⟩; clear BK385 HB hq_; have BK385 := n0_; have HB := n1_; clear n0_ n1_))) | ((with_reducible refine gate_callee (f := 98) rfl ?_); refine goesL_ (some 12) rfl rfl Tryz.func98 (by kernel_rfl) rfl #[.int .u64 t386] rfl (by (try simp only [List.map_toArray, List.map_cons, List.map_nil]); first | done | rfl | (simp only [List.length_drop, List.length_take]; rfl)) ?_; (with_reducible refine (weftref1_natOf.calls k t386 t387 _ A4.out).mono ?_); rintro e w9 ⟨v388, rfl, ho0, hb⟩; refine ⟨_, rfl, ?_⟩; have n0_ := Aside0.mk (Kd.R_lower (Kd.R_newM (M := fun k_ => (w.heap.size ≤ k_)) ho0 (below_size (by repeat (first | (with_reducible first | exact HB.out | apply below_alloc | apply pw_below_drewN | apply below_drew1 | refine below_set ?_ GE385.out) | exact HB.out))) (fun k_ h_ => h_)) (below_size (by repeat (first | (with_reducible first | exact HB.out | apply below_alloc | apply pw_below_drewN | apply below_drew1 | refine below_set ?_ GE385.out) | exact HB.out)))); have n1_ := Aside0.mk (blk_below (g := gb385) (o := .cells #[.bool false, .slice none 0 0, .slice none 0 0] 67 (0, 0)) (by (with_reducible repeat (first | refine blk_drewN ?_ _ | refine blk_drew ?_ | refine blk_alloc ?_ _)); exact BK385.out) hb); have n2_ := Aside0.mk (below_step (by repeat (first | (with_reducible first | exact HB.out | apply below_alloc | apply pw_below_drewN | apply below_drew1 | refine below_set ?_ GE385.out) | exact HB.out)) hb); clear BK385; clear HB; have HO389 := n0_; have BK385 := n1_; have HB := n2_; clear n0_ n1_ n2_; (try clear hb); (try clear hb2); (try clear hk); (try clear hi); (try clear ho0)) | ((with_reducible refine gate_callee (f := 99) rfl ?_); refine goesL_ (some 14) rfl rfl Tryz.func99 (by kernel_rfl) rfl #[.int .i64 a1] rfl (by (try simp only [List.map_toArray, List.map_cons, List.map_nil]); first | done | rfl | (simp only [List.length_drop, List.length_take]; rfl)) ?_; (with_reducible refine (weftref1_size.calls a1 t390 _ A5.out).mono ?_); rintro e w' ⟨rfl, ⟨nd, rfl⟩⟩; refine ⟨_, rfl, ?_⟩; (try (rw [drewN_self w9]; generalize hq_ : World.drewN w9 _ = w9; have n0_ : Aside0 (Kd.R (Kd.int .i64) 3 w9 w.heap.size (fun k_ => (w.heap.size ≤ k_)) v388 t387) := ⟨by rw [← hq_]; exact (by (with_reducible repeat (first | apply Kd.R_alloc | apply Kd.R_drewN | apply Kd.R_drew)); exact Kd.R_mono HO389.out (fun _ hk => hk.1))⟩; have n1_ : Aside0 (w9.heap[gb385]? = some (.cells #[.bool false, .slice none 0 0, .slice none 0 0] 67 (0, 0))) := ⟨by rw [← hq_]; exact (by (with_reducible repeat (first | refine blk_drewN ?_ _ | refine blk_drew ?_ | refine blk_alloc ?_ _)); exact BK385.out)⟩; have n2_ : Aside0 (Below w.heap.size w w9) := ⟨by rw [← hq_]; exact (by repeat (first | (with_reducible first | exact HB.out | apply below_alloc | apply pw_below_drewN | apply below_drew1 | refine below_set ?_ GE385.out) | exact HB.out))⟩; clear HO389 BK385 HB hq_; have HO389 := n0_; have BK385 := n1_; have HB := n2_; clear n0_ n1_ n2_))) | ((with_reducible refine gate_callee (f := 98) rfl ?_); refine goesL_ (some 15) rfl rfl Tryz.func98 (by kernel_rfl) rfl #[.int .u64 t390] rfl (by (try simp only [List.map_toArray, List.map_cons, List.map_nil]); first | done | rfl | (simp only [List.length_drop, List.length_take]; rfl)) ?_; (with_reducible refine (weftref1_natOf.calls k t390 t391 _ A6.out).mono ?_); rintro e w10 ⟨v392, rfl, ho0, hb⟩; refine ⟨_, rfl, ?_⟩; have n0_ := Aside0.mk (Kd.R_elder' (by (with_reducible repeat (first | apply Kd.R_alloc | apply Kd.R_drewN | apply Kd.R_drew)); exact HO389.out) (Kd.R_base ho0) hb); have n1_ := Aside0.mk (Kd.R_lower (Kd.R_new' (Kd.R_newM (M := fun k_ => (w.heap.size ≤ k_)) ho0 (below_size (by repeat (first | (with_reducible first | exact HB.out | apply below_alloc | apply pw_below_drewN | apply below_drew1 | refine below_set ?_ GE385.out) | exact HB.out))) (fun k_ h_ => h_)) (Kd.R_lt (by (with_reducible repeat (first | apply Kd.R_alloc | apply Kd.R_drewN | apply Kd.R_drew)); exact HO389.out))) (below_size (by repeat (first | (with_reducible first | exact HB.out | apply below_alloc | apply pw_below_drewN | apply below_drew1 | refine below_set ?_ GE385.out) | exact HB.out)))); have n2_ := Aside0.mk (blk_below (g := gb385) (o := .cells #[.bool false, .slice none 0 0, .slice none 0 0] 67 (0, 0)) (by (with_reducible repeat (first | refine blk_drewN ?_ _ | refine blk_drew ?_ | refine blk_alloc ?_ _)); exact BK385.out) hb); have n3_ := Aside0.mk (below_step (by repeat (first | (with_reducible first | exact HB.out | apply below_alloc | apply pw_below_drewN | apply below_drew1 | refine below_set ?_ GE385.out) | exact HB.out)) hb); clear HO389; clear BK385; clear HB; have HO389 := n0_; have HO393 := n1_; have BK385 := n2_; have HB := n3_; clear n0_ n1_ n2_ n3_; (try clear hb); (try clear hb2); (try clear hk); (try clear hi); (try clear ho0); obtain ⟨Ao11, co11, eo11⟩ := Kd.R_slice HO389.out; subst eo11; obtain ⟨Ao12, co12, eo12⟩ := Kd.R_slice HO393.out; subst eo12) | ((with_reducible refine gate_callee (f := 101) rfl ?_); refine goesL_ (some 16) rfl rfl Tryz.func101 (by kernel_rfl) rfl #[.bool (!(b1_ == b2_)), .slice Ao11 t387.length co11, .slice Ao12 t391.length co12] rfl (by (try simp only [List.map_toArray, List.map_cons, List.map_nil]); first | done | rfl | (simp only [List.length_drop, List.length_take]; rfl)) ?_; (with_reducible refine (weftref1_numOf.calls k (!(b1_ == b2_)) (fun k_ => some k_ = (.slice Ao11 t387.length co11 : Value).ownBlock) _ _ t387 (fun k_ => some k_ = (.slice Ao12 t391.length co12 : Value).ownBlock) _ _ t391 t394 t395 t398 _ ?side1 ?side2 A7.out).mono ?_); (case side1 => exact Kd.R_V (Kd.R_tight rfl (Kd.R_types (HO389.out) BK385.out (by decide)))); (case side2 => exact Kd.R_V (Kd.R_tight rfl (Kd.R_types (HO393.out) BK385.out (by decide)))); rintro e w13 ⟨v396, v399, rfl, ho0, ho1, hb⟩; refine ⟨_, rfl, ?_⟩; have n0_ := Aside0.mk (Kd.R_below (by (with_reducible repeat (first | apply Kd.R_alloc | apply Kd.R_drewN | apply Kd.R_drew)); exact HO389.out) hb); have n1_ := Aside0.mk (Kd.R_below (by (with_reducible repeat (first | apply Kd.R_alloc | apply Kd.R_drewN | apply Kd.R_drew)); exact HO393.out) hb); have n2_ := Aside0.mk (Kd.V_lower (Kd.V_mono (ok' := fun k_ => (w.heap.size ≤ k_) ∧ k_ ≠ gb385) ho0 (fun k_ hk_ => ⟨Or.elim hk_ (fun hs_ => Or.elim hs_ (fun hs_ => (by have hq_ := (Kd.R_types (HO389.out) BK385.out (by decide)).1 k_ hs_.symm; first | exact hq_.1.1.1 | exact hq_.1.1)) (fun hs_ => (by have hq_ := (Kd.R_types (HO393.out) BK385.out (by decide)).1 k_ hs_.symm; first | exact hq_.1.1.1 | exact hq_.1.1))) (fun hn_ => (Nat.le_trans (below_size (by repeat (first | (with_reducible first | exact HB.out | apply below_alloc | apply pw_below_drewN | apply below_drew1 | refine below_set ?_ GE385.out) | exact HB.out))) hn_)), Or.elim hk_ (fun hs_ => Or.elim hs_ (fun hs_ => ((Kd.R_types (HO389.out) BK385.out (by decide)).1 k_ hs_.symm).2) (fun hs_ => ((Kd.R_types (HO393.out) BK385.out (by decide)).1 k_ hs_.symm).2)) (fun hn_ => (Kd.freshB (g := gb385) (o := .cells #[.bool false, .slice none 0 0, .slice none 0 0] 67 (0, 0)) (by (with_reducible repeat (first | refine blk_drewN ?_ _ | refine blk_drew ?_ | refine blk_alloc ?_ _)); exact BK385.out) k_ hn_))⟩)) (below_size (by repeat (first | (with_reducible first | exact HB.out | apply below_alloc | apply pw_below_drewN | apply below_drew1 | refine below_set ?_ GE385.out) | exact HB.out)))); have n3_ := Aside0.mk (Kd.V_lower (Kd.V_mono (ok' := fun k_ => (w.heap.size ≤ k_) ∧ k_ ≠ gb385) ho1 (fun k_ hk_ => ⟨Or.elim hk_ (fun hs_ => Or.elim hs_ (fun hs_ => (by have hq_ := (Kd.R_types (HO389.out) BK385.out (by decide)).1 k_ hs_.symm; first | exact hq_.1.1.1 | exact hq_.1.1)) (fun hs_ => (by have hq_ := (Kd.R_types (HO393.out) BK385.out (by decide)).1 k_ hs_.symm; first | exact hq_.1.1.1 | exact hq_.1.1))) (fun hn_ => (Nat.le_trans (below_size (by repeat (first | (with_reducible first | exact HB.out | apply below_alloc | apply pw_below_drewN | apply below_drew1 | refine below_set ?_ GE385.out) | exact HB.out))) hn_)), Or.elim hk_ (fun hs_ => Or.elim hs_ (fun hs_ => ((Kd.R_types (HO389.out) BK385.out (by decide)).1 k_ hs_.symm).2) (fun hs_ => ((Kd.R_types (HO393.out) BK385.out (by decide)).1 k_ hs_.symm).2)) (fun hn_ => (Kd.freshB (g := gb385) (o := .cells #[.bool false, .slice none 0 0, .slice none 0 0] 67 (0, 0)) (by (with_reducible repeat (first | refine blk_drewN ?_ _ | refine blk_drew ?_ | refine blk_alloc ?_ _)); exact BK385.out) k_ hn_))⟩)) (below_size (by repeat (first | (with_reducible first | exact HB.out | apply below_alloc | apply pw_below_drewN | apply below_drew1 | refine below_set ?_ GE385.out) | exact HB.out)))); have n4_ := Aside0.mk (blk_below (g := gb385) (o := .cells #[.bool false, .slice none 0 0, .slice none 0 0] 67 (0, 0)) (by (with_reducible repeat (first | refine blk_drewN ?_ _ | refine blk_drew ?_ | refine blk_alloc ?_ _)); exact BK385.out) hb); have n5_ := Aside0.mk (below_step (by repeat (first | (with_reducible first | exact HB.out | apply below_alloc | apply pw_below_drewN | apply below_drew1 | refine below_set ?_ GE385.out) | exact HB.out)) hb); clear HO389; clear HO393; clear BK385; clear HB; have HO389 := n0_; have HO393 := n1_; have HO397 := n2_; have HO400 := n3_; have BK385 := n4_; have HB := n5_; clear n0_ n1_ n2_ n3_ n4_ n5_; (try clear hb); (try clear hb2); (try clear hk); (try clear hi); (try clear ho0); (try clear ho1); have hcz14_0 : w13.cell? ⟨gb385, 0, none⟩ = some (.bool false) := (blk_cell BK385.out 0).trans rfl; have hcz14_1 : w13.cell? ⟨gb385, 1, none⟩ = some (.slice none 0 0) := (blk_cell BK385.out 1).trans rfl; have hcz14_2 : w13.cell? ⟨gb385, 2, none⟩ = some (.slice none 0 0) := (blk_cell BK385.out 2).trans rfl; have hfz14_0 := blk_frozen BK385.out 0; have hfz14_1 := blk_frozen BK385.out 1; have hfz14_2 := blk_frozen BK385.out 2; obtain ⟨Ao15, co15, eo15⟩ := Kd.V_slice HO397.out; subst eo15; obtain ⟨Ao16, co16, eo16⟩ := Kd.V_slice HO400.out; subst eo16))
 refine bodyPost_ret (results_cell_row rfl _ _ gb385 67 #[.bool t394, .slice Ao15 t395.length co15, .slice Ao16 t398.length co16] (0, 0) _ rfl (by (with_reducible repeat (first | refine blk_drewN ?_ _ | refine blk_drew ?_ | refine blk_alloc ?_ _)); refine blk_put (cs := #[.bool t394, .slice Ao15 t395.length co15, .slice none 0 0]) ?_ 2 _ rfl; (with_reducible repeat (first | refine blk_drewN ?_ _ | refine blk_drew ?_ | refine blk_alloc ?_ _)); refine blk_put (cs := #[.bool t394, .slice none 0 0, .slice none 0 0]) ?_ 1 _ rfl; (with_reducible repeat (first | refine blk_drewN ?_ _ | refine blk_drew ?_ | refine blk_alloc ?_ _)); refine blk_put (cs := #[.bool false, .slice none 0 0, .slice none 0 0]) ?_ 0 _ rfl; (with_reducible repeat (first | refine blk_drewN ?_ _ | refine blk_drew ?_ | refine blk_alloc ?_ _)); exact BK385.out) Tryz.underlying67 rfl (by kernel_rfl)) rfl ?_
 exact ⟨_, _, by first | rfl | (simp [errW_none, errW_some] <;> rfl) | (simp [*, errW_none, errW_some] <;> rfl), by (with_reducible repeat (first | apply Kd.V_alloc | apply Kd.V_drewN | apply Kd.V_drew)); exact Kd.V_mono (Kd.V_far (p := ⟨gb385, 2, none⟩) (Kd.V_far (p := ⟨gb385, 1, none⟩) (Kd.V_far (p := ⟨gb385, 0, none⟩) (Kd.V_mono HO397.out (fun k_ hk => (⟨hk, hk.2⟩ : _ ∧ k_ ≠ gb385))) (fun _ hk => hk.2) (.bool t394)) (fun _ hk => hk.2) (.slice Ao15 t395.length co15)) (fun _ hk => hk.2) (.slice Ao16 t398.length co16)) (fun _ hk => hk.1.1), by (with_reducible repeat (first | apply Kd.V_alloc | apply Kd.V_drewN | apply Kd.V_drew)); exact Kd.V_mono (Kd.V_far (p := ⟨gb385, 2, none⟩) (Kd.V_far (p := ⟨gb385, 1, none⟩) (Kd.V_far (p := ⟨gb385, 0, none⟩) (Kd.V_mono HO400.out (fun k_ hk => (⟨hk, hk.2⟩ : _ ∧ k_ ≠ gb385))) (fun _ hk => hk.2) (.bool t394)) (fun _ hk => hk.2) (.slice Ao15 t395.length co15)) (fun _ hk => hk.2) (.slice Ao16 t398.length co16)) (fun _ hk => hk.1.1), by repeat (first | (with_reducible first | exact HB.out | apply below_alloc | apply pw_below_drewN | apply below_drew1 | refine below_set ?_ GE385.out) | exact HB.out)⟩

end
end Go.Proofs.YtaffkbemjbfajaaGreatDoor.PNumMakes
