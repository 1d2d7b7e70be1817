/-
  A run of the program over a small heap of its own, and that whatever goes well in it goes so in the machine (part b). No condition.
-/
import Derived.Test.YtcoecbpeilmdmaaGreatDoorCxa
import Derived.Laws.Slices
import Derived.Laws.BytesString
set_option linter.unusedVariables false
set_option linter.unusedSimpArgs false
namespace Go.Proofs.YtcoecbpeilmdmaaGreatDoorCx
section defs
variable (E : Env) (N : Nat)
noncomputable def optK (o : Option Value) (d : Nat) (k : Nat → R) : R := match o with | none => k d | some v => natK v k
noncomputable def sliceK (t : TypeId) (x : Value) (lo hi mx : Option Value) (h : Hp) (k : VK) : R :=
  tyK E t fun ti => match ti.desc with
    | .string => match x with
      | .string s => match mx with
        | none => lenK0 s.data.toList fun z => optK hi z fun j => optK lo 0 fun i => cut (Nat.ble i j) (cut (Nat.ble j z) (k (.string ⟨⟨(s.data.toList.drop i).take (j - i)⟩⟩)) (.no 80)) (.no 81)
        | some _ => .no 82
      | _ => .no 83
    | .slice e => match x with
      | .slice a n c => cut (Bool.rec (optNone mx) true (notB (optNone hi))) (optK mx c fun m => optK hi n fun j => optK lo 0 fun i => cut (Nat.ble m c) (cut (Nat.ble j m) (cut (Nat.ble i j) (tyK E e fun te => fN (j - i) fun n' => fN (m - i) fun c' =>
        match a with
        | none => k (.slice none n' c')
        | some a =>
          let fin := fN (a.off + i * te.size) fun o => k (.slice (some ⟨a.block, o, none⟩) n' c')
          let rigid := fun (x : R) => blkK h a.block fun _ g _ _ => Bool.rec (motive := fun _ => R) x (.no 84) g
          match mx with
          | none => Bool.rec (motive := fun _ => R) fin (Bool.rec (motive := fun _ => R) (rigid (k (.slice (some a) n' c'))) fin (Nat.beq (i * te.size) 0)) (Nat.beq m i)
          | some _ => rigid (Bool.rec (motive := fun _ => R) fin (k (.slice (some a) n' c')) (Nat.beq m i))) (.no 85)) (.no 86)) (.no 87)) (.no 90)
      | _ => .no 88
    | _ => .no 89
  where lenK0 (l : List UInt8) (k : Nat → R) : R := fN l.length k
end defs
variable {P : Program} {E : Env} {N : Nat} {F : Nat → Prop} {ρ : Mp} {h : Hp} {w : World}
/-- Optional values that correspond. -/
inductive OR (ρ : Mp) : Option Value → Option Value → Prop
  | none : OR ρ none none
  | some {v v'} : VR ρ v v' → OR ρ (some v) (some v')
theorem optK_ok {o o' : Option Value} {d : Nat} {k : Nat → R} (e : optK o d k = .ok) (ho : OR ρ o o') : ∃ n, k n = .ok ∧ ((o = none ∧ o' = none ∧ n = d) ∨ ∃ kd, o' = some (.int kd (.ofNat n)) ∧ o.isSome) := by
  cases ho with
  | none => exact ⟨d, e, .inl ⟨rfl, rfl, rfl⟩⟩
  | some hv =>
    obtain ⟨kd, n, rfl, e⟩ := natK_ok e
    cases hv
    exact ⟨n, e, .inr ⟨kd, rfl, rfl⟩⟩
theorem makeSliceK_ok (H : EnvOk P E) (W : WR E F ρ h w) {t : TypeId} {l c l' c' : Value} {k : Hk} (e : makeSliceK E t l c h k = .ok) (hl : VR ρ l l') (hc : VR ρ c c') : Gives P E F ρ h w (Instr.makeSlice t l' c') k := by
  obtain ⟨ti, i, z, h2, T, e1⟩ := tyK_ok' H e
  clear e
  split at e1
  · rename_i el hd
    obtain ⟨kl, nl, rfl, e2⟩ := natK_ok e1
    obtain ⟨kc, nc, rfl, e3⟩ := natK_ok e2
    obtain ⟨hle, e4⟩ := cut_ok e3
    obtain ⟨hb, e5⟩ := cut_ok e4
    have hle := ble_ok hle
    have hb := ble_ok hb
    obtain ⟨te, i', z', h3, T', e6⟩ := tyK_ok' H e5
    rw [copiesK_eq] at e6
    cases hl; cases hc
    have hzs : z'.cells.size = te.size := by rw [← Array.length_toList, T'.cells, T'.zlen]
    have hz : VL ρ (List.replicate nc te.zero).flatten ((Array.range (nc * te.size)).map (z'.cells[· % z'.cells.size]!)).toList := by
      have := rep_eq z'.cells nc
      rw [hzs] at this ⊢
      rw [this, T'.cells]
      exact (flats_VL T'.flat ρ).replicate nc
    obtain ⟨h', e, hp, x, y⟩ := rowK_ok W e6 hz
    have hle' : (IntKind.i64.wrap (nl : Int)) = nl := wrap_in .i64 _ (by simp only [lo]; omega) (by simp only [hi]; omega)
    have hce' : (IntKind.i64.wrap (nc : Int)) = nc := wrap_in .i64 _ (by simp only [lo]; omega) (by simp only [hi]; omega)
    have hbytes := T'.less
    have htl : ¬ ((i'.bytes : Int) * (nc : Int) > 2 ^ 48) := by
      rw [T'.bytes]
      have h1 : te.bytes * nc ≤ te.bytes * 4294967296 := Nat.mul_le_mul_left _ (by omega)
      have h2 : te.bytes * nc ≤ 2 ^ 48 := by omega
      intro hc
      have : ((te.bytes * nc : Nat) : Int) > 2 ^ 48 := by rw [Int.natCast_mul]; exact hc
      omega
    refine ⟨_, h', _, _, _, e, ?_, VR.slice (a := ⟨h.n, 0, none⟩) nl nc hp rfl, x, y⟩
    have hcond : ((decide ((nc : Int) < 0) || decide ((i'.bytes : Int) * (nc : Int) > 2 ^ 48)) || decide ((nl : Int) < 0) || decide ((nl : Int) > (nc : Int))) = false := by
      simp only [Bool.or_eq_false_iff, decide_eq_false_iff_not]
      refine ⟨⟨⟨by omega, htl⟩, by omega⟩, by omega⟩
    simp only [Instr.makeSlice, Sem.run_bind, T.run_und, hd, Result.andThen_ok, asInt, asIntOf, Sem.run_pure, T'.run_info, Int.ofNat_eq_natCast, hle', hce', hcond, Bool.false_eq_true, if_false, run_askRoom, T'.run_size, Int.toNat_natCast]
    by_cases h0 : nc * te.size = 0
    · rw [if_pos h0]
      have hq : (Array.map (fun x => (#[] : Array Value)[x % (#[] : Array Value).size]!) (Array.range (nc * te.size))) = (Array.range (nc * te.size)).map (z'.cells[· % z'.cells.size]!) := by rw [h0]; simp
      simp only [Sem.run_bind, Sem.run_pure, Result.andThen_ok, hq, run_newRow]
      rfl
    · rw [if_neg h0]
      simp only [Sem.run_bind, T'.run_zero, Sem.run_pure, Result.andThen_ok, run_newRow]
      rfl
  · cases e1
theorem run_bounds {isS : Bool} {len cap c d : Nat} {lo hi mx : Option Value} {l j m : Nat} (hm : (mx = none ∧ m = cap) ∨ ∃ kd, mx = some (.int kd (.ofNat m))) (hj : (hi = none ∧ mx = none ∧ j = len) ∨ ∃ kd, hi = some (.int kd (.ofNat j)))
    (hl : (lo = none ∧ l = 0) ∨ ∃ kd, lo = some (.int kd (.ofNat l))) (h1 : m ≤ cap) (h2 : j ≤ m) (h3 : l ≤ j) (w : World) : (Instr.sliceBounds isS len cap lo hi mx).run P w = .ok (l, j, m) w := by
  have b : ∀ (kd : IntKind) (x y : Nat) (code : BoundsCode), x ≤ y → (Instr.sliceBound (.int kd (x : Int)) y code).run P w = .ok x w := fun kd x y code hxy => by
    have := run_sliceBound (P := P) w kd (x : Int) y code (by omega) (by omega)
    simpa using this
  unfold Instr.sliceBounds
  rcases hm with ⟨rfl, rfl⟩ | ⟨km, rfl⟩ <;> rcases hj with ⟨rfl, hj1, rfl⟩ | ⟨kj, rfl⟩ <;> rcases hl with ⟨rfl, rfl⟩ | ⟨kl, rfl⟩ <;> first
    | (cases hj1; done)
    | simp [b _ _ _ _ h1, b _ _ _ _ h2, b _ _ _ _ h3]
theorem sliceK_ok (H : EnvOk P E) (W : WR E F ρ h w) {t : TypeId} {x x' : Value} {lo lo' hi hi' mx mx' : Option Value} {k : Hk} (e : sliceK E t x lo hi mx h (fun v => k v h) = .ok) (hx : VR ρ x x') (hlo : OR ρ lo lo') (hhi : OR ρ hi hi') (hmx : OR ρ mx mx') :
    GivesP P ρ h w (Instr.sliceAt t x' lo' hi' mx') k := by
  obtain ⟨ti, i, z, h2, T, e1⟩ := tyK_ok' H e
  clear e
  split at e1
  · rename_i hd
    split at e1
    · rename_i s
      split at e1
      · cases hmx
        simp only [sliceK.lenK0, fN_eq] at e1
        obtain ⟨j, e2, hj⟩ := optK_ok e1 hhi
        obtain ⟨l, e3, hl⟩ := optK_ok e2 hlo
        obtain ⟨c1, e4⟩ := cut_ok e3
        obtain ⟨c2, e5⟩ := cut_ok e4
        have c1 := ble_ok c1
        have c2 := ble_ok c2
        cases hx
        refine .flat W e5 ?_ rfl
        have hsz : s.data.toList.length = s.size := Array.length_toList
        have hb := run_bounds (P := P) (isS := false) (len := s.size) (cap := s.size) (c := 0) (d := 0) (m := s.size) (mx := none) (lo := lo') (hi := hi') (l := l) (j := j) (.inl ⟨rfl, rfl⟩)
          (by rcases hj with ⟨_, a, b⟩ | ⟨kd, a, _⟩
              · exact .inl ⟨a, rfl, by omega⟩
              · exact .inr ⟨kd, a⟩)
          (by rcases hl with ⟨_, a, b⟩ | ⟨kd, a, _⟩
              · exact .inl ⟨a, b⟩
              · exact .inr ⟨kd, a⟩) (Nat.le_refl _) (by omega) c1 w
        have hext : s.extract l j = ⟨⟨(s.data.toList.drop l).take (j - l)⟩⟩ := by
          apply ByteArray.ext
          rw [ByteArray.data_extract]
          apply Array.ext'
          simp [Array.toList_extract, List.extract_eq_take_drop]
        simp only [Instr.sliceAt, Sem.run_bind, T.run_und, hd, Result.andThen_ok, Instr.slice, Option.isSome_none, Bool.false_eq_true, if_false, hb, Sem.run_pure, hext]
      · cases e1
    · cases e1
  · rename_i el hd
    split at e1
    · rename_i a n c
      obtain ⟨c0, e0⟩ := cut_ok e1
      clear e1
      obtain ⟨m, e2, hm⟩ := optK_ok e0 hmx
      obtain ⟨j, e3, hj⟩ := optK_ok e2 hhi
      obtain ⟨l, e4, hl⟩ := optK_ok e3 hlo
      clear e0 e2 e3
      obtain ⟨c1, e5⟩ := cut_ok e4
      obtain ⟨c2, e6⟩ := cut_ok e5
      obtain ⟨c3, e7⟩ := cut_ok e6
      clear e4 e5 e6
      have c1 := ble_ok c1
      have c2 := ble_ok c2
      have c3 := ble_ok c3
      obtain ⟨te, i', z', h3, T', e8⟩ := tyK_ok' H e7
      clear e7
      simp only [fN_eq] at e8
      have hhl : (lo' = none ∧ l = 0) ∨ ∃ kd, lo' = some (.int kd (.ofNat l)) := by
        rcases hl with ⟨_, a, b⟩ | ⟨kd, a, _⟩
        · exact .inl ⟨a, b⟩
        · exact .inr ⟨kd, a⟩
      have hhj : (hi' = none ∧ mx' = none ∧ j = n) ∨ ∃ kd, hi' = some (.int kd (.ofNat j)) := by
        rcases hj with ⟨q1, q2, q3⟩ | ⟨kd, a, _⟩
        · refine .inl ⟨q2, ?_, q3⟩
          subst q1
          cases hmx with
          | none => rfl
          | some _ => cases c0
        · exact .inr ⟨kd, a⟩
      cases hx with
      | snil =>
        simp only at e8
        have hb := run_bounds (P := P) (isS := true) (len := n) (cap := c) (c := 0) (d := 0) (m := m) (mx := mx') (lo := lo') (hi := hi') (l := l) (j := j)
          (by rcases hm with ⟨_, a, b⟩ | ⟨kd, a, _⟩
              · exact .inl ⟨a, b⟩
              · exact .inr ⟨kd, a⟩) hhj hhl c1 c2 c3 w
        refine .pure W e8 ?_ (.snil _ _)
        simp only [Instr.sliceAt, Sem.run_bind, T.run_und, hd, Result.andThen_ok, Instr.slice, hb, T'.run_size, Sem.run_pure]
        simp
      | @slice a p _ _ hp hs =>
        simp only at e8
        have run : ∀ (m' : Nat), (mx' = none ∧ m' = c + p.d) ∨ (∃ kd, mx' = some (.int kd (.ofNat m'))) → m' ≤ c + p.d → j ≤ m' →
            (Instr.sliceAt t (.slice (some (p.at a)) n (c + p.d)) lo' hi' mx').run P w = .ok (.slice (if m' = l then some (p.at a) else (some (p.at a)).map (·.add (l * te.size))) (j - l) (m' - l)) w := by
          intro m' q1 q2 q3
          have hb := run_bounds (P := P) (isS := true) (len := n) (cap := c + p.d) (c := 0) (d := 0) (m := m') (mx := mx') (lo := lo') (hi := hi') (l := l) (j := j) q1 hhj hhl q2 q3 c3 w
          simp only [Instr.sliceAt, Sem.run_bind, T.run_und, hd, Result.andThen_ok, Instr.slice, hb, T'.run_size, Sem.run_pure]
        have moved : (p.at a).add (l * te.size) = p.at ⟨a.block, a.off + l * te.size, none⟩ := by rw [Pl.at_add]; rfl
        have rig : ∀ {x : R}, (blkK h a.block fun _ g _ _ => Bool.rec (motive := fun _ => R) x (.no 84) g) = .ok → p.d = 0 ∧ x = .ok := by
          intro x hx
          obtain ⟨e', g, wr, cs, g1, g2⟩ := blkK_ok hx
          obtain ⟨c', fz, R⟩ := W.get hp g1
          cases g with
          | true => cases g2
          | false => exact ⟨(R.exact rfl).1, g2⟩
        rcases hm with ⟨rfl, q2, rfl⟩ | ⟨kd, q1, q2⟩
        · simp only at e8
          have r := run (m + p.d) (.inl ⟨q2, rfl⟩) (Nat.le_refl _) (by omega)
          cases b1 : Nat.beq m l with
          | false =>
            rw [b1] at e8
            have hne : m ≠ l := fun c => by subst c; simp at b1
            rw [if_neg (by omega)] at r
            refine .pure W e8 (r.trans ?_) (VR.slice (a := ⟨a.block, a.off + l * te.size, none⟩) _ _ hp rfl)
            rw [Option.map_some, moved, show m + p.d - l = m - l + p.d by omega]
          | true =>
            rw [b1] at e8
            have hml := beq_ok b1
            cases b2 : Nat.beq (l * te.size) 0 with
            | true =>
              rw [b2] at e8
              have hz := beq_ok b2
              refine .pure W e8 (r.trans ?_) (VR.slice (a := ⟨a.block, a.off + l * te.size, none⟩) _ _ hp rfl)
              rw [Option.map_some, moved, show m + p.d - l = m - l + p.d by omega, hz]
              split <;> rfl
            | false =>
              rw [b2] at e8
              obtain ⟨hd0, e9⟩ := rig e8
              rw [if_pos (by omega)] at r
              refine .pure W e9 (r.trans ?_) (VR.slice _ _ hp hs)
              rw [show m + p.d - l = m - l + p.d by omega]
        · cases hmx with
          | none => cases q2
          | some hv =>
            simp only at e8
            obtain ⟨hd0, e9⟩ := rig e8
            have r := run m (.inr ⟨kd, q1⟩) (by omega) c2
            cases b1 : Nat.beq m l with
            | false =>
              rw [b1] at e9
              have hne : m ≠ l := fun c => by subst c; simp at b1
              rw [if_neg hne] at r
              refine .pure W e9 (r.trans ?_) (VR.slice (a := ⟨a.block, a.off + l * te.size, none⟩) _ _ hp rfl)
              rw [Option.map_some, moved, hd0]; rfl
            | true =>
              rw [b1] at e9
              rw [if_pos (beq_ok b1)] at r
              refine .pure W e9 (r.trans ?_) (VR.slice _ _ hp hs)
              rw [hd0]; rfl
    · cases e1
  · cases e1
end Go.Proofs.YtcoecbpeilmdmaaGreatDoorCx
namespace Go.Proofs.YtcoecbpeilmdmaaGreatDoorCx
section defs
variable (E : Env) (N : Nat)
noncomputable def bytesK (l : List UInt8) : CsK → R :=
  List.rec (motive := fun _ => CsK → R) (fun k => k []) (fun b _ ih k => fN b.toNat fun n => ih fun r => k (.int .u8 (.ofNat n) :: r)) l
/-- How many elements, and their cells. -/
noncomputable def newsK (te : TI) (d : TypeDesc) (y : Value) (h : Hp) (k : Nat → List Value → R) : R :=
  match d with
  | .slice _ => match y with
    | .slice none m _ => cut (Nat.beq m 0) (k 0 []) (.no 100)
    | .slice (some b) m _ => blkK h b.block fun _ _ _ cs => dropK b.off cs fun cs => takeK (m * te.size) cs fun cs => k m cs
    | _ => .no 101
  | .string => match y with
    | .string s => cut (Nat.beq te.size 1) (fN s.data.toList.length fun m => bytesK s.data.toList fun cs => k m cs) (.no 102)
    | _ => .no 103
  | .int _ => match y with
    | .int _ (.ofNat m) => cut (Nat.ble m 0x7fffffff) (copiesK te.zero m fun cs => k m cs) (.no 104)
    | _ => .no 105
  | _ => .no 106
noncomputable def growK (e : TypeId) (q : Nat) (old new : List Value) (h : Hp) (k : Hk) : R :=
  appK old new fun cs => newK h (.cells e true true cs) fun b h => k (.slice (some ⟨b, 0, none⟩) q q) h
noncomputable def appendK (s t2 : TypeId) (x y : Value) (h : Hp) (k : Hk) : R :=
  tyK E s fun ti => match ti.desc with
    | .slice e => tyK E e fun te => tyK E t2 fun ti2 => match x with
      | .slice a n c => newsK te ti2.desc y h fun m new => fN (n + m) fun q => cut (Nat.blt q 4294967296)
        (Bool.rec (motive := fun _ => R)
          (match a with
          | none => cut (Nat.beq n 0) (growK e q [] new h k) (.no 107)
          | some a => blkK h a.block fun e' g wr cs => dropK a.off cs fun l => takeK (n * te.size) l fun old =>
            Bool.rec (motive := fun _ => R) (growK e q old new h k)
              (cut (Nat.beq e' e) (cut wr (cut (ones new) (lenK cs fun len => cut (Nat.beq (a.off + c * te.size) len) (hpK h .dead a.block fun h => growK e q old new h k) (.no 108)) (.no 109)) (.no 110)) (.no 111)) g)
          (match a with
          | none => k (.slice none q c) h
          | some a => blkK h a.block fun e' g wr cs => cut wr (cut (ones new) (setK new (a.off + n * te.size) cs fun cs => hpK h (.cells e' g wr cs) a.block fun h => k (.slice (some a) q c) h) (.no 112)) (.no 113))
          (Nat.ble q c)) (.no 114)
      | _ => .no 115
    | _ => .no 116
end defs
variable {P : Program} {E : Env} {N : Nat} {F : Nat → Prop} {ρ : Mp} {h : Hp} {w w' : World}
theorem bytesK_eq : ∀ (l : List UInt8) (k : CsK), bytesK l k = k (l.map fun b => .int .u8 (b.toNat : Int))
  | [], _ => rfl
  | b :: l, k => by
    show fN b.toNat (fun n => bytesK l fun r => k (.int .u8 (.ofNat n) :: r)) = _
    rw [fN_eq, bytesK_eq l]; rfl
theorem flats_append {a b : List Value} (ha : flats a = true) (hb : flats b = true) : flats (a ++ b) = true := by
  induction a with
  | nil => exact hb
  | cons v l ih =>
    have h' : (Bool.rec (motive := fun _ => Bool) false (flats l) (flat1 v)) = true := ha
    show (Bool.rec (motive := fun _ => Bool) false (flats (l ++ b)) (flat1 v)) = true
    cases e : flat1 v with
    | false => rw [e] at h'; cases h'
    | true => rw [e] at h'; exact ih h'
theorem bytes_VL (ρ : Mp) : ∀ l : List UInt8, VL ρ (l.map fun b => .int .u8 (b.toNat : Int)) (l.map fun b => .int .u8 (b.toNat : Int))
  | [] => .nil
  | _ :: l => .cons (.int _ _) (bytes_VL ρ l)
/-- A new block of the small heap in a place that no live block has. -/
theorem WR.place (H : WR E F ρ h w) {c : Cell} {p : Pl} {t' : T Cell} (ht : ∀ m, t'.get m = if m = h.n then some c else h.t.get m) (hfree : ∀ i d q, h.t.get i = some d → d.live → ρ i = some q → q.b ≠ p.b) (hF : ¬ F p.b) (hp : p.b < w.heap.size)
    (hsz : w'.heap.size = w.heap.size) (hot : ∀ b, b ≠ p.b → w'.heap[b]? = w.heap[b]?) (ho : w'.os = w.os) (htp : w'.tape = w.tape) (hout : w'.output = w.output) (hb : Blk E F (ρ.put h.n p) w' p c) :
    WR E F (ρ.put h.n p) ⟨t', h.n + 1⟩ w' ∧ St F ρ h w (ρ.put h.n p) ⟨t', h.n + 1⟩ w' := by
  have hn := H.fresh (Nat.le_refl h.n)
  have hs := sub_put (p := p) hn
  refine ⟨⟨?_, ?_, ?_, ?_, ?_, ?_⟩, ?_, by show h.n ≤ h.n + 1; omega, by omega, fun b hb => hot b (fun e => hF (e ▸ hb)), ho, htp, hout⟩
  · intro j d' hj hd
    simp only [ht] at hj
    by_cases e : j = h.n
    · rw [if_pos e] at hj; cases hj; subst e; exact ⟨_, put_same, hb⟩
    · rw [if_neg e] at hj
      obtain ⟨q, h1, h2⟩ := H.blk j d' hj hd
      exact ⟨q, hs _ _ h1, h2.move (hot _ (hfree j d' q hj hd h1)) hs⟩
  · intro j k d1 d2 q r hj hd1 hk hd2 h1 h2 hne
    simp only [ht] at hj hk
    by_cases e1 : j = h.n
    · by_cases e2 : k = h.n
      · exact absurd (e1.trans e2.symm) hne
      · subst e1
        rw [put_same] at h1; cases h1
        rw [put_other e2] at h2; rw [if_neg e2] at hk
        exact fun c => hfree k d2 r hk hd2 h2 c.symm
    · by_cases e2 : k = h.n
      · subst e2
        rw [put_same] at h2; cases h2
        rw [put_other e1] at h1; rw [if_neg e1] at hj
        exact hfree j d1 q hj hd1 h1
      · rw [if_neg e1] at hj; rw [if_neg e2] at hk
        rw [put_other e1] at h1; rw [put_other e2] at h2
        exact H.apart j k d1 d2 q r hj hd1 hk hd2 h1 h2 hne
  · intro j q hj
    show j < h.n + 1 ∧ _
    by_cases e : j = h.n
    · subst e; rw [put_same] at hj; cases hj; exact ⟨by omega, by omega⟩
    · rw [put_other e] at hj; have := H.dom _ _ hj; omega
  · intro j d' hj
    show j < h.n + 1
    simp only [ht] at hj
    by_cases e : j = h.n
    · omega
    · rw [if_neg e] at hj; have := H.key _ _ hj; omega
  · intro b hb; have := H.fr b hb; omega
  · intro g hg
    exact hs _ _ (H.glob g hg)
  · intro i hi
    exact put_other (by omega)
theorem Row.load' {e : TypeId} {g wr : Bool} {cs : List Value} {p : Pl} {c : Array Value} {fz : Nat × Nat} (R : Row E F ρ w e g wr cs p c fz) (P : Program) (a : Addr) (n : Nat) (hn : a.off + n ≤ cs.length) : ∃ vs' : List Value, VL ρ ((cs.drop a.off).take n) vs' ∧ vs'.length = n ∧ ∀ w2 : World, w2.heap = w.heap → (loadCells (p.at a) n).run P w2 = .ok vs'.toArray w2 := by
  obtain ⟨vs', h1, h2, h3⟩ := R.take a.off n hn
  refine ⟨vs', h1, h2, fun w2 hw => ?_⟩
  subst h2
  exact run_loadCells_list w2 (p.at a) vs' fun j v hj => by
    rw [Pl.at_add]
    simp only [World.cell?, hw, R.heap]
    simpa using h3 j v hj
/-- What an append gives as new cells, on both sides. -/
theorem newsK_ok (H : EnvOk P E) (W : WR E F ρ h w) {el t2 : TypeId} {te ti2 : TI} {i i2 : TypeInfo} {z z2 : Value} (T : Ty P el te i z) (T2 : Ty P t2 ti2 i2 z2) {y y' : Value} {k : Nat → List Value → R} (e : newsK te ti2.desc y h k = .ok) (hy : VR ρ y y') :
    ∃ (m : Nat) (new : List Value) (arr : Array Value) (zeros : Bool), k m new = .ok ∧ VL ρ new arr.toList ∧ new.length = m * te.size ∧ ((zeros = false ∧ ((∃ e2, ti2.desc = .slice e2) ∨ ti2.desc = .string)) ∨ (zeros = true ∧ ∃ kd, ti2.desc = .int kd)) ∧
      (zeros = false → (∀ w, (Builtin.lenOf y').run P w = .ok m w) ∧ ∀ w2 : World, w2.heap = w.heap → (Builtin.firstCells te.size m y').run P w2 = .ok arr w2) ∧
      (zeros = true → m < 2147483648 ∧ (∃ kd, y' = .int kd (.ofNat m)) ∧ arr.toList = (List.replicate m z.cells.toList).flatten) := by
  unfold newsK at e
  split at e
  · rename_i e2 hd
    split at e
    · rename_i m c
      obtain ⟨h1, h2⟩ := cut_ok e
      have h1 := beq_ok h1
      subst h1
      cases hy
      exact ⟨0, [], #[], false, h2, .nil, by simp, .inl ⟨rfl, .inl ⟨_, hd⟩⟩, fun _ => ⟨fun _ => rfl, fun w2 _ => by simp [Builtin.firstCells]⟩, nofun⟩
    · rename_i b m c
      obtain ⟨e', g, wr, cs, h1, e3⟩ := blkK_ok e
      obtain ⟨h3, e4⟩ := dropK_eq _ _ _ e3
      obtain ⟨h4, e5⟩ := takeK_eq _ _ _ e4
      cases hy
      rename_i p hp hs
      obtain ⟨c', fz, R⟩ := W.get hp h1
      simp only [List.length_drop] at h4
      obtain ⟨vs', q1, q2, q3⟩ := R.load' P b (m * te.size) (by omega)
      refine ⟨m, _, vs'.toArray, false, e5, by simpa using q1, by simp only [List.length_take, List.length_drop]; omega, .inl ⟨rfl, .inl ⟨_, hd⟩⟩, fun _ => ⟨fun _ => rfl, fun w2 h2 => by simpa [Builtin.firstCells] using q3 w2 h2⟩, nofun⟩
    · cases e
  · rename_i hd
    split at e
    · rename_i s
      obtain ⟨h1, e1⟩ := cut_ok e
      have h1 := beq_ok h1
      rw [fN_eq, bytesK_eq] at e1
      cases hy
      have hsz : s.data.toList.length = s.size := Array.length_toList
      refine ⟨s.size, _, s.data.map fun b => .int .u8 (b.toNat : Int), false, by rw [hsz] at e1; exact e1, by rw [Array.toList_map]; exact bytes_VL ρ _, by simp only [List.length_map, h1, Nat.mul_one]; exact hsz, .inl ⟨rfl, .inr hd⟩, fun _ => ⟨fun _ => rfl, fun w2 _ => ?_⟩, nofun⟩
      have : s.extract 0 s.size = s := by
        apply ByteArray.ext
        rw [ByteArray.data_extract]
        apply Array.ext'
        simp [Array.toList_extract, List.extract_eq_take_drop]
        exact List.take_of_length_le (by omega)
      simp [Builtin.firstCells, this]
    · cases e
  · rename_i kd hd
    split at e
    · rename_i m
      obtain ⟨h1, e1⟩ := cut_ok e
      have h1 := ble_ok h1
      rw [copiesK_eq] at e1
      cases hy
      refine ⟨m, _, (List.replicate m z.cells.toList).flatten.toArray, true, e1, ?_, ?_, .inr ⟨rfl, _, hd⟩, nofun, fun _ => ⟨by omega, ⟨_, rfl⟩, by simp⟩⟩
      · rw [← T.cells]
        have := flats_VL T.flat ρ
        rw [← T.cells] at this
        simpa using this.replicate m
      · simp [T.zlen]
    · cases e
  · cases e
end Go.Proofs.YtcoecbpeilmdmaaGreatDoorCx
namespace Go.Proofs.YtcoecbpeilmdmaaGreatDoorCx
variable {P : Program} {E : Env} {N : Nat} {F : Nat → Prop} {ρ : Mp} {h : Hp} {w w' : World}
/-- The new cells, as the machine finds them. -/
structure News (P : Program) (te ti2 : TI) (z y' : Value) (m : Nat) (arr : Array Value) (zeros : Bool) : Prop where
  is : (zeros = false ∧ ((∃ e2, ti2.desc = .slice e2) ∨ ti2.desc = .string)) ∨ (zeros = true ∧ ∃ kd, ti2.desc = .int kd)
  plain : zeros = false → ∀ w : World, (Builtin.lenOf y').run P w = .ok m w
  zero : zeros = true → m < 2147483648 ∧ (∃ kd, y' = .int kd (.ofNat m)) ∧ arr.toList = (List.replicate m z.cells.toList).flatten
section
variable {s t2 el : TypeId} {ti te ti2 : TI} {i ie i2 : TypeInfo} {z ze z2 : Value} {y' : Value} {m n cap : Nat} {arr : Array Value} {zeros : Bool} {base : Option Addr}
theorem zeroCells_eq (z : Array Value) (m : Nat) (arr : Array Value) (h : arr.toList = (List.replicate m z.toList).flatten) : Builtin.zeroCells z m = arr := by
  apply Array.ext'
  rw [h, ← rep_eq]
  rfl
theorem run_append_room' (Ts : Ty P s ti i z) (hd : ti.desc = .slice el) (Te : Ty P el te ie ze) (T2 : Ty P t2 ti2 i2 z2) (Nw : News P te ti2 ze y' m arr zeros) (hf : zeros = false → (Builtin.firstCells te.size m y').run P w = .ok arr w) (ty : TypeId)
    (hle : n + m ≤ cap) (hst : ∀ a, base = some a → (storeCells (a.add (n * te.size)) arr.toList).run P w = .ok () w') (hno : base = none → w' = w) :
    (Builtin.append_ #[s, t2] ty #[.slice base n cap, y']).run P w = .ok (.slice base (n + m) cap) w' := by
  have hzs : ze.cells.size = te.size := by rw [← Array.length_toList, Te.cells, Te.zlen]
  have hbytes := Te.less
  rcases Nw.is with ⟨rfl, hdd⟩ | ⟨rfl, kd, hdd⟩
  · have hl := Nw.plain rfl
    have hf' := hf rfl
    cases base with
    | none =>
      have := hno rfl
      subst this
      rcases hdd with ⟨e2, hdd⟩ | hdd <;> simp [Builtin.append_, Ts.run_und, hd, Te.run_size, T2.run_und, hdd, hl, hle, hf']
    | some a => rcases hdd with ⟨e2, hdd⟩ | hdd <;> simp [Builtin.append_, Ts.run_und, hd, Te.run_size, T2.run_und, hdd, hl, hle, hf', hst a rfl]
  · obtain ⟨h1, ⟨kd', rfl⟩, h3⟩ := Nw.zero rfl
    have hw : IntKind.i64.wrap (m : Int) = m := wrap_in .i64 _ (by simp only [lo]; omega) (by simp only [hi]; omega)
    have htl : ¬ (281474976710656 < (m : Int) * (ie.bytes : Int)) := by
      rw [Te.bytes]
      have h1 : m * te.bytes ≤ 4294967296 * te.bytes := Nat.mul_le_mul_right _ (by omega)
      have h2 : m * te.bytes ≤ 281474976710656 := by omega
      intro hc
      have : ((m * te.bytes : Nat) : Int) > 281474976710656 := by rw [Int.natCast_mul]; exact hc
      omega
    have hneg : ¬ ((m : Int) < 0) := by omega
    have h0 : m * te.size = 0 → arr.toList = [] := by
      intro h0
      rw [h3]
      apply List.eq_nil_of_length_eq_zero
      simp [hzs, h0]
    have hz0 := zeroCells_eq ze.cells m arr h3
    by_cases hms : m * te.size = 0
    · have ha : arr = #[] := Array.ext' (h0 hms)
      subst ha
      cases base with
      | none =>
        have := hno rfl
        subst this
        simp [Builtin.append_, Ts.run_und, hd, Te.run_size, T2.run_und, hdd, hle, asInt, asIntOf, hw, Te.run_info, htl, hneg, hms]
      | some a =>
        have hs := hst a rfl
        simp only [hms, Array.toList_empty] at hs
        simp [Builtin.append_, Ts.run_und, hd, Te.run_size, T2.run_und, hdd, hle, asInt, asIntOf, hw, Te.run_info, htl, hneg, hms, hs]
    · cases base with
      | none =>
        have := hno rfl
        subst this
        simp [Builtin.append_, Ts.run_und, hd, Te.run_size, T2.run_und, hdd, hle, asInt, asIntOf, hw, Te.run_info, htl, hneg, hms, Te.run_zero]
      | some a => simp [Builtin.append_, Ts.run_und, hd, Te.run_size, T2.run_und, hdd, hle, asInt, asIntOf, hw, Te.run_info, htl, hneg, hms, Te.run_zero, hz0, hst a rfl]
theorem run_append_grow' (Ts : Ty P s ti i z) (hd : ti.desc = .slice el) (Te : Ty P el te ie ze) (T2 : Ty P t2 ti2 i2 z2) (Nw : News P te ti2 ze y' m arr zeros) (hf : zeros = false → (Builtin.firstCells te.size m y').run P w.drew = .ok arr w.drew) (ty : TypeId)
    (hle : cap < n + m) (hq : n + m < 4294967296) (old : Array Value) (ho : (Builtin.firstCells te.size n (.slice base n cap)).run P w.drew = .ok old w.drew) :
    (Builtin.append_ #[s, t2] ty #[.slice base n cap, y']).run P w = .ok (.slice (some ⟨w.heap.size, 0, none⟩) (n + m) (grownCap w (n + m) cap el)) (w.drew.alloc (.cells (old ++ arr ++ Builtin.zeroCells ze.cells (grownCap w (n + m) cap el - (n + m))) el)) := by
  have hzs : ze.cells.size = te.size := by rw [← Array.length_toList, Te.cells, Te.zlen]
  have hbytes := Te.less
  have hn : ¬ (n + m ≤ cap) := by omega
  have h63 : ¬ (9223372036854775807 < ((n : Int) + (m : Int))) := by omega
  have h48 : ¬ (281474976710656 < Builtin.nextslicecap (n + m) cap * ie.bytes) := by
    have h1 := nextslicecap_le (need := n + m) (old := cap) hle
    have h2 : Builtin.nextslicecap (n + m) cap * ie.bytes ≤ (2 * (n + m)) * ie.bytes := Nat.mul_le_mul_right _ h1
    have h3 : (2 * (n + m)) * ie.bytes ≤ (2 * 4294967296) * ie.bytes := Nat.mul_le_mul_right _ (by omega)
    rw [Te.bytes] at *
    omega
  rcases Nw.is with ⟨rfl, hdd⟩ | ⟨rfl, kd, hdd⟩
  · have hl := Nw.plain rfl
    have hf' := hf rfl
    rcases hdd with ⟨e2, hdd⟩ | hdd <;> simp [Builtin.append_, Ts.run_und, hd, Te.run_size, T2.run_und, hdd, hl, hn, hf', h63, h48, Te.run_info, Question.forced, ho, Te.run_zero, newRow, grownCap]
  · obtain ⟨h1, ⟨kd', rfl⟩, h3⟩ := Nw.zero rfl
    have hw : IntKind.i64.wrap (m : Int) = m := wrap_in .i64 _ (by simp only [lo]; omega) (by simp only [hi]; omega)
    have htl : ¬ (281474976710656 < (m : Int) * (ie.bytes : Int)) := by
      rw [Te.bytes]
      have h1 : m * te.bytes ≤ 4294967296 * te.bytes := Nat.mul_le_mul_right _ (by omega)
      have h2 : m * te.bytes ≤ 281474976710656 := by omega
      intro hc
      have : ((m * te.bytes : Nat) : Int) > 281474976710656 := by rw [Int.natCast_mul]; exact hc
      omega
    have hneg : ¬ ((m : Int) < 0) := by omega
    have hz0 := zeroCells_eq ze.cells m arr h3
    by_cases hms : m * te.size = 0
    · have ha : arr = #[] := by
        apply Array.ext'
        rw [h3]
        apply List.eq_nil_of_length_eq_zero
        simp [hzs, hms]
      subst ha
      simp [Builtin.append_, Ts.run_und, hd, Te.run_size, T2.run_und, hdd, hn, asInt, asIntOf, hw, Te.run_info, htl, hneg, hms, h63, h48, Question.forced, ho, Te.run_zero, newRow, grownCap]
    · simp [Builtin.append_, Ts.run_und, hd, Te.run_size, T2.run_und, hdd, hn, asInt, asIntOf, hw, Te.run_info, htl, hneg, hms, h63, h48, Question.forced, ho, Te.run_zero, newRow, grownCap, hz0]
end
end Go.Proofs.YtcoecbpeilmdmaaGreatDoorCx
namespace Go.Proofs.YtcoecbpeilmdmaaGreatDoorCx
variable {P : Program} {E : Env} {N : Nat} {F : Nat → Prop} {ρ : Mp} {h : Hp} {w w' : World}
theorem grownCap_ge' (w : World) (need old : Nat) (e : TypeId) : need ≤ grownCap w need old e := by simp [grownCap, Question.cut]
theorem WR.drew (W : WR E F ρ h w) : WR E F ρ h w.drew :=
  ⟨fun i c a b => let ⟨p, x, y⟩ := W.blk i c a b; ⟨p, x, y.move rfl (.refl ρ)⟩, W.apart, W.dom, W.key, W.fr, W.glob⟩
/-- A grown row in a new block of the machine's. -/
theorem growK_new (W : WR E F ρ h w) {el : TypeId} {te : TI} {i : TypeInfo} {z : Value} (he : E.ty.get el = some te) (T : Ty P el te i z) {q C : Nat} {old new : List Value} {k : Hk} (e : growK el q old new h k = .ok) {o n : Array Value} (Vo : VL ρ old o.toList) (Vn : VL ρ new n.toList)
    (hl : old.length + new.length = q * te.size) (hC : q ≤ C) :
    ∃ v h' ρ', k v h' = .ok ∧ VR ρ' v (.slice (some ⟨w.heap.size, 0, none⟩) q C) ∧ WR E F ρ' h' (w.drew.alloc (.cells (o ++ n ++ Builtin.zeroCells z.cells (C - q)) el)) ∧ St F ρ h w ρ' h' (w.drew.alloc (.cells (o ++ n ++ Builtin.zeroCells z.cells (C - q)) el)) := by
  unfold growK at e
  rw [appK_eq] at e
  obtain ⟨t', ht, e⟩ := newK_ok e
  have hzs : z.cells.size = te.size := by rw [← Array.length_toList, T.cells, T.zlen]
  have h1 := Vo.length
  have h2 := Vn.length
  simp only [Array.length_toList] at h1 h2
  obtain ⟨a, b⟩ := W.row (w' := w.drew.alloc (.cells (o ++ n ++ Builtin.zeroCells z.cells (C - q)) el)) (fz := (0, 0)) (d := C - q) (g := true) (wr := true) ht rfl rfl rfl rfl
    (by
      have : (o ++ n ++ Builtin.zeroCells z.cells (C - q)).toList.take (old ++ new).length = o.toList ++ n.toList := by
        rw [Array.toList_append, Array.toList_append]
        rw [List.take_left' (by simp; omega)]
      rw [this]
      exact Vo.append Vn)
    (by rw [szE_eq he]; simp [Builtin.zeroCells, hzs]; omega) nofun (fun j _ => by simp)
  refine ⟨_, _, _, e, ?_, a, b⟩
  have := VR.slice (ρ := ρ.put h.n ⟨w.heap.size, 0, C - q⟩) (a := ⟨h.n, 0, none⟩) q q put_same rfl
  simp only [Pl.at] at this
  rw [show q + (C - q) = C by omega] at this
  exact this
theorem appendK_ok (H : EnvOk P E) (W : WR E F ρ h w) {s t2 : TypeId} {x x' y y' : Value} {k : Hk} (e : appendK E s t2 x y h k = .ok) (hx : VR ρ x x') (hy : VR ρ y y') (ty : TypeId) : Gives P E F ρ h w (Builtin.append_ #[s, t2] ty #[x', y']) k := by
  obtain ⟨ti, i, z, h2, T, e1⟩ := tyK_ok' H e
  clear e
  split at e1
  rotate_left
  · cases e1
  rename_i el hd
  obtain ⟨te, ie, ze, he, Te, e2⟩ := tyK_ok' H e1
  clear e1
  obtain ⟨ti2, i2, z2, h3, T2, e3⟩ := tyK_ok' H e2
  clear e2
  split at e3
  rotate_left
  · cases e3
  rename_i a n c
  obtain ⟨m, new, arr, zeros, e4, Vn, hnl, his, hpl, hze⟩ := newsK_ok H W Te T2 e3 hy
  clear e3
  have Nw : News P te ti2 ze y' m arr zeros := ⟨his, fun hz => (hpl hz).1, hze⟩
  rw [fN_eq] at e4
  obtain ⟨hq, e5⟩ := cut_ok e4
  clear e4
  have hq := blt_ok hq
  have hzs : ze.cells.size = te.size := by rw [← Array.length_toList, Te.cells, Te.zlen]
  cases hle : Nat.ble (n + m) c with
  | true =>
    rw [hle] at e5
    have hle := ble_ok hle
    cases hx with
    | snil =>
      exact .pure W e5 (run_append_room' T hd Te T2 Nw (fun hz => (hpl hz).2 w rfl) ty hle nofun (fun _ => rfl)) (.snil _ _)
    | @slice a p _ _ hp hs =>
      simp only at e5
      obtain ⟨e', g, wr, cs, g1, e6⟩ := blkK_ok e5
      obtain ⟨hwr, e7⟩ := cut_ok e6
      subst hwr
      obtain ⟨ho, e8⟩ := cut_ok e7
      obtain ⟨hn, e9⟩ := setK_eq _ _ _ _ e8
      obtain ⟨t', ht, e10⟩ := hpK_ok e9
      obtain ⟨w', r1, r2, r3⟩ := W.write P hp g1 hn Vn ho ht ((p.at a).add (n * te.size)) (by rw [Pl.at_add])
      exact ⟨_, _, ρ, _, w', e10, run_append_room' T hd Te T2 Nw (fun hz => (hpl hz).2 w rfl) ty (by omega) (fun b hb => by cases hb; exact r1) nofun, VR.slice _ _ hp hs, r2, r3⟩
  | false =>
    rw [hle] at e5
    have hgt : c < n + m := by
      rcases Nat.lt_or_ge c (n + m) with q | q
      · exact q
      · have hle' : Nat.ble (n + m) c = true := by rw [Nat.ble_eq]; exact q
        rw [hle'] at hle; cases hle
    have hdrew : ∀ {ρ' : Mp} {h' : Hp} {w2 : World}, St F ρ h w.drew ρ' h' w2 → St F ρ h w ρ' h' w2 := fun s => ⟨s.ext, s.n, ⟨s.keep.size, s.keep.old, s.keep.os, s.keep.tape, s.keep.output⟩⟩
    cases hx with
    | snil =>
      simp only at e5
      obtain ⟨h0, e6⟩ := cut_ok e5
      have h0 := beq_ok h0
      subst h0
      have hr := run_append_grow' (n := 0) (cap := c) (base := none) T hd Te T2 Nw (fun hz => (hpl hz).2 w.drew rfl) ty hgt hq #[] (by simp [Builtin.firstCells])
      obtain ⟨v, h', ρ', q1, q2, q3, q4⟩ := growK_new W he Te e6 (o := #[]) (n := arr) .nil Vn (by simp [hnl]) (grownCap_ge' w (0 + m) c el)
      exact ⟨v, h', ρ', _, _, q1, hr, q2, q3, q4⟩
    | @slice a p _ _ hp hs =>
      simp only at e5
      obtain ⟨e', g, wr, cs, g1, e6⟩ := blkK_ok e5
      obtain ⟨d1, e7⟩ := dropK_eq _ _ _ e6
      obtain ⟨d2, e8⟩ := takeK_eq _ _ _ e7
      simp only [List.length_drop] at d2
      obtain ⟨cc, fz, R⟩ := W.get hp g1
      obtain ⟨olds, o1, o2, o3⟩ := R.load' P a (n * te.size) (by omega)
      have hlen : (List.take (n * te.size) (List.drop a.off cs)).length + new.length = (n + m) * te.size := by
        simp only [List.length_take, List.length_drop, hnl, Nat.add_mul]; omega
      cases g with
      | false =>
        have hd0 := (R.exact rfl).1
        have hr := run_append_grow' (n := n) (cap := c + p.d) (base := some (p.at a)) T hd Te T2 Nw (fun hz => (hpl hz).2 w.drew rfl) ty (by omega) hq olds.toArray (by simpa [Builtin.firstCells] using o3 w.drew rfl)
        obtain ⟨v, h', ρ', q1, q2, q3, q4⟩ := growK_new W he Te e8 (o := olds.toArray) (n := arr) (by simpa using o1) Vn hlen (grownCap_ge' w (n + m) (c + p.d) el)
        exact ⟨v, h', ρ', _, _, q1, hr, q2, q3, q4⟩
      | true =>
        obtain ⟨x1, e9⟩ := cut_ok e8
        have x1 := beq_ok x1
        subst x1
        obtain ⟨x2, e10⟩ := cut_ok e9
        subst x2
        obtain ⟨x3, e11⟩ := cut_ok e10
        rw [lenK_eq] at e11
        obtain ⟨x4, e12⟩ := cut_ok e11
        have x4 := beq_ok x4
        obtain ⟨t1, ht1, e13⟩ := hpK_ok e12
        obtain ⟨W1, S1⟩ := W.kill g1 ht1
        rcases Nat.lt_or_ge (c + p.d) (n + m) with hm | hm
        · have hr := run_append_grow' (n := n) (cap := c + p.d) (base := some (p.at a)) T hd Te T2 Nw (fun hz => (hpl hz).2 w.drew rfl) ty hm hq olds.toArray (by simpa [Builtin.firstCells] using o3 w.drew rfl)
          obtain ⟨v, h', ρ', q1, q2, q3, q4⟩ := growK_new W1 he Te e13 (o := olds.toArray) (n := arr) (by simpa using o1) Vn hlen (grownCap_ge' w (n + m) (c + p.d) e')
          exact ⟨v, h', ρ', _, _, q1, hr, q2, q3, S1.trans q4⟩
        · have hR := R.size
          rw [szE_eq he] at hR
          obtain ⟨hF, hfz⟩ := R.own rfl
          have hVl := Vn.length
          have hmul : (n + m) * te.size ≤ (c + p.d) * te.size := Nat.mul_le_mul_right _ hm
          rw [Nat.add_mul, Nat.add_mul] at hmul
          have hmul2 : (c + p.d - (n + m)) * te.size = c * te.size + p.d * te.size - (n * te.size + m * te.size) := by rw [Nat.sub_mul, Nat.add_mul, Nat.add_mul]
          obtain ⟨w', c', r1, r2, r3⟩ := run_storeCells P p.b (p.o + (a.off + n * te.size)) e' fz arr.toList 0 w cc R.heap (by rw [hVl, hnl]; omega) (fun j j1 j2 => hfz j (by omega) (by rw [hVl, hnl] at j2; omega)) (ones_VL x3 Vn)
          have hr := run_append_room' (n := n) (cap := c + p.d) (base := some (p.at a)) (w' := w') T hd Te T2 Nw (fun hz => (hpl hz).2 w rfl) ty hm (fun b hb => by cases hb; rw [Pl.at_add]; exact r1) nofun
          unfold growK at e13
          rw [appK_eq] at e13
          obtain ⟨t2, ht2, e14⟩ := newK_ok e13
          have hsz : c'.size = cc.size := by rw [← Array.length_toList, r3, putAt_length (by rw [hVl, hnl]; simp; omega)]; simp
          have hcell : ∀ j, c'[j]? = (putAt cc.toList arr.toList (p.o + (a.off + n * te.size) + 0))[j]? := fun j => by rw [← r3, Array.getElem?_toList]
          have hsub : Sub ρ (ρ.put h.n ⟨p.b, p.o + a.off, c + p.d - (n + m)⟩) := sub_put (W.fresh (Nat.le_refl _))
          have hvals : ∀ j v, (List.take (n * te.size) (List.drop a.off cs) ++ new)[j]? = some v → ∃ v', c'[p.o + a.off + j]? = some v' ∧ VR (ρ.put h.n ⟨p.b, p.o + a.off, c + p.d - (n + m)⟩) v v' := by
            intro j v hj
            rw [hcell, putAt_get (by rw [hVl, hnl]; simp; omega), hVl, hnl]
            have hol : (List.take (n * te.size) (List.drop a.off cs)).length = n * te.size := by simp only [List.length_take, List.length_drop]; omega
            by_cases hjn : j < n * te.size
            · rw [List.getElem?_append_left (by omega), List.getElem?_take, if_pos hjn, List.getElem?_drop] at hj
              obtain ⟨v', y1, y2⟩ := R.vals _ _ hj
              rw [if_neg (by omega)]
              refine ⟨v', ?_, y2.sub hsub⟩
              rw [show p.o + a.off + j = p.o + (a.off + j) by omega]
              simpa using y1
            · rw [List.getElem?_append_right (by omega), hol] at hj
              have hjm : j - n * te.size < m * te.size := by
                have := (List.getElem?_eq_some_iff.1 hj).1
                omega
              obtain ⟨v', y1, y2⟩ := Vn.get _ _ hj
              rw [if_pos (by omega)]
              refine ⟨v', ?_, y2.sub hsub⟩
              rw [show p.o + a.off + j - (p.o + (a.off + n * te.size) + 0) = j - n * te.size by omega]
              exact y1
          obtain ⟨W2, S2⟩ := W1.place (w' := w') (p := ⟨p.b, p.o + a.off, c + p.d - (n + m)⟩) ht2 (fun i d q hi hl hq => by
              have hi : t1.get i = some d := hi
              rw [ht1] at hi
              by_cases e : i = a.block
              · rw [if_pos e] at hi; cases hi; exact hl.elim
              · rw [if_neg e] at hi
                exact W.apart i a.block d _ q p hi hl g1 trivial hq hp e) hF (W.dom _ _ hp).2 r2.size r2.other r2.os r2.tape r2.output ⟨c', fz, r2.at_, by
              rw [szE_eq he, hsz, hR, hmul2, List.length_append, hlen]
              simp only [Nat.add_mul]
              omega, hvals, nofun, fun _ => ⟨hF, fun j j1 j2 => hfz j (by have j1' : p.o + a.off ≤ j := j1; omega) (by omega)⟩⟩
          exact ⟨_, _, _, _, w', e14, hr, by
              have := VR.slice (ρ := ρ.put h.n ⟨p.b, p.o + a.off, c + p.d - (n + m)⟩) (a := ⟨h.n, 0, none⟩) (n + m) (n + m) put_same rfl
              simp only [Pl.at] at this ⊢
              rw [show n + m + (c + p.d - (n + m)) = c + p.d by omega] at this
              exact this, W2, S1.trans S2⟩
end Go.Proofs.YtcoecbpeilmdmaaGreatDoorCx
namespace Go.Proofs.YtcoecbpeilmdmaaGreatDoorCx
section defs
variable (E : Env) (N : Nat)
noncomputable def unK (op : UnOp) (v : Value) (k : VK) : R :=
  match op, v with
  | .neg, .int kd n => wrapK kd (0 - n) fun n => k (.int kd n)
  | .not, .bool b => k (.bool (notB b))
  | .xor, .int kd n => fI (kd.wrap (BitVec.ofInt kd.bits (if kd.signed then -1 else kd.max) ^^^ BitVec.ofInt kd.bits n).toNat) fun n => k (.int kd n)
  | _, _ => .no 120
noncomputable def lenOfK (t : TypeId) (v : Value) (h : Hp) (k : VK) : R :=
  tyK E t fun ti => match ti.desc, v with
    | .string, .string s => fN s.data.toList.length fun n => k (.int .i64 (.ofNat n))
    | .slice _, .slice _ n _ => k (.int .i64 (.ofNat n))
    | .map _ _, .map none => k (.int .i64 (.ofNat 0))
    | .map _ _, .map (some r) => mapK h r fun es => fN es.length fun n => k (.int .i64 (.ofNat n))
    | _, _ => .no 121
noncomputable def capOfK (t : TypeId) (v : Value) (h : Hp) (k : VK) : R :=
  tyK E t fun ti => match ti.desc, v with
    | .slice _, .slice none _ c => k (.int .i64 (.ofNat c))
    | .slice _, .slice (some a) _ c => blkK h a.block fun _ g _ _ => Bool.rec (motive := fun _ => R) (k (.int .i64 (.ofNat c))) (.no 122) g
    | _, _ => .no 123
noncomputable def max2K (x y : Value) (k : VK) : R :=
  match x, y with
  | .int k1 a, .int _ b => fB (iLt a b) fun r => Bool.rec (motive := fun _ => R) (k (.int k1 a)) (k (.int k1 b)) r
  | _, _ => .no 124
noncomputable def min2K (x y : Value) (k : VK) : R :=
  match x, y with
  | .int k1 a, .int _ b => fB (iLt b a) fun r => Bool.rec (motive := fun _ => R) (k (.int k1 a)) (k (.int k1 b)) r
  | _, _ => .no 125
noncomputable def putRowK (a : Option Addr) (q : Nat) (new : List Value) (h : Hp) (k : Hk) : R :=
  match a with
  | none => cut (Nat.beq q 0) (k (.int .i64 (.ofNat q)) h) (.no 126)
  | some a => blkK h a.block fun e' g wr cs => cut wr (cut (ones new) (setK new a.off cs fun cs => hpK h (.cells e' g wr cs) a.block fun h => k (.int .i64 (.ofNat q)) h) (.no 127)) (.no 128)
noncomputable def copyK (d : TypeId) (x y : Value) (h : Hp) (k : Hk) : R :=
  tyK E d fun ti => match ti.desc with
    | .slice e => tyK E e fun te => match x with
      | .slice a n _ => match y with
        | .slice b m _ => fN (Nat.min m n) fun q =>
          match b with
          | none => putRowK a q [] h k
          | some b => blkK h b.block fun _ _ _ cs => dropK b.off cs fun cs => takeK (q * te.size) cs fun new => putRowK a q new h k
        | _ => .no 129
      | _ => .no 130
    | _ => .no 131
noncomputable def extractK (v : Value) (i : Nat) (k : VK) : R :=
  match v with
  | .tuple vs => match vs.toList[i]? with
    | some v => k v
    | none => .no 132
  | _ => .no 133
noncomputable def ifaceK (t : TypeId) (v : Value) (k : VK) : R :=
  tyK E t fun ti => match ti.desc with
    | .interface _ => .no 134
    | _ => k (.iface t v)
end defs
variable {P : Program} {E : Env} {N : Nat} {F : Nat → Prop} {ρ : Mp} {h : Hp} {w w' : World}
theorem unK_ok (W : WR E F ρ h w) {op : UnOp} {v v' : Value} {k : Hk} (e : unK op v (fun v => k v h) = .ok) (hv : VR ρ v v') : GivesP P ρ h w (Op.unary op v') k := by
  unfold unK at e
  split at e
  · rw [wrapK_eq] at e
    cases hv
    exact .flat W e (by simp [Op.unary, Op.intArith]) rfl
  · rw [notB_eq] at e
    cases hv
    exact .flat W e rfl rfl
  · rw [fI_eq] at e
    cases hv
    exact .flat W e (by simp [Op.unary, Op.intBits]) rfl
  · cases e
theorem ER.length {ρ : Mp} {l : List (Value × Value)} {l' : List MapEntry} (H : ER ρ l l') : l'.length = l.length := by
  induction H with
  | nil => rfl
  | cons _ _ _ ih => simp [ih]
theorem WR.getMap (W : WR E F ρ h w) {i : Nat} {p : Pl} (hp : ρ i = some p) {es : List (Value × Value)} (hc : h.t.get i = some (.map es)) : ¬ F p.b ∧ ∃ es' clock, w.heap[p.b]? = some (.map es' clock) ∧ ER ρ es es'.toList := by
  obtain ⟨q, h1, h2⟩ := W.blk i _ hc trivial
  rw [hp] at h1; cases h1
  exact h2
theorem run_getMap {r : Nat} {es : Array MapEntry} {c : Nat} (hg : w.heap[r]? = some (.map es c)) : (getObj r).run P w = .ok (.map es c) w := by simp [getObj, Sem.run, hg]
theorem lenOfK_ok (H : EnvOk P E) (W : WR E F ρ h w) {t ty : TypeId} {v v' : Value} {k : Hk} (e : lenOfK E t v h (fun v => k v h) = .ok) (hv : VR ρ v v') : GivesP P ρ h w (Builtin.len_ #[t] ty #[v']) k := by
  obtain ⟨ti, i, z, h2, T, e1⟩ := tyK_ok' H e
  clear e
  split at e1
  · rename_i s hd
    rw [fN_eq] at e1
    cases hv
    have : s.data.toList.length = s.size := Array.length_toList
    rw [this] at e1
    exact .flat W e1 (by simp [Builtin.len_, T.run_und, hd, goInt]) rfl
  · rename_i el a n c hd
    cases hv <;> exact .flat W e1 (by simp [Builtin.len_, T.run_und, hd, goInt]) rfl
  · rename_i kt el hd
    cases hv
    exact .flat W e1 (by simp [Builtin.len_, T.run_und, hd, goInt]) rfl
  · rename_i kt el r hd
    obtain ⟨es, g1, e2⟩ := mapK_ok e1
    rw [fN_eq] at e2
    cases hv
    rename_i p hp
    obtain ⟨_, es', cl, g2, g3⟩ := W.getMap hp g1
    refine .flat W e2 ?_ rfl
    have := g3.length
    simp only [Array.length_toList] at this
    simp [Builtin.len_, T.run_und, hd, goInt, run_getMap g2, this]
  · cases e1
theorem capOfK_ok (H : EnvOk P E) (W : WR E F ρ h w) {t ty : TypeId} {v v' : Value} {k : Hk} (e : capOfK E t v h (fun v => k v h) = .ok) (hv : VR ρ v v') : GivesP P ρ h w (Builtin.cap_ #[t] ty #[v']) k := by
  obtain ⟨ti, i, z, h2, T, e1⟩ := tyK_ok' H e
  clear e
  split at e1
  · rename_i el n c hd
    cases hv
    exact .flat W e1 (by simp [Builtin.cap_, T.run_und, hd, goInt]) rfl
  · rename_i el a n c hd
    obtain ⟨e', g, wr, cs, g1, e2⟩ := blkK_ok e1
    cases hv
    rename_i p hp hs
    obtain ⟨c', fz, R⟩ := W.get hp g1
    cases g with
    | true => cases e2
    | false =>
      have hd0 := (R.exact rfl).1
      exact .flat W e2 (by simp [Builtin.cap_, T.run_und, hd, goInt, hd0]) rfl
  · cases e1
theorem max2K_ok (W : WR E F ρ h w) {t ty : Array TypeId} {ty : TypeId} {x y x' y' : Value} {k : Hk} (e : max2K x y (fun v => k v h) = .ok) (hx : VR ρ x x') (hy : VR ρ y y') : GivesP P ρ h w (Builtin.max_ t ty #[x', y']) k := by
  unfold max2K at e
  split at e
  · rename_i k1 a k2 b
    rw [fB_eq, iLt_eq] at e
    cases hx; cases hy
    by_cases hlt : a < b
    · rw [decide_eq_true hlt] at e
      exact .flat W e (by simp [Builtin.max_, Builtin.max2, hlt]) rfl
    · rw [decide_eq_false hlt] at e
      exact .flat W e (by simp [Builtin.max_, Builtin.max2, hlt]) rfl
  · cases e
theorem min2K_ok (W : WR E F ρ h w) {t ty : Array TypeId} {ty : TypeId} {x y x' y' : Value} {k : Hk} (e : min2K x y (fun v => k v h) = .ok) (hx : VR ρ x x') (hy : VR ρ y y') : GivesP P ρ h w (Builtin.min_ t ty #[x', y']) k := by
  unfold min2K at e
  split at e
  · rename_i k1 a k2 b
    rw [fB_eq, iLt_eq] at e
    cases hx; cases hy
    by_cases hlt : b < a
    · rw [decide_eq_true hlt] at e
      exact .flat W e (by simp [Builtin.min_, Builtin.min2, hlt]) rfl
    · rw [decide_eq_false hlt] at e
      exact .flat W e (by simp [Builtin.min_, Builtin.min2, hlt]) rfl
  · cases e
theorem extractK_ok (W : WR E F ρ h w) {v v' : Value} {i : Nat} {k : Hk} (e : extractK v i (fun v => k v h) = .ok) (hv : VR ρ v v') : GivesP P ρ h w (Instr.extract v' i) k := by
  unfold extractK at e
  split at e
  · rename_i vs
    split at e
    · rename_i u hu
      cases hv
      rename_i vs' V
      obtain ⟨u', g1, g2⟩ := V.get _ _ hu
      refine .pure W e ?_ g2
      have : vs'[i]? = some u' := by simpa using g1
      simp [Instr.extract, this]
    · cases e
  · cases e
theorem ifaceK_ok (H : EnvOk P E) (W : WR E F ρ h w) {t : TypeId} {v v' : Value} {k : Hk} (e : ifaceK E t v (fun v => k v h) = .ok) (hv : VR ρ v v') : GivesP P ρ h w (Instr.makeInterface t v') k := by
  obtain ⟨ti, i, z, h2, T, e1⟩ := tyK_ok' H e
  clear e
  split at e1
  · cases e1
  · rename_i hn
    refine .pure W e1 ?_ (.iface t hv)
    simp only [Instr.makeInterface, Sem.run_bind, T.run_und, Result.andThen_ok]
    rfl
theorem copyK_ok (H : EnvOk P E) (W : WR E F ρ h w) {d t2 ty : TypeId} {x y x' y' : Value} {k : Hk} (e : copyK E d x y h k = .ok) (hx : VR ρ x x') (hy : VR ρ y y') : Gives P E F ρ h w (Builtin.copy_ #[d, t2] ty #[x', y']) k := by
  obtain ⟨ti, i, z, h2, T, e1⟩ := tyK_ok' H e
  clear e
  split at e1
  rotate_left
  · cases e1
  rename_i el hd
  obtain ⟨te, ie, ze, he, Te, e2⟩ := tyK_ok' H e1
  clear e1
  split at e2
  rotate_left
  · cases e2
  rename_i a n c
  split at e2
  rotate_left
  · cases e2
  rename_i b m c2
  rw [fN_eq] at e2
  have fin : ∀ {new : List Value} {arr : Array Value}, VL ρ new arr.toList → (Builtin.firstCells te.size (Nat.min m n) y').run P w = .ok arr w → (∀ w : World, (Builtin.lenOf y').run P w = .ok m w) →
      putRowK a (Nat.min m n) new h k = .ok →
      Gives P E F ρ h w (Builtin.copy_ #[d, t2] ty #[x', y']) k := by
    intro new arr V hf hl e3
    cases hx with
    | snil =>
      obtain ⟨_, e4⟩ := cut_ok e3
      exact .flat W e4 (by simp [Builtin.copy_, T.run_und, hd, hl, Te.run_size, hf, goInt]) rfl
    | @slice a p _ _ hp hs =>
      obtain ⟨e', g, wr, cs, g1, e4⟩ := blkK_ok e3
      obtain ⟨hwr, e5⟩ := cut_ok e4
      subst hwr
      obtain ⟨ho, e6⟩ := cut_ok e5
      obtain ⟨hn, e7⟩ := setK_eq _ _ _ _ e6
      obtain ⟨t', ht, e8⟩ := hpK_ok e7
      obtain ⟨w', r1, r2, r3⟩ := W.write P hp g1 hn V ho ht (p.at a) rfl
      exact ⟨_, _, ρ, _, w', e8, by simp [Builtin.copy_, T.run_und, hd, hl, Te.run_size, hf, goInt, r1], .int _ _, r2, r3⟩
  cases hy with
  | snil => exact fin (new := []) (arr := #[]) .nil (by simp [Builtin.firstCells]) (fun _ => rfl) e2
  | @slice b p _ _ hp hs =>
    simp only at e2
    obtain ⟨e', g, wr, cs, g1, e3⟩ := blkK_ok e2
    obtain ⟨h3, e4⟩ := dropK_eq _ _ _ e3
    obtain ⟨h4, e5⟩ := takeK_eq _ _ _ e4
    simp only [List.length_drop] at h4
    obtain ⟨c', fz, R⟩ := W.get hp g1
    obtain ⟨vs', q1, q2, q3⟩ := R.load P b (Nat.min m n * te.size) (by omega)
    exact fin (arr := vs'.toArray) (by simpa using q1) (by simpa [Builtin.firstCells] using q3) (fun _ => rfl) e5
end Go.Proofs.YtcoecbpeilmdmaaGreatDoorCx
namespace Go.Proofs.YtcoecbpeilmdmaaGreatDoorCx
section defs
variable (E : Env) (N : Nat)
noncomputable def strK (l : List Value) : (List UInt8 → R) → R :=
  List.rec (motive := fun _ => (List UInt8 → R) → R) (fun k => k []) (fun v _ ih k => match v with | .int .u8 (.ofNat n) => ih fun r => k (UInt8.ofNat n :: r) | _ => .no 140) l
noncomputable def convPK (s d : TypeId) (v : Value) (h : Hp) (k : VK) : R :=
  tyK E s fun si => tyK E d fun di => match di.desc with
    | .int kd => match v with
      | .int _ n => wrapK kd n fun n => k (.int kd n)
      | _ => .no 141
    | .string => match v with
      | .string s => k (.string s)
      | .slice a n _ => match si.desc with
        | .slice e => tyK E e fun te => match te.desc with
          | .int .u8 => match a with
            | none => k (.string ⟨⟨[]⟩⟩)
            | some a => blkK h a.block fun _ _ _ cs => dropK a.off cs fun cs => takeK n cs fun cs => strK cs fun l => k (.string ⟨⟨l⟩⟩)
          | _ => .no 142
        | _ => .no 143
      | _ => .no 144
    | .unsafePointer => match si.desc with
      | .pointer t => ptrK v fun a => blkK h a.block fun _ _ _ cs => tyK E t fun tt => lenK cs fun n => cut (Nat.blt a.off n) (Bool.rec (motive := fun _ => R) (k (.pointer (some a))) (.no 143) (Nat.beq tt.size 0)) (.no 144)
      | _ => .no 145
    | .pointer u => match si.desc with
      | .unsafePointer => ptrK v fun a => blkK h a.block fun e g _ cs => tyK E u fun tu => lenK cs fun n => Bool.rec (motive := fun _ => R) (cut (Nat.beq e u) (cut (Nat.beq a.off 0) (cut (Nat.beq n tu.size) (Bool.rec (motive := fun _ => R) (k (.pointer (some a))) (.no 143) (Nat.beq n 0)) (.no 144)) (.no 145)) (.no 146)) (.no 147) g
      | _ => .no 148
    | _ => .no 149
noncomputable def convSK (s d : TypeId) (v : Value) (h : Hp) (k : Hk) : R :=
  tyK E s fun si => tyK E d fun di => match di.desc with
    | .slice e => match v with
      | .string s => match si.desc with
        | .string => tyK E e fun te => match te.desc with
          | .int .u8 => cut (Nat.beq te.size 1) (bytesK s.data.toList fun cs => newK h (.cells e true true cs) fun b h => fN s.data.toList.length fun n => k (.slice (some ⟨b, 0, none⟩) n n) h) (.no 145)
          | _ => .no 146
        | _ => .no 147
      | _ => .no 148
    | _ => .no 149
/-- Does a conversion give a slice, and so a block? -/
noncomputable def isSliceTy (d : TypeId) : Bool := match E.ty.get d with | some ti => (match ti.desc with | .slice _ => true | _ => false) | none => true
noncomputable def convK (s d : TypeId) (v : Value) (h : Hp) (k : Hk) : R := Bool.rec (motive := fun _ => R) (convPK E s d v h fun v => k v h) (convSK E s d v h k) (isSliceTy E d)
end defs
variable {P : Program} {E : Env} {N : Nat} {F : Nat → Prop} {ρ : Mp} {h : Hp} {w w' : World}
theorem strK_ok : ∀ {l : List Value} {k : List UInt8 → R}, strK l k = .ok → ∃ ns : List Nat, l = ns.map (fun (n : Nat) => .int .u8 (n : Int)) ∧ k (ns.map UInt8.ofNat) = .ok
  | [], k, e => ⟨[], rfl, e⟩
  | v :: l, k, e => by
    have e' : (match v with | .int .u8 (.ofNat n) => strK l fun r => k (UInt8.ofNat n :: r) | _ => .no 140) = .ok := e
    split at e'
    · rename_i n
      obtain ⟨ns, h1, h2⟩ := strK_ok e'
      exact ⟨n :: ns, by rw [h1]; rfl, h2⟩
    · cases e'
theorem VL.ints {ρ : Mp} : ∀ {ns : List Nat} {l : List Value}, VL ρ (ns.map fun (n : Nat) => .int .u8 (n : Int)) l → l = ns.map fun (n : Nat) => .int .u8 (n : Int)
  | [], _, .nil => rfl
  | n :: ns, _, .cons h t => by cases h; rw [VL.ints t]; rfl
theorem foldl_push : ∀ (ns : List Nat) (s : ByteArray), ((ns.map fun (n : Nat) => (n : Int)).foldl (fun r n => r.push (UInt8.ofNat n.toNat)) s) = ⟨⟨s.data.toList ++ ns.map UInt8.ofNat⟩⟩
  | [], s => by simp
  | n :: ns, s => by
    simp only [List.map_cons, List.foldl_cons]
    rw [foldl_push ns]
    simp
theorem World.shape?_row {e : TypeId} {g wr : Bool} {cs : List Value} {p : Pl} {c : Array Value} {fz : Nat × Nat} (R : Row E F ρ w e g wr cs p c fz) : w.shape? p.b = some (e, c.size) := by simp [World.shape?, R.heap]
theorem run_viewAt_row {e : TypeId} {g wr : Bool} {cs : List Value} {p : Pl} {c : Array Value} {fz : Nat × Nat} (R : Row E F ρ w e g wr cs p c fz) : (viewAt p.b).run P w = .ok none w := by
  simp [viewAt, World.shape?_row R]
theorem run_seenAt_row {e : TypeId} {g wr : Bool} {cs : List Value} {p : Pl} {c : Array Value} {fz : Nat × Nat} (R : Row E F ρ w e g wr cs p c fz) (a : Addr) : (Conv.seenAt (p.at a)).run P w = .ok (p.at a) w := by
  unfold Conv.seenAt
  have : (viewAt (p.at a).block).run P w = .ok none w := run_viewAt_row R
  rw [Sem.run_bind, this]
  rfl
theorem sameLayout_refl (P : Program) (d : Nat) (u : TypeId) : sameLayout P (d + 1) u u = true := by simp [sameLayout]
theorem depth_succ (P : Program) : ∃ d, P.depth = d + 1 := ⟨2 * (P.types.size + Made.depth) + 1, rfl⟩
/-- Variables of a row's own type lie in it. -/
theorem run_variablesAt_row {e : TypeId} {g wr : Bool} {cs : List Value} {p : Pl} {c : Array Value} {fz : Nat × Nat} (R : Row E F ρ w e g wr cs p c fz) {te : TI} {ie : TypeInfo} {ze : Value} (T : Ty P e te ie ze) (hs : te.size ≠ 0) (a : Addr) (n : Nat)
    (h0 : (p.o + a.off) % te.size = 0) (hn : (p.o + a.off) / te.size + n ≤ c.size / te.size) : (variablesAt (p.at a) e n).run P w = .ok true w := by
  have hc : P.cellsOf e = te.size := by simp [Program.cellsOf, T.info, T.size]
  obtain ⟨d, hd⟩ := depth_succ P
  have hsh : w.shape? (p.at a).block = some (e, c.size) := World.shape?_row R
  have hl : liesAt P P.depth e (c.size / P.cellsOf e) (p.at a).off e n = true := by
    rw [hd]
    unfold liesAt
    rw [Bool.or_eq_true]
    left
    rw [hd]
    unfold rowAt
    simp only [hc, if_neg hs]
    rw [Bool.or_eq_true]
    left
    have h1 : (p.at a).off = p.o + a.off := rfl
    rw [h1, h0, sameLayout_refl]
    simp [hn]
  unfold variablesAt
  simp only [Sem.run_bind, run_program, Result.andThen_ok, run_shape, hsh, Sem.run_pure, hl]
theorem convPK_ok (H : EnvOk P E) (W : WR E F ρ h w) {s d : TypeId} {v v' : Value} {k : Hk} (e : convPK E s d v h (fun v => k v h) = .ok) (hv : VR ρ v v') : GivesP P ρ h w (convert s d v') k := by
  obtain ⟨si, i1, z1, g1, T1, e1⟩ := tyK_ok' H e
  clear e
  obtain ⟨di, i2, z2, g2, T2, e2⟩ := tyK_ok' H e1
  clear e1
  split at e2
  · rename_i kd hd
    split at e2
    · rename_i k0 n
      rw [wrapK_eq] at e2
      cases hv
      exact .flat W e2 (by simp [convert, T1.run_und, T2.run_und, hd, Conv.intToInt]) rfl
    · cases e2
  · rename_i hd
    split at e2
    · rename_i s0
      cases hv
      exact .flat W e2 (by simp [convert, T1.run_und, T2.run_und, hd]) rfl
    · rename_i a n c
      split at e2
      · rename_i el hs
        obtain ⟨te, ie, ze, g3, Te, e3⟩ := tyK_ok' H e2
        clear e2
        split at e3
        · rename_i hte
          cases hv with
          | snil =>
            simp only at e3
            exact .flat W e3 (by simp [convert, T1.run_und, T2.run_und, hd, hs, Te.run_und, hte, Conv.bytesToString]; rfl) rfl
          | @slice a p _ _ hp hsp =>
            simp only at e3
            obtain ⟨e', g, wr, cs, q1, e4⟩ := blkK_ok e3
            obtain ⟨q2, e5⟩ := dropK_eq _ _ _ e4
            obtain ⟨q3, e6⟩ := takeK_eq _ _ _ e5
            obtain ⟨ns, q4, e7⟩ := strK_ok e6
            obtain ⟨c', fz, R⟩ := W.get hp q1
            simp only [List.length_drop] at q3
            obtain ⟨vs', r1, r2, r3⟩ := R.load P a n (by omega)
            rw [q4] at r1
            have r4 := r1.ints
            refine .flat W e7 ?_ rfl
            have := run_bytesToString (P := P) w (p.at a) n (c + p.d) (ns.map fun (n : Nat) => (n : Int)) (by
              rw [r3, r4]
              congr 2
              simp)
            rw [foldl_push] at this
            simp [convert, T1.run_und, T2.run_und, hd, hs, Te.run_und, hte, this]
        · cases e3
      · cases e2
    · cases e2
  · rename_i hd
    split at e2
    · rename_i t hs
      obtain ⟨a, rfl, e3⟩ := ptrK_ok e2
      obtain ⟨e', g, wr, cs, q1, e4⟩ := blkK_ok e3
      obtain ⟨tt, it, zt, g3, Tt, e5⟩ := tyK_ok' H e4
      rw [lenK_eq] at e5
      obtain ⟨q2, e6⟩ := cut_ok e5
      have q2 := blt_ok q2
      cases hz : Nat.beq tt.size 0 with
      | true => rw [hz] at e6; cases e6
      | false =>
        rw [hz] at e6
        have hz' : tt.size ≠ 0 := fun c => by rw [c] at hz; cases hz
        cases hv
        rename_i p hp hsp
        obtain ⟨c', fz, R⟩ := W.get hp q1
        refine .pure W e6 ?_ (.ptr hp hsp)
        have hci : (cellsIn (p.at a).block).run P w = .ok (some c'.size) w := by
          have : w.shape? (p.at a).block = some (e', c'.size) := World.shape?_row R
          simp [cellsIn, this]
        have hlt : ¬ ((p.at a).off ≥ c'.size) := by
          have := R.size
          show ¬ (p.o + a.off ≥ c'.size)
          omega
        simp only [convert, Sem.run_bind, T1.run_und, T2.run_und, Result.andThen_ok, hd, hs, Conv.unsafePointer, run_seenAt_row R, hci, Tt.run_size, hz', decide_false, Bool.false_or, Bool.and_eq_true, decide_eq_true_eq]
        rw [if_neg (fun c => hlt c.1)]
        rfl
    · cases e2
  · rename_i u hd
    split at e2
    · rename_i hs
      obtain ⟨a, rfl, e3⟩ := ptrK_ok e2
      obtain ⟨e', g, wr, cs, q1, e4⟩ := blkK_ok e3
      obtain ⟨tt, it, zt, g3, Tt, e5⟩ := tyK_ok' H e4
      rw [lenK_eq] at e5
      cases g with
      | true => cases e5
      | false =>
        simp only at e5
        obtain ⟨q2, e6⟩ := cut_ok e5
        obtain ⟨q3, e7⟩ := cut_ok e6
        obtain ⟨q4, e8⟩ := cut_ok e7
        have q2 := beq_ok q2
        have q3 := beq_ok q3
        have q4 := beq_ok q4
        subst q2
        cases hz : Nat.beq cs.length 0 with
        | true => rw [hz] at e8; cases e8
        | false =>
          rw [hz] at e8
          have hz' : tt.size ≠ 0 := fun c => by rw [q4, c] at hz; cases hz
          cases hv
          rename_i p hp hsp
          obtain ⟨c', fz, R⟩ := W.get hp q1
          obtain ⟨x1, x2⟩ := R.exact rfl
          have hsz := R.size
          refine .pure W e8 ?_ (.ptr hp hsp)
          have hva := run_variablesAt_row R Tt hz' a 1 (by rw [x2, q3]; simp) (by
            have hds : tt.size / tt.size = 1 := Nat.div_self (by omega)
            rw [x2, q3, hsz, x2, x1, q4]
            simp [hds])
          simp only [convert, Sem.run_bind, T1.run_und, T2.run_und, Result.andThen_ok, hd, hs, Conv.unsafePointer, run_seenAt_row R, Tt.run_size, hva, Bool.or_true, if_true]
          rfl
    · cases e2
  · cases e2
theorem convSK_ok (H : EnvOk P E) (W : WR E F ρ h w) {s d : TypeId} {v v' : Value} {k : Hk} (e : convSK E s d v h k = .ok) (hv : VR ρ v v') : Gives P E F ρ h w (convert s d v') k := by
  obtain ⟨si, i1, z1, g1, T1, e1⟩ := tyK_ok' H e
  clear e
  obtain ⟨di, i2, z2, g2, T2, e2⟩ := tyK_ok' H e1
  clear e1
  split at e2
  · rename_i el hd
    split at e2
    · rename_i s0
      split at e2
      · rename_i hs
        obtain ⟨te, ie, ze, g3, Te, e3⟩ := tyK_ok' H e2
        clear e2
        split at e3
        · rename_i hte
          obtain ⟨hsz, e4⟩ := cut_ok e3
          have hsz := beq_ok hsz
          rw [bytesK_eq] at e4
          obtain ⟨t', ht, e5⟩ := newK_ok e4
          rw [fN_eq] at e5
          cases hv
          have hlen : s0.data.toList.length = s0.size := Array.length_toList
          let C := grownCap w s0.size 0 el
          have hC : s0.size ≤ C := grownCap_ge' w _ _ _
          let arr : Array Value := s0.data.map (fun b => Value.int .u8 (b.toNat : Int)) ++ Array.replicate (C - s0.size) (.int .u8 0)
          have harr : arr.size = C := by simp [arr]; show s0.data.size + (C - s0.size) = C; have : s0.data.size = s0.size := rfl; omega
          let w1 : World := { w with drawn := w.drawn + 1, heap := w.heap.push (.cells arr el (C, C + 1)) }
          obtain ⟨a, b⟩ := W.row (w' := w1) (fz := (C, C + 1)) (d := C - s0.size) (g := true) (wr := true) ht rfl rfl rfl rfl
            (by
              have : arr.toList.take (s0.data.toList.map fun b => Value.int .u8 (b.toNat : Int)).length = s0.data.toList.map fun b => Value.int .u8 (b.toNat : Int) := by
                simp only [arr, Array.toList_append, Array.toList_map]
                rw [List.take_left' rfl]
              rw [this]
              exact bytes_VL ρ _)
            (by rw [szE_eq g3, hsz, harr]; simp only [List.length_map, hlen]; omega) nofun (fun j hj hc => by have hc1 : C ≤ j := hc.1; rw [harr] at hj; omega)
          rw [hlen] at e5
          refine ⟨_, _, _, .slice (some ⟨w.heap.size, 0, none⟩) s0.size C, w1, e5, ?_, ?_, a, b⟩
          · have hsh : World.shape? { w with drawn := w.drawn + 1, heap := w.heap.push (.cells arr el) } w.heap.size = some (el, arr.size) := by simp [World.shape?]
            have hfz : World.freeze { w with drawn := w.drawn + 1, heap := w.heap.push (.cells arr el) } ⟨w.heap.size, arr.size, none⟩ 1 = w1 := by
              unfold World.freeze
              rw [if_neg (by decide)]
              simp only [w1, harr]
              congr 1
              apply Array.ext_getElem?
              intro j
              rw [Array.getElem?_modify, Array.getElem?_push, Array.getElem?_push]
              by_cases hj : j = w.heap.size
              · subst hj; simp
              · have hj' : ¬ w.heap.size = j := fun c => hj c.symm
                simp [hj, hj']
            have hrow : (newRow el arr).run P { w with drawn := w.drawn + 1 } = .ok ⟨w.heap.size, 0, none⟩ { w with drawn := w.drawn + 1, heap := w.heap.push (.cells arr el) } := rfl
            have hq : (Question.appendCap s0.size 0 el).cut (w.tape w.drawn (Question.appendCap s0.size 0 el)) = C := rfl
            have hstep : (Conv.stringToBytes el s0).run P w = .ok (.slice (some ⟨w.heap.size, 0, none⟩) s0.size C) w1 := by
              have hchoose : (choose (.appendCap s0.size 0 el)).run P w = .ok C { w with drawn := w.drawn + 1 } := by
                rw [run_choose, if_neg (by simp [Question.forced])]
                rfl
              unfold Conv.stringToBytes
              rw [Sem.run_bind, hchoose, Result.andThen_ok]
              simp only [Sem.run_bind]
              rw [show (newRow el (Array.map (fun b => Value.int IntKind.u8 (b.toNat : Int)) s0.data ++ Array.replicate (C - s0.size) (Value.int IntKind.u8 0))).run P { w with drawn := w.drawn + 1 } = _ from hrow]
              simp only [Result.andThen_ok, markStringish, Sem.run_bind, run_shape, hsh, run_freeze, hfz, Sem.run_pure]
            simp only [convert, Sem.run_bind, T1.run_und, T2.run_und, Result.andThen_ok, hd, hs, Te.run_und, hte, hstep]
          · have := VR.slice (ρ := ρ.put h.n ⟨w.heap.size, 0, C - s0.size⟩) (a := ⟨h.n, 0, none⟩) s0.size s0.size put_same rfl
            simp only [Pl.at] at this
            rw [show s0.size + (C - s0.size) = C by omega] at this
            exact this
        · cases e3
      · cases e2
    · cases e2
  · cases e2
theorem convK_ok (H : EnvOk P E) (W : WR E F ρ h w) {s d : TypeId} {v v' : Value} {k : Hk} (e : convK E s d v h k = .ok) (hv : VR ρ v v') : Gives P E F ρ h w (convert s d v') k := by
  unfold convK at e
  cases hs : isSliceTy E d with
  | true => rw [hs] at e; exact convSK_ok H W e hv
  | false => rw [hs] at e; exact (convPK_ok H W e hv).gives W
end Go.Proofs.YtcoecbpeilmdmaaGreatDoorCx
namespace Go.Proofs.YtcoecbpeilmdmaaGreatDoorCx
section defs
variable (E : Env)
/-- Are two keys of a type the same? -/
noncomputable def keyK (d : TypeDesc) (a b : Value) (k : Bool → R) : R :=
  match d, a, b with
  | .int _, .int j a, .int j' b => cut (ikEq j j') (fB (iEq a b) k) (.no 300)
  | .string, .string a, .string b => fB (bytesEq a.data.toList b.data.toList) k
  | _, _, _ => .no 301
noncomputable def keyTy (d : TypeDesc) : Bool := match d with | .int _ => true | .string => true | _ => false
noncomputable def findK (d : TypeDesc) (i : Value) (es : List (Value × Value)) (no : R) (yes : Value → R) : R :=
  List.rec (motive := fun _ => R) no (fun p _ ih => keyK d i p.1 fun b => Bool.rec (motive := fun _ => R) ih (yes p.2) b) es
noncomputable def zeroK (ti : TI) (k : VK) : R := Bool.rec (motive := fun _ => R) (match ti.zero with | [v] => k v | _ => .no 302) (k (.agg ⟨ti.zero⟩)) ti.agg
noncomputable def lookupK (t : TypeId) (x i : Value) (ok : Bool) (h : Hp) (k : VK) : R :=
  tyK E t fun ti => match ti.desc with
    | .map kt et => tyK E kt fun tk => tyK E et fun te => cut (keyTy tk.desc)
      (let fin := fun v b => Bool.rec (motive := fun _ => R) (k v) (k (.tuple ⟨[v, .bool b]⟩)) ok
       let z := zeroK te fun v => fin v false
       match x with
       | .map none => z
       | .map (some r) => mapK h r fun es => findK tk.desc i es z fun v => fin v true
       | _ => .no 303) (.no 304)
    | _ => .no 305
noncomputable def updK (d : TypeDesc) (i y : Value) (es : List (Value × Value)) (k : List (Value × Value) → R) : R :=
  (List.rec (motive := fun _ => (List (Value × Value) → R) → R) (fun k => k [(i, y)]) (fun p r ih k => keyK d i p.1 fun b => Bool.rec (motive := fun _ => R) (ih fun r => k (p :: r)) (k ((p.1, y) :: r)) b) es) k
noncomputable def mapUpdateK (t : TypeId) (x i y : Value) (h : Hp) (k : Hp → R) : R :=
  tyK E t fun ti => match ti.desc with
    | .map kt _ => tyK E kt fun tk => cut (keyTy tk.desc) (cut (flat1 i) (match x with
      | .map (some r) => mapK h r fun es => updK tk.desc i y es fun es => hpK h (.map es) r k
      | _ => .no 306) (.no 309)) (.no 307)
    | _ => .no 308
noncomputable def makeMapK (h : Hp) (k : Hk) : R := newK h (.map []) fun b h => k (.map (some b)) h
end defs
variable {P : Program} {E : Env} {N : Nat} {F : Nat → Prop} {ρ : Mp} {h : Hp} {w w' : World}
theorem keyK_ok {d : TypeDesc} {a b : Value} {k : Bool → R} (e : keyK d a b k = .ok) : ∃ r, k r = .ok ∧ Instr.sameNow d a b = some r ∧ (r = true → a = b ∧ ∀ n, Instr.sameBits (n + 1) a b = true) := by
  unfold keyK at e
  split at e
  · rename_i kd j a j' b
    obtain ⟨h1, h2⟩ := cut_ok e
    have h1 := ikEq_ok h1
    subst h1
    rw [fB_eq, iEq_eq] at h2
    refine ⟨_, h2, ?_, ?_⟩
    · simp [Instr.sameNow]
      rfl
    · intro hr
      have := of_decide_eq_true hr
      subst this
      exact ⟨rfl, fun n => by simp [Instr.sameBits]⟩
  · rename_i a b
    rw [fB_eq, bytesEq_eq] at e
    refine ⟨_, e, ?_, ?_⟩
    · simp only [Instr.sameNow]
      rw [beq_toListBytes, ByteArray.toList_eq, ByteArray.toList_eq]
    · intro hr
      have : a = b := ByteArray.ext (Array.ext' (eq_of_beq hr))
      subst this
      exact ⟨rfl, fun n => by
        simp only [Instr.sameBits]
        rw [beq_toListBytes]; simp⟩
  · cases e
theorem VR_key {d : TypeDesc} {a a' b : Value} {r : Bool} (h : Instr.sameNow d a b = some r) (v : VR ρ a a') : a' = a := by
  unfold Instr.sameNow at h
  split at h
  · cases v; rfl
  · cases v; rfl
  · cases v; rfl
  · cases h
theorem findK_ok {d : TypeDesc} {i i' : Value} (hi : VR ρ i i') {no : R} {yes : Value → R} : ∀ {es : List (Value × Value)} {es' : List MapEntry} (n : Nat), ER ρ es es' → findK d i es no yes = .ok →
    (no = .ok ∧ Instr.findNow d i' es' n = some none) ∨ ∃ v v' m, yes v = .ok ∧ VR ρ v v' ∧ Instr.findNow d i' es' n = some (some (m, v'))
  | [], _, n, .nil, e => .inl ⟨e, rfl⟩
  | (q, v) :: es, ⟨_, v', b⟩ :: es', n, .cons hk hv ht, e => by
    have e' : keyK d i q (fun b => Bool.rec (motive := fun _ => R) (findK d i es no yes) (yes v) b) = .ok := e
    obtain ⟨r, h1, h2, h3⟩ := keyK_ok e'
    have hii := VR_key h2 hi
    subst hii
    cases r with
    | true => exact .inr ⟨v, v', n, h1, hv, by simp [Instr.findNow, h2]⟩
    | false =>
      rcases findK_ok hi (n + 1) ht h1 with ⟨g1, g2⟩ | ⟨v, v', m, g1, g2, g3⟩
      · exact .inl ⟨g1, by simp [Instr.findNow, h2, g2]⟩
      · exact .inr ⟨v, v', m, g1, g2, by simp [Instr.findNow, h2, g3]⟩
theorem run_checkKey {t : TypeId} {ti : TI} {i : TypeInfo} {z : Value} (T : Ty P t ti i z) (hk : keyTy ti.desc = true) (b : Bool) (n : Nat) (v : Value) (w : World) : (Instr.checkKey b (n + 1) t v).run P w = .ok () w := by
  unfold Instr.checkKey
  rw [Sem.run_bind, T.run_und, Result.andThen_ok]
  cases hd : ti.desc <;> rw [hd] at hk <;> first | (cases hk; done) | rfl
theorem run_findKey {t : TypeId} {ti : TI} {i : TypeInfo} {z : Value} (T : Ty P t ti i z) {k : Value} {es : List MapEntry} {r : Option (Nat × Value)} (h : Instr.findNow ti.desc k es 0 = some r) (w : World) : (Instr.findKey t k es).run P w = .ok r w := by
  unfold Instr.findKey
  rw [Sem.run_bind, T.run_und, Result.andThen_ok, h]
  rfl
theorem zeroK_ok {t : TypeId} {ti : TI} {i : TypeInfo} {z : Value} (T : Ty P t ti i z) {k : VK} (e : zeroK ti k = .ok) : ∃ v, k v = .ok ∧ VR ρ v z := by
  have hz := T.cells
  have hf := flats_VL T.flat ρ
  have hza := T.zagg
  unfold isAggV at hza
  unfold zeroK at e
  cases ha : ti.agg with
  | true =>
    rw [ha] at e hza
    split at hza
    · rename_i a
      have : a.toList = ti.zero := hz
      exact ⟨_, e, .agg (by rw [this]; exact hf)⟩
    · cases hza
  | false =>
    rw [ha] at e hza
    have hzc : z.cells = #[z] := by
      split at hza
      · cases hza
      · rename_i hna
        cases z <;> first | rfl | exact absurd rfl (hna _)
    rw [hzc] at hz
    simp only at e
    split at e
    · rename_i v hv
      rw [hv] at hz hf
      cases hz
      cases hf with
      | cons a _ => exact ⟨_, e, a⟩
    · cases e
theorem lookupK_ok (H : EnvOk P E) (W : WR E F ρ h w) {t : TypeId} {x x' i i' : Value} {ok : Bool} {k : Hk} (e : lookupK E t x i ok h (fun v => k v h) = .ok) (hx : VR ρ x x') (hi : VR ρ i i') : GivesP P ρ h w (Instr.lookup t x' i' ok) k := by
  obtain ⟨ti, i0, z, h1, T, e1⟩ := tyK_ok' H e
  clear e
  split at e1
  rotate_left
  · cases e1
  rename_i kt et hd
  obtain ⟨tk, ik, zk, h2, Tk, e2⟩ := tyK_ok' H e1
  clear e1
  obtain ⟨te, ie, ze, h3, Te, e3⟩ := tyK_ok' H e2
  clear e2
  obtain ⟨hk, e4⟩ := cut_ok e3
  clear e3
  have fin : ∀ {v v' : Value} {b : Bool}, Bool.rec (motive := fun _ => R) (k v h) (k (.tuple ⟨[v, .bool b]⟩) h) ok = .ok → VR ρ v v' → ∃ u u', k u h = .ok ∧ (if ok then Value.tuple #[v', .bool b] else v') = u' ∧ VR ρ u u' := by
    intro v v' b hb hv
    cases ok with
    | true => exact ⟨_, _, hb, rfl, .tuple (.cons hv (.cons (.bool b) .nil))⟩
    | false => exact ⟨_, _, hb, rfl, hv⟩
  cases hx <;> simp only at e4 <;> try (cases e4; done)
  · obtain ⟨v, g1, g2⟩ := zeroK_ok (ρ := ρ) Te e4
    obtain ⟨u, u', q1, q2, q3⟩ := fin g1 g2
    refine ⟨u, u', q1, ?_, q3⟩
    have hn : Instr.findNow tk.desc i' [] 0 = some none := rfl
    simp only [Instr.lookup, Sem.run_bind, T.run_und, hd, Result.andThen_ok, Sem.run_pure, run_checkKey Tk hk, run_findKey Tk hn, Te.run_zero, q2]
  · rename_i r p hp
    obtain ⟨es, g1, e5⟩ := mapK_ok e4
    obtain ⟨_, es', cl, g2, g3⟩ := W.getMap hp g1
    rcases findK_ok hi 0 g3 e5 with ⟨f1, f2⟩ | ⟨v, v', m, f1, f2, f3⟩
    · obtain ⟨v, g4, g5⟩ := zeroK_ok (ρ := ρ) Te f1
      obtain ⟨u, u', q1, q2, q3⟩ := fin g4 g5
      refine ⟨u, u', q1, ?_, q3⟩
      simp only [Instr.lookup, Sem.run_bind, T.run_und, hd, Result.andThen_ok, run_getMap g2, Sem.run_pure, run_checkKey Tk hk, run_findKey Tk f2, Te.run_zero, q2]
    · obtain ⟨u, u', q1, q2, q3⟩ := fin f1 f2
      refine ⟨u, u', q1, ?_, q3⟩
      simp only [Instr.lookup, Sem.run_bind, T.run_und, hd, Result.andThen_ok, run_getMap g2, Sem.run_pure, run_checkKey Tk hk, run_findKey Tk f3, q2]
theorem makeMapK_ok (W : WR E F ρ h w) {t : TypeId} {k : Hk} (e : makeMapK h k = .ok) : Gives P E F ρ h w (Instr.makeMap t none) k := by
  obtain ⟨t', ht, e1⟩ := newK_ok e
  obtain ⟨a, b⟩ := W.new (w' := { w with heap := w.heap.push (.map #[] 0) }) (o := .map #[] 0) (d := 0) ht rfl rfl rfl rfl ⟨fun hF => by have := W.fr _ hF; exact absurd this (Nat.lt_irrefl _), #[], 0, by simp, .nil⟩
  exact ⟨_, _, _, _, _, e1, rfl, .map put_same, a, b⟩
theorem flat1_eq {a a' : Value} (h : flat1 a = true) (v : VR ρ a a') : a' = a := by
  cases v <;> first | rfl | cases h
theorem updK_ok {d : TypeDesc} {i i' y y' : Value} (hi : VR ρ i i') (hfl : flat1 i = true) (hy : VR ρ y y') (clock : Nat) : ∀ {es : List (Value × Value)} {es' : List MapEntry} {k : List (Value × Value) → R} (n : Nat), ER ρ es es' → updK d i y es k = .ok →
    ∃ res, k res = .ok ∧ ((Instr.findNow d i' es' n = some none ∧ i' = i ∧ ER ρ res (es' ++ [⟨i', y', clock⟩])) ∨
      ∃ m v0 e0, Instr.findNow d i' es' n = some (some (n + m, v0)) ∧ es'[m]? = some e0 ∧ e0.key = i' ∧ i' = i ∧ ER ρ res (es'.modify m fun e => { e with key := i', val := y' }) ∧ (∀ q, Instr.sameBits (q + 1) e0.key i' = true))
  | [], _, k, n, .nil, e => by
    have hii := flat1_eq hfl hi
    subst hii
    exact ⟨_, e, .inl ⟨rfl, rfl, .cons hfl hy .nil⟩⟩
  | (q, v) :: es, ⟨_, v', b⟩ :: es', k, n, .cons hk hv ht, e => by
    have e' : keyK d i q (fun b => Bool.rec (motive := fun _ => R) (updK d i y es fun r => k ((q, v) :: r)) (k ((q, y) :: es)) b) = .ok := e
    obtain ⟨r, h1, h2, h3⟩ := keyK_ok e'
    have hii := flat1_eq hfl hi
    subst hii
    cases r with
    | true =>
      obtain ⟨rfl, h4⟩ := h3 rfl
      exact ⟨_, h1, .inr ⟨0, v', ⟨i', v', b⟩, by simp [Instr.findNow, h2], rfl, rfl, rfl, by simp; exact .cons hk hy ht, h4⟩⟩
    | false =>
      obtain ⟨res, g1, g2⟩ := updK_ok hi hfl hy clock (n + 1) ht h1
      refine ⟨_, g1, ?_⟩
      rcases g2 with ⟨x1, x2, x3⟩ | ⟨m, v0, e0, x1, x2, x3, x4, x5, x6⟩
      · exact .inl ⟨by simp [Instr.findNow, h2, x1], rfl, .cons hk hv x3⟩
      · exact .inr ⟨m + 1, v0, e0, by simp [Instr.findNow, h2, x1]; omega, by simpa using x2, x3, rfl, by simpa using ER.cons hk hv x5, x6⟩
theorem mapUpdateK_ok (H : EnvOk P E) (W : WR E F ρ h w) {t : TypeId} {x x' i i' y y' : Value} {k : Hp → R} (e : mapUpdateK E t x i y h k = .ok) (hx : VR ρ x x') (hi : VR ρ i i') (hy : VR ρ y y') :
    ∃ h' w', k h' = .ok ∧ (Instr.mapUpdate t x' i' y').run P w = .ok () w' ∧ WR E F ρ h' w' ∧ St F ρ h w ρ h' w' := by
  obtain ⟨ti, i0, z, h1, T, e1⟩ := tyK_ok' H e
  clear e
  split at e1
  rotate_left
  · cases e1
  rename_i kt et hd
  obtain ⟨tk, ik, zk, h2, Tk, e2⟩ := tyK_ok' H e1
  clear e1
  obtain ⟨hk, e3⟩ := cut_ok e2
  obtain ⟨hfl, e4⟩ := cut_ok e3
  clear e2 e3
  split at e4
  rotate_left
  · cases e4
  rename_i r
  obtain ⟨es, g1, e5⟩ := mapK_ok e4
  cases hx
  rename_i p hp
  obtain ⟨hF, es', cl, g2, g3⟩ := W.getMap hp g1
  obtain ⟨res, e6, hres⟩ := updK_ok hi hfl hy cl 0 g3 e5
  obtain ⟨t', ht, e7⟩ := hpK_ok e6
  have hb : p.b < w.heap.size := (W.dom _ _ hp).2
  have upd : ∀ (es2 : Array MapEntry) (cl2 : Nat), ER ρ res es2.toList → WR E F ρ ⟨t', h.n⟩ { w with heap := w.heap.setIfInBounds p.b (.map es2 cl2) } ∧ St F ρ h w ρ ⟨t', h.n⟩ { w with heap := w.heap.setIfInBounds p.b (.map es2 cl2) } := by
    intro es2 cl2 hE
    refine W.upd g1 trivial hp hF ht (by simp) (fun b hne => ?_) rfl rfl rfl fun _ => ⟨hF, es2, cl2, ?_, hE⟩
    · show (w.heap.setIfInBounds p.b _)[b]? = _
      rw [Array.getElem?_setIfInBounds_ne (fun c => hne c.symm)]
    · show (w.heap.setIfInBounds p.b _)[p.b]? = _
      rw [Array.getElem?_setIfInBounds_self, if_pos hb]
  have hset : ∀ o, (setObj p.b o).run P w = .ok () { w with heap := w.heap.setIfInBounds p.b o } := by
    intro o
    simp [setObj, Sem.run, g2]
  rcases hres with ⟨x1, rfl, x2⟩ | ⟨m, v0, e0, x1, x2, x3, rfl, x5, x6⟩
  · obtain ⟨a, b⟩ := upd (es'.push ⟨i', y', cl⟩) (cl + 1) (by simpa using x2)
    refine ⟨_, _, e7, ?_, a, b⟩
    simp only [Instr.mapUpdate, Sem.run_bind, T.run_und, hd, Result.andThen_ok, run_getMap g2, run_checkKey Tk hk, run_findKey Tk x1, hset]
  · obtain ⟨a, b⟩ := upd (es'.modify m fun e => { e with key := i', val := y' }) cl (by simpa using x5)
    refine ⟨_, _, e7, ?_, a, b⟩
    have hm : es'[m]? = some e0 := by simpa using x2
    have hst : ∀ w, (Instr.keyThatStays e0.key i').run P w = .ok i' w := by
      intro w
      unfold Instr.keyThatStays
      rw [x6 9999]
      rfl
    rw [Nat.zero_add] at x1
    simp only [Instr.mapUpdate, Sem.run_bind, T.run_und, hd, Result.andThen_ok, run_getMap g2, run_checkKey Tk hk, run_findKey Tk x1, hm, Option.map_some, Option.getD_some, hst, hset]
end Go.Proofs.YtcoecbpeilmdmaaGreatDoorCx
namespace Go.Proofs.YtcoecbpeilmdmaaGreatDoorCx
section defs
variable (E : Env) (N : Nat)
noncomputable def binK (op : BinOp) (t : TypeId) (c : Bool) (x y : Value) (k : VK) : R :=
  match x, y with
  | .int kd a, .int k' b => match op with
    | .shl => shBin .shl kd a b k
    | .shr => shBin .shr kd a b k
    | op => cut (ikEq kd k') (intBin op kd a b k) (.no 150)
  | .string a, .string b => strBin op a b k
  | x, y => match op with
    | .eql => eqK E t c x y fun r => k (.bool r)
    | .neq => eqK E t c x y fun r => k (.bool (notB r))
    | _ => .no 151
noncomputable def oevK (t : Tm) (o : Option Operand) (k : Option Value → R) : R := match o with | none => k none | some o => evK E N t o fun v => k (some v)
noncomputable def nilK (v : Value) (k : VK) : R :=
  match v with
  | .pointer (some a) => k (.pointer (some a))
  | .func (.func f) xs ys => k (.func (.func f) xs ys)
  | .slice a n c => k (.slice a n c)
  | .iface t v => k (.iface t v)
  | _ => .no 152
noncomputable def sdK (v : Value) (k : VK) : R :=
  match v with
  | .slice none _ _ => k (.pointer none)
  | .slice (some a) _ c => Bool.rec (motive := fun _ => R) (k (.pointer (some a))) (.no 164) (Nat.beq c 0)
  | _ => .no 165
/-- A string over a row's own bytes: the row is no more to be written. -/
noncomputable def usK (pt : TypeId) (x y : Value) (h : Hp) (k : Hk) : R :=
  natK y fun n => match n with
    | 0 => match x with
      | .pointer _ => k (.string ⟨⟨[]⟩⟩) h
      | _ => .no 166
    | m + 1 => ptrK x fun a => tyK E pt fun ti => match ti.desc with
      | .pointer u => tyK E u fun tu => cut (Nat.beq tu.size 1) (cut (Nat.ble (m + 1) 0x7fffffff) (blkK h a.block fun e g wr cs => cut (Nat.beq e u) (cut wr (dropK a.off cs fun l => takeK (m + 1) l fun l => strK l fun bs => hpK h (.cells e g false cs) a.block fun h => k (.string ⟨⟨bs⟩⟩) h) (.no 167)) (.no 168)) (.no 169)) (.no 170)
      | _ => .no 171
/-- The operations whose answer hangs on their operands and on what they load alone. -/
noncomputable def isFloat (o : Op) : Bool :=
  match o with
  | .move _ | .pick _ _ _ | .build _ _ | .load _ _ | .nilCheck _ | .binOp _ _ _ _ _ | .unOp _ _ _ | .makeInterface _ _ | .makeFunc _ _ _ | .slice _ _ _ _ _ | .fieldAddr _ _ _ | .field _ _ _ | .indexAddr _ _ _ | .index _ _ _ | .extract _ _ | .lookup _ _ _ _ => true
  | .convert _ d _ => notB (isSliceTy E d)
  | .call c => match c.callee with
    | .builtin .len | .builtin .cap | .builtin .max | .builtin .min | .builtin .unsafeSliceData => true
    | _ => false
  | _ => false
noncomputable def floatK (o : Op) (t : Tm) (h : Hp) (k : VK) : R :=
  match o with
  | .move x => evK E N t x k
  | .pick c a b => evK E N t c fun v => match v with
    | .bool r => Bool.rec (motive := fun _ => R) (evK E N t b k) (evK E N t a k) r
    | _ => .no 153
  | .build ty ps => buildK E N t ty ps.toList k
  | .load ty x => evK E N t x fun v => loadK E ty v h fun v _ => k v
  | .nilCheck x => evK E N t x fun v => nilK v k
  | .binOp op ty x y _ => evK E N t x fun a => evK E N t y fun b => binK E op ty (isConst x || isConst y) a b k
  | .unOp op _ x => evK E N t x fun v => unK op v k
  | .convert s d x => evK E N t x fun v => convPK E s d v h k
  | .makeInterface ty x => evK E N t x fun v => ifaceK E ty v k
  | .makeFunc fn fs cs => evsK E N t fs.toList fun fs => evsK E N t cs.toList fun cs => k (.func fn ⟨fs⟩ ⟨cs⟩)
  | .slice ty x l j m => evK E N t x fun x => oevK E N t l fun l => oevK E N t j fun j => oevK E N t m fun m => sliceK E ty x l j m h k
  | .fieldAddr s x f => evK E N t x fun v => fieldAddrK E s v f k
  | .field s x f => evK E N t x fun v => fieldK E s v f k
  | .indexAddr ty x i => evK E N t x fun v => evK E N t i fun i => indexAddrK E ty v i k
  | .index ty x i => evK E N t x fun v => evK E N t i fun i => indexK E ty v i k
  | .extract x i => evK E N t x fun v => extractK v i k
  | .lookup ty x i ok => evK E N t x fun v => evK E N t i fun i => lookupK E ty v i ok h k
  | .call c => match c.callee with
    | .builtin .len => match c.argTypes.toList, c.args.toList with
      | [s], [x] => evK E N t x fun x => lenOfK E s x h k
      | _, _ => .no 156
    | .builtin .cap => match c.argTypes.toList, c.args.toList with
      | [s], [x] => evK E N t x fun x => capOfK E s x h k
      | _, _ => .no 157
    | .builtin .max => match c.args.toList with
      | [x, y] => evK E N t x fun x => evK E N t y fun y => max2K x y k
      | _ => .no 158
    | .builtin .min => match c.args.toList with
      | [x, y] => evK E N t x fun x => evK E N t y fun y => min2K x y k
      | _ => .no 159
    | .builtin .unsafeSliceData => match c.args.toList with
      | [x] => evK E N t x fun x => sdK x k
      | _ => .no 158
    | _ => .no 155
  | _ => .no 154
/-- The other operations, but for calls of functions. -/
noncomputable def effK (o : Op) (t : Tm) (h : Hp) (k : Hk) : R :=
  match o with
  | .assign x => evK E N t x fun v => k v h
  | .alloc e => allocK E e h k
  | .box e x => evK E N t x fun v => boxK e v h k
  | .buildSlice ty n ps => buildSliceK E N t ty n ps.toList h k
  | .store ty x y => evK E N t x fun a => evK E N t y fun v => storeK E ty a v h fun h => k (.tuple #[]) h
  | .convert s d x => evK E N t x fun v => convSK E s d v h k
  | .makeSlice ty l c => evK E N t l fun l => evK E N t c fun c => makeSliceK E ty l c h k
  | .makeMap _ r => match r with | none => makeMapK h k | some _ => .no 310
  | .mapUpdate ty m x y => evK E N t m fun m => evK E N t x fun x => evK E N t y fun y => mapUpdateK E ty m x y h fun h => k (.tuple #[]) h
  | .insert ty m x y => evK E N t m fun m => evK E N t x fun x => evK E N t y fun y => mapUpdateK E ty m x y h fun h => k (.tuple #[]) h
  | .call c => match c.callee with
    | .builtin .append => match c.argTypes.toList, c.args.toList with
      | [s, t2], [x, y] => evK E N t x fun x => evK E N t y fun y => appendK E s t2 x y h k
      | _, _ => .no 160
    | .builtin .copy => match c.argTypes.toList, c.args.toList with
      | [s, _], [x, y] => evK E N t x fun x => evK E N t y fun y => copyK E s x y h k
      | _, _ => .no 161
    | .builtin .unsafeString => match c.argTypes.toList, c.args.toList with
      | [s, _], [x, y] => evK E N t x fun x => evK E N t y fun y => usK E s x y h k
      | _, _ => .no 172
    | _ => .no 162
  | _ => .no 163
end defs
variable {P : Program} {E : Env} {N : Nat} {F : Nat → Prop} {ρ : Mp} {h : Hp} {w w' : World}
/-- What an operation gives on both sides, as a step of the machine's. -/
def GivesN (P : Program) (E : Env) (F : Nat → Prop) (ρ : Mp) (h : Hp) (w : World) (x : Sem Next) (k : Hk) : Prop :=
  ∃ v h' ρ' v' w' nx, k v h' = .ok ∧ x.run P w = .ok nx w' ∧ (nx = .value v' ∨ (nx = .skip ∧ v' = undef)) ∧ VR ρ' v v' ∧ WR E F ρ' h' w' ∧ St F ρ h w ρ' h' w'
theorem Gives.next {x : Sem Value} {k : Hk} (g : Gives P E F ρ h w x k) : GivesN P E F ρ h w (do Pure.pure (Next.value (← x))) k := by
  obtain ⟨v, h', ρ', v', w', a, b, c, d, e⟩ := g
  exact ⟨v, h', ρ', v', w', .value v', a, by rw [Sem.run_bind, b]; rfl, .inl rfl, c, d, e⟩
theorem guard_flat (op : BinOp) (t : TypeId) (xo yo : Operand) (a b : Value) (ha : (∀ q, a ≠ .agg q) ∧ a ≠ .nilIface) : eqGuard op t xo yo a b = pure () := by
  unfold eqGuard
  cases op <;> first
    | rfl
    | (cases a <;> first | rfl | exact absurd rfl ha.2 | exact absurd rfl (ha.1 _))
theorem binK_ok (H : EnvOk P E) (W : WR E F ρ h w) {op : BinOp} {t : TypeId} {xo yo : Operand} {x y x' y' : Value} {k : Hk} (e : binK E op t (isConst xo || isConst yo) x y (fun v => k v h) = .ok) (hx : VR ρ x x') (hy : VR ρ y y') :
    GivesP P ρ h w (do eqGuard op t xo yo x' y'; binOp op t x' y') k := by
  unfold binK at e
  split at e
  · rename_i kd a k' b
    cases hx; cases hy
    have hg : eqGuard op t xo yo (.int kd a) (.int k' b) = pure () := guard_flat op t xo yo _ _ ⟨nofun, nofun⟩
    split at e
    · obtain ⟨v, g1, g2, g3⟩ := shBin_ok (P := P) (w := w) (k' := k') t e
      exact .flat W g1 (by rw [Sem.run_bind, hg]; exact g3) g2
    · obtain ⟨v, g1, g2, g3⟩ := shBin_ok (P := P) (w := w) (k' := k') t e
      exact .flat W g1 (by rw [Sem.run_bind, hg]; exact g3) g2
    · obtain ⟨hk, e2⟩ := cut_ok e
      clear e
      have hk := ikEq_ok hk
      subst hk
      obtain ⟨v, g1, g2, g3⟩ := intBin_ok (P := P) (w := w) t e2
      exact .flat W g1 (by rw [Sem.run_bind, hg]; exact g3) g2
  · cases hx; cases hy
    obtain ⟨v, g1, g2, g3⟩ := strBin_ok (P := P) (w := w) t e
    exact .flat W g1 (by rw [Sem.run_bind, guard_flat op t xo yo (.string _) (.string _) ⟨nofun, nofun⟩]; exact g3) g2
  · split at e
    · obtain ⟨r, g1, g2⟩ := eqK_ok H e hx hy W
      exact .flat W g1 (g2 w).1 rfl
    · obtain ⟨r, g1, g2⟩ := eqK_ok H e hx hy W
      rw [notB_eq] at g1
      exact .flat W g1 (g2 w).2 rfl
    · cases e
theorem oevK_ok {t : Tm} {a : Act} {o : Option Operand} (A : ∀ x, o = some x → OpdR E N ρ t a x) {k : Option Value → R} (e : oevK E N t o k = .ok) : ∃ v, k v = .ok ∧ OR ρ v (o.map a.eval) := by
  unfold oevK at e
  split at e
  · exact ⟨none, e, .none⟩
  · obtain ⟨v, h1, h2⟩ := A _ rfl _ e
    exact ⟨some v, h1, .some h2⟩
theorem sdK_ok (W : WR E F ρ h w) {ts : Array TypeId} {ty : TypeId} {v v' : Value} {k : Hk} (e : sdK v (fun v => k v h) = .ok) (hv : VR ρ v v') : GivesP P ρ h w (Builtin.unsafeSliceData_ ts ty #[v']) k := by
  unfold sdK at e
  split at e
  · cases hv
    exact .flat W e rfl rfl
  · rename_i a n c
    cases hz : Nat.beq c 0 with
    | true => rw [hz] at e; cases e
    | false =>
      rw [hz] at e
      have hz' : c ≠ 0 := fun x => by rw [x] at hz; cases hz
      cases hv
      rename_i p hp hs
      refine .pure W e ?_ (.ptr hp hs)
      obtain ⟨q, hq⟩ : ∃ q, c + p.d = q + 1 := ⟨c + p.d - 1, by omega⟩
      rw [hq]
      rfl
  · cases e
theorem run_loadBytes {b : Nat} {e : TypeId} {c : Array Value} {fz : Nat × Nat} (hh : w.heap[b]? = some (.cells c e fz)) : ∀ (ns : List Nat) (o : Nat) (acc : ByteArray), (∀ (j n : Nat), ns[j]? = some n → c[o + j]? = some (.int .u8 (n : Int))) →
    (loadBytes ⟨b, o, none⟩ acc ns.length).run P w = .ok ⟨⟨acc.data.toList ++ ns.map UInt8.ofNat⟩⟩ w
  | [], o, acc, _ => by simp [loadBytes]
  | n :: ns, o, acc, hc => by
    have h0 : c[o]? = some (.int .u8 (n : Int)) := by simpa using hc 0 n rfl
    have hl : (load ⟨b, o, none⟩).run P w = .ok (.int .u8 (n : Int)) w := by
      rw [run_load]
      simp only [World.cell?, hh, h0]
      rfl
    have hadd : (⟨b, o, none⟩ : Addr).add 1 = ⟨b, o + 1, none⟩ := rfl
    show (loadBytes ⟨b, o, none⟩ acc (ns.length + 1)).run P w = _
    unfold loadBytes
    rw [Sem.run_bind, hl, Result.andThen_ok]
    simp only [hadd]
    rw [run_loadBytes hh ns (o + 1) _ (fun j m hj => by
      have := hc (j + 1) m (by simpa using hj)
      rw [show o + 1 + j = o + (j + 1) by omega]; exact this)]
    simp
theorem usK_ok (H : EnvOk P E) (W : WR E F ρ h w) {pt t2 ty : TypeId} {x x' y y' : Value} {k : Hk} (e : usK E pt x y h k = .ok) (hx : VR ρ x x') (hy : VR ρ y y') : Gives P E F ρ h w (Builtin.unsafeString_ #[pt, t2] ty #[x', y']) k := by
  obtain ⟨kd, n, rfl, e1⟩ := natK_ok e
  clear e
  cases hy
  cases n with
  | zero =>
    simp only at e1
    split at e1
    · rename_i q
      have hemp : (⟨⟨[]⟩⟩ : ByteArray) = ByteArray.empty := rfl
      rw [hemp] at e1
      have hlt : ¬ (IntKind.i64.max < 0) := by decide
      cases hx
      · exact (GivesP.flat W e1 (by rw [show ∀ l, Builtin.unsafeString_ #[pt, t2] ty #[.pointer none, l] = asInt l >>= _ from fun l => rfl]; simp [asInt, asIntOf]) rfl).gives W
      · exact (GivesP.flat W e1 (by rw [show ∀ b l, Builtin.unsafeString_ #[pt, t2] ty #[.pointer (some b), l] = asInt l >>= _ from fun b l => rfl]; simp [asInt, asIntOf]) rfl).gives W
    · cases e1
  | succ m =>
    simp only at e1
    obtain ⟨a, rfl, e2⟩ := ptrK_ok e1
    obtain ⟨ti, i, z, g1, T, e3⟩ := tyK_ok' H e2
    split at e3
    rotate_left
    · cases e3
    rename_i u hd
    obtain ⟨tu, iu, zu, g2, Tu, e4⟩ := tyK_ok' H e3
    obtain ⟨q1, e5⟩ := cut_ok e4
    obtain ⟨q2, e6⟩ := cut_ok e5
    obtain ⟨e', g, wr, cs, q3, e7⟩ := blkK_ok e6
    obtain ⟨q4, e8⟩ := cut_ok e7
    obtain ⟨q5, e9⟩ := cut_ok e8
    obtain ⟨q6, e10⟩ := dropK_eq _ _ _ e9
    obtain ⟨q7, e11⟩ := takeK_eq _ _ _ e10
    obtain ⟨ns, q8, e12⟩ := strK_ok e11
    obtain ⟨t', ht, e13⟩ := hpK_ok e12
    have q1 := beq_ok q1
    have q2 := ble_ok q2
    have q4 := beq_ok q4
    subst q4 q5
    simp only [List.length_drop] at q7
    cases hx
    rename_i p hp hs
    obtain ⟨c, fz, R⟩ := W.get hp q3
    obtain ⟨hF, hfz⟩ := R.own rfl
    obtain ⟨vs', r1, r2, r3⟩ := R.take a.off (m + 1) (by omega)
    rw [q8] at r1
    have r4 := r1.ints
    have hnl : ns.length = m + 1 := by rw [r4] at r2; simpa using r2
    have hva := run_variablesAt_row (P := P) R Tu (by omega) a (m + 1) (by rw [q1]; exact Nat.mod_one _) (by
      rw [q1, Nat.div_one, Nat.div_one]
      have := R.size
      omega)
    have hlb := run_loadBytes (P := P) (w := w) R.heap ns (p.o + a.off) ByteArray.empty (fun j n hj => by
      have := r3 j (.int .u8 (n : Int)) (by rw [r4]; simp [hj])
      rw [show p.o + a.off + j = p.o + (a.off + j) by omega]; exact this)
    rw [hnl] at hlb
    obtain ⟨fz', hfz'⟩ : ∃ fz', (w.freeze (p.at a) (m + 1)).heap[p.b]? = some (.cells c e' fz') := by
      have hh := R.heap
      obtain ⟨lo, hi⟩ := fz
      unfold World.freeze
      rw [if_neg (by omega)]
      simp only [Array.getElem?_modify, Pl.at, hh]
      exact ⟨_, rfl⟩
    have hother : ∀ b, b ≠ p.b → (w.freeze (p.at a) (m + 1)).heap[b]? = w.heap[b]? := by
      intro b hb
      unfold World.freeze
      rw [if_neg (by omega)]
      simp only [Array.getElem?_modify, Pl.at]
      rw [if_neg (fun c => hb c.symm)]
    have hsz : (w.freeze (p.at a) (m + 1)).heap.size = w.heap.size := by
      unfold World.freeze
      rw [if_neg (by omega)]
      simp
    have ho : (w.freeze (p.at a) (m + 1)).os = w.os ∧ (w.freeze (p.at a) (m + 1)).tape = w.tape ∧ (w.freeze (p.at a) (m + 1)).output = w.output := by
      unfold World.freeze
      rw [if_neg (by omega)]
      exact ⟨rfl, rfl, rfl⟩
    obtain ⟨W', S'⟩ := W.upd (w' := w.freeze (p.at a) (m + 1)) q3 trivial hp hF ht hsz hother ho.1 ho.2.1 ho.2.2 fun _ => ⟨c, fz', hfz', R.size, R.vals, R.exact, nofun⟩
    refine ⟨_, _, ρ, _, _, e13, ?_, .string _, W', S'⟩
    have hneg : ¬ (((m + 1 : Nat) : Int) < 0) := by omega
    have hmax : ¬ (((m + 1 : Nat) : Int) > IntKind.i64.max) := by
      simp only [IntKind.max, IntKind.signed, IntKind.bits]
      simp only [if_true]
      omega
    have hne : ¬ (((m + 1 : Nat) : Int) = 0) := by omega
    have hel : (elemOf pt).run P w = .ok e' w := by simp [elemOf, T.run_und, hd]
    have htn : ((m + 1 : Nat) : Int).toNat = m + 1 := Int.toNat_natCast _
    show (Builtin.unsafeString_ #[pt, t2] ty #[.pointer (some (p.at a)), .int kd ((m + 1 : Nat) : Int)]).run P w = _
    rw [show ∀ b l, Builtin.unsafeString_ #[pt, t2] ty #[.pointer (some b), l] = asInt l >>= _ from fun b l => rfl]
    simp only [asInt, asIntOf, Sem.run_bind, Sem.run_pure, Result.andThen_ok]
    have hpt : (#[pt, t2] : Array TypeId)[0]? = some pt := rfl
    simp only [hneg, hmax, hne, hpt, if_false, Sem.run_bind, Sem.run_pure, Result.andThen_ok, hel, htn, hva, if_true]
    have hlb' : (loadBytes (p.at a) ByteArray.empty (m + 1)).run P w = .ok ⟨⟨ns.map UInt8.ofNat⟩⟩ w := by
      have : (p.at a) = ⟨p.b, p.o + a.off, none⟩ := rfl
      rw [this, hlb]; rfl
    rw [hlb', Result.andThen_ok, run_freeze]
    rfl
/-- What a floating operation gives, as a step of the machine's. -/
def GivesF (P : Program) (ρ : Mp) (w : World) (x : Sem Next) (k : VK) : Prop := ∃ v v', k v = .ok ∧ x.run P w = .ok (.value v') w ∧ VR ρ v v'
theorem GivesP.next {x : Sem Value} {k : VK} (g : GivesP P ρ h w x fun v _ => k v) : GivesF P ρ w (do Pure.pure (Next.value (← x))) k := by
  obtain ⟨v, v', a, b, c⟩ := g
  exact ⟨v, v', a, by rw [Sem.run_bind, b]; rfl, c⟩
theorem floatK_ok (H : EnvOk P E) (W : WR E F ρ h w) {t : Tm} {a : Act} {o : Oper} (A : ∀ x ∈ o.op.operands, OpdR E N ρ t a x) {k : VK} (e : floatK E N o.op t h k = .ok) : GivesF P ρ w (execOp a.eval o) k := by
  obtain ⟨dst, op, type, pos, after, guard⟩ := o
  cases op <;> simp only [floatK] at e <;> simp only [execOp]
  all_goals simp only [Op.operands] at A
  case move x =>
    obtain ⟨v, h1, h2⟩ := A x (by simp) _ e
    exact ⟨v, _, h1, rfl, h2⟩
  case pick c x y =>
    obtain ⟨v, h1, h2⟩ := A c (by simp) _ e
    split at h1
    · rename_i r
      have hc : a.eval c = .bool r := by
        generalize a.eval c = u at h2
        cases h2; rfl
      cases r with
      | true =>
        obtain ⟨v, h3, h4⟩ := A x (by simp) _ h1
        exact ⟨_, _, h3, by rw [hc]; rfl, h4⟩
      | false =>
        obtain ⟨v, h3, h4⟩ := A y (by simp) _ h1
        exact ⟨_, _, h3, by rw [hc]; rfl, h4⟩
    · cases h1
  case build ty ps =>
    exact (buildK_ok (h := h) (k := fun v _ => k v) H W (fun p hp => A p.2 (by simp; exact ⟨p.1, by simpa using hp⟩)) e).next
  case load ty x => obtain ⟨v, h1, h2⟩ := A x (by simp) _ e; exact (loadK_ok (k := fun v _ => k v) H W h1 h2).next
  case nilCheck x =>
    obtain ⟨v, h1, h2⟩ := A x (by simp) _ e
    generalize a.eval x = v' at h2 ⊢
    unfold nilK at h1
    split at h1
    · cases h2
      rename_i p hp hs
      exact ⟨_, _, h1, rfl, .ptr hp hs⟩
    · cases h2
      rename_i q1 q2
      exact ⟨_, _, h1, rfl, .func _ q1 q2⟩
    · cases h2 with
      | snil => exact ⟨_, _, h1, rfl, .snil _ _⟩
      | slice _ _ hp hs => exact ⟨_, _, h1, rfl, .slice _ _ hp hs⟩
    · cases h2
      rename_i q1
      exact ⟨_, _, h1, rfl, .iface _ q1⟩
    · cases h1
  case binOp op ty x y yt =>
    obtain ⟨v, h1, h2⟩ := A x (by simp) _ e
    obtain ⟨u, h3, h4⟩ := A y (by simp) _ h1
    exact (binK_ok (k := fun v _ => k v) H W h3 h2 h4).next
  case unOp op ty x => obtain ⟨v, h1, h2⟩ := A x (by simp) _ e; exact (unK_ok (k := fun v _ => k v) W h1 h2).next
  case convert s d x => obtain ⟨v, h1, h2⟩ := A x (by simp) _ e; exact (convPK_ok (k := fun v _ => k v) H W h1 h2).next
  case makeInterface ty x => obtain ⟨v, h1, h2⟩ := A x (by simp) _ e; exact (ifaceK_ok (k := fun v _ => k v) H W h1 h2).next
  case makeFunc fn fs cs =>
    obtain ⟨v, h1, h2⟩ := evsK_ok' (fun x hx => A x (by simp; exact .inl (by simpa using hx))) e
    obtain ⟨u, h3, h4⟩ := evsK_ok' (fun x hx => A x (by simp; exact .inr (by simpa using hx))) h1
    exact (GivesP.pure (h := h) (k := fun v _ => k v) (x := Instr.makeFunc fn (fs.map a.eval) (cs.map a.eval)) W h3 rfl (.func fn (by simpa using h2) (by simpa using h4))).next
  case slice ty x l j m =>
    obtain ⟨v, h1, h2⟩ := A x (by simp) _ e
    obtain ⟨v1, h3, h4⟩ := oevK_ok (fun x hx => A x (by simp [hx])) h1
    obtain ⟨v2, h5, h6⟩ := oevK_ok (fun x hx => A x (by simp [hx])) h3
    obtain ⟨v3, h7, h8⟩ := oevK_ok (fun x hx => A x (by simp [hx])) h5
    exact (sliceK_ok (k := fun v _ => k v) H W h7 h2 h4 h6 h8).next
  case fieldAddr s x f => obtain ⟨v, h1, h2⟩ := A x (by simp) _ e; exact (fieldAddrK_ok (h := h) (k := fun v _ => k v) H W h1 h2).next
  case field s x f => obtain ⟨v, h1, h2⟩ := A x (by simp) _ e; exact (fieldK_ok (h := h) (k := fun v _ => k v) H W h1 h2).next
  case indexAddr ty x i =>
    obtain ⟨v, h1, h2⟩ := A x (by simp) _ e
    obtain ⟨u, h3, h4⟩ := A i (by simp) _ h1
    exact (indexAddrK_ok (h := h) (k := fun v _ => k v) H W h3 h2 h4).next
  case index ty x i =>
    obtain ⟨v, h1, h2⟩ := A x (by simp) _ e
    obtain ⟨u, h3, h4⟩ := A i (by simp) _ h1
    exact (indexK_ok (h := h) (k := fun v _ => k v) H W h3 h2 h4).next
  case extract x i => obtain ⟨v, h1, h2⟩ := A x (by simp) _ e; exact (extractK_ok (h := h) (k := fun v _ => k v) W h1 h2).next
  case lookup ty x i ok =>
    obtain ⟨v, h1, h2⟩ := A x (by simp) _ e
    obtain ⟨u, h3, h4⟩ := A i (by simp) _ h1
    exact (lookupK_ok (k := fun v _ => k v) H W h3 h2 h4).next
  case call c =>
    obtain ⟨callee, args, ts⟩ := c
    simp only [Call.operands] at A
    split at e
    · rename_i hc
      simp only at hc; subst hc
      split at e
      · rename_i s x q1 q2
        have r1 : ts = #[s] := Array.ext' q1
        have r2 : args = #[x] := Array.ext' q2
        clear q1 q2
        subst r1 r2
        obtain ⟨v, h1, h2⟩ := A x (by simp) _ e
        simp only [resolve, Sem.run_bind, Sem.run_pure, Result.andThen_ok, GivesF, invoke]
        rw [show (#[x] : Array Operand).map a.eval = #[a.eval x] from by simp]
        exact (lenOfK_ok (k := fun v _ => k v) H W h1 h2).next
      · cases e
    · rename_i hc
      simp only at hc; subst hc
      split at e
      · rename_i s x q1 q2
        have r1 : ts = #[s] := Array.ext' q1
        have r2 : args = #[x] := Array.ext' q2
        clear q1 q2
        subst r1 r2
        obtain ⟨v, h1, h2⟩ := A x (by simp) _ e
        simp only [resolve, Sem.run_bind, Sem.run_pure, Result.andThen_ok, GivesF, invoke]
        rw [show (#[x] : Array Operand).map a.eval = #[a.eval x] from by simp]
        exact (capOfK_ok (k := fun v _ => k v) H W h1 h2).next
      · cases e
    · rename_i hc
      simp only at hc; subst hc
      split at e
      · rename_i x y q2
        have r2 : args = #[x, y] := Array.ext' q2
        clear q2
        subst r2
        obtain ⟨v, h1, h2⟩ := A x (by simp) _ e
        obtain ⟨u, h3, h4⟩ := A y (by simp) _ h1
        simp only [resolve, Sem.run_bind, Sem.run_pure, Result.andThen_ok, GivesF, invoke]
        rw [show (#[x, y] : Array Operand).map a.eval = #[a.eval x, a.eval y] from by simp]
        exact (max2K_ok (h := h) (k := fun v _ => k v) W (t := ts) (ty := ts) h3 h2 h4).next
      · cases e
    · rename_i hc
      simp only at hc; subst hc
      split at e
      · rename_i x y q2
        have r2 : args = #[x, y] := Array.ext' q2
        clear q2
        subst r2
        obtain ⟨v, h1, h2⟩ := A x (by simp) _ e
        obtain ⟨u, h3, h4⟩ := A y (by simp) _ h1
        simp only [resolve, Sem.run_bind, Sem.run_pure, Result.andThen_ok, GivesF, invoke]
        rw [show (#[x, y] : Array Operand).map a.eval = #[a.eval x, a.eval y] from by simp]
        exact (min2K_ok (h := h) (k := fun v _ => k v) W (t := ts) (ty := ts) h3 h2 h4).next
      · cases e
    · rename_i hc
      simp only at hc; subst hc
      split at e
      · rename_i x q2
        have r2 : args = #[x] := Array.ext' q2
        clear q2
        subst r2
        obtain ⟨v, h1, h2⟩ := A x (by simp) _ e
        simp only [resolve, Sem.run_bind, Sem.run_pure, Result.andThen_ok, GivesF, invoke]
        rw [show (#[x] : Array Operand).map a.eval = #[a.eval x] from by simp]
        exact (sdK_ok (h := h) (k := fun v _ => k v) W h1 h2).next
      · cases e
    · cases e
  all_goals cases e
theorem effK_ok (H : EnvOk P E) (W : WR E F ρ h w) {t : Tm} {a : Act} {o : Oper} (A : ∀ x ∈ o.op.operands, OpdR E N ρ t a x) {k : Hk} (e : effK E N o.op t h k = .ok) : GivesN P E F ρ h w (execOp a.eval o) k := by
  obtain ⟨dst, op, type, pos, after, guard⟩ := o
  cases op <;> simp only [effK] at e <;> simp only [execOp]
  all_goals simp only [Op.operands] at A
  case assign x =>
    obtain ⟨v, h1, h2⟩ := A x (by simp) _ e
    exact ⟨v, h, ρ, _, w, _, h1, rfl, .inl rfl, h2, W, .refl F ρ h w⟩
  case alloc el => exact (allocK_ok H W e).next
  case box el x => obtain ⟨v, h1, h2⟩ := A x (by simp) _ e; exact (boxK_ok W h1 h2).next
  case buildSlice ty n ps => exact (buildSliceK_ok H W (fun p hp => A p.2 (by simp; exact ⟨p.1, by simpa using hp⟩)) e).next
  case store ty x y =>
    obtain ⟨v, h1, h2⟩ := A x (by simp) _ e
    obtain ⟨u, h3, h4⟩ := A y (by simp) _ h1
    obtain ⟨h', w', q1, q2, q3, q4⟩ := storeK_ok H W h3 h2 h4
    exact ⟨_, h', ρ, _, w', _, q1, by rw [Sem.run_bind, q2]; rfl, .inr ⟨rfl, rfl⟩, .tuple .nil, q3, q4⟩
  case convert s d x => obtain ⟨v, h1, h2⟩ := A x (by simp) _ e; exact (convSK_ok H W h1 h2).next
  case makeSlice ty l c =>
    obtain ⟨v, h1, h2⟩ := A l (by simp) _ e
    obtain ⟨u, h3, h4⟩ := A c (by simp) _ h1
    exact (makeSliceK_ok H W h3 h2 h4).next
  case makeMap ty r =>
    split at e
    · exact (makeMapK_ok W e).next
    · cases e
  case mapUpdate ty m x y =>
    obtain ⟨v, h1, h2⟩ := A m (by simp) _ e
    obtain ⟨u, h3, h4⟩ := A x (by simp) _ h1
    obtain ⟨z, h5, h6⟩ := A y (by simp) _ h3
    obtain ⟨h', w', q1, q2, q3, q4⟩ := mapUpdateK_ok H W h5 h2 h4 h6
    exact ⟨_, h', ρ, _, w', _, q1, by rw [Sem.run_bind, q2]; rfl, .inr ⟨rfl, rfl⟩, .tuple .nil, q3, q4⟩
  case insert ty m x y =>
    obtain ⟨v, h1, h2⟩ := A m (by simp) _ e
    obtain ⟨u, h3, h4⟩ := A x (by simp) _ h1
    obtain ⟨z, h5, h6⟩ := A y (by simp) _ h3
    obtain ⟨h', w', q1, q2, q3, q4⟩ := mapUpdateK_ok H W h5 h2 h4 h6
    exact ⟨_, h', ρ, _, w', _, q1, by rw [Sem.run_bind, q2]; rfl, .inr ⟨rfl, rfl⟩, .tuple .nil, q3, q4⟩
  case call c =>
    obtain ⟨callee, args, ts⟩ := c
    simp only [Call.operands] at A
    split at e
    · rename_i hc
      simp only at hc; subst hc
      split at e
      · rename_i s t2 x y q1 q2
        have r1 : ts = #[s, t2] := Array.ext' q1
        have r2 : args = #[x, y] := Array.ext' q2
        clear q1 q2
        subst r1 r2
        obtain ⟨v, h1, h2⟩ := A x (by simp) _ e
        obtain ⟨u, h3, h4⟩ := A y (by simp) _ h1
        simp only [resolve, Sem.run_bind, Sem.run_pure, Result.andThen_ok, GivesN, invoke]
        rw [show (#[x, y] : Array Operand).map a.eval = #[a.eval x, a.eval y] from by simp]
        exact (appendK_ok H W h3 h2 h4 _).next
      · cases e
    · rename_i hc
      simp only at hc; subst hc
      split at e
      · rename_i s t2 x y q1 q2
        have r1 : ts = #[s, t2] := Array.ext' q1
        have r2 : args = #[x, y] := Array.ext' q2
        clear q1 q2
        subst r1 r2
        obtain ⟨v, h1, h2⟩ := A x (by simp) _ e
        obtain ⟨u, h3, h4⟩ := A y (by simp) _ h1
        simp only [resolve, Sem.run_bind, Sem.run_pure, Result.andThen_ok, GivesN, invoke]
        rw [show (#[x, y] : Array Operand).map a.eval = #[a.eval x, a.eval y] from by simp]
        exact (copyK_ok H W h3 h2 h4).next
      · cases e
    · rename_i hc
      simp only at hc; subst hc
      split at e
      · rename_i s t2 x y q1 q2
        have r1 : ts = #[s, t2] := Array.ext' q1
        have r2 : args = #[x, y] := Array.ext' q2
        clear q1 q2
        subst r1 r2
        obtain ⟨v, h1, h2⟩ := A x (by simp) _ e
        obtain ⟨u, h3, h4⟩ := A y (by simp) _ h1
        simp only [resolve, Sem.run_bind, Sem.run_pure, Result.andThen_ok, GivesN, invoke]
        rw [show (#[x, y] : Array Operand).map a.eval = #[a.eval x, a.eval y] from by simp]
        exact (usK_ok H W h3 h2 h4).next
      · cases e
    · cases e
  all_goals cases e
end Go.Proofs.YtcoecbpeilmdmaaGreatDoorCx
