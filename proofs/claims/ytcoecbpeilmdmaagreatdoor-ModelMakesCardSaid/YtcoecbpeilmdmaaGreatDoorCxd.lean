/-
  Code that is walked over a small heap of its own goes so in the machine: the steps of such a walk. No condition.
-/
import Derived.Test.YtcoecbpeilmdmaaGreatDoorCxc
set_option linter.unusedVariables false
set_option linter.unusedSimpArgs false
namespace Go.Proofs.YtcoecbpeilmdmaaGreatDoorCx
/-- Temporaries that are told of stand in the other list too. -/
def SubT (N : Nat) (t0 t : Tm) : Prop := (∀ i v, i ≠ N → t0.get i = some v → t.get i = some v) ∧ t0.get N = t.get N
theorem TR.subT {ρ : Mp} {N : Nat} {t0 t : Tm} {a : Act} (h : TR ρ N t a) (s : SubT N t0 t) : TR ρ N t0 a :=
  ⟨h.size, fun i v hi hv => h.get i v hi (s.1 i v hi hv), fun e => h.none (by rw [← s.2]; exact e), fun v e => h.defers v (by rw [← s.2]; exact e)⟩
/-- Whatever the machine's world, code goes well. -/
def SW (P : Program) (C : Cfg) (N : Nat) (c : Code) (t : Tm) (h : Hp) (k : XK) : Prop :=
  ∀ (F : Nat → Prop) (ρ : Mp) (a : Act) (w : World) (Q : Exit → Act → World → Prop), TR ρ N t a → WR C.env F ρ h w →
    (∀ x t' h' ρ' a' w', k x t' h' = .ok → TR ρ' N t' a' → WR C.env F ρ' h' w' → St F ρ h w ρ' h' w' → Q x.to a' w') → c.wp P Q a w ∧ ∀ x, c = .loop x → LoopAt P x Q a w
open Classical in
noncomputable def ideal (P : Program) (C : Cfg) : Run := fun N c t h k => if SW P C N c t h k then .ok else .no 0
theorem ideal_iff {P : Program} {C : Cfg} {N : Nat} {c : Code} {t : Tm} {h : Hp} {k : XK} : ideal P C N c t h k = .ok ↔ SW P C N c t h k := by
  unfold ideal
  split
  · simp_all
  · rename_i hn
    exact ⟨(fun e => nomatch e), (fun e => absurd e hn)⟩
/-- What is asked of a run. -/
structure Good (C : Cfg) (run : Run) : Prop where
  step : ∀ {N : Nat} {c : Code} {t : Tm} {h : Hp} {k : XK}, stepK C run (dkK C run) N c t h k = .ok → run N c t h k = .ok
  weak : ∀ {N : Nat} {c : Code} {t0 t : Tm} {h : Hp} {k : XK}, SubT N t0 t → run N c t0 h k = .ok → run N c t h k = .ok
theorem ideal_runOk (P : Program) (C : Cfg) : RunOk P C (ideal P C) := fun _ _ _ _ _ F ρ a w Q e A W hk => (ideal_iff.1 e F ρ a w Q A W hk).1
theorem ideal_loopOk (P : Program) (C : Cfg) : LoopOk P C (ideal P C) := fun _ c _ _ _ F ρ a w Q e A W hk => (ideal_iff.1 e F ρ a w Q A W hk).2 c rfl
theorem ideal_good {P : Program} {C : Cfg} (H : EnvOk P C.env) (K : KnOk P C) : Good C (ideal P C) where
  step := by
    intro N c t h k e
    obtain ⟨R, L⟩ := step_sound H K (ideal_runOk P C) (ideal_loopOk P C) (dkK_ok H K _ (ideal_runOk P C))
    refine ideal_iff.2 fun F ρ a w Q A W hk => ⟨R N c t h k F ρ a w Q e A W hk, ?_⟩
    rintro x rfl
    exact L N x t h k F ρ a w Q e A W hk
  weak := by
    intro N c t0 t h k s e
    exact ideal_iff.2 fun F ρ a w Q A W hk => ideal_iff.1 e F ρ a w Q (A.subT s) W hk
/-- What a call comes to, whatever it is called for. -/
def Does (C : Cfg) (run : Run) (f : Nat) (args : List Value) (h : Hp) (Q : Value → Hp → Prop) : Prop :=
  ∀ k : Hk, (∀ v h', Q v h' → k v h' = .ok) → callK C run (dkK C run) f args h k = .ok
theorem Does.mono {C : Cfg} {run : Run} {f : Nat} {args : List Value} {h : Hp} {Q Q' : Value → Hp → Prop} (d : Does C run f args h Q) (hq : ∀ v h', Q v h' → Q' v h') : Does C run f args h Q' :=
  fun k hk => d k fun v h' q => hk v h' (hq v h' q)
/-- A loop with a measure. -/
theorem Good.loop {C : Cfg} {run : Run} (G : Good C run) {α : Type} (μ : α → Nat) (tr : α → Tm) (I : α → Hp → Prop) {N : Nat} {c : Code} {k : XK}
    (round : ∀ i h, I i h → (∀ j h' t', μ j < μ i → I j h' → SubT N (tr j) t' → run N (.loop c) t' h' k = .ok) → run N c (tr i) h (fun e t h => match e with | .normal => run N (.loop c) t h k | .exit i => k (.exit i) t h | .ret => k .ret t h) = .ok)
    {i : α} {h : Hp} {t : Tm} (hi : I i h) (hs : SubT N (tr i) t) : run N (.loop c) t h k = .ok := by
  have main : ∀ n i h t, μ i < n → I i h → SubT N (tr i) t → run N (.loop c) t h k = .ok := by
    intro n
    induction n with
    | zero => intro i h t hn; omega
    | succ n ih =>
      intro i h t hn hi hs
      refine G.weak hs (G.step ?_)
      show run N c (tr i) h _ = .ok
      exact round i h hi fun j h' t' hj hI hs' => ih j h' t' (by omega) hI hs'
  exact main _ i h t (Nat.lt_succ_self _) hi hs
theorem subT_of {N : Nat} {t0 t : Tm} (h : ∀ i v, t0.get i = some v → t.get i = some v) (hN : t0.get N = none) (hN' : t.get N = none) : SubT N t0 t := ⟨fun i v _ e => h i v e, by rw [hN, hN']⟩
theorem subG_nil {t : Tm} : ∀ i v, (T.nil : Tm).get i = some v → t.get i = some v := fun i v e => by rw [T.get_nil] at e; cases e
theorem subG_node {a b : Option Value} {l r l' r' : Tm} (h0 : a = none ∨ a = b) (hl : ∀ i v, l.get i = some v → l'.get i = some v) (hr : ∀ i v, r.get i = some v → r'.get i = some v) :
    ∀ i v, (T.node a l r).get i = some v → (T.node b l' r').get i = some v := by
  intro i v e
  cases i with
  | zero =>
    rw [T.get_zero] at e ⊢
    rcases h0 with h0 | h0
    · rw [h0] at e; cases e
    · rw [← h0]; exact e
  | succ m =>
    rw [T.get_succ] at e ⊢
    split at e
    · rw [if_pos (by assumption)]; exact hl _ _ e
    · rw [if_neg (by assumption)]; exact hr _ _ e
end Go.Proofs.YtcoecbpeilmdmaaGreatDoorCx
namespace Go.Proofs.YtcoecbpeilmdmaaGreatDoorCx
/-- A tree with one more entry. -/
noncomputable def T.oneD {α : Type} (x : α) (f n : Nat) : T α := T.oneK x f n id
noncomputable def T.putD {α : Type} (t : T α) (x : α) (n : Nat) : T α := T.putK t x n id
theorem T.oneK_nat {α β γ : Type} (x : α) : ∀ (f n : Nat) (k : T α → β) (g : β → γ), g (T.oneK x f n k) = T.oneK x f n fun t => g (k t) := by
  intro f
  induction f with
  | zero => intro n k g; rfl
  | succ f ih =>
    intro n k g
    cases n with
    | zero => rfl
    | succ m =>
      show g (Bool.rec (motive := fun _ => β) (T.oneK x f (m / 2) _) (T.oneK x f (m / 2) _) (Nat.beq (m % 2) 0)) = Bool.rec (motive := fun _ => γ) (T.oneK x f (m / 2) _) (T.oneK x f (m / 2) _) (Nat.beq (m % 2) 0)
      cases Nat.beq (m % 2) 0 with
      | false => exact ih _ _ _
      | true => exact ih _ _ _
theorem T.putK_nat {α β γ : Type} (x : α) : ∀ (t : T α) (n : Nat) (k : T α → β) (g : β → γ), g (T.putK t x n k) = T.putK t x n fun t => g (k t) := by
  intro t
  induction t with
  | nil => intro n k g; exact T.oneK_nat x (n + 1) n k g
  | node v l r ihl ihr =>
    intro n k g
    cases n with
    | zero => rfl
    | succ m =>
      show g (Bool.rec (motive := fun _ => β) (T.putK r x (m / 2) _) (T.putK l x (m / 2) _) (Nat.beq (m % 2) 0)) = Bool.rec (motive := fun _ => γ) (T.putK r x (m / 2) _) (T.putK l x (m / 2) _) (Nat.beq (m % 2) 0)
      cases Nat.beq (m % 2) 0 with
      | false => exact ihr _ _ _
      | true => exact ihl _ _ _
theorem T.putK_eq {α β : Type} (t : T α) (x : α) (n : Nat) (k : T α → β) : T.putK t x n k = k (t.putD x n) := (T.putK_nat x t n id k).symm
theorem T.get_putD {α : Type} (t : T α) (x : α) (n m : Nat) : (t.putD x n).get m = if m = n then some x else t.get m := by
  obtain ⟨t', h1, h2⟩ := T.putK_spec x t n (id : T α → T α)
  unfold T.putD
  rw [h1]; exact h2 m
inductive Rd where
  | err
  | no
  | yes (m : Nat)
section
variable (C : Cfg) (N : Nat) (al : List Oper)
noncomputable def readyS (M : T Nat) (i : Nat) : List Edge → Nat → Rd
  | [], m => .yes m
  | e :: l, m => match bindsB e with
    | false => readyS M i l m
    | true => match Nat.blt e.on i with
      | false => .err
      | true => match M.get e.on with
        | none => .no
        | some q => readyS M i l (Nat.lor m (Nat.lor q (2 ^ e.on)))
theorem readyK_S (M : T Nat) (i : Nat) (no : R) (yes : Nat → R) : ∀ (l : List Edge) (m : Nat), readyK M i l no yes m = match readyS M i l m with | .err => .no 190 | .no => no | .yes m => yes m
  | [], m => rfl
  | e :: l, m => by
    show Bool.rec (motive := fun _ => R) (readyK M i l no yes m) (cut (Nat.blt e.on i) (Option.rec (motive := fun _ => R) no (fun q => fN (Nat.lor m (Nat.lor q (2 ^ e.on))) (readyK M i l no yes)) (M.get e.on)) (.no 190)) (bindsB e) = _
    unfold readyS
    cases bindsB e with
    | false => exact readyK_S M i no yes l m
    | true =>
      cases Nat.blt e.on i with
      | false => rfl
      | true =>
        cases M.get e.on with
        | none => rfl
        | some q =>
          show fN _ _ = _
          rw [fN_eq]; exact readyK_S M i no yes l _
inductive Ev where
  | fl (p : Ixo)
  | eff (p : Ixo) (re : List Ixo)
  | done (re : List Ixo)
/-- The floating operations that can be run. -/
noncomputable def sweepS : List Ixo → T Nat → List Ixo → Option (List Ev × T Nat × List Ixo × List Ixo)
  | [], M, fl => some ([], M, fl, [])
  | p :: l, M, fl => match isFloat C.env p.2.op with
    | false => match sweepS l M fl with
      | some (e, M, fl, out) => some (e, M, fl, p :: out)
      | none => none
    | true => match readyS M p.1 p.2.after.toList 0 with
      | .err => none
      | .no => match sweepS l M fl with
        | some (e, M, fl, out) => some (e, M, fl, p :: out)
        | none => none
      | .yes m => match pairOk m (looks al p.2) fl, p.2.dst with
        | true, some d => match Nat.blt d N, backOk al d (p :: fl) with
          | true, true => match sweepS l (M.putD m p.1) (p :: fl) with
            | some (e, M, fl, out) => some (.fl p :: e, M, fl, out)
            | none => none
          | _, _ => none
        | _, _ => none
noncomputable def selS (M : T Nat) : List Ixo → Option (Option (Nat × Ixo) × List Ixo)
  | [] => some (none, [])
  | p :: l => match readyS M p.1 p.2.after.toList 0 with
    | .err => none
    | .no => match selS M l with
      | some (s, rest) => some (s, p :: rest)
      | none => none
    | .yes m => match selS M l, isFloat C.env p.2.op with
      | some (none, rest), false => some (some (m, p), rest)
      | _, _ => none
noncomputable def filtS (m : Nat) : List Ixo → List Ixo
  | [] => []
  | p :: l => match tb m p.1 with
    | true => filtS m l
    | false => p :: filtS m l
noncomputable def drawS : Nat → List Ixo → T Nat → List Ixo → Option (List Ev)
  | 0, _, _, _ => none
  | n + 1, rem, M, fl => match sweepS C N al rem M fl with
    | none => none
    | some (e, _, fl, []) => some (e ++ [.done fl])
    | some (e, M, fl, p0 :: rem) => match selS C M (p0 :: rem) with
      | some (some (m, p), rest) => match pairOk m (looks al p.2) (filtS m fl), drawS n rest (M.putD m p.1) (filtS m fl) with
        | true, some r => some (e ++ .eff p fl :: r)
        | _, _ => none
      | _ => none
variable (run : Run) (dk : List Value → Hp → (Hp → R) → R)
noncomputable def playK : List Ev → Tm → Hp → (Tm → Hp → R) → R
  | [], t, h, k => k t h
  | .fl p :: l, t, h, k => floatGK C N al p.2 t h fun v => dstK N p.2.dst v t fun t => playK l t h k
  | .eff p re :: l, t, h, k => recheckK C N al t h re (oneGK C N run dk al p.2 t h fun v h => dstK N p.2.dst v t fun t => playK l t h k)
  | .done re :: l, t, h, k => recheckK C N al t h re (playK l t h k)
end
variable {C : Cfg} {N : Nat} {al : List Oper} {run : Run} {dk : List Value → Hp → (Hp → R) → R}
theorem playK_append : ∀ (a b : List Ev) (t : Tm) (h : Hp) (k : Tm → Hp → R), playK C N al run dk (a ++ b) t h k = playK C N al run dk a t h fun t h => playK C N al run dk b t h k
  | [], b, t, h, k => rfl
  | .fl p :: a, b, t, h, k => by simp only [List.cons_append, playK, playK_append a b]
  | .eff p re :: a, b, t, h, k => by simp only [List.cons_append, playK, playK_append a b]
  | .done re :: a, b, t, h, k => by simp only [List.cons_append, playK, playK_append a b]
/-- Floating operations alone: the heap stays. -/
inductive Fl : List Ev → Prop
  | nil : Fl []
  | cons {p l} : Fl l → Fl (.fl p :: l)
theorem sweepK_S (h : Hp) : ∀ (l : List Ixo) (M : T Nat) (fl : List Ixo) (e : List Ev) (M' : T Nat) (fl' out : List Ixo), sweepS C N al l M fl = some (e, M', fl', out) →
    Fl e ∧ ∀ (t : Tm) (k : SwK), sweepK C N al h l M t fl k = playK C N al run dk e t h fun t _ => k M' t fl' out
  | [], M, fl, e, M', fl', out, hs => by
    simp only [sweepS, Option.some.injEq, Prod.mk.injEq] at hs
    obtain ⟨rfl, rfl, rfl, rfl⟩ := hs
    exact ⟨.nil, fun t k => rfl⟩
  | p :: l, M, fl, e, M', fl', out, hs => by
    unfold sweepS at hs
    have hk : ∀ (t : Tm) (k : SwK), sweepK C N al h (p :: l) M t fl k = Bool.rec (motive := fun _ => R) (sweepK C N al h l M t fl fun M t fl out => k M t fl (p :: out))
        (readyK M p.1 p.2.after.toList (sweepK C N al h l M t fl fun M t fl out => k M t fl (p :: out)) (fun m => cut (pairOk m (looks al p.2) fl) (floatGK C N al p.2 t h fun v => match p.2.dst with
          | some d => cut (Nat.blt d N) (cut (backOk al d (p :: fl)) (T.putK t v d fun t => T.putK M m p.1 fun M => sweepK C N al h l M t (p :: fl) k) (.no 190)) (.no 191)
          | none => .no 192) (.no 193)) 0) (isFloat C.env p.2.op) := fun t k => rfl
    simp only [readyK_S] at hk
    generalize hf : isFloat C.env p.2.op = f at hs hk
    have skip : ∀ (hs : (match sweepS C N al l M fl with | some (e, M, fl, out) => some (e, M, fl, p :: out) | none => none) = some (e, M', fl', out)),
        Fl e ∧ ∀ (t : Tm) (k : SwK), (sweepK C N al h l M t fl fun M t fl out => k M t fl (p :: out)) = playK C N al run dk e t h fun t _ => k M' t fl' out := by
      intro hs
      split at hs
      · rename_i e1 M1 fl1 out1 h1
        simp only [Option.some.injEq, Prod.mk.injEq] at hs
        obtain ⟨rfl, rfl, rfl, rfl⟩ := hs
        obtain ⟨a, b⟩ := sweepK_S h l M fl _ _ _ _ h1
        exact ⟨a, fun t k => b t _⟩
      · cases hs
    cases f with
    | false =>
      obtain ⟨a, b⟩ := skip hs
      exact ⟨a, fun t k => (hk t k).trans (b t k)⟩
    | true =>
      simp only at hs
      generalize readyS M p.1 p.2.after.toList 0 = rd at hs hk
      cases rd with
      | err => cases hs
      | no =>
        obtain ⟨a, b⟩ := skip hs
        exact ⟨a, fun t k => (hk t k).trans (b t k)⟩
      | yes m =>
        simp only at hs
        split at hs
        · rename_i d hp hd
          split at hs
          · rename_i hb1 hb2
            split at hs
            · rename_i e1 M1 fl1 out1 h1
              simp only [Option.some.injEq, Prod.mk.injEq] at hs
              obtain ⟨rfl, rfl, rfl, rfl⟩ := hs
              obtain ⟨a, b⟩ := sweepK_S h l (M.putD m p.1) (p :: fl) _ _ _ _ h1
              refine ⟨.cons a, fun t k => (hk t k).trans ?_⟩
              show cut (pairOk m (looks al p.2) fl) _ _ = _
              rw [hp]
              show (floatGK C N al p.2 t h fun v => _) = floatGK C N al p.2 t h fun v => dstK N p.2.dst v t fun t => playK C N al run dk e1 t h fun t _ => k M1 t fl1 out1
              congr 1
              funext v
              rw [hd]
              show cut (Nat.blt d N) _ _ = cut (Nat.blt d N) (T.putK t v d fun t => playK C N al run dk e1 t h fun t _ => k M1 t fl1 out1) (.no 176)
              rw [hb1]
              show cut (backOk al d (p :: fl)) _ _ = T.putK t v d _
              rw [hb2]
              show (T.putK t v d fun t => T.putK M m p.1 fun M => _) = _
              simp only [T.putK_eq]
              exact b _ k
            · cases hs
          · cases hs
        · cases hs
theorem selK_S (M : T Nat) : ∀ (l : List Ixo) (s : Option (Nat × Ixo)) (rest : List Ixo), selS C M l = some (s, rest) → ∀ k, selK C M l k = k s rest
  | [], s, rest, hs, k => by
    simp only [selS, Option.some.injEq, Prod.mk.injEq] at hs
    obtain ⟨rfl, rfl⟩ := hs
    rfl
  | p :: l, s, rest, hs, k => by
    unfold selS at hs
    have hk : selK C M (p :: l) k = readyK M p.1 p.2.after.toList (selK C M l fun s rest => k s (p :: rest)) (fun m => selK C M l fun s rest => match s with
        | none => Bool.rec (motive := fun _ => R) (k (some (m, p)) rest) (.no 197) (isFloat C.env p.2.op)
        | some _ => .no 198) 0 := rfl
    rw [hk, readyK_S]
    generalize readyS M p.1 p.2.after.toList 0 = rd at hs
    cases rd with
    | err => cases hs
    | no =>
      simp only at hs
      split at hs
      · rename_i s1 r1 h1
        simp only [Option.some.injEq, Prod.mk.injEq] at hs
        obtain ⟨rfl, rfl⟩ := hs
        exact selK_S M l _ _ h1 _
      · cases hs
    | yes m =>
      simp only at hs
      split at hs
      · rename_i r1 h1 hf
        simp only [Option.some.injEq, Prod.mk.injEq] at hs
        obtain ⟨rfl, rfl⟩ := hs
        show (selK C M l fun s rest => _) = _
        rw [selK_S M l _ _ h1, hf]
      · cases hs
theorem filtK_S (m : Nat) : ∀ (l : List Ixo) (k : List Ixo → R), filtK m l k = k (filtS m l)
  | [], k => rfl
  | p :: l, k => by
    show Bool.rec (motive := fun _ => R) (filtK m l fun r => k (p :: r)) (filtK m l k) (tb m p.1) = _
    unfold filtS
    cases tb m p.1 with
    | false => exact filtK_S m l _
    | true => exact filtK_S m l _
theorem play_fl {e : List Ev} (F : Fl e) (h : Hp) : ∀ (t : Tm) (k k' : Tm → Hp → R), (∀ t, k t h = k' t h) → playK C N al run dk e t h k = playK C N al run dk e t h k' := by
  induction F with
  | nil => intro t k k' hk; exact hk t
  | @cons p l _ ih =>
    intro t k k' hk
    show (floatGK C N al p.2 t h fun v => dstK N p.2.dst v t fun t => playK C N al run dk l t h k) = floatGK C N al p.2 t h fun v => dstK N p.2.dst v t fun t => playK C N al run dk l t h k'
    congr 1; funext v; congr 1; funext t; exact ih t k k' hk
theorem drawK_S : ∀ (n : Nat) (rem : List Ixo) (M : T Nat) (fl : List Ixo) (evs : List Ev), drawS C N al n rem M fl = some evs → ∀ (t : Tm) (h : Hp) (k : Tm → Hp → R), drawK C N run dk al n rem M t h fl k = playK C N al run dk evs t h k
  | 0, rem, M, fl, evs, hs, t, h, k => by cases hs
  | n + 1, rem, M, fl, evs, hs, t, h, k => by
    have hk : drawK C N run dk al (n + 1) rem M t h fl k = sweepK C N al h rem M t fl fun M t fl rem => recheckK C N al t h fl (List.casesOn (motive := fun _ => R) rem (k t h)
      fun _ _ => selK C M rem fun s rest => match s with
        | none => .no 200
        | some (m, p) => filtK m fl fun fl => cut (pairOk m (looks al p.2) fl) (oneGK C N run dk al p.2 t h fun v h => dstK N p.2.dst v t fun t => T.putK M m p.1 fun M => drawK C N run dk al n rest M t h fl k) (.no 201)) := rfl
    unfold drawS at hs
    split at hs
    · cases hs
    · rename_i e M1 fl1 h1
      cases hs
      obtain ⟨a, b⟩ := sweepK_S (run := run) (dk := dk) h _ _ _ _ _ _ _ h1
      rw [hk, b, playK_append]
      exact play_fl a h t _ _ fun t => rfl
    · rename_i e M1 fl1 p0 rem1 h1
      split at hs
      · rename_i m p rest h2
        split at hs
        · rename_i r hp h3
          cases hs
          obtain ⟨a, b⟩ := sweepK_S (run := run) (dk := dk) h _ _ _ _ _ _ _ h1
          rw [hk, b, playK_append]
          refine play_fl a h t _ _ fun t => ?_
          show recheckK C N al t h fl1 (selK C M1 (p0 :: rem1) _) = recheckK C N al t h fl1 _
          rw [selK_S M1 _ _ _ h2]
          show recheckK C N al t h fl1 (filtK m fl1 _) = _
          rw [filtK_S, hp]
          congr 1
          show (oneGK C N run dk al p.2 t h fun v h => _) = oneGK C N run dk al p.2 t h fun v h => _
          congr 1
          funext v h'
          congr 1
          funext t'
          rw [T.putK_eq]
          exact drawK_S n _ _ _ _ h3 t' h' k
        · cases hs
      · cases hs
theorem idxK_S : ∀ (l : List Oper) (n : Nat) (k : List Ixo → R), idxK l n k = k (idx l n)
  | [], _, _ => rfl
  | o :: l, n, k => by
    show idxK l (n + 1) (fun r => k ((n, o) :: r)) = _
    exact idxK_S l (n + 1) _
theorem regionK_S {l : List Oper} {evs : List Ev} (hs : drawS C N l (Nat.succ (idx l 0).length) (idx l 0) .nil [] = some evs) {t : Tm} {h : Hp} {k : Tm → Hp → R} (e : playK C N l run dk evs t h k = .ok) : regionK C N run dk l t h k = .ok := by
  unfold regionK
  rw [idxK_S, drawK_S _ _ _ _ _ hs]
  exact e
end Go.Proofs.YtcoecbpeilmdmaaGreatDoorCx
namespace Go.Proofs.YtcoecbpeilmdmaaGreatDoorCx
noncomputable def Hp.at (h : Hp) (i : Nat) : Option Cell := h.t.get i
noncomputable def Hp.upd (h : Hp) (i : Nat) (c : Cell) : Hp := ⟨h.t.putD c i, h.n⟩
noncomputable def Hp.add (h : Hp) (c : Cell) : Hp := ⟨h.t.putD c h.n, h.n + 1⟩
theorem Hp.at_upd (h : Hp) (i : Nat) (c : Cell) (m : Nat) : (h.upd i c).at m = if m = i then some c else h.at m := T.get_putD _ _ _ _
theorem Hp.at_add (h : Hp) (c : Cell) (m : Nat) : (h.add c).at m = if m = h.n then some c else h.at m := T.get_putD _ _ _ _
theorem Hp.n_upd (h : Hp) (i : Nat) (c : Cell) : (h.upd i c).n = h.n := rfl
theorem Hp.n_add (h : Hp) (c : Cell) : (h.add c).n = h.n + 1 := rfl
theorem fI_go {i : Int} {k : Int → R} (h : k i = .ok) : fI i k = .ok := (fI_eq i k).trans h
theorem fN_go {i : Nat} {k : Nat → R} (h : k i = .ok) : fN i k = .ok := (fN_eq i k).trans h
theorem wrap_go {kd : IntKind} {i : Int} {k : Int → R} (h : k (kd.wrap i) = .ok) : wrapK kd i k = .ok := (wrapK_eq kd i k).trans h
theorem wrap_as {kd : IntKind} {i j : Int} {k : Int → R} (e : kd.wrap i = j) (h : k j = .ok) : wrapK kd i k = .ok := (wrapK_eq kd i k).trans (by rw [e]; exact h)
theorem fB_lt {a b : Int} {k : Bool → R} (h1 : a < b → k true = .ok) (h2 : ¬ a < b → k false = .ok) : fB (iLt a b) k = .ok := by
  rw [fB_eq, iLt_eq]
  by_cases h : a < b
  · rw [decide_eq_true h]; exact h1 h
  · rw [decide_eq_false h]; exact h2 h
theorem fB_eq' {a b : Int} {k : Bool → R} (h1 : a = b → k true = .ok) (h2 : ¬ a = b → k false = .ok) : fB (iEq a b) k = .ok := by
  rw [fB_eq, iEq_eq]
  by_cases h : a = b
  · rw [decide_eq_true h]; exact h1 h
  · rw [decide_eq_false h]; exact h2 h
theorem fB_bytes {a b : List UInt8} {k : Bool → R} (h1 : a = b → k true = .ok) (h2 : ¬ a = b → k false = .ok) : fB (bytesEq a b) k = .ok := by
  rw [fB_eq, bytesEq_eq]
  by_cases h : a = b
  · subst h; rw [beq_self_eq_true]; exact h1 rfl
  · rw [beq_eq_false_iff_ne.2 h]; exact h2 h
theorem fB_any {b : Bool} {k : Bool → R} (h1 : b = true → k true = .ok) (h2 : b = false → k false = .ok) : fB b k = .ok := by
  cases b with
  | true => exact h1 rfl
  | false => exact h2 rfl
theorem fB_true {k : Bool → R} (h : k true = .ok) : fB true k = .ok := h
theorem fB_false {k : Bool → R} (h : k false = .ok) : fB false k = .ok := h
theorem bool_go {b : Bool} {x y : R} (h1 : b = true → y = .ok) (h2 : b = false → x = .ok) : Bool.rec (motive := fun _ => R) x y b = .ok := by
  cases b with
  | true => exact h1 rfl
  | false => exact h2 rfl
theorem quo_go {a : Int} {x y : R} (h : a ≠ 0) (hx : x = .ok) : Bool.rec (motive := fun _ => R) x y (iEq a 0) = .ok := by
  rw [iEq_eq, decide_eq_false h]; exact hx
theorem neg_go {a : Int} {x y : R} (h : 0 ≤ a) (hx : x = .ok) : Bool.rec (motive := fun _ => R) x y (iLt a 0) = .ok := by
  rw [iLt_eq, decide_eq_false (by omega)]; exact hx
theorem cut_go {b : Bool} {x y : R} (hb : b = true) (h : x = .ok) : cut b x y = .ok := by rw [hb]; exact h
theorem cut_lt {a b : Nat} {x y : R} (hb : a < b) (h : x = .ok) : cut (Nat.blt a b) x y = .ok := cut_go (by rw [blt_iff]; exact decide_eq_true hb) h
theorem cut_le {a b : Nat} {x y : R} (hb : a ≤ b) (h : x = .ok) : cut (Nat.ble a b) x y = .ok := cut_go (by rw [Nat.ble_eq]; exact hb) h
theorem cut_eq {a b : Nat} {x y : R} (hb : a = b) (h : x = .ok) : cut (Nat.beq a b) x y = .ok := cut_go (by rw [hb]; exact Nat.beq_refl b) h
theorem nat_go {kd : IntKind} {i : Int} {k : Nat → R} (h0 : 0 ≤ i) (h : k i.toNat = .ok) : natK (.int kd i) k = .ok := by
  obtain ⟨n, rfl⟩ := Int.eq_ofNat_of_zero_le h0
  exact h
theorem natl_go {kd : IntKind} {n : Nat} {k : Nat → R} (h : k n = .ok) : natK (.int kd (.ofNat n)) k = .ok := h
theorem blk_go {h : Hp} {i : Nat} {e : TypeId} {g w : Bool} {cs : List Value} {k : TypeId → Bool → Bool → List Value → R} (hb : h.at i = some (.cells e g w cs)) (hk : k e g w cs = .ok) : blkK h i k = .ok := by
  unfold blkK
  have hb : h.t.get i = some (.cells e g w cs) := hb
  rw [hb]; exact hk
theorem hp_go {h : Hp} {c : Cell} {i : Nat} {k : Hp → R} (hk : k (h.upd i c) = .ok) : hpK h c i k = .ok := by
  unfold hpK
  rw [T.putK_eq]; exact hk
theorem new_go {h : Hp} {c : Cell} {k : Nat → Hp → R} (hk : k h.n (h.add c) = .ok) : newK h c k = .ok := by
  unfold newK
  rw [T.putK_eq]; exact hk
theorem takeK_id : ∀ (n : Nat) (l : List Value) (k : CsK), n ≤ l.length → takeK n l k = k (l.take n)
  | 0, l, k, _ => by rw [List.take_zero]; rfl
  | n + 1, [], k, h => by simp at h
  | n + 1, v :: r, k, h => takeK_id n r (fun t => k (v :: t)) (by simpa using h)
theorem dropK_id : ∀ (n : Nat) (l : List Value) (k : CsK), n ≤ l.length → dropK n l k = k (l.drop n)
  | 0, l, k, _ => rfl
  | n + 1, [], k, h => by simp at h
  | n + 1, v :: r, k, h => dropK_id n r k (by simpa using h)
theorem overK_id : ∀ (vs l : List Value) (k : CsK), vs.length ≤ l.length → overK vs l k = k (vs ++ l.drop vs.length)
  | [], l, k, _ => rfl
  | v :: vs, [], k, h => by simp at h
  | v :: vs, _ :: r, k, h => overK_id vs r (fun t => k (v :: t)) (by simpa using h)
theorem setK_id : ∀ (n : Nat) (vs l : List Value) (k : CsK), n + vs.length ≤ l.length → setK vs n l k = k (putAt l vs n)
  | 0, vs, l, k, h => by
    show overK vs l k = _
    rw [overK_id vs l k (by omega)]
    simp [putAt]
  | n + 1, vs, [], k, h => by simp at h
  | n + 1, vs, v :: r, k, h => by
    show setK vs n r (fun t => k (v :: t)) = _
    rw [setK_id n vs r _ (by simp at h; omega)]
    unfold putAt
    rw [show n + 1 + vs.length = n + vs.length + 1 by omega]
    simp
theorem take_go {n : Nat} {l : List Value} {k : CsK} (hn : n ≤ l.length) (hk : k (l.take n) = .ok) : takeK n l k = .ok := (takeK_id n l k hn).trans hk
theorem drop_go {n : Nat} {l : List Value} {k : CsK} (hn : n ≤ l.length) (hk : k (l.drop n) = .ok) : dropK n l k = .ok := (dropK_id n l k hn).trans hk
theorem ones_one {x : Value} (h : one1 x = true) : ones (cells x) = true ∧ cells x = [x] := by
  cases x <;> first | exact ⟨rfl, rfl⟩ | cases h
section
variable {E : Env} {t : TypeId} {ti : TI} {b o : Nat} {h : Hp} {e : TypeId} {g w : Bool} {cs : List Value} {v : Value}
theorem ld_go {k : Hk} (ht : E.ty.get t = some ti) (ha : ti.agg = false) (hb : h.at b = some (.cells e g w cs)) (hc : cs[o]? = some v) (hk : k v h = .ok) : loadK E t (.pointer (some ⟨b, o, none⟩)) h k = .ok := by
  show blkK h b (fun _ _ _ cs => tyK E t fun ti => partK ti cs o fun v => k v h) = .ok
  refine blk_go hb ?_
  unfold tyK
  rw [ht]
  show partK ti cs o _ = .ok
  unfold partK
  have hl : o < cs.length := by
    rcases Nat.lt_or_ge o cs.length with h | h
    · exact h
    · rw [List.getElem?_eq_none h] at hc; cases hc
  rw [dropK_id _ _ _ (by omega), ha]
  have : cs.drop o = v :: cs.drop (o + 1) := by
    rw [List.getElem?_eq_getElem hl] at hc
    injection hc with hc
    rw [List.drop_eq_getElem_cons hl, hc]
  rw [this]
  exact hk
theorem ldN_go {k : Hk} (ht : E.ty.get t = some ti) (ha : ti.agg = true) (hb : h.at b = some (.cells e g w cs)) (hc : o + ti.size ≤ cs.length) (hk : k (.agg ⟨(cs.drop o).take ti.size⟩) h = .ok) : loadK E t (.pointer (some ⟨b, o, none⟩)) h k = .ok := by
  show blkK h b (fun _ _ _ cs => tyK E t fun ti => partK ti cs o fun v => k v h) = .ok
  refine blk_go hb ?_
  unfold tyK
  rw [ht]
  show partK ti cs o _ = .ok
  unfold partK
  rw [dropK_id _ _ _ (by omega), ha]
  show takeK ti.size (cs.drop o) _ = .ok
  exact take_go (by simp; omega) hk
theorem st_go {k : Hp → R} {x : Value} (ht : E.ty.get t = some ti) (hs : ti.size = 1) (hx : one1 x = true) (hb : h.at b = some (.cells e g true cs)) (ho : o < cs.length) (hk : k (h.upd b (.cells e g true (cs.set o x))) = .ok) :
    storeK E t (.pointer (some ⟨b, o, none⟩)) x h k = .ok := by
  obtain ⟨h1, h2⟩ := ones_one hx
  show blkK h b (fun e g wr cs => cut wr (tyK E t fun ti => cut (ones (cells x)) (lenK (cells x) fun n => cut (Nat.beq n ti.size) (setK (cells x) o cs fun cs => hpK h (.cells e g wr cs) b k) (.no 53)) (.no 54)) (.no 55)) = .ok
  refine blk_go hb ?_
  show tyK E t _ = .ok
  unfold tyK
  rw [ht]
  show cut (ones (cells x)) _ _ = .ok
  refine cut_go h1 ?_
  rw [h2]
  show cut (Nat.beq 1 ti.size) _ _ = .ok
  refine cut_eq hs.symm ?_
  rw [setK_id _ _ _ _ (by simp; omega)]
  refine hp_go ?_
  have : putAt cs [x] o = cs.set o x := by
    unfold putAt
    rw [List.set_eq_take_append_cons_drop, if_pos ho]
    rfl
  rw [this]; exact hk
theorem stN_go {k : Hp → R} {x : Array Value} (ht : E.ty.get t = some ti) (hs : x.toList.length = ti.size) (hx : ones x.toList = true) (hb : h.at b = some (.cells e g true cs)) (ho : o + ti.size ≤ cs.length) (hk : k (h.upd b (.cells e g true (putAt cs x.toList o))) = .ok) :
    storeK E t (.pointer (some ⟨b, o, none⟩)) (.agg x) h k = .ok := by
  show blkK h b (fun e g wr cs => cut wr (tyK E t fun ti => cut (ones x.toList) (lenK x.toList fun n => cut (Nat.beq n ti.size) (setK x.toList o cs fun cs => hpK h (.cells e g wr cs) b k) (.no 53)) (.no 54)) (.no 55)) = .ok
  refine blk_go hb ?_
  show tyK E t _ = .ok
  unfold tyK
  rw [ht]
  show cut (ones x.toList) _ _ = .ok
  refine cut_go hx ?_
  rw [lenK_eq]
  refine cut_eq hs ?_
  rw [setK_id _ _ _ _ (by omega)]
  exact hp_go hk
end
section
variable {C : Cfg} {N : Nat} {al : List Oper} {t : Tm} {h : Hp} {x : R}
theorem recheck_nil (hx : x = .ok) : recheckK C N al t h [] x = .ok := hx
theorem recheck_cons {p : Ixo} {fl : List Ixo} {d : Nat} {u : Value} (hd : p.2.dst = some d) (hu : t.get d = some u) (h1 : floatGK C N al p.2 t h (fun v => cut (vEq v u) .ok (.no 195)) = .ok) (hx : recheckK C N al t h fl x = .ok) : recheckK C N al t h (p :: fl) x = .ok := by
  show (match p.2.dst with
    | some d => Option.rec (motive := fun _ => R) (.no 194) (fun u => R.casesOn (motive := fun _ => R) (floatGK C N al p.2 t h fun v => cut (vEq v u) .ok (.no 195)) (recheckK C N al t h fl x) (fun n => .no n)) (t.get d)
    | none => .no 196) = .ok
  rw [hd]
  show Option.rec (motive := fun _ => R) (.no 194) (fun u => R.casesOn (motive := fun _ => R) (floatGK C N al p.2 t h fun v => cut (vEq v u) .ok (.no 195)) (recheckK C N al t h fl x) (fun n => .no n)) (t.get d) = .ok
  rw [hu]
  show R.casesOn (motive := fun _ => R) (floatGK C N al p.2 t h fun v => cut (vEq v u) .ok (.no 195)) (recheckK C N al t h fl x) (fun n => .no n) = .ok
  rw [h1]; exact hx
end
theorem bEq_self (b : Bool) : bEq b b = true := by cases b <;> rfl
theorem ikEq_self (k : IntKind) : ikEq k k = true := Nat.beq_refl _
theorem iEq_self (i : Int) : iEq i i = true := by rw [iEq_eq]; exact decide_eq_true rfl
theorem bytesEq_self (l : List UInt8) : bytesEq l l = true := by rw [bytesEq_eq]; exact beq_self_eq_true l
/-- Values that are told equal to themselves. -/
def tame1 : Value → Prop
  | .bool _ | .int .. | .string _ | .pointer none | .slice none .. | .map _ | .nilFunc | .nilIface => True
  | .pointer (some a) => a.spot = none
  | .slice (some a) _ _ => a.spot = none
  | _ => False
theorem vEq1_self : ∀ {v : Value}, tame1 v → vEq1 v v = true
  | .bool b, _ => bEq_self b
  | .int k n, _ => by show andB (ikEq k k) (iEq n n) = true; rw [ikEq_self, iEq_self]; rfl
  | .string s, _ => bytesEq_self _
  | .pointer none, _ => rfl
  | .pointer (some ⟨b, o, s⟩), h => by
    have h : s = none := h
    subst h
    show andB (Nat.beq b b) (Nat.beq o o) = true
    rw [Nat.beq_refl, Nat.beq_refl]; rfl
  | .slice none n c, _ => by show andB (Nat.beq n n) (Nat.beq c c) = true; rw [Nat.beq_refl, Nat.beq_refl]; rfl
  | .slice (some ⟨b, o, s⟩) n c, h => by
    have h : s = none := h
    subst h
    show andB (andB (Nat.beq b b) (Nat.beq o o)) (andB (Nat.beq n n) (Nat.beq c c)) = true
    rw [Nat.beq_refl, Nat.beq_refl, Nat.beq_refl, Nat.beq_refl]; rfl
  | .map none, _ => rfl
  | .map (some r), _ => Nat.beq_refl r
  | .nilFunc, _ => rfl
  | .nilIface, _ => rfl
theorem vsEq_self : ∀ {l : List Value}, (∀ v ∈ l, tame1 v) → vsEq l l = true
  | [], _ => rfl
  | v :: l, h => by
    show andB (vEq1 v v) (vsEq l l) = true
    rw [vEq1_self (h v (by simp)), vsEq_self (fun u hu => h u (by simp [hu]))]; rfl
theorem vEq_1 {v : Value} (h : tame1 v) : vEq v v = true := by
  cases v <;> first | exact vEq1_self h | exact absurd h (by simp [tame1])
theorem vEq_agg {a : Array Value} (h : ∀ v ∈ a.toList, tame1 v) : vEq (.agg a) (.agg a) = true := vsEq_self h
theorem vEq_tuple {a : Array Value} (h : ∀ v ∈ a.toList, tame1 v) : vEq (.tuple a) (.tuple a) = true := vsEq_self h
theorem same_go {v u : Value} (e : v = u) (h : vEq u u = true) : cut (vEq v u) .ok (.no 195) = .ok := by rw [e, h]; rfl
theorem call_go {C : Cfg} {run : Run} {f : Nat} {args : List Value} {h : Hp} {Q : Value → Hp → Prop} {k : Hk} (d : Does C run f args h Q) (hk : ∀ v h', Q v h' → k v h' = .ok) : callK C run (dkK C run) f args h k = .ok := d k hk
theorem enter_go {C : Cfg} {run : Run} {f : Nat} {fi : FI} {args : List Value} {h : Hp} {k : Hk} (hn : C.kn.get f = none) (hf : C.env.fn.get f = some fi) (e : bodyK C run (dkK C run) fi args h k = .ok) : callK C run (dkK C run) f args h k = .ok := by
  unfold callK
  rw [hn, hf]; exact e
end Go.Proofs.YtcoecbpeilmdmaaGreatDoorCx
namespace Go.Proofs.YtcoecbpeilmdmaaGreatDoorCx
section
variable {C : Cfg} {run : Run} (G : Good C run) {N : Nat} {t : Tm} {h : Hp} {k : XK}
include G
theorem Good.seq {a b : Code} (e : stepK C run (dkK C run) N (.seq a b) t h k = .ok) : run N (.seq a b) t h k = .ok := G.step e
theorem Good.region {i : Nat} {o : Array Oper} {d : Bool} (e : stepK C run (dkK C run) N (.region i o d) t h k = .ok) : run N (.region i o d) t h k = .ok := G.step e
theorem Good.cond {c : Operand} {a b : Code} (e : stepK C run (dkK C run) N (.cond c a b) t h k = .ok) : run N (.cond c a b) t h k = .ok := G.step e
theorem Good.block {i : Nat} {a : Code} (e : stepK C run (dkK C run) N (.block i a) t h k = .ok) : run N (.block i a) t h k = .ok := G.step e
theorem Good.exit {i : Nat} (e : stepK C run (dkK C run) N (.exit i) t h k = .ok) : run N (.exit i) t h k = .ok := G.step e
theorem Good.scope {a : Code} (e : stepK C run (dkK C run) N (.scope a) t h k = .ok) : run N (.scope a) t h k = .ok := G.step e
theorem Good.ret (e : stepK C run (dkK C run) N .ret t h k = .ok) : run N .ret t h k = .ok := G.step e
theorem Good.skip (e : stepK C run (dkK C run) N .skip t h k = .ok) : run N .skip t h k = .ok := G.step e
end
noncomputable def tmOf : List (Nat × Value) → Tm
  | [] => .nil
  | (i, v) :: l => (tmOf l).putD v i
def Has (t : Tm) : List (Nat × Value) → Prop
  | [] => True
  | (i, v) :: l => t.get i = some v ∧ Has t l
def NotIn (N : Nat) : List (Nat × Value) → Bool
  | [] => true
  | (i, _) :: l => !(Nat.beq i N) && NotIn N l
theorem SubT.of {N : Nat} {t : Tm} (hN : t.get N = none) : ∀ {l : List (Nat × Value)}, Has t l → NotIn N l = true → SubT N (tmOf l) t := by
  have main : ∀ {l : List (Nat × Value)}, Has t l → NotIn N l = true → (∀ i v, (tmOf l).get i = some v → t.get i = some v) ∧ (tmOf l).get N = none := by
    intro l
    induction l with
    | nil => exact fun _ _ => ⟨(fun i v e => by cases e), rfl⟩
    | cons p l ih =>
      obtain ⟨q, u⟩ := p
      intro h1 h2
      simp only [NotIn, Bool.and_eq_true, Bool.not_eq_true'] at h2
      obtain ⟨a, b⟩ := ih h1.2 h2.2
      constructor
      · intro i v e
        rw [show tmOf ((q, u) :: l) = (tmOf l).putD u q from rfl, T.get_putD] at e
        split at e
        · rename_i hi
          subst hi
          cases e
          exact h1.1
        · exact a i v e
      · rw [show tmOf ((q, u) :: l) = (tmOf l).putD u q from rfl, T.get_putD, if_neg (fun c => by rw [c, Nat.beq_refl] at h2; exact absurd h2.1 (by simp))]
        exact b
  intro l h1 h2
  obtain ⟨a, b⟩ := main h1 h2
  exact ⟨fun i v _ e => a i v e, by rw [b, hN]⟩
end Go.Proofs.YtcoecbpeilmdmaaGreatDoorCx
namespace Go.Proofs.YtcoecbpeilmdmaaGreatDoorCx
/-- What was there and is not listed is as it was. -/
def Old (l : List Nat) (h h1 : Hp) : Prop := ∀ i, i < h.n → i ∉ l → h1.at i = h.at i
theorem Old.refl (l : List Nat) (h : Hp) : Old l h h := fun _ _ _ => rfl
theorem Old.get {l : List Nat} {h h1 : Hp} {i : Nat} {r : Option Cell} (o : Old l h h1) (hi : i < h.n) (hl : i ∉ l) (e : h.at i = r) : h1.at i = r := (o i hi hl).trans e
theorem Old.trans {l l' : List Nat} {a b c : Hp} (x : Old l a b) (y : Old l' b c) (hn : a.n ≤ b.n) : Old (l ++ l') a c :=
  fun i hi hl => (y i (by omega) (fun m => hl (by simp [m]))).trans (x i hi (fun m => hl (by simp [m])))
theorem Old.mono {l l' : List Nat} {a b : Hp} (x : Old l a b) (hl : ∀ i, i < a.n → i ∈ l → i ∈ l') : Old l' a b := fun i hi hn => x i hi fun m => hn (hl i hi m)
/-- What was there before a time is as it was, but for what is listed. -/
def Before (n0 : Nat) (l : List Nat) (h h1 : Hp) : Prop := ∀ i, i < n0 → i ∉ l → h1.at i = h.at i
theorem Before.get {n0 : Nat} {l : List Nat} {h h1 : Hp} {i : Nat} {r : Option Cell} (o : Before n0 l h h1) (hi : i < n0) (hl : i ∉ l) (e : h.at i = r) : h1.at i = r := (o i hi hl).trans e
theorem newH {h : Hp} {c : Cell} {k : Nat → Hp → R} (hk : ∀ (b : Nat) (h1 : Hp), b = h.n → h1.n = h.n + 1 → h1.at b = some c → Old [] h h1 → k b h1 = .ok) : newK h c k = .ok :=
  new_go (hk h.n (h.add c) rfl rfl (by rw [Hp.at_add, if_pos rfl]) fun i hi _ => by rw [Hp.at_add, if_neg (by omega)])
theorem updH {h : Hp} {b : Nat} {c c' : Cell} {P : Hp → Prop} (_ : h.at b = some c') (hk : ∀ h1 : Hp, h1.n = h.n → h1.at b = some c → Old [b] h h1 → P h1) : P (h.upd b c) :=
  hk _ rfl (by rw [Hp.at_upd, if_pos rfl]) fun i _ hl => by rw [Hp.at_upd, if_neg (fun e => hl (by simp [e]))]
/-- A list of cells that are numbers from a place on. -/
def Nums (kd : IntKind) (cs : List Value) (o : Nat) (l : List Int) : Prop := ∀ j x, l[j]? = some x → cs[o + j]? = some (.int kd x)
theorem Nums.at {kd : IntKind} {cs : List Value} {o : Nat} {l : List Int} (H : Nums kd cs o l) {i sz : Nat} (hs : sz = 1) (hi : i < l.length) : cs[o + i * sz]? = some (.int kd (l.getD i 0)) := by
  subst hs
  rw [Nat.mul_one]
  refine H i _ ?_
  simp [List.getD, List.getElem?_eq_getElem hi]
/-- A slice of numbers, to be read. -/
inductive SlI (kd : IntKind) (n0 : Nat) (h : Hp) : Value → List Int → Prop
  | none (c : Nat) : SlI kd n0 h (.slice none 0 c) []
  | some {b o : Nat} {l : List Int} {c : Nat} {e : TypeId} {g w : Bool} {cs : List Value} : n0 ≤ b → l.length ≤ c → b < h.n → h.at b = some (.cells e g w cs) → Nums kd cs o l → o + l.length ≤ cs.length → SlI kd n0 h (.slice (some ⟨b, o, none⟩) l.length c) l
/-- The block of a slice. -/
def vb : Value → List Nat
  | .slice (some a) _ _ => [a.block]
  | _ => []
theorem SlI.old {kd : IntKind} {n0 : Nat} {h h1 : Hp} {v : Value} {l : List Int} (H : SlI kd n0 h v l) {L : List Nat} (o : Old L h h1) (hn : h.n ≤ h1.n) (hL : ∀ i ∈ vb v, i ∉ L) : SlI kd n0 h1 v l := by
  cases H with
  | none c => exact .none c
  | some z a b c d e => exact .some z a (by omega) ((o _ b (hL _ (by simp [vb]))).trans c) d e
theorem SlI.old0 {kd : IntKind} {n0 : Nat} {h h1 : Hp} {v : Value} {l : List Int} (H : SlI kd n0 h v l) (o : Old [] h h1) (hn : h.n ≤ h1.n) : SlI kd n0 h1 v l := H.old o hn fun _ _ => List.not_mem_nil
theorem SlI.lt {kd : IntKind} {n0 : Nat} {h : Hp} {v : Value} {l : List Int} (H : SlI kd n0 h v l) : ∀ i ∈ vb v, n0 ≤ i ∧ i < h.n := by
  cases H with
  | none c => simp [vb]
  | some z a b c d e => simpa [vb] using ⟨z, b⟩
/-- A slice of numbers that is one's own row. -/
inductive OwnI (e : TypeId) (kd : IntKind) (n0 : Nat) (h : Hp) : Value → List Int → Prop
  | none : OwnI e kd n0 h (.slice none 0 0) []
  | some {b : Nat} {l : List Int} {g : Bool} : n0 ≤ b → b < h.n → h.at b = some (.cells e g true (l.map (.int kd))) → OwnI e kd n0 h (.slice (some ⟨b, 0, none⟩) l.length l.length) l
theorem OwnI.sl {e : TypeId} {kd : IntKind} {n0 : Nat} {h : Hp} {v : Value} {l : List Int} (H : OwnI e kd n0 h v l) : SlI kd n0 h v l := by
  cases H with
  | none => exact .none 0
  | some a b c => exact .some a (Nat.le_refl _) b c (fun j x hj => by simp [hj]) (by simp)
theorem OwnI.old {e : TypeId} {kd : IntKind} {n0 : Nat} {h h1 : Hp} {v : Value} {l : List Int} (H : OwnI e kd n0 h v l) {L : List Nat} (o : Old L h h1) (hn : h.n ≤ h1.n) (hL : ∀ i ∈ vb v, i ∉ L) : OwnI e kd n0 h1 v l := by
  cases H with
  | none => exact .none
  | some a b c => exact .some a (by omega) ((o _ b (hL _ (by simp [vb]))).trans c)
theorem OwnI.old0 {e : TypeId} {kd : IntKind} {n0 : Nat} {h h1 : Hp} {v : Value} {l : List Int} (H : OwnI e kd n0 h v l) (o : Old [] h h1) (hn : h.n ≤ h1.n) : OwnI e kd n0 h1 v l := H.old o hn fun _ _ => List.not_mem_nil
theorem OwnI.low {e : TypeId} {kd : IntKind} {n0 : Nat} {h : Hp} {v : Value} {l : List Int} (H : OwnI e kd n0 h v l) : ∀ i ∈ vb v, n0 ≤ i ∧ i < h.n := by
  cases H with
  | none => simp [vb]
  | some a b c => simpa [vb] using ⟨a, b⟩
theorem OwnI.out {e : TypeId} {kd : IntKind} {n0 : Nat} {h : Hp} {v : Value} {l : List Int} (H : OwnI e kd n0 h v l) {i : Nat} (hi : i < n0) : i ∉ vb v := fun m => by have := (H.low i m).1; omega
theorem OwnI.later {e : TypeId} {kd : IntKind} {n0 n1 : Nat} {h : Hp} {v : Value} {l : List Int} (H : OwnI e kd n0 h v l) (hn : n1 ≤ n0) : OwnI e kd n1 h v l := by
  cases H with
  | none => exact .none
  | some a b c => exact .some (by omega) b c
theorem appK_id : ∀ (a b : List Value) (k : CsK), k (a ++ b) = .ok → appK a b k = .ok := fun a b k h => (appK_eq a b k).trans h
theorem ones_map {kd : IntKind} : ∀ l : List Int, ones (l.map (.int kd)) = true
  | [] => rfl
  | n :: l => ones_map l
/-- A row of numbers put behind one's own. -/
theorem app_go {E : Env} {s t2 : TypeId} {si ti2 te : TI} {e : TypeId} {kd : IntKind} {n0 : Nat} {h : Hp} {x y : Value} {l m : List Int} {k : Hk}
    (hs : E.ty.get s = some si) (hd : si.desc = .slice e) (he : E.ty.get e = some te) (hz : te.size = 1) (ht : E.ty.get t2 = some ti2) (hd2 : ∃ e2, ti2.desc = .slice e2)
    (hx : OwnI e kd n0 h x l) {n1 : Nat} (hy : SlI kd n1 h y m) (hm : 0 < m.length) (hl : l.length + m.length < 4294967296) (hn : n0 ≤ h.n)
    (hk : ∀ v h1, OwnI e kd n0 h1 v (l ++ m) → (∀ i ∈ vb v, i = h.n) → h1.n = h.n + 1 → Old (vb x) h h1 → k v h1 = .ok) :
    appendK E s t2 x y h k = .ok := by
  obtain ⟨e2, hd2⟩ := hd2
  cases hy with
  | none c => simp at hm
  | @some b o _ c e3 g w cs _ hc hb hat hnum hlen =>
  have hnew : newsK te ti2.desc (.slice (some ⟨b, o, none⟩) m.length c) h = fun k => k m.length (m.map (.int kd)) := by
    funext k
    rw [hd2]
    show blkK h b (fun _ _ _ cs => dropK o cs fun cs => takeK (m.length * te.size) cs fun cs => k m.length cs) = _
    unfold blkK
    have hat : h.t.get b = some (.cells e3 g w cs) := hat
    rw [hat]
    show dropK o cs _ = _
    rw [dropK_id _ _ _ (by omega), takeK_id _ _ _ (by rw [hz]; simp; omega), hz, Nat.mul_one]
    congr 1
    apply List.ext_getElem?
    intro j
    rw [List.getElem?_take, List.getElem?_drop, List.getElem?_map]
    by_cases hj : j < m.length
    · rw [if_pos hj]
      have := hnum j m[j] (List.getElem?_eq_getElem hj)
      rw [this, List.getElem?_eq_getElem hj]; rfl
    · rw [if_neg hj, List.getElem?_eq_none (by omega)]; rfl
  have grow : ∀ (q : Nat) (h2 : Hp) (old : List Value), q = l.length + m.length → old = l.map (.int kd) → h2.n = h.n → Old (vb x) h h2 → growK e q old (m.map (.int kd)) h2 k = .ok := by
    intro q h2 old hq hold hn2 ho
    unfold growK
    rw [appK_eq]
    refine newH fun b1 h1 hb1 hn1 hc1 ho1 => ?_
    subst hq hold
    have hlm : l.length + m.length = (l ++ m).length := by simp
    rw [hlm]
    refine hk _ h1 (.some (g := true) (by omega) (by omega) (by rw [hc1, List.map_append])) ?_ (by omega) ?_
    · simp [vb]; omega
    · intro i hi hl
      rw [ho1 i (by omega) List.not_mem_nil]
      exact ho i hi hl
  unfold appendK
  unfold tyK
  rw [hs]
  simp only
  rw [hd]
  simp only
  rw [he]
  simp only
  rw [ht]
  simp only
  cases hx with
  | none =>
    simp only
    rw [hnew]
    refine fN_go (cut_lt (by simpa using hl) ?_)
    simp only [List.length_nil, Nat.zero_add] at *
    have : Nat.ble m.length 0 = false := by
      cases hq : Nat.ble m.length 0 with
      | false => rfl
      | true => have := ble_ok hq; omega
    rw [this]
    exact grow _ h [] (by simp) rfl rfl (.refl _ _)
  | @some b1 _ g1 h0 h1 h2 =>
    simp only
    rw [hnew]
    refine fN_go (cut_lt hl ?_)
    have : Nat.ble (l.length + m.length) l.length = false := by
      cases hq : Nat.ble (l.length + m.length) l.length with
      | false => rfl
      | true => have := ble_ok hq; omega
    rw [this]
    show blkK h b1 _ = .ok
    refine blk_go h2 ?_
    show dropK 0 _ _ = .ok
    rw [dropK_id _ _ _ (Nat.zero_le _), takeK_id _ _ _ (by simp [hz]), hz, Nat.mul_one]
    have ht : ((l.map (Value.int kd)).drop 0).take l.length = l.map (.int kd) := by rw [List.drop_zero]; exact List.take_of_length_le (by simp)
    rw [ht]
    cases g1 with
    | false => exact grow _ h _ rfl rfl rfl (.refl _ _)
    | true =>
      refine cut_eq rfl (cut_go rfl (cut_go (ones_map m) ?_))
      rw [lenK_eq]
      refine cut_eq (by simp [hz]) ?_
      refine hp_go ?_
      exact updH (P := fun h3 => growK _ _ _ _ h3 k = .ok) h2 fun h3 hn3 hc3 ho3 => grow _ h3 _ rfl rfl hn3 ho3
theorem map_at {kd : IntKind} {l : List Int} {i sz : Nat} (hs : sz = 1) (hi : i < l.length) : (l.map (Value.int kd))[0 + i * sz]? = some (.int kd (l.getD i 0)) := by
  subst hs
  simp [List.getD, List.getElem?_eq_getElem hi]
section
variable {E : Env} {t : TypeId} {ti : TI} {b o : Nat} {h : Hp} {e : TypeId} {g w : Bool} {cs : List Value} {v : Value}
theorem stH {k : Hp → R} {x : Value} (ht : E.ty.get t = some ti) (hs : ti.size = 1) (hx : one1 x = true) (hb : h.at b = some (.cells e g true cs)) (ho : o < cs.length)
    (hk : ∀ h1 : Hp, h1.n = h.n → h1.at b = some (.cells e g true (cs.set o x)) → Old [b] h h1 → k h1 = .ok) : storeK E t (.pointer (some ⟨b, o, none⟩)) x h k = .ok :=
  st_go ht hs hx hb ho (updH (P := fun h1 => k h1 = .ok) hb hk)
theorem stNH {k : Hp → R} {x : Array Value} (ht : E.ty.get t = some ti) (hs : x.toList.length = ti.size) (hx : ones x.toList = true) (hb : h.at b = some (.cells e g true cs)) (ho : o + ti.size ≤ cs.length)
    (hk : ∀ h1 : Hp, h1.n = h.n → h1.at b = some (.cells e g true (putAt cs x.toList o)) → Old [b] h h1 → k h1 = .ok) : storeK E t (.pointer (some ⟨b, o, none⟩)) (.agg x) h k = .ok :=
  stN_go ht hs hx hb ho (updH (P := fun h1 => k h1 = .ok) hb hk)
theorem stI_go {k : Hp → R} {kd : IntKind} {l : List Int} {i sz : Nat} {x : Int} (ht : E.ty.get t = some ti) (hs : ti.size = 1) (hb : h.at b = some (.cells e g true (l.map (.int kd)))) (hz : sz = 1) (hi : i < l.length)
    (hk : ∀ h1 : Hp, h1.n = h.n → h1.at b = some (.cells e g true ((l.set i x).map (.int kd))) → Old [b] h h1 → k h1 = .ok) : storeK E t (.pointer (some ⟨b, 0 + i * sz, none⟩)) (.int kd x) h k = .ok := by
  subst hz
  rw [Nat.mul_one, Nat.zero_add]
  refine stH ht hs rfl hb (by simpa using hi) ?_
  rw [← List.map_set]
  exact hk
end
theorem copiesK_id (z : List Value) (n : Nat) (k : CsK) (h : k (List.replicate n z).flatten = .ok) : copiesK z n k = .ok := (copiesK_eq z n k).trans h
theorem make_go {E : Env} {ty : TypeId} {ti te : TI} {e : TypeId} {kd k1 k2 : IntKind} {n : Int} {h : Hp} {k : Hk} (ht : E.ty.get ty = some ti) (hd : ti.desc = .slice e) (he : E.ty.get e = some te) (hz : te.zero = [.int kd 0])
    (h0 : 0 ≤ n) (hn : n ≤ 2147483647) (hk : ∀ (b : Nat) (h1 : Hp), b = h.n → h1.n = h.n + 1 → h1.at b = some (.cells e false true ((List.replicate n.toNat (0 : Int)).map (.int kd))) → Old [] h h1 → k (.slice (some ⟨b, 0, none⟩) n.toNat n.toNat) h1 = .ok) :
    makeSliceK E ty (.int k1 n) (.int k2 n) h k = .ok := by
  unfold makeSliceK tyK
  rw [ht]
  simp only
  rw [hd]
  simp only
  refine nat_go h0 (nat_go h0 (cut_le (Nat.le_refl _) (cut_le (by omega) ?_)))
  rw [he]
  simp only
  refine copiesK_id _ _ _ ?_
  refine newH fun b h1 hb hn1 hc ho => hk b h1 hb hn1 ?_ ho
  rw [hc, hz]
  congr 2
  induction n.toNat with
  | zero => rfl
  | succ m ih => simp only [List.replicate_succ, List.flatten_cons, List.map_cons, ih]; rfl
theorem fI_gen {i : Int} {k : Int → R} (hk : ∀ j, j = i → k j = .ok) : fI i k = .ok := fI_go (hk i rfl)
theorem wrap_gen {kd : IntKind} {i : Int} {k : Int → R} (hk : ∀ j, j = kd.wrap i → k j = .ok) : wrapK kd i k = .ok := wrap_go (hk _ rfl)
theorem ownI_mk {e : TypeId} {kd : IntKind} {n0 : Nat} {h : Hp} {b m : Nat} {l : List Int} {g : Bool} (hl : l.length = m) (h0 : n0 ≤ b) (hb : b < h.n) (hc : h.at b = some (.cells e g true (l.map (.int kd)))) : OwnI e kd n0 h (.slice (some ⟨b, 0, none⟩) m m) l := by
  subst hl; exact .some h0 hb hc
theorem OwnI.one {e : TypeId} {kd : IntKind} {n0 : Nat} {h : Hp} {v : Value} {l : List Int} (H : OwnI e kd n0 h v l) : one1 v = true := by cases H <;> rfl
theorem SlI.one {kd : IntKind} {n0 : Nat} {h : Hp} {v : Value} {l : List Int} (H : SlI kd n0 h v l) : one1 v = true := by cases H <;> rfl
theorem slI_own {e : TypeId} {kd : IntKind} {n0 : Nat} {h : Hp} {b m c : Nat} {l : List Int} {g w : Bool} (hl : l.length = m) (hm : m ≤ c) (h0 : n0 ≤ b) (hb : b < h.n) (hc : h.at b = some (.cells e g w (l.map (.int kd)))) : SlI kd n0 h (.slice (some ⟨b, 0, none⟩) m c) l := by
  subst hl; exact .some h0 hm hb hc (fun j x hj => by simp [hj]) (by simp)
theorem ones_cons {v : Value} {l : List Value} (h : one1 v = true) (hl : ones l = true) : ones (v :: l) = true := by
  show Bool.rec (motive := fun _ => Bool) false (ones l) (one1 v) = true
  rw [h]; exact hl
theorem SlI.later {kd : IntKind} {n0 n1 : Nat} {h : Hp} {v : Value} {l : List Int} (H : SlI kd n0 h v l) (hn : n1 ≤ n0) : SlI kd n1 h v l := by
  cases H with
  | none c => exact .none c
  | some z a b c d e => exact .some (by omega) a b c d e
/-- A function without arguments that is known to answer true. -/
noncomputable def trueKn : Kn := fun args h k => match args with | [] => k (.bool true) h | _ => .no 330
theorem trueKn_ok {P : Program} {E : Env} {f : Nat} (hc : ∀ args w, (callFunc f args).run P w = .ok (.enter f args) w) (hr : ∀ w : World, Calls P f #[] w fun e w' => e = .returned (.bool true) ∧ RowKit.Below w.heap.size w w') : KnownOk P E f trueKn := by
  intro args args' h k F ρ w e V W
  refine .inr ⟨hc _ _, ?_⟩
  unfold trueKn at e
  split at e
  · obtain ⟨l⟩ := args'
    cases V
    refine (hr w).mono ?_
    rintro e2 w' ⟨rfl, hb⟩
    exact ⟨_, h, ρ, _, rfl, e, .bool true, W.later hb.size hb.block, .below W hb⟩
  · cases e
theorem true_go {C : Cfg} {run : Run} {f : Nat} {h : Hp} {k : Hk} (hn : C.kn.get f = some trueKn) (hk : k (.bool true) h = .ok) : callK C run (dkK C run) f [] h k = .ok := by
  unfold callK
  rw [hn]; exact hk
/-- One number alone in a row. -/
theorem slI_one {e : TypeId} {kd : IntKind} {n0 : Nat} {h : Hp} {b : Nat} {x : Int} {g w : Bool} (h0 : n0 ≤ b) (hb : b < h.n) (hc : h.at b = some (.cells e g w [.int kd x])) : SlI kd n0 h (.slice (some ⟨b, 0, none⟩) 1 1) [x] :=
  slI_own (l := [x]) rfl (Nat.le_refl _) h0 hb hc
theorem OwnI.up {e : TypeId} {kd : IntKind} {n0 n1 : Nat} {h : Hp} {v : Value} {l : List Int} (H : OwnI e kd n0 h v l) (hv : ∀ i ∈ vb v, n1 ≤ i) : OwnI e kd n1 h v l := by
  cases H with
  | none => exact .none
  | some a b c => exact .some (hv _ (by simp [vb])) b c
theorem SlI.tame {kd : IntKind} {n0 : Nat} {h : Hp} {v : Value} {l : List Int} (H : SlI kd n0 h v l) : tame1 v := by
  cases H with
  | none c => exact trivial
  | some z a b c d e => exact rfl
theorem OwnI.tame {e : TypeId} {kd : IntKind} {n0 : Nat} {h : Hp} {v : Value} {l : List Int} (H : OwnI e kd n0 h v l) : tame1 v := H.sl.tame
theorem Good.unroll {C : Cfg} {run : Run} (G : Good C run) {N : Nat} {t : Tm} {h : Hp} {k : XK} {a : Code} (e : stepK C run (dkK C run) N (.loop a) t h k = .ok) : run N (.loop a) t h k = .ok := G.step e
theorem len_go {l : List Value} {k : Nat → R} (hk : k l.length = .ok) : lenK l k = .ok := (lenK_eq l k).trans hk
theorem lenc_go {v : Value} {k : Nat → R} (h : one1 v = true) (hk : k 1 = .ok) : lenK (cells v) k = .ok := by
  rw [(ones_one h).2]; exact hk
theorem set_go {vs l : List Value} {n : Nat} {k : CsK} (hl : n + vs.length ≤ l.length) (hk : k (putAt l vs n) = .ok) : setK vs n l k = .ok := (setK_id n vs l k hl).trans hk
theorem setc_go {v : Value} {l : List Value} {n : Nat} {k : CsK} (h : one1 v = true) (hl : n < l.length) (hk : k (l.set n v) = .ok) : setK (cells v) n l k = .ok := by
  rw [(ones_one h).2]
  refine set_go (by simp only [List.length_cons, List.length_nil]; omega) ?_
  have : putAt l [v] n = l.set n v := by
    unfold putAt
    rw [List.set_eq_take_append_cons_drop, if_pos hl]
    rfl
  rw [this]; exact hk
theorem OwnI.out2 {e : TypeId} {kd : IntKind} {n0 : Nat} {h : Hp} {v : Value} {l : List Int} (H : OwnI e kd n0 h v l) {i : Nat} (hi : h.n ≤ i) : i ∉ vb v := fun m => by have := (H.low i m).2; omega
end Go.Proofs.YtcoecbpeilmdmaaGreatDoorCx
namespace Go.Proofs.YtcoecbpeilmdmaaGreatDoorCx
theorem flat_args {ρ : Mp} {l : List Value} (h : flats l = true) : VL ρ l l.toArray.toList := by
  have := flats_VL h ρ
  simpa using this
/-- What a walk from an empty small heap shows of a function, handed flat arguments, that answers true. -/
theorem open_calls {P : Program} {C : Cfg} (H : EnvOk P C.env) (K : KnOk P C) (hg : C.env.glob = 0) {f : Nat} {x : FI} (hf : C.env.fn.get f = some x) (hk : C.kn.get f = none) {args : List Value} (ha : flats args = true)
    (d : Does C (ideal P C) f args ⟨.nil, 0⟩ fun v _ => v = .bool true) (w : World) :
    Calls P f args.toArray w fun e w' => e = .returned (.bool true) ∧ RowKit.Below w.heap.size w w' := by
  have W := WR.start hg w
  have e := d trueK (fun v h' q => by rw [q]; rfl)
  unfold callK at e
  rw [hk] at e
  simp only [hf] at e
  refine ((bodyK_ok H (ideal_runOk P C) (dkK_ok H K _ (ideal_runOk P C)) hf (flat_args ha) W e).2).mono ?_
  rintro e2 w2 ⟨v, h', ρ', v', rfl, r1, r2, r3, r4⟩
  refine ⟨?_, r4.keep.below⟩
  unfold trueK at r1
  split at r1
  · rename_i b
    cases b with
    | true => cases r2; rfl
    | false => cases r1
  · cases r1
end Go.Proofs.YtcoecbpeilmdmaaGreatDoorCx
namespace Go.Proofs.YtcoecbpeilmdmaaGreatDoorCx
noncomputable def fM (n : Nat) (k : Nat → R) : R := Nat.rec (motive := fun _ => R) (k 0) (fun m _ => k (Nat.succ m)) n
theorem fM_eq (n : Nat) (k : Nat → R) : fM n k = k n := by cases n <;> rfl
section
variable (C : Cfg) (N : Nat) (al : List Oper)
noncomputable def readyC (M : T Nat) (i : Nat) (l : List Edge) (no : R) (yes : Nat → R) : Nat → R :=
  List.rec (motive := fun _ => Nat → R) (fun m => yes m)
    (fun e _ ih m => Bool.rec (motive := fun _ => R) (ih m) (Bool.rec (motive := fun _ => R) (.no 190) (Option.rec (motive := fun _ => R) no (fun q => fM (Nat.lor m (Nat.lor q (2 ^ e.on))) ih) (M.get e.on)) (Nat.blt e.on i)) (bindsB e)) l
abbrev SwC := List Ev → T Nat → List Ixo → List Ixo → R
noncomputable def sweepC (rem : List Ixo) : T Nat → List Ixo → SwC → R :=
  List.rec (motive := fun _ => T Nat → List Ixo → SwC → R) (fun M fl k => k [] M fl [])
    (fun p _ ih M fl k =>
      let skip := ih M fl fun e M fl out => k e M fl (p :: out)
      Bool.rec (motive := fun _ => R) skip
        (readyC M p.1 p.2.after.toList skip (fun m => Bool.rec (motive := fun _ => R) (.no 193) (Option.rec (motive := fun _ => R) (.no 192) (fun d => Bool.rec (motive := fun _ => R) (.no 191) (Bool.rec (motive := fun _ => R) (.no 190)
          (T.putK M m p.1 fun M => ih M (p :: fl) fun e M fl out => k (.fl p :: e) M fl out) (backOk al d (p :: fl))) (Nat.blt d N)) p.2.dst) (pairOk m (looks al p.2) fl)) 0) (isFloat C.env p.2.op)) rem
noncomputable def selC (M : T Nat) (rem : List Ixo) : (Option (Nat × Ixo) → List Ixo → R) → R :=
  List.rec (motive := fun _ => (Option (Nat × Ixo) → List Ixo → R) → R) (fun k => k none [])
    (fun p _ ih k => readyC M p.1 p.2.after.toList (ih fun s rest => k s (p :: rest))
      (fun m => ih fun s rest => Option.rec (motive := fun _ => R) (Bool.rec (motive := fun _ => R) (k (some (m, p)) rest) (.no 197) (isFloat C.env p.2.op)) (fun _ => .no 198) s) 0) rem
noncomputable def evApp (a b : List Ev) (k : List Ev → R) : R := List.rec (motive := fun _ => (List Ev → R) → R) (fun k => k b) (fun v _ ih k => ih fun t => k (v :: t)) a k
noncomputable def drawC (n : Nat) : List Ixo → T Nat → List Ixo → (List Ev → R) → R :=
  Nat.rec (motive := fun _ => List Ixo → T Nat → List Ixo → (List Ev → R) → R) (fun _ _ _ _ => .no 199)
    (fun _ ih rem M fl k => sweepC C N al rem M fl fun e M fl rem => List.casesOn (motive := fun _ => R) rem (evApp e [.done fl] k)
      fun _ _ => selC C M rem fun s rest => Option.rec (motive := fun _ => R) (.no 200) (fun mp => filtK mp.1 fl fun fl' => Bool.rec (motive := fun _ => R) (.no 201) (T.putK M mp.1 mp.2.1 fun M => ih rest M fl' fun r => evApp e (.eff mp.2 fl :: r) k) (pairOk mp.1 (looks al mp.2.2) fl')) s) n
end
variable {C : Cfg} {N : Nat} {al : List Oper}
theorem readyC_S (M : T Nat) (i : Nat) (no : R) (yes : Nat → R) : ∀ (l : List Edge) (m : Nat), readyC M i l no yes m = match readyS M i l m with | .err => .no 190 | .no => no | .yes m => yes m
  | [], m => rfl
  | e :: l, m => by
    show Bool.rec (motive := fun _ => R) (readyC M i l no yes m) (Bool.rec (motive := fun _ => R) (.no 190) (Option.rec (motive := fun _ => R) no (fun q => fM (Nat.lor m (Nat.lor q (2 ^ e.on))) (readyC M i l no yes)) (M.get e.on)) (Nat.blt e.on i)) (bindsB e) = _
    unfold readyS
    cases bindsB e with
    | false => exact readyC_S M i no yes l m
    | true =>
      cases Nat.blt e.on i with
      | false => rfl
      | true =>
        cases M.get e.on with
        | none => rfl
        | some q =>
          show fM _ _ = _
          rw [fM_eq]; exact readyC_S M i no yes l _
theorem sweepC_S : ∀ (l : List Ixo) (M : T Nat) (fl : List Ixo) (k : SwC), sweepC C N al l M fl k = .ok → ∃ e M' fl' out, sweepS C N al l M fl = some (e, M', fl', out) ∧ k e M' fl' out = .ok
  | [], M, fl, k, h => ⟨[], M, fl, [], rfl, h⟩
  | p :: l, M, fl, k, h => by
    have hk : sweepC C N al (p :: l) M fl k = Bool.rec (motive := fun _ => R) (sweepC C N al l M fl fun e M fl out => k e M fl (p :: out))
        (readyC M p.1 p.2.after.toList (sweepC C N al l M fl fun e M fl out => k e M fl (p :: out)) (fun m => Bool.rec (motive := fun _ => R) (.no 193) (Option.rec (motive := fun _ => R) (.no 192) (fun d => Bool.rec (motive := fun _ => R) (.no 191) (Bool.rec (motive := fun _ => R) (.no 190)
          (T.putK M m p.1 fun M => sweepC C N al l M (p :: fl) fun e M fl out => k (.fl p :: e) M fl out) (backOk al d (p :: fl))) (Nat.blt d N)) p.2.dst) (pairOk m (looks al p.2) fl)) 0) (isFloat C.env p.2.op) := rfl
    rw [hk, readyC_S] at h
    have skip : sweepC C N al l M fl (fun e M fl out => k e M fl (p :: out)) = .ok → ∃ e M' fl' out, (match sweepS C N al l M fl with | some (e, M, fl, out) => some (e, M, fl, p :: out) | none => none) = some (e, M', fl', out) ∧ k e M' fl' out = .ok := by
      intro h
      obtain ⟨e, M', fl', out, h1, h2⟩ := sweepC_S l M fl _ h
      exact ⟨e, M', fl', p :: out, by rw [h1], h2⟩
    unfold sweepS
    cases hf : isFloat C.env p.2.op with
    | false => rw [hf] at h; exact skip h
    | true =>
      rw [hf] at h
      simp only at h ⊢
      cases hr : readyS M p.1 p.2.after.toList 0 with
      | err => rw [hr] at h; cases h
      | no => rw [hr] at h; exact skip h
      | yes m =>
        rw [hr] at h
        simp only at h ⊢
        cases hp : pairOk m (looks al p.2) fl with
        | false => rw [hp] at h; cases h
        | true =>
          rw [hp] at h
          cases hd : p.2.dst with
          | none => rw [hd] at h; cases h
          | some d =>
            rw [hd] at h
            simp only at h ⊢
            cases hb1 : Nat.blt d N with
            | false => rw [hb1] at h; cases h
            | true =>
              rw [hb1] at h
              cases hb2 : backOk al d (p :: fl) with
              | false => rw [hb2] at h; cases h
              | true =>
                rw [hb2] at h
                simp only [T.putK_eq] at h ⊢
                obtain ⟨e, M', fl', out, h1, h2⟩ := sweepC_S l _ _ _ h
                exact ⟨.fl p :: e, M', fl', out, by rw [h1], h2⟩
theorem selC_S (M : T Nat) : ∀ (l : List Ixo) (k : Option (Nat × Ixo) → List Ixo → R), selC C M l k = .ok → ∃ s rest, selS C M l = some (s, rest) ∧ k s rest = .ok
  | [], k, h => ⟨none, [], rfl, h⟩
  | p :: l, k, h => by
    have hk : selC C M (p :: l) k = readyC M p.1 p.2.after.toList (selC C M l fun s rest => k s (p :: rest)) (fun m => selC C M l fun s rest => Option.rec (motive := fun _ => R) (Bool.rec (motive := fun _ => R) (k (some (m, p)) rest) (.no 197) (isFloat C.env p.2.op)) (fun _ => .no 198) s) 0 := rfl
    rw [hk, readyC_S] at h
    unfold selS
    cases hr : readyS M p.1 p.2.after.toList 0 with
    | err => rw [hr] at h; cases h
    | no =>
      rw [hr] at h
      obtain ⟨s, rest, h1, h2⟩ := selC_S M l _ h
      exact ⟨s, p :: rest, by simp only [h1], h2⟩
    | yes m =>
      rw [hr] at h
      obtain ⟨s, rest, h1, h2⟩ := selC_S M l _ h
      cases s with
      | some _ => cases h2
      | none =>
        simp only at h2
        cases hf : isFloat C.env p.2.op with
        | true => rw [hf] at h2; cases h2
        | false =>
          rw [hf] at h2
          exact ⟨some (m, p), rest, by simp only [h1], h2⟩
theorem evApp_eq : ∀ (a b : List Ev) (k : List Ev → R), evApp a b k = k (a ++ b)
  | [], _, _ => rfl
  | v :: a, b, k => evApp_eq a b fun t => k (v :: t)
theorem drawC_S : ∀ (n : Nat) (rem : List Ixo) (M : T Nat) (fl : List Ixo) (k : List Ev → R), drawC C N al n rem M fl k = .ok → ∃ evs, drawS C N al n rem M fl = some evs ∧ k evs = .ok
  | 0, rem, M, fl, k, h => by cases h
  | n + 1, rem, M, fl, k, h => by
    have hk : drawC C N al (n + 1) rem M fl k = sweepC C N al rem M fl fun e M fl rem => List.casesOn (motive := fun _ => R) rem (evApp e [.done fl] k)
      fun _ _ => selC C M rem fun s rest => Option.rec (motive := fun _ => R) (.no 200) (fun mp => filtK mp.1 fl fun fl' => Bool.rec (motive := fun _ => R) (.no 201) (T.putK M mp.1 mp.2.1 fun M => drawC C N al n rest M fl' fun r => evApp e (.eff mp.2 fl :: r) k) (pairOk mp.1 (looks al mp.2.2) fl')) s := rfl
    rw [hk] at h
    obtain ⟨e, M1, fl1, out, h1, h2⟩ := sweepC_S _ _ _ _ h
    unfold drawS
    rw [h1]
    cases out with
    | nil =>
      simp only [evApp_eq] at h2
      exact ⟨_, rfl, h2⟩
    | cons p0 rem1 =>
      simp only at h2 ⊢
      obtain ⟨s, rest, h3, h4⟩ := selC_S _ _ _ h2
      rw [h3]
      cases s with
      | none => cases h4
      | some mp =>
        obtain ⟨m, p⟩ := mp
        simp only [filtK_S] at h4 ⊢
        cases hp : pairOk m (looks al p.2) (filtS m fl1) with
        | false => rw [hp] at h4; cases h4
        | true =>
          rw [hp] at h4
          simp only [T.putK_eq] at h4
          obtain ⟨r, h5, h6⟩ := drawC_S n _ _ _ _ h4
          rw [evApp_eq] at h6
          exact ⟨_, by rw [h5], h6⟩
theorem regionK_C {run : Run} {dk : List Value → Hp → (Hp → R) → R} {l : List Oper} {t : Tm} {h : Hp} {k : Tm → Hp → R} (e : drawC C N l (Nat.succ (idx l 0).length) (idx l 0) .nil [] (fun evs => playK C N l run dk evs t h k) = .ok) : regionK C N run dk l t h k = .ok := by
  obtain ⟨evs, h1, h2⟩ := drawC_S _ _ _ _ _ e
  exact regionK_S h1 h2
end Go.Proofs.YtcoecbpeilmdmaaGreatDoorCx
namespace Go.Proofs.YtcoecbpeilmdmaaGreatDoorCx
inductive EvI where
  | fl (i : Nat)
  | eff (i : Nat) (re : List Nat)
  | done (re : List Nat)
def opAt (al : List Oper) (i : Nat) : Ixo := match al[i]? with | some o => (i, o) | none => (i, ⟨none, .move (.const (.bool true)), 0, "", #[], none⟩)
def EvI.dec (al : List Oper) : EvI → Ev
  | .fl i => .fl (opAt al i)
  | .eff i re => .eff (opAt al i) (re.map (opAt al))
  | .done re => .done (re.map (opAt al))
theorem regionK_L {C : Cfg} {N : Nat} {run : Run} {dk : List Value → Hp → (Hp → R) → R} {l : List Oper} (evs : List EvI) (hs : drawS C N l (Nat.succ (idx l 0).length) (idx l 0) .nil [] = some (evs.map (EvI.dec l))) {t : Tm} {h : Hp} {k : Tm → Hp → R} (e : playK C N l run dk (evs.map (EvI.dec l)) t h k = .ok) : regionK C N run dk l t h k = .ok := regionK_S hs e
end Go.Proofs.YtcoecbpeilmdmaaGreatDoorCx
