/-
  A run of the program over a small heap of its own, and that whatever goes well in it goes so in the machine (part c). No condition.
-/
import Derived.Test.YtcoecbpeilmdmaaGreatDoorCxb
import Derived.Scope
import Derived.Recover
import Derived.Below
import Derived.Laws.Externs
set_option linter.unusedVariables false
set_option linter.unusedSimpArgs false
namespace Go.Proofs.YtcoecbpeilmdmaaGreatDoorCx
inductive Ex where
  | normal
  | exit (id : Nat)
  | ret
def Ex.to : Ex → Exit
  | .normal => .normal
  | .exit i => .exit i
  | .ret => .ret
abbrev XK := Ex → Tm → Hp → R
abbrev Run := Nat → Code → Tm → Hp → XK → R
/-- A function that is known otherwise: its answer. -/
abbrev Kn := List Value → Hp → Hk → R
structure Cfg where
  env : Env
  kn : T Kn
section
variable (C : Cfg) (N : Nat)
noncomputable def putsK (l : List Value) : Nat → Tm → (Tm → R) → R :=
  List.rec (motive := fun _ => Nat → Tm → (Tm → R) → R) (fun _ t k => k t) (fun v _ ih n t k => T.putK t v n fun t => ih (Nat.succ n) t k) l
noncomputable def resK (t : Tm) (h : Hp) (l : List ResultVar) : CsK → R :=
  List.rec (motive := fun _ => CsK → R) (fun k => k [])
    (fun r _ ih k => ResultVar.casesOn (motive := fun _ => R) r (fun i => evK C.env N t (.tmp i) fun v => ih fun l => k (v :: l)) (fun a ty => evK C.env N t (.tmp a) fun v => loadK C.env ty v h fun v _ => ih fun l => k (v :: l))) l
noncomputable def outK (l : List Value) (k : VK) : R := match l with | [v] => k v | l => k (.tuple ⟨l⟩)
/-- The results of a body that has come to its end. -/
noncomputable def endK (dk : List Value → Hp → (Hp → R) → R) (fi : FI) (t : Tm) (h : Hp) (k : Hk) : R :=
  Option.rec (motive := fun _ => R) (resK C fi.ntmps t h fi.results fun l => outK l fun v => k v h)
    (fun d => match d with
      | .tuple ds => dk ds.toList h fun h => resK C fi.ntmps t h fi.results fun l => outK l fun v => k v h
      | _ => .no 170) (t.get fi.ntmps)
noncomputable def bodyK (run : Run) (dk : List Value → Hp → (Hp → R) → R) (fi : FI) (args : List Value) (h : Hp) (k : Hk) : R :=
  lenK args fun n => cut (Nat.ble n fi.ntmps) (putsK args 0 .nil fun t => run fi.ntmps fi.code t h fun e t h => match e with
    | .normal => endK C dk fi t h k
    | .ret => endK C dk fi t h k
    | .exit _ => .no 171) (.no 172)
noncomputable def callK (run : Run) (dk : List Value → Hp → (Hp → R) → R) (f : Nat) (args : List Value) (h : Hp) (k : Hk) : R :=
  Option.rec (motive := fun _ => R) (Option.rec (motive := fun _ => R) (.no 173) (fun fi => bodyK C run dk fi args h k) (C.env.fn.get f)) (fun K => K args h k) (C.kn.get f)
/-- One operation, a call of a function among them. -/
noncomputable def oneK (run : Run) (dk : List Value → Hp → (Hp → R) → R) (o : Op) (t : Tm) (h : Hp) (k : Hk) : R :=
  Bool.rec (motive := fun _ => R)
    (match o with
      | .call c => match c.callee with
        | .value f => evK C.env N t f fun v => match v with
          | .func (.func f) xs ys => evsK C.env N t c.args.toList fun args => appK xs.toList args fun l => appK l ys.toList fun l => callK C run dk f l h k
          | _ => .no 174
        | .builtin b => effK C.env N (.call c) t h k
        | _ => .no 175
      | o => effK C.env N o t h k)
    (floatK C.env N o t h fun v => k v h) (isFloat C.env o)
noncomputable def dstK (d : Option Nat) (v : Value) (t : Tm) (k : Tm → R) : R := Option.rec (motive := fun _ => R) (k t) (fun d => cut (Nat.blt d N) (T.putK t v d k) (.no 176)) d
/-- Is a guarded operation wanted? -/
noncomputable def guardK (all : List Oper) (t : Tm) (g : Option (Nat × Bool)) (k : Bool → R) : R :=
  Option.rec (motive := fun _ => R) (k true)
    (fun g => match all[g.1]? with
      | some og => match og.dst with
        | some d => Bool.rec (motive := fun _ => R) (match t.get d with
          | some (.bool b) => fB (bEq b g.2) k
          | some _ => k false
          | none => .no 177) (.no 178) (Nat.beq d N)
        | none => .no 179
      | none => .no 180) g
/-- A call put off. -/
noncomputable def deferK (c : Call) (t : Tm) (k : Tm → R) : R :=
  match c.callee with
  | .value f => evK C.env N t f fun v => match v with
    | .func (.func g) xs ys => evsK C.env N t c.args.toList fun args => appK xs.toList args fun l =>
      Option.rec (motive := fun _ => R) (T.putK t (.tuple ⟨[.func (.func g) ⟨l⟩ ys]⟩) N k) (fun d => match d with
        | .tuple ds => T.putK t (.tuple ⟨.func (.func g) ⟨l⟩ ys :: ds.toList⟩) N k
        | _ => .no 181) (t.get N)
    | _ => .no 182
  | _ => .no 183
noncomputable def opsK (run : Run) (dk : List Value → Hp → (Hp → R) → R) (all : List Oper) (l : List Oper) : Tm → Hp → (Tm → Hp → R) → R :=
  List.rec (motive := fun _ => Tm → Hp → (Tm → Hp → R) → R) (fun t h k => k t h)
    (fun o _ ih t h k => guardK N all t o.guard fun b => Bool.rec (motive := fun _ => R) (dstK N o.dst (.tuple #[]) t fun t => ih t h k)
      (match o.op with
        | .defer c => deferK C N c t fun t => dstK N o.dst (.tuple #[]) t fun t => ih t h k
        | op => oneK C N run dk op t h fun v h => dstK N o.dst v t fun t => ih t h k) b) l
end
end Go.Proofs.YtcoecbpeilmdmaaGreatDoorCx
namespace Go.Proofs.YtcoecbpeilmdmaaGreatDoorCx
variable {P : Program} {C : Cfg} {N : Nat} {F : Nat → Prop} {ρ : Mp} {h : Hp} {w w' : World}
/-- Whatever goes well in the small run goes so in the machine's. -/
def RunOk (P : Program) (C : Cfg) (run : Run) : Prop :=
  ∀ (N : Nat) (c : Code) (t : Tm) (h : Hp) (k : XK) (F : Nat → Prop) (ρ : Mp) (a : Act) (w : World) (Q : Exit → Act → World → Prop), run N c t h k = .ok → TR ρ N t a → WR C.env F ρ h w →
    (∀ x t' h' ρ' a' w', k x t' h' = .ok → TR ρ' N t' a' → WR C.env F ρ' h' w' → St F ρ h w ρ' h' w' → Q x.to a' w') → c.wp P Q a w
/-- The deferred calls go well. -/
def DkOk (P : Program) (C : Cfg) (dk : List Value → Hp → (Hp → R) → R) : Prop :=
  ∀ (ds : List Value) (h : Hp) (k : Hp → R) (F : Nat → Prop) (ρ : Mp) (w : World) (dl : List Deferred) (fn : Func) (tmps : Array Value) (Q : Ending → World → Prop), dk ds h k = .ok → DR ρ ds dl → WR C.env F ρ h w →
    (∀ h' ρ' w', k h' = .ok → WR C.env F ρ' h' w' → St F ρ h w ρ' h' w' → Leaves P fn tmps Q [] .returning w') → Leaves P fn tmps Q dl .returning w
/-- What a call comes to. -/
def Rk (E : Env) (F : Nat → Prop) (ρ : Mp) (h : Hp) (w : World) (k : Hk) : Ending → World → Prop :=
  fun e w' => ∃ v h' ρ' v', e = .returned v' ∧ k v h' = .ok ∧ VR ρ' v v' ∧ WR E F ρ' h' w' ∧ St F ρ h w ρ' h' w'
def CallOk (P : Program) (E : Env) (f : Nat) (args' : Array Value) (F : Nat → Prop) (ρ : Mp) (h : Hp) (w : World) (k : Hk) : Prop :=
  (∃ v h' ρ' v' w', k v h' = .ok ∧ (callFunc f args').run P w = .ok (.value v') w' ∧ VR ρ' v v' ∧ WR E F ρ' h' w' ∧ St F ρ h w ρ' h' w') ∨
  ((callFunc f args').run P w = .ok (.enter f args') w ∧ Calls P f args' w (Rk E F ρ h w k))
def KnOk (P : Program) (C : Cfg) : Prop :=
  ∀ f K, C.kn.get f = some K → ∀ (args : List Value) (args' : Array Value) (h : Hp) (k : Hk) (F : Nat → Prop) (ρ : Mp) (w : World), K args h k = .ok → VL ρ args args'.toList → WR C.env F ρ h w → CallOk P C.env f args' F ρ h w k
theorem putsK_ok (l : List Value) : ∀ (n : Nat) (t : Tm) (k : Tm → R), putsK l n t k = .ok → ∃ t', k t' = .ok ∧ ∀ i, t'.get i = if n ≤ i ∧ i < n + l.length then l[i - n]? else t.get i := by
  induction l with
  | nil => exact fun n t k e => ⟨t, e, fun i => by rw [if_neg (by simp)]⟩
  | cons v l ih =>
    intro n t k e
    have e' : T.putK t v n (fun t => putsK l (Nat.succ n) t k) = .ok := e
    obtain ⟨t1, h1, h2⟩ := T.putK_spec v t n (fun t => putsK l (Nat.succ n) t k)
    rw [h1] at e'
    obtain ⟨t', h3, h4⟩ := ih (n + 1) t1 k e'
    refine ⟨t', h3, fun i => ?_⟩
    rw [h4]
    have hl : (v :: l).length = l.length + 1 := rfl
    by_cases hi : i = n
    · subst hi
      rw [if_neg (by omega), if_pos (by omega), h2, if_pos rfl]; simp
    · by_cases hj : n + 1 ≤ i ∧ i < n + 1 + l.length
      · rw [if_pos hj, if_pos (by omega), show i - n = (i - (n + 1)) + 1 by omega, List.getElem?_cons_succ]
      · rw [if_neg hj, if_neg (by omega), h2, if_neg hi]
theorem start_TR {fi : FI} {args : List Value} {args' : Array Value} (V : VL ρ args args'.toList) (hn : args.length ≤ fi.ntmps) {t : Tm} (ht : ∀ i, t.get i = if 0 ≤ i ∧ i < 0 + args.length then args[i - 0]? else (T.nil : Tm).get i) :
    TR ρ fi.ntmps t { tmps := args' ++ Array.replicate (fi.ntmps - args'.size) undef, defers := [] } := by
  have hl := V.length
  simp only [Array.length_toList] at hl
  have hN : t.get fi.ntmps = none := by rw [ht, if_neg (by omega)]; rfl
  refine ⟨by simp; omega, ?_, fun _ => rfl, fun v hv => by rw [hN] at hv; cases hv⟩
  intro i v _ hv
  rw [ht] at hv
  by_cases hi : 0 ≤ i ∧ i < 0 + args.length
  · rw [if_pos hi] at hv
    obtain ⟨v', x, y⟩ := V.get _ _ hv
    refine ⟨v', ?_, y⟩
    rw [Array.getElem?_append_left (by omega)]
    simpa using x
  · rw [if_neg hi] at hv; cases hv
def resF (tmps : Array Value) (r : ResultVar) : Sem Value :=
  match r with
  | .tmp t => pure (tmps.getD t undef)
  | .cell b t => do loadVar t (← asAddr (tmps.getD b undef))
theorem resK_ok (H : EnvOk P C.env) {t : Tm} {a : Act} (A : TR ρ N t a) (W : WR C.env F ρ h w) : ∀ {l : List ResultVar} {k : CsK}, resK C N t h l k = .ok → ∃ vs vs', k vs = .ok ∧ VL ρ vs vs' ∧
    (l.mapM (resF a.tmps)).run P w = .ok vs' w
  | [], k, e => ⟨[], [], e, .nil, rfl⟩
  | .tmp i :: l, k, e => by
    have e' : evK C.env N t (.tmp i) (fun v => resK C N t h l fun l => k (v :: l)) = .ok := e
    obtain ⟨v, h1, h2⟩ := evK_ok e' A W
    obtain ⟨vs, vs', h3, h4, h5⟩ := resK_ok H A W h1
    refine ⟨v :: vs, _ :: vs', h3, .cons h2 h4, ?_⟩
    have hz : (resF a.tmps (.tmp i)).run P w = .ok (a.tmps.getD i undef) w := rfl
    rw [List.mapM_cons, Sem.run_bind, hz, Result.andThen_ok, Sem.run_bind, h5]
    rfl
  | .cell b ty :: l, k, e => by
    have e' : evK C.env N t (.tmp b) (fun v => loadK C.env ty v h fun v _ => resK C N t h l fun l => k (v :: l)) = .ok := e
    obtain ⟨u, h1, h2⟩ := evK_ok e' A W
    have hp : ∃ q, a.tmps.getD b undef = .pointer (some q) := by
      obtain ⟨ad, rfl, _⟩ := ptrK_ok h1
      have h2' : VR ρ (.pointer (some ad)) (a.tmps.getD b undef) := h2
      generalize a.tmps.getD b undef = z at h2'
      cases h2'
      exact ⟨_, rfl⟩
    obtain ⟨v, v', g1, g2, g3⟩ := loadK_ok H W h1 h2
    obtain ⟨vs, vs', h3, h4, h5⟩ := resK_ok H A W g1
    refine ⟨v :: vs, v' :: vs', h3, .cons g3 h4, ?_⟩
    have g2' : (resF a.tmps (.cell b ty)).run P w = .ok v' w := by
      obtain ⟨q, hq⟩ := hp
      have hq' : a.eval (.tmp b) = .pointer (some q) := hq
      rw [hq'] at g2
      unfold resF
      simp only [hq]
      exact g2
    rw [List.mapM_cons, Sem.run_bind, g2', Result.andThen_ok, Sem.run_bind, h5]
    rfl
theorem outK_ok {l : List Value} {k : VK} (e : outK l k = .ok) {l' : List Value} (V : VL ρ l l') : ∃ v, k v = .ok ∧ VR ρ v (if h : l'.toArray.size = 1 then l'.toArray[0] else .tuple l'.toArray) := by
  unfold outK at e
  split at e
  · rename_i v
    cases V with
    | cons a b =>
      cases b
      exact ⟨v, e, by simpa using a⟩
  · rename_i hne
    refine ⟨_, e, ?_⟩
    have hl := V.length
    rw [dif_neg]
    · exact .tuple (by simpa using V)
    · intro h1
      have h1 : l'.length = 1 := by simpa using h1
      rw [hl] at h1
      match l, h1 with
      | [v], _ => exact hne v rfl
theorem run_results (H : EnvOk P C.env) {fn : Func} {fi : FI} (hf : fn.results.toList = fi.results) {t : Tm} {a : Act} (A : TR ρ N t a) (W : WR C.env F ρ h w) {k : VK} (e : (resK C N t h fi.results fun l => outK l k) = .ok) :
    ∃ v v', k v = .ok ∧ VR ρ v v' ∧ (results fn a.tmps).run P w = .ok v' w := by
  obtain ⟨vs, vs', h1, h2, h3⟩ := resK_ok H A W e
  obtain ⟨v, h4, h5⟩ := outK_ok h1 h2
  refine ⟨v, _, h4, h5, ?_⟩
  have hr : results fn a.tmps = (do let vs ← fn.results.mapM (resF a.tmps); pure (if h : vs.size = 1 then vs[0] else .tuple vs)) := by
    unfold results
    congr 1
  rw [hr, Sem.run_bind, Array.mapM_eq_mapM_toList, hf, Sem.run_map, h3]
  rfl
end Go.Proofs.YtcoecbpeilmdmaaGreatDoorCx
namespace Go.Proofs.YtcoecbpeilmdmaaGreatDoorCx
variable {P : Program} {C : Cfg} {N : Nat} {F : Nat → Prop} {ρ : Mp} {h : Hp} {w w' : World}
theorem endK_ok (H : EnvOk P C.env) {dk : List Value → Hp → (Hp → R) → R} (D : DkOk P C dk) {fn : Func} {fi : FI} (hf : fn.results.toList = fi.results) {t : Tm} {a : Act} (A : TR ρ fi.ntmps t a) (W : WR C.env F ρ h w) {k : Hk} (e : endK C dk fi t h k = .ok)
    {ρ0 : Mp} {h0 : Hp} {w0 : World} (S : St F ρ0 h0 w0 ρ h w) : Leaves P fn a.tmps (Rk C.env F ρ0 h0 w0 k) a.defers .returning w := by
  have fin : ∀ {h' : Hp} {ρ' : Mp} {w' : World}, (resK C fi.ntmps t h' fi.results fun l => outK l fun v => k v h') = .ok → WR C.env F ρ' h' w' → St F ρ h w ρ' h' w' → Leaves P fn a.tmps (Rk C.env F ρ0 h0 w0 k) [] .returning w' := by
    intro h' ρ' w' e' W' S'
    obtain ⟨v, v', h1, h2, h3⟩ := run_results H hf (A.sub (S'.sub W)) W' (k := fun v => k v h') e'
    exact ⟨v', h3, v, h', ρ', v', rfl, h1, h2, W', S.trans S'⟩
  unfold endK at e
  cases hg : t.get fi.ntmps with
  | none =>
    rw [hg] at e
    rw [A.none hg]
    exact fin e W (.refl F ρ h w)
  | some d =>
    rw [hg] at e
    obtain ⟨l, rfl, hl⟩ := A.defers d hg
    exact D l.toList h _ F ρ w a.defers fn a.tmps _ e hl W fun h' ρ' w' e' W' S' => fin e' W' S'
theorem bodyK_ok (H : EnvOk P C.env) {run : Run} (Rn : RunOk P C run) {dk : List Value → Hp → (Hp → R) → R} (D : DkOk P C dk) {f : Nat} {fi : FI} (hf : C.env.fn.get f = some fi) {args : List Value} {args' : Array Value} (V : VL ρ args args'.toList) (W : WR C.env F ρ h w) {k : Hk}
    (e : bodyK C run dk fi args h k = .ok) : (callFunc f args').run P w = .ok (.enter f args') w ∧ Calls P f args' w (Rk C.env F ρ h w k) := by
  obtain ⟨fn, g1, g2, g3, g4, g5⟩ := H.fn f fi hf
  have g6 : ¬ fn.name = "runtime.NumGoroutine" := by simpa using g5
  refine ⟨by simp [callFunc, g1, g6, g2], ?_⟩
  unfold bodyK at e
  rw [lenK_eq] at e
  obtain ⟨hn, e1⟩ := cut_ok e
  have hn := ble_ok hn
  obtain ⟨t, e2, ht⟩ := putsK_ok _ _ _ _ e1
  have T := start_TR V hn ht
  refine calls_of_wp_defers g1 g2 ?_
  rw [g3]
  refine Rn _ _ _ _ _ F ρ _ w _ e2 T W ?_
  intro x t' h' ρ' a' w' e' A' W' S'
  cases x with
  | normal => exact endK_ok H D g4 A' W' e' S'
  | ret => exact endK_ok H D g4 A' W' e' S'
  | exit i => cases e'
theorem callK_ok (H : EnvOk P C.env) (K : KnOk P C) {run : Run} (Rn : RunOk P C run) {dk : List Value → Hp → (Hp → R) → R} (D : DkOk P C dk) {f : Nat} {args : List Value} {args' : Array Value} (V : VL ρ args args'.toList) (W : WR C.env F ρ h w) {k : Hk}
    (e : callK C run dk f args h k = .ok) : CallOk P C.env f args' F ρ h w k := by
  unfold callK at e
  cases hk : C.kn.get f with
  | some q => rw [hk] at e; exact K f q hk args args' h k F ρ w e V W
  | none =>
    rw [hk] at e
    cases hf : C.env.fn.get f with
    | none => rw [hf] at e; cases e
    | some fi => rw [hf] at e; exact .inr (bodyK_ok H Rn D hf V W e)
/-- One operation, as the machine's walk wants it. -/
theorem oneK_ok (H : EnvOk P C.env) (K : KnOk P C) {run : Run} (Rn : RunOk P C run) {dk : List Value → Hp → (Hp → R) → R} (D : DkOk P C dk) {t : Tm} {a : Act} {o : Oper} (A : ∀ x ∈ o.op.operands, OpdR C.env N ρ t a x) (W : WR C.env F ρ h w) {k : Hk}
    (e : oneK C N run dk o.op t h k = .ok) {next : Act → World → Prop} {Q : Exit → Act → World → Prop}
    (hk : ∀ v h' ρ' v' w', k v h' = .ok → VR ρ' v v' → WR C.env F ρ' h' w' → St F ρ h w ρ' h' w' → next (a.put o.dst v') w') : o.wp P a w next Q := by
  have eff : effK C.env N o.op t h k = .ok → o.wp P a w next Q := by
    intro e
    obtain ⟨v, h', ρ', v', w', nx, q1, q2, q3, q4, q5, q6⟩ := effK_ok H W A e
    unfold Oper.wp
    rw [q2]
    rcases q3 with rfl | ⟨rfl, rfl⟩
    · exact hk _ _ _ _ _ q1 q4 q5 q6
    · exact hk _ _ _ _ _ q1 q4 q5 q6
  unfold oneK at e
  cases hfl : isFloat C.env o.op with
  | true =>
    rw [hfl] at e
    obtain ⟨v, v', q1, q2, q3⟩ := floatK_ok H W A e
    unfold Oper.wp
    rw [q2]
    exact hk _ _ _ _ _ q1 q3 W (.refl F ρ h w)
  | false =>
    rw [hfl] at e
    simp only at e
    split at e
    · rename_i c hop
      split at e
      · rename_i f hc
        have hA : ∀ x ∈ #[f] ++ c.args, OpdR C.env N ρ t a x := by
          intro x hx
          refine A x ?_
          rw [hop]
          simp only [Op.operands, Call.operands, hc]
          exact hx
        obtain ⟨v, e1, hv⟩ := hA f (by simp) _ e
        split at e1
        · rename_i g xs ys
          obtain ⟨args, e2, hargs⟩ := evsK_ok' (fun x hx => hA x (by simp; exact .inr (by simpa using hx))) e1
          rw [appK_eq, appK_eq] at e2
          generalize hev : a.eval f = fv at hv
          cases hv
          rename_i xs' ys' V1 V2
          have V : VL ρ (xs.toList ++ args ++ ys.toList) (xs' ++ (c.args.map a.eval) ++ ys').toList := by
            rw [Array.toList_append, Array.toList_append, Array.toList_map]
            exact (V1.append hargs).append V2
          have hex : (execOp a.eval o).run P w = (callFunc g (xs' ++ (c.args.map a.eval) ++ ys')).run P w := by
            have : execOp a.eval o = (do let d ← resolve a.eval c o.type; invoke d.target d.args) := by
              unfold execOp; rw [hop]
            rw [this]
            simp only [resolve, hc, hev, Deferred.ofValue, Sem.run_bind, Sem.run_pure, Result.andThen_ok, invoke]
          rcases callK_ok H K Rn D V W e2 with ⟨v, h', ρ', v', w', q1, q2, q3, q4, q5⟩ | ⟨q1, q2⟩
          · unfold Oper.wp
            rw [hex, q2]
            exact hk _ _ _ _ _ q1 q3 q4 q5
          · unfold Oper.wp
            rw [hex, q1, Oper.upon_enter]
            refine q2.mono ?_
            rintro e w2 ⟨v, h', ρ', v', rfl, r1, r2, r3, r4⟩
            exact hk _ _ _ _ _ r1 r2 r3 r4
        · cases e1
      · exact eff (by rw [hop]; exact e)
      · cases e
    · exact eff e
theorem dstK_ok {d : Option Nat} {v v' : Value} {t : Tm} {a : Act} {k : Tm → R} (A : TR ρ N t a) (e : dstK N d v t k = .ok) (hv : VR ρ v v') : ∃ t', k t' = .ok ∧ TR ρ N t' (a.put d v') := by
  unfold dstK at e
  cases d with
  | none => exact ⟨t, e, A⟩
  | some d =>
    obtain ⟨h1, h2⟩ := cut_ok (b := Nat.blt d N) e
    obtain ⟨t', h3, h4⟩ := T.putK_spec v t d k
    rw [h3] at h2
    exact ⟨t', h2, A.put (blt_ok h1) hv h4⟩
theorem guardK_ok' {ops : Array Oper} {t : Tm} {a : Act} {o : Oper} {k : Bool → R} (A : ∀ g og d v, o.guard = some g → ops[g.1]? = some og → og.dst = some d → d ≠ N → t.get d = some v → ∃ v', a.tmps[d]? = some v' ∧ VR ρ v v') (e : guardK N ops.toList t o.guard k = .ok) : ∃ b, k b = .ok ∧ Region.wanted o (yielded ops a.tmps) = b := by
  unfold guardK at e
  cases hg : o.guard with
  | none =>
    rw [hg] at e
    exact ⟨true, e, by simp [Region.wanted, hg]⟩
  | some g =>
    obtain ⟨g, want⟩ := g
    rw [hg] at e
    simp only at e
    split at e
    · rename_i og hog
      split at e
      · rename_i d hd
        cases hdn : Nat.beq d N with
        | true => rw [hdn] at e; cases e
        | false =>
          rw [hdn] at e
          have hdN : d ≠ N := fun c => by subst c; simp at hdn
          simp only at e
          have hog' : ops[g]? = some og := by simpa using hog
          have hy : yielded ops a.tmps g = match a.tmps[d]? with | some (.bool b) => some b | _ => none := by
            simp only [yielded, hog', Option.bind_some, hd]
            rfl
          split at e
          · rename_i b hb
            obtain ⟨v', q1, q2⟩ := A _ og d _ hg hog' hd hdN hb
            cases q2
            rw [fB_eq, bEq_eq] at e
            refine ⟨_, e, ?_⟩
            simp only [Region.wanted, hg, hy, q1]
            cases b <;> cases want <;> rfl
          · rename_i v hne hv
            obtain ⟨v', q1, q2⟩ := A _ og d _ hg hog' hd hdN hv
            refine ⟨_, e, ?_⟩
            simp only [Region.wanted, hg, hy, q1]
            have : ∀ b, v' ≠ .bool b := by
              intro b hb
              subst hb
              cases q2
              exact hne _ rfl
            split
            · rename_i b hb; cases hb; exact absurd rfl (this b)
            · rfl
          · cases e
      · cases e
    · cases e
theorem guardK_ok {ops : Array Oper} {t : Tm} {a : Act} (A : TR ρ N t a) {o : Oper} {k : Bool → R} (e : guardK N ops.toList t o.guard k = .ok) : ∃ b, k b = .ok ∧ Region.wanted o (yielded ops a.tmps) = b :=
  guardK_ok' (fun _ _ d v _ _ _ hN hv => A.get d v hN hv) e
theorem deferK_ok {t : Tm} {a : Act} (A : TR ρ N t a) (W : WR C.env F ρ h w) {o : Oper} {c : Call} (ho : o.op = .defer c) {k : Tm → R} (e : deferK C N c t k = .ok) :
    ∃ d t', k t' = .ok ∧ (execOp a.eval o).run P w = .ok (.defer d) w ∧ TR ρ N t' { a with defers := d :: a.defers } := by
  unfold deferK at e
  split at e
  rotate_left
  · cases e
  rename_i f hc
  obtain ⟨v, e1, hv⟩ := evK_ok e A W
  split at e1
  rotate_left
  · cases e1
  rename_i g xs ys
  obtain ⟨args, e2, hargs⟩ := evsK_ok A W e1
  rw [appK_eq] at e2
  generalize hev : a.eval f = fv at hv
  cases hv
  rename_i xs' ys' V1 V2
  have hex : (execOp a.eval o).run P w = .ok (.defer ⟨.fn (.func g) ys', xs' ++ c.args.map a.eval⟩) w := by
    have : execOp a.eval o = (do pure (.defer (← resolve a.eval c o.type))) := by
      unfold execOp; rw [ho]
    rw [this]
    simp only [resolve, hc, hev, Deferred.ofValue, Sem.run_bind, Sem.run_pure, Result.andThen_ok]
  have VA : VL ρ (xs.toList ++ args) (xs' ++ c.args.map a.eval).toList := by
    rw [Array.toList_append, Array.toList_map]
    exact V1.append hargs
  have fin : ∀ {ds : List Value}, DR ρ ds a.defers → T.putK t (.tuple ⟨.func (.func g) ⟨xs.toList ++ args⟩ ys :: ds⟩) N k = .ok →
      ∃ d t', k t' = .ok ∧ (execOp a.eval o).run P w = .ok (.defer d) w ∧ TR ρ N t' { a with defers := d :: a.defers } := by
    intro ds hds e3
    obtain ⟨t', h1, h2⟩ := T.putK_spec (.tuple ⟨.func (.func g) ⟨xs.toList ++ args⟩ ys :: ds⟩) t N k
    rw [h1] at e3
    refine ⟨_, t', e3, hex, A.size, ?_, ?_, ?_⟩
    · intro i v hi hv
      rw [h2, if_neg hi] at hv
      exact A.get i v hi hv
    · intro hn
      rw [h2, if_pos rfl] at hn; cases hn
    · intro v hv
      rw [h2, if_pos rfl] at hv; cases hv
      exact ⟨_, rfl, .cons VA V2 hds⟩
  cases hg : t.get N with
  | none =>
    rw [hg] at e2
    exact fin (ds := []) (by rw [A.none hg]; exact .nil) e2
  | some d =>
    rw [hg] at e2
    obtain ⟨l, rfl, hl⟩ := A.defers d hg
    exact fin hl e2
theorem opsK_ok (H : EnvOk P C.env) (K : KnOk P C) {run : Run} (Rn : RunOk P C run) {dk : List Value → Hp → (Hp → R) → R} (D : DkOk P C dk) {ops : Array Oper} {Q : Exit → Act → World → Prop} {k : Tm → Hp → R} {ρ0 : Mp} {h0 : Hp} {w0 : World}
    (hk : ∀ t' h' ρ' a' w', k t' h' = .ok → TR ρ' N t' a' → WR C.env F ρ' h' w' → St F ρ0 h0 w0 ρ' h' w' → Q .normal a' w') :
    ∀ (l : List Oper) (i : Nat) (t : Tm) (h : Hp) (ρ : Mp) (a : Act) (w : World), ops.toList.drop i = l → opsK C N run dk ops.toList l t h k = .ok → TR ρ N t a → WR C.env F ρ h w → St F ρ0 h0 w0 ρ h w →
      wpOps P ops Q (List.range' i l.length) a w := by
  intro l
  induction l with
  | nil => intro i t h ρ a w _ e A W S; exact hk _ _ _ _ _ e A W S
  | cons o l ih =>
    intro i t h ρ a w hd e A W S
    have hi : ops[i]? = some o := by
      have : (ops.toList.drop i)[0]? = some o := by rw [hd]; rfl
      rw [List.getElem?_drop, Nat.add_zero] at this
      simpa using this
    have hd' : ops.toList.drop (i + 1) = l := by
      rw [← List.drop_drop, hd]; rfl
    have e' : guardK N ops.toList t o.guard (fun b => Bool.rec (motive := fun _ => R) (dstK N o.dst (.tuple #[]) t fun t => opsK C N run dk ops.toList l t h k)
      (match o.op with
        | .defer c => deferK C N c t fun t => dstK N o.dst (.tuple #[]) t fun t => opsK C N run dk ops.toList l t h k
        | op => oneK C N run dk op t h fun v h => dstK N o.dst v t fun t => opsK C N run dk ops.toList l t h k) b) = .ok := e
    obtain ⟨b, e1, hw⟩ := guardK_ok (ops := ops) A e'
    show wpOps P ops Q (i :: List.range' (i + 1) l.length) a w
    simp only [wpOps, hi, hw]
    cases b with
    | false =>
      obtain ⟨t', e2, A'⟩ := dstK_ok A e1 (.tuple .nil)
      simpa [undef] using ih (i + 1) t' h ρ _ w hd' e2 A' W S
    | true =>
      simp only [if_true]
      simp only at e1
      split at e1
      · rename_i c hop
        obtain ⟨d, t1, e2, hex, A1⟩ := deferK_ok A W hop e1
        obtain ⟨t2, e3, A2⟩ := dstK_ok A1 e2 (.tuple .nil)
        refine .inl ?_
        unfold Oper.wp
        rw [hex, Oper.upon_defer]
        simpa [undef] using ih (i + 1) t2 h ρ _ w hd' e3 A2 W S
      · refine .inl (oneK_ok H K Rn D (fun x _ => A.opd W x) W e1 ?_)
        intro v h' ρ' v' w' e2 hv W' S'
        obtain ⟨t', e3, A'⟩ := dstK_ok (A.sub (S'.sub W)) e2 hv
        exact ih (i + 1) t' h' ρ' _ w' hd' e3 A' W' (S.trans S')
end Go.Proofs.YtcoecbpeilmdmaaGreatDoorCx
namespace Go.Proofs.YtcoecbpeilmdmaaGreatDoorCx
noncomputable def tb (m j : Nat) : Bool := Nat.beq (m / 2 ^ j % 2) 1
theorem tb_eq (m j : Nat) : tb m j = m.testBit j := by
  unfold tb
  rw [beq_iff, Nat.testBit_eq_decide_div_mod_eq]
noncomputable def andB (a b : Bool) : Bool := Bool.rec false b a
noncomputable def orB (a b : Bool) : Bool := Bool.rec b true a
theorem andB_ok {a b : Bool} (h : andB a b = true) : a = true ∧ b = true := by cases a <;> cases b <;> first | exact ⟨rfl, rfl⟩ | cases h
theorem orB_ok {a b : Bool} (h : orB a b = true) : a = true ∨ b = true := by cases a <;> cases b <;> first | exact .inl rfl | exact .inr rfl | cases h
/-- Equality of two values, as far as it is needed. -/
noncomputable def vEq1 (a b : Value) : Bool :=
  match a, b with
  | .bool a, .bool b => bEq a b
  | .int k a, .int k' b => andB (ikEq k k') (iEq a b)
  | .string a, .string b => bytesEq a.data.toList b.data.toList
  | .pointer none, .pointer none => true
  | .pointer (some ⟨b, o, none⟩), .pointer (some ⟨b', o', none⟩) => andB (Nat.beq b b') (Nat.beq o o')
  | .slice none n c, .slice none n' c' => andB (Nat.beq n n') (Nat.beq c c')
  | .slice (some ⟨b, o, none⟩) n c, .slice (some ⟨b', o', none⟩) n' c' => andB (andB (Nat.beq b b') (Nat.beq o o')) (andB (Nat.beq n n') (Nat.beq c c'))
  | .map none, .map none => true
  | .map (some r), .map (some r') => Nat.beq r r'
  | .nilFunc, .nilFunc => true
  | .nilIface, .nilIface => true
  | _, _ => false
theorem vEq1_ok {a b : Value} (h : vEq1 a b = true) : a = b := by
  unfold vEq1 at h
  split at h
  · rw [bEq_eq] at h; rw [eq_of_beq h]
  · obtain ⟨h1, h2⟩ := andB_ok h
    rw [iEq_eq] at h2
    rw [ikEq_ok h1, of_decide_eq_true h2]
  · rename_i x y
    rw [bytesEq_eq] at h
    have h := eq_of_beq h
    have : x = y := ByteArray.ext (Array.ext' h)
    rw [this]
  · rfl
  · obtain ⟨h1, h2⟩ := andB_ok h
    rw [beq_ok h1, beq_ok h2]
  · obtain ⟨h1, h2⟩ := andB_ok h
    rw [beq_ok h1, beq_ok h2]
  · obtain ⟨h1, h2⟩ := andB_ok h
    obtain ⟨h3, h4⟩ := andB_ok h1
    obtain ⟨h5, h6⟩ := andB_ok h2
    rw [beq_ok h3, beq_ok h4, beq_ok h5, beq_ok h6]
  · rfl
  · rw [beq_ok h]
  · rfl
  · rfl
  · cases h
noncomputable def vsEq (a : List Value) : List Value → Bool :=
  List.rec (motive := fun _ => List Value → Bool) (fun b => List.casesOn (motive := fun _ => Bool) b true fun _ _ => false)
    (fun x _ ih b => List.casesOn (motive := fun _ => Bool) b false fun y s => andB (vEq1 x y) (ih s)) a
theorem vsEq_ok : ∀ {a b : List Value}, vsEq a b = true → a = b
  | [], [], _ => rfl
  | [], _ :: _, h => by cases h
  | _ :: _, [], h => by cases h
  | x :: a, y :: b, h => by
    obtain ⟨h1, h2⟩ := andB_ok (a := vEq1 x y) (b := vsEq a b) h
    rw [vEq1_ok h1, vsEq_ok h2]
noncomputable def vEq (a b : Value) : Bool :=
  match a, b with
  | .agg a, .agg b => vsEq a.toList b.toList
  | .tuple a, .tuple b => vsEq a.toList b.toList
  | .func (.func f) a c, .func (.func g) b d => andB (Nat.beq f g) (andB (vsEq a.toList b.toList) (vsEq c.toList d.toList))
  | .iface t a, .iface u b => andB (Nat.beq t u) (vEq1 a b)
  | a, b => vEq1 a b
theorem vEq_ok {a b : Value} (h : vEq a b = true) : a = b := by
  unfold vEq at h
  split at h
  · rw [Array.ext' (vsEq_ok h)]
  · rw [Array.ext' (vsEq_ok h)]
  · obtain ⟨h1, h2⟩ := andB_ok h
    obtain ⟨h3, h4⟩ := andB_ok h2
    rw [beq_ok h1, Array.ext' (vsEq_ok h3), Array.ext' (vsEq_ok h4)]
  · obtain ⟨h1, h2⟩ := andB_ok h
    rw [beq_ok h1, vEq1_ok h2]
  · exact vEq1_ok h
noncomputable def bindsB (e : Edge) : Bool := match e.ground with | .textOnly _ => false | .gcOnly _ => false | _ => true
theorem bindsB_eq (e : Edge) : bindsB e = Region.binds .any e := by
  unfold bindsB Region.binds
  cases e.ground <;> rfl
abbrev Ixo := Nat × Oper
section
variable (C : Cfg) (N : Nat)
/-- Has all that an operation waits for been run? -/
noncomputable def readyK (M : T Nat) (i : Nat) (l : List Edge) (no : R) (yes : Nat → R) : Nat → R :=
  List.rec (motive := fun _ => Nat → R) (fun m => yes m)
    (fun e _ ih m => Bool.rec (motive := fun _ => R) (ih m) (cut (Nat.blt e.on i) (Option.rec (motive := fun _ => R) no (fun q => fN (Nat.lor m (Nat.lor q (2 ^ e.on))) ih) (M.get e.on)) (.no 190)) (bindsB e)) l
/-- What an operation looks at: its operands and what guards it. -/
noncomputable def looks (al : List Oper) (o : Oper) : List Operand :=
  match o.guard with
  | none => o.op.operands.toList
  | some g => match al[g.1]? with
    | some og => match og.dst with
      | some d => .tmp d :: o.op.operands.toList
      | none => o.op.operands.toList
    | none => o.op.operands.toList
noncomputable def floatGK (al : List Oper) (o : Oper) (t : Tm) (h : Hp) (k : VK) : R := guardK N al t o.guard fun b => Bool.rec (motive := fun _ => R) (k (.tuple #[])) (floatK C.env N o.op t h k) b
noncomputable def oneGK (run : Run) (dk : List Value → Hp → (Hp → R) → R) (al : List Oper) (o : Oper) (t : Tm) (h : Hp) (k : Hk) : R := guardK N al t o.guard fun b => Bool.rec (motive := fun _ => R) (k (.tuple #[]) h) (oneK C N run dk o.op t h k) b
noncomputable def elemN (d : Nat) (l : List Operand) : Bool := List.rec (motive := fun _ => Bool) false (fun x _ ih => match x with | .tmp t => Bool.rec ih true (Nat.beq d t) | _ => ih) l
/-- An operation names no waiting one's answer but of those that came before it. -/
noncomputable def pairOk (m : Nat) (l : List Operand) (fl : List Ixo) : Bool :=
  List.rec (motive := fun _ => Bool) true (fun p _ ih => match p.2.dst with
    | none => ih
    | some d => andB (orB (notB (elemN d l)) (tb m p.1)) ih) fl
/-- No waiting operation names a place. -/
noncomputable def backOk (al : List Oper) (d : Nat) (fl : List Ixo) : Bool :=
  List.rec (motive := fun _ => Bool) true (fun p _ ih => andB (notB (elemN d (looks al p.2))) ih) fl
abbrev SwK := T Nat → Tm → List Ixo → List Ixo → R
noncomputable def sweepK (al : List Oper) (h : Hp) (rem : List Ixo) : T Nat → Tm → List Ixo → SwK → R :=
  List.rec (motive := fun _ => T Nat → Tm → List Ixo → SwK → R) (fun M t fl k => k M t fl [])
    (fun p _ ih M t fl k =>
      let skip := ih M t fl fun M t fl out => k M t fl (p :: out)
      Bool.rec (motive := fun _ => R) skip
        (readyK M p.1 p.2.after.toList skip (fun m => cut (pairOk m (looks al p.2) fl) (floatGK C N al p.2 t h fun v => match p.2.dst with
          | some d => cut (Nat.blt d N) (cut (backOk al d (p :: fl)) (T.putK t v d fun t => T.putK M m p.1 fun M => ih M t (p :: fl) k) (.no 190)) (.no 191)
          | none => .no 192) (.no 193)) 0) (isFloat C.env p.2.op)) rem
noncomputable def recheckK (al : List Oper) (t : Tm) (h : Hp) (fl : List Ixo) (k : R) : R :=
  List.rec (motive := fun _ => R) k
    (fun p _ ih => match p.2.dst with
      | some d => Option.rec (motive := fun _ => R) (.no 194) (fun u => R.casesOn (motive := fun _ => R) (floatGK C N al p.2 t h fun v => cut (vEq v u) .ok (.no 195)) ih (fun n => .no n)) (t.get d)
      | none => .no 196) fl
noncomputable def selK (M : T Nat) (rem : List Ixo) : (Option (Nat × Ixo) → List Ixo → R) → R :=
  List.rec (motive := fun _ => (Option (Nat × Ixo) → List Ixo → R) → R) (fun k => k none [])
    (fun p _ ih k => readyK M p.1 p.2.after.toList (ih fun s rest => k s (p :: rest))
      (fun m => ih fun s rest => match s with
        | none => Bool.rec (motive := fun _ => R) (k (some (m, p)) rest) (.no 197) (isFloat C.env p.2.op)
        | some _ => .no 198) 0) rem
noncomputable def filtK (m : Nat) (fl : List Ixo) : (List Ixo → R) → R :=
  List.rec (motive := fun _ => (List Ixo → R) → R) (fun k => k []) (fun p _ ih k => Bool.rec (motive := fun _ => R) (ih fun r => k (p :: r)) (ih k) (tb m p.1)) fl
noncomputable def drawK (run : Run) (dk : List Value → Hp → (Hp → R) → R) (al : List Oper) (n : Nat) : List Ixo → T Nat → Tm → Hp → List Ixo → (Tm → Hp → R) → R :=
  Nat.rec (motive := fun _ => List Ixo → T Nat → Tm → Hp → List Ixo → (Tm → Hp → R) → R) (fun _ _ _ _ _ _ => .no 199)
    (fun _ ih rem M t h fl k => sweepK C N al h rem M t fl fun M t fl rem => recheckK C N al t h fl (List.casesOn (motive := fun _ => R) rem (k t h)
      fun _ _ => selK C M rem fun s rest => match s with
        | none => .no 200
        | some (m, p) => filtK m fl fun fl => cut (pairOk m (looks al p.2) fl) (oneGK C N run dk al p.2 t h fun v h => dstK N p.2.dst v t fun t => T.putK M m p.1 fun M => ih rest M t h fl k) (.no 201))) n
noncomputable def idxK (l : List Oper) : Nat → (List Ixo → R) → R :=
  List.rec (motive := fun _ => Nat → (List Ixo → R) → R) (fun _ k => k []) (fun o _ ih n k => ih (Nat.succ n) fun r => k ((n, o) :: r)) l
/-- A region whose order is drawn. -/
noncomputable def regionK (run : Run) (dk : List Value → Hp → (Hp → R) → R) (l : List Oper) (t : Tm) (h : Hp) (k : Tm → Hp → R) : R :=
  idxK l 0 fun all => drawK C N run dk l (Nat.succ all.length) all .nil t h [] k
end
end Go.Proofs.YtcoecbpeilmdmaaGreatDoorCx
namespace Go.Proofs.YtcoecbpeilmdmaaGreatDoorCx
variable {P : Program} {C : Cfg} {N : Nat} {F : Nat → Prop} {ρ : Mp} {h : Hp} {w w' : World} {ops : Array Oper}
/-- An operation waits for another one. -/
def Pred (ops : Array Oper) (p i : Nat) : Prop := ∃ o, ops[i]? = some o ∧ ∃ e ∈ o.after.toList, bindsB e = true ∧ e.on = p
inductive Anc (ops : Array Oper) : Nat → Nat → Prop
  | base {p i} : Pred ops p i → Anc ops p i
  | step {j p i} : Anc ops j p → Pred ops p i → Anc ops j i
theorem readyK_ok {M : T Nat} {i : Nat} {no : R} {yes : Nat → R} : ∀ {l : List Edge} {m0 : Nat}, readyK M i l no yes m0 = .ok →
    (no = .ok ∧ ∃ e ∈ l, bindsB e = true ∧ M.get e.on = none) ∨
    (∃ m, yes m = .ok ∧ (∀ e ∈ l, bindsB e = true → e.on < i ∧ ∃ q, M.get e.on = some q) ∧
      ∀ j, m.testBit j = true → m0.testBit j = true ∨ ∃ e ∈ l, bindsB e = true ∧ (j = e.on ∨ ∃ q, M.get e.on = some q ∧ q.testBit j = true))
  | [], m0, e => .inr ⟨m0, e, fun _ h _ => absurd h (by simp), fun j hj => .inl hj⟩
  | ed :: l, m0, e => by
    have e' : Bool.rec (motive := fun _ => R) (readyK M i l no yes m0) (cut (Nat.blt ed.on i) (Option.rec (motive := fun _ => R) no (fun q => fN (Nat.lor m0 (Nat.lor q (2 ^ ed.on))) (readyK M i l no yes)) (M.get ed.on)) (.no 190)) (bindsB ed) = .ok := e
    cases hb : bindsB ed with
    | false =>
      rw [hb] at e'
      rcases readyK_ok e' with ⟨h1, x, h2, h3⟩ | ⟨m, h1, h2, h3⟩
      · exact .inl ⟨h1, x, .tail _ h2, h3⟩
      · refine .inr ⟨m, h1, fun x hx hbx => ?_, fun j hj => ?_⟩
        · cases hx with
          | head => rw [hb] at hbx; cases hbx
          | tail _ hx => exact h2 x hx hbx
        · rcases h3 j hj with q | ⟨x, q1, q2⟩
          · exact .inl q
          · exact .inr ⟨x, .tail _ q1, q2⟩
    | true =>
      rw [hb] at e'
      obtain ⟨hlt, e2⟩ := cut_ok e'
      have hlt := blt_ok hlt
      cases hM : M.get ed.on with
      | none => rw [hM] at e2; exact .inl ⟨e2, ed, .head _, hb, hM⟩
      | some q =>
        rw [hM] at e2
        have e3 : readyK M i l no yes (Nat.lor m0 (Nat.lor q (2 ^ ed.on))) = .ok := by simpa only [fN_eq] using e2
        rcases readyK_ok e3 with ⟨h1, x, h2, h3⟩ | ⟨m, h1, h2, h3⟩
        · exact .inl ⟨h1, x, .tail _ h2, h3⟩
        · refine .inr ⟨m, h1, fun x hx hbx => ?_, fun j hj => ?_⟩
          · cases hx with
            | head => exact ⟨hlt, q, hM⟩
            | tail _ hx => exact h2 x hx hbx
          · rcases h3 j hj with c | ⟨x, q1, q2⟩
            · have c' : (m0 ||| (q ||| 2 ^ ed.on)).testBit j = true := c
              rw [Nat.testBit_or, Nat.testBit_or, Nat.testBit_two_pow] at c'
              simp only [Bool.or_eq_true, decide_eq_true_eq] at c'
              rcases c' with c' | c' | c'
              · exact .inl c'
              · exact .inr ⟨ed, .head _, hb, .inr ⟨q, hM, c'⟩⟩
              · exact .inr ⟨ed, .head _, hb, .inl c'.symm⟩
            · exact .inr ⟨x, .tail _ q1, q2⟩
abbrev L (listed : Array Bool) (i : Nat) : Prop := listed.getD i false = true
/-- What holds while a region runs: the small run is ahead of the machine's by floating operations alone. 'b' is the machine's activation as if it had run them. -/
structure Inv (C : Cfg) (N : Nat) (ops : Array Oper) (ρ : Mp) (rem : List Ixo) (M : T Nat) (t : Tm) (fl : List Ixo) (listed : Array Bool) (a b : Act) : Prop where
  size : listed.size = ops.size
  cover : ∀ i o, ops[i]? = some o → (∃ m, M.get i = some m) ∨ (i, o) ∈ rem
  remv : ∀ p ∈ rem, ops[p.1]? = some p.2 ∧ M.get p.1 = none
  nd : (rem.map (·.1)).Nodup
  dom : ∀ i m, M.get i = some m → ∃ o, ops[i]? = some o
  run : ∀ i, L listed i → ∃ m, M.get i = some m
  late : ∀ i m, M.get i = some m → L listed i ∨ ∃ o, (i, o) ∈ fl
  flv : ∀ p ∈ fl, ops[p.1]? = some p.2 ∧ (∃ m, M.get p.1 = some m) ∧ isFloat C.env p.2.op = true ∧ ∃ d, p.2.dst = some d ∧ d < N
  preds : ∀ i m, M.get i = some m → ∀ p, Pred ops p i → p < i ∧ ∃ q, M.get p = some q
  anc : ∀ i m, M.get i = some m → ∀ j, m.testBit j = true → Anc ops j i
  closed : ∀ i, L listed i → ∀ p, Pred ops p i → L listed p
  ok : ∀ p ∈ fl, ∀ q ∈ fl, ∀ d, q.2.dst = some d → elemN d (looks ops.toList p.2) = true → Anc ops q.1 p.1
  gh : TR ρ N t b
  same : ∀ d, (∀ p ∈ fl, ¬ L listed p.1 → p.2.dst ≠ some d) → a.tmps[d]? = b.tmps[d]?
  sz : a.tmps.size = b.tmps.size
  df : a.defers = b.defers
theorem anc_listed {listed : Array Bool} (hc : ∀ i, L listed i → ∀ p, Pred ops p i → L listed p) {i j : Nat} (hp : ∀ p, Pred ops p i → L listed p) (h : Anc ops j i) : L listed j := by
  have key : ∀ {j i : Nat}, Anc ops j i → (∀ p, Pred ops p i → L listed p) → L listed j := by
    intro j i h
    induction h with
    | base hb => exact fun hp => hp _ hb
    | step _ hb ih => exact fun hp => ih fun p hq => hc _ (hp _ hb) p hq
  exact key h hp
theorem elemN_cons (d : Nat) (x : Operand) (l : List Operand) : elemN d (x :: l) = (match x with | .tmp t => Bool.rec (motive := fun _ => Bool) (elemN d l) true (Nat.beq d t) | _ => elemN d l) := rfl
theorem elemN_mem {d : Nat} {l : List Operand} (hm : Operand.tmp d ∈ l) : elemN d l = true := by
  induction l with
  | nil => cases hm
  | cons x l ih =>
    rw [elemN_cons]
    cases hm with
    | head => simp
    | tail _ hm =>
      have := ih hm
      split
      · rename_i t
        cases Nat.beq d t with
        | true => rfl
        | false => exact this
      · exact this
theorem pairOk_ok {m : Nat} {l : List Operand} {fl : List Ixo} (h : pairOk m l fl = true) : ∀ p ∈ fl, ∀ d, p.2.dst = some d → elemN d l = true → m.testBit p.1 = true := by
  induction fl with
  | nil => intro p hp; cases hp
  | cons q fl ih =>
    have h : (match q.2.dst with | none => pairOk m l fl | some d => andB (orB (notB (elemN d l)) (tb m q.1)) (pairOk m l fl)) = true := h
    intro p hp d hd
    have rest : pairOk m l fl = true := by
      split at h
      · exact h
      · exact (andB_ok h).2
    cases hp with
    | tail _ hp => exact ih rest p hp d hd
    | head =>
      rw [hd] at h
      obtain ⟨h1, _⟩ := andB_ok h
      intro he
      rcases orB_ok h1 with c | c
      · rw [he] at c; cases c
      · rw [← tb_eq]; exact c
theorem backOk_ok {al : List Oper} {d : Nat} {fl : List Ixo} (h : backOk al d fl = true) : ∀ p ∈ fl, elemN d (looks al p.2) = false := by
  induction fl with
  | nil => intro p hp; cases hp
  | cons q fl ih =>
    have h : andB (notB (elemN d (looks al q.2))) (backOk al d fl) = true := h
    obtain ⟨h1, h2⟩ := andB_ok h
    intro p hp
    cases hp with
    | head =>
      rw [notB_eq] at h1
      simpa using h1
    | tail _ hp => exact ih h2 p hp
theorem opd_of {t : Tm} {a : Act} (W : WR C.env F ρ h w) {x : Operand} (hx : ∀ d v, x = .tmp d → d ≠ N → t.get d = some v → ∃ v', a.tmps[d]? = some v' ∧ VR ρ v v') : OpdR C.env N ρ t a x := by
  intro k e
  cases x with
  | tmp i =>
    have e' : Bool.rec (motive := fun _ => R) (Option.rec (motive := fun _ => R) (.no 15) k (t.get i)) (.no 16) (Nat.beq i N) = .ok := e
    cases hb : Nat.beq i N with
    | true => rw [hb] at e'; cases e'
    | false =>
      rw [hb] at e'
      cases hg : t.get i with
      | none => rw [hg] at e'; cases e'
      | some v =>
        rw [hg] at e'
        have hi : i ≠ N := fun c => by subst c; simp at hb
        obtain ⟨v', h1, h2⟩ := hx i v rfl hi hg
        refine ⟨v, e', ?_⟩
        simp only [Act.eval]
        rw [Array.getD_eq_getD_getElem?, h1]
        exact h2
  | const v =>
    obtain ⟨h1, h2⟩ := cut_ok (b := flatV v) e
    exact ⟨v, h2, flatV_VR h1 ρ⟩
  | global g =>
    obtain ⟨h1, h2⟩ := cut_ok (b := Nat.blt g C.env.glob) e
    have hg := W.glob g (blt_ok h1)
    exact ⟨_, h2, VR.ptr (a := ⟨g, 0, none⟩) hg rfl⟩
  | func f => exact ⟨_, e, .func (.func f) .nil .nil⟩
theorem looks_op {al : List Oper} {o : Oper} {x : Operand} (hx : x ∈ o.op.operands.toList) : x ∈ looks al o := by
  unfold looks
  split
  · exact hx
  · split
    · split
      · exact .tail _ hx
      · exact hx
    · exact hx
theorem looks_guard {al : List Oper} {o og : Oper} {g : Nat × Bool} {d : Nat} (hg : o.guard = some g) (ho : al[g.1]? = some og) (hd : og.dst = some d) : .tmp d ∈ looks al o := by
  unfold looks
  rw [hg]
  simp only [ho, hd]
  exact .head _
/-- The operands of an operation whose turn it is have corresponding values. -/
theorem Inv.val {rem : List Ixo} {M : T Nat} {t : Tm} {fl : List Ixo} {listed : Array Bool} {a b : Act} (I : Inv C N ops ρ rem M t fl listed a b) {o : Oper}
    (hl : ∀ q ∈ fl, ∀ d, q.2.dst = some d → elemN d (looks ops.toList o) = true → L listed q.1) {d : Nat} {v : Value} (hx : .tmp d ∈ looks ops.toList o) (hd : d ≠ N) (hg : t.get d = some v) : ∃ v', a.tmps[d]? = some v' ∧ VR ρ v v' := by
  obtain ⟨v', h1, h2⟩ := I.gh.get d v hd hg
  refine ⟨v', ?_, h2⟩
  rw [I.same d ?_]
  · exact h1
  · intro p hp hun hdst
    exact hun (hl p hp d hdst (elemN_mem hx))
theorem Inv.opd {rem : List Ixo} {M : T Nat} {t : Tm} {fl : List Ixo} {listed : Array Bool} {a b : Act} (I : Inv C N ops ρ rem M t fl listed a b) (W : WR C.env F ρ h w) {o : Oper}
    (hl : ∀ q ∈ fl, ∀ d, q.2.dst = some d → elemN d (looks ops.toList o) = true → L listed q.1) : ∀ x ∈ o.op.operands, OpdR C.env N ρ t a x := by
  intro x hx
  refine opd_of W fun d v hxd hd hg => ?_
  subst hxd
  exact I.val hl (looks_op (by simpa using hx)) hd hg
theorem Inv.guard {rem : List Ixo} {M : T Nat} {t : Tm} {fl : List Ixo} {listed : Array Bool} {a b : Act} (I : Inv C N ops ρ rem M t fl listed a b) {o : Oper}
    (hl : ∀ q ∈ fl, ∀ d, q.2.dst = some d → elemN d (looks ops.toList o) = true → L listed q.1) {k : Bool → R} (e : guardK N ops.toList t o.guard k = .ok) : ∃ b, k b = .ok ∧ Region.wanted o (yielded ops a.tmps) = b :=
  guardK_ok' (fun g og d v h1 h2 h3 h4 h5 => I.val hl (looks_guard h1 (by simpa using h2) h3) h4 h5) e
/-- A floating operation with its guard. -/
theorem floatGK_ok (H : EnvOk P C.env) (W : WR C.env F ρ h w) {t : Tm} {a : Act} {o : Oper} {k : VK} (e : floatGK C N ops.toList o t h k = .ok) (G : ∀ k : Bool → R, guardK N ops.toList t o.guard k = .ok → ∃ b, k b = .ok ∧ Region.wanted o (yielded ops a.tmps) = b) (A : ∀ x ∈ o.op.operands, OpdR C.env N ρ t a x) :
    ∃ v v', k v = .ok ∧ VR ρ v v' ∧ ((Region.wanted o (yielded ops a.tmps) = true ∧ (execOp a.eval o).run P w = .ok (.value v') w) ∨ (Region.wanted o (yielded ops a.tmps) = false ∧ v' = undef)) := by
  obtain ⟨b, e1, hw⟩ := G _ e
  cases b with
  | true =>
    obtain ⟨v, v', h1, h2, h3⟩ := floatK_ok H W A e1
    exact ⟨v, v', h1, h3, .inl ⟨hw, h2⟩⟩
  | false => exact ⟨_, undef, e1, .tuple .nil, .inr ⟨hw, rfl⟩⟩
end Go.Proofs.YtcoecbpeilmdmaaGreatDoorCx
namespace Go.Proofs.YtcoecbpeilmdmaaGreatDoorCx
variable {P : Program} {C : Cfg} {N : Nat} {F : Nat → Prop} {ρ : Mp} {h : Hp} {w w' : World} {ops : Array Oper}
def NotReady (M : T Nat) (p : Ixo) : Prop := ∃ e ∈ p.2.after.toList, bindsB e = true ∧ M.get e.on = none
def ReadyBy (M : T Nat) (p : Ixo) (m : Nat) : Prop :=
  (∀ e ∈ p.2.after.toList, bindsB e = true → e.on < p.1 ∧ ∃ q, M.get e.on = some q) ∧
  ∀ j, m.testBit j = true → ∃ e ∈ p.2.after.toList, bindsB e = true ∧ (j = e.on ∨ ∃ q, M.get e.on = some q ∧ q.testBit j = true)
theorem readyK_ok' {M : T Nat} {p : Ixo} {no : R} {yes : Nat → R} (e : readyK M p.1 p.2.after.toList no yes 0 = .ok) : (no = .ok ∧ NotReady M p) ∨ ∃ m, yes m = .ok ∧ ReadyBy M p m := by
  rcases readyK_ok e with h1 | ⟨m, h1, h2, h3⟩
  · exact .inl h1
  · refine .inr ⟨m, h1, h2, fun j hj => ?_⟩
    rcases h3 j hj with c | c
    · simp at c
    · exact c
theorem pred_of {p : Ixo} (hp : ops[p.1]? = some p.2) {j : Nat} (h : Pred ops j p.1) : ∃ e ∈ p.2.after.toList, bindsB e = true ∧ e.on = j := by
  obtain ⟨o, h1, h2⟩ := h
  rw [hp] at h1; cases h1
  exact h2
theorem ReadyBy.anc {M : T Nat} {p : Ixo} {m : Nat} (hp : ops[p.1]? = some p.2) (R : ReadyBy M p m) (ha : ∀ i m, M.get i = some m → ∀ j, m.testBit j = true → Anc ops j i) : ∀ j, m.testBit j = true → Anc ops j p.1 := by
  intro j hj
  obtain ⟨e, h1, h2, h3⟩ := R.2 j hj
  rcases h3 with rfl | ⟨q, h3, h4⟩
  · exact .base ⟨_, hp, e, h1, h2, rfl⟩
  · exact .step (ha _ _ h3 _ h4) ⟨_, hp, e, h1, h2, rfl⟩
theorem ReadyBy.preds {M : T Nat} {p : Ixo} {m : Nat} (hp : ops[p.1]? = some p.2) (R : ReadyBy M p m) : ∀ j, Pred ops j p.1 → j < p.1 ∧ ∃ q, M.get j = some q := by
  intro j hj
  obtain ⟨e, h1, h2, rfl⟩ := pred_of hp hj
  exact R.1 e h1 h2
section
variable {rem : List Ixo} {M : T Nat} {t : Tm} {fl : List Ixo} {listed : Array Bool} {a b : Act}
/-- One more operation run on the small side. -/
theorem Inv.more {p : Ixo} {pre post : List Ixo} (I : Inv C N ops ρ (pre ++ p :: post) M t fl listed a b) {m : Nat} (R : ReadyBy M p m) (hok : pairOk m (looks ops.toList p.2) fl = true) {M' : T Nat} (hM : ∀ i, M'.get i = if i = p.1 then some m else M.get i)
    (hfl : isFloat C.env p.2.op = true) {d : Nat} (hd : p.2.dst = some d) (hdN : d < N) (hbk : backOk ops.toList d (p :: fl) = true) {v v' : Value} (hv : VR ρ v v') {t' : Tm} (ht : ∀ i, t'.get i = if i = d then some v else t.get i) :
    Inv C N ops ρ (pre ++ post) M' t' (p :: fl) listed a (b.put (some d) v') := by
  obtain ⟨hp, hpn⟩ := I.remv p (by simp)
  have hsup : ∀ i q, M.get i = some q → ∃ q', M'.get i = some q' := fun i q hq => by
    by_cases e : i = p.1
    · exact ⟨m, by rw [hM, if_pos e]⟩
    · exact ⟨q, by rw [hM, if_neg e]; exact hq⟩
  have hnd := I.nd
  rw [List.map_append, List.map_cons] at hnd
  have hne : ∀ q ∈ pre ++ post, q.1 ≠ p.1 := by
    intro q hq e
    have h1 := List.nodup_append.1 hnd
    rcases List.mem_append.1 hq with hq | hq
    · exact h1.2.2 q.1 (List.mem_map.2 ⟨q, hq, rfl⟩) p.1 (by simp) e
    · have := (List.nodup_cons.1 h1.2.1).1
      exact this (e ▸ List.mem_map.2 ⟨q, hq, rfl⟩)
  have hun : ¬ L listed p.1 := fun c => by
    obtain ⟨q, hq⟩ := I.run _ c
    rw [hpn] at hq; cases hq
  refine ⟨I.size, ?_, ?_, ?_, ?_, fun i hi => let ⟨q, hq⟩ := I.run i hi; hsup i q hq, ?_, ?_, ?_, ?_, I.closed, ?_, I.gh.put hdN hv ht, ?_, by rw [I.sz]; simp [Act.put], by rw [I.df]; rfl⟩
  · intro i o hi
    rcases I.cover i o hi with ⟨q, hq⟩ | hr
    · exact .inl (hsup i q hq)
    · rcases List.mem_append.1 hr with hr | hr
      · exact .inr (List.mem_append_left _ hr)
      · cases hr with
        | head => exact .inl ⟨m, by rw [hM, if_pos rfl]⟩
        | tail _ hr => exact .inr (List.mem_append_right _ hr)
  · intro q hq
    have hq' : q ∈ pre ++ p :: post := by
      rcases List.mem_append.1 hq with c | c
      · exact List.mem_append_left _ c
      · exact List.mem_append_right _ (.tail _ c)
    obtain ⟨x, y⟩ := I.remv q hq'
    exact ⟨x, by rw [hM, if_neg (hne q hq)]; exact y⟩
  · rw [List.map_append]
    have h1 := List.nodup_append.1 hnd
    refine List.nodup_append.2 ⟨h1.1, (List.nodup_cons.1 h1.2.1).2, fun x hx y hy => h1.2.2 x hx y (by simp; exact .inr (by simpa using hy))⟩
  · intro i q hq
    rw [hM] at hq
    by_cases e : i = p.1
    · subst e; exact ⟨_, hp⟩
    · rw [if_neg e] at hq; exact I.dom i q hq
  · intro i q hq
    rw [hM] at hq
    by_cases e : i = p.1
    · subst e; exact .inr ⟨p.2, .head _⟩
    · rw [if_neg e] at hq
      rcases I.late i q hq with c | ⟨o, c⟩
      · exact .inl c
      · exact .inr ⟨o, .tail _ c⟩
  · intro q hq
    cases hq with
    | head => exact ⟨hp, ⟨m, by rw [hM, if_pos rfl]⟩, hfl, d, hd, hdN⟩
    | tail _ hq =>
      obtain ⟨x, ⟨y, hy⟩, z⟩ := I.flv q hq
      exact ⟨x, hsup _ y hy, z⟩
  · intro i q hq j hj
    rw [hM] at hq
    by_cases e : i = p.1
    · subst e
      obtain ⟨x, y, hy⟩ := R.preds hp j hj
      exact ⟨x, hsup _ y hy⟩
    · rw [if_neg e] at hq
      obtain ⟨x, y, hy⟩ := I.preds i q hq j hj
      exact ⟨x, hsup _ y hy⟩
  · intro i q hq j hj
    rw [hM] at hq
    by_cases e : i = p.1
    · subst e
      rw [if_pos rfl] at hq; cases hq
      exact R.anc hp I.anc j hj
    · rw [if_neg e] at hq; exact I.anc i q hq j hj
  · intro x hx y hy e hye he
    cases hy with
    | head =>
      rw [hd] at hye; cases hye
      rw [backOk_ok hbk x hx] at he; cases he
    | tail _ hy =>
      cases hx with
      | head => exact R.anc hp I.anc _ (pairOk_ok hok y hy e hye he)
      | tail _ hx => exact I.ok x hx y hy e hye he
  · intro d' hd'
    have hne' : d ≠ d' := fun c => hd' p (.head _) hun (c ▸ hd)
    rw [I.same d' fun q hq => hd' q (.tail _ hq)]
    simp only [Act.put]
    rw [Array.getElem?_setIfInBounds_ne hne']
theorem sweep_ok (H : EnvOk P C.env) (W : WR C.env F ρ h w) : ∀ (l pre : List Ixo) (M : T Nat) (t : Tm) (fl : List Ixo) (k : SwK) (b : Act), sweepK C N ops.toList h l M t fl k = .ok → Inv C N ops ρ (pre ++ l) M t fl listed a b →
    ∃ M' t' fl' out b', k M' t' fl' out = .ok ∧ Inv C N ops ρ (pre ++ out) M' t' fl' listed a b' := by
  intro l
  induction l with
  | nil => exact fun pre M t fl k b e I => ⟨M, t, fl, [], b, e, I⟩
  | cons p l ih =>
    intro pre M t fl k b e I
    have skip : (sweepK C N ops.toList h l M t fl fun M t fl out => k M t fl (p :: out)) = .ok → ∃ M' t' fl' out b', k M' t' fl' out = .ok ∧ Inv C N ops ρ (pre ++ out) M' t' fl' listed a b' := by
      intro e
      obtain ⟨M', t', fl', out, b', h1, h2⟩ := ih (pre ++ [p]) M t fl _ b e (by simpa using I)
      exact ⟨M', t', fl', p :: out, b', h1, by simpa using h2⟩
    have e' : Bool.rec (motive := fun _ => R) (sweepK C N ops.toList h l M t fl fun M t fl out => k M t fl (p :: out))
        (readyK M p.1 p.2.after.toList (sweepK C N ops.toList h l M t fl fun M t fl out => k M t fl (p :: out)) (fun m => cut (pairOk m (looks ops.toList p.2) fl) (floatGK C N ops.toList p.2 t h fun v => match p.2.dst with
          | some d => cut (Nat.blt d N) (cut (backOk ops.toList d (p :: fl)) (T.putK t v d fun t => T.putK M m p.1 fun M => sweepK C N ops.toList h l M t (p :: fl) k) (.no 190)) (.no 191)
          | none => .no 192) (.no 193)) 0) (isFloat C.env p.2.op) = .ok := e
    cases hf : isFloat C.env p.2.op with
    | false => rw [hf] at e'; exact skip e'
    | true =>
      rw [hf] at e'
      rcases readyK_ok' e' with ⟨h1, _⟩ | ⟨m, h1, R⟩
      · exact skip h1
      · obtain ⟨hok, h2⟩ := cut_ok h1
        obtain ⟨v, v', h3, h5, _⟩ := floatGK_ok H W (a := b) h2 (fun k e => guardK_ok I.gh e) (fun x _ => I.gh.opd W x)
        split at h3
        · rename_i d hd
          obtain ⟨hdN, h6⟩ := cut_ok h3
          obtain ⟨hbk, h6⟩ := cut_ok h6
          obtain ⟨t', g1, g2⟩ := T.putK_spec v t d (fun t => T.putK M m p.1 fun M => sweepK C N ops.toList h l M t (p :: fl) k)
          rw [g1] at h6
          obtain ⟨M', g3, g4⟩ := T.putK_spec m M p.1 (fun M => sweepK C N ops.toList h l M t' (p :: fl) k)
          rw [g3] at h6
          exact ih pre M' t' (p :: fl) k _ h6 (I.more R hok g4 hf hd (blt_ok hdN) hbk h5 g2)
        · cases h3
end
/-- What was found is found again. -/
def Again (C : Cfg) (N : Nat) (al : List Oper) (t : Tm) (h : Hp) (p : Ixo) : Prop :=
  ∃ d u, p.2.dst = some d ∧ t.get d = some u ∧ (floatGK C N al p.2 t h fun v => cut (vEq v u) .ok (.no 195)) = .ok
theorem recheck_ok {al : List Oper} {t : Tm} {k : R} : ∀ {fl : List Ixo}, recheckK C N al t h fl k = .ok → k = .ok ∧ ∀ p ∈ fl, Again C N al t h p
  | [], e => ⟨e, fun _ hp => by cases hp⟩
  | p :: fl, e => by
    have e' : (match p.2.dst with
      | some d => Option.rec (motive := fun _ => R) (.no 194) (fun u => R.casesOn (motive := fun _ => R) (floatGK C N al p.2 t h fun v => cut (vEq v u) .ok (.no 195)) (recheckK C N al t h fl k) (fun n => .no n)) (t.get d)
      | none => .no 196) = .ok := e
    split at e'
    · rename_i d hd
      cases hg : t.get d with
      | none => rw [hg] at e'; cases e'
      | some u =>
        rw [hg] at e'
        simp only at e'
        cases hr : (floatGK C N al p.2 t h fun v => cut (vEq v u) .ok (.no 195)) with
        | no n => rw [hr] at e'; cases e'
        | ok =>
          rw [hr] at e'
          obtain ⟨h1, h2⟩ := recheck_ok e'
          refine ⟨h1, fun q hq => ?_⟩
          cases hq with
          | head => exact ⟨d, u, hd, hg, hr⟩
          | tail _ hq => exact h2 q hq
    · cases e'
theorem selK_ok {M : T Nat} : ∀ {rem : List Ixo} {k : Option (Nat × Ixo) → List Ixo → R}, selK C M rem k = .ok →
    ∃ s rest, k s rest = .ok ∧ ((s = none ∧ rest = rem ∧ ∀ p ∈ rem, NotReady M p) ∨
      ∃ m q pre post, s = some (m, q) ∧ rem = pre ++ q :: post ∧ rest = pre ++ post ∧ isFloat C.env q.2.op = false ∧ ReadyBy M q m ∧ ∀ p ∈ pre ++ post, NotReady M p)
  | [], k, e => ⟨none, [], e, .inl ⟨rfl, rfl, fun _ h => by cases h⟩⟩
  | p :: rem, k, e => by
    have e' : readyK M p.1 p.2.after.toList (selK C M rem fun s rest => k s (p :: rest))
      (fun m => selK C M rem fun s rest => match s with
        | none => Bool.rec (motive := fun _ => R) (k (some (m, p)) rest) (.no 197) (isFloat C.env p.2.op)
        | some _ => .no 198) 0 = .ok := e
    rcases readyK_ok' e' with ⟨h1, hn⟩ | ⟨m, h1, hr⟩
    · obtain ⟨s, rest, h2, h3⟩ := selK_ok h1
      refine ⟨s, p :: rest, h2, ?_⟩
      rcases h3 with ⟨rfl, rfl, h4⟩ | ⟨m, q, pre, post, rfl, rfl, rfl, h4, h5, h6⟩
      · refine .inl ⟨rfl, rfl, fun x hx => ?_⟩
        cases hx with
        | head => exact hn
        | tail _ hx => exact h4 x hx
      · refine .inr ⟨m, q, p :: pre, post, rfl, rfl, rfl, h4, h5, fun x hx => ?_⟩
        cases hx with
        | head => exact hn
        | tail _ hx => exact h6 x hx
    · obtain ⟨s, rest, h2, h3⟩ := selK_ok h1
      rcases h3 with ⟨rfl, rfl, h4⟩ | ⟨m', q, pre, post, rfl, _⟩
      · simp only at h2
        cases hf : isFloat C.env p.2.op with
        | true => rw [hf] at h2; cases h2
        | false =>
          rw [hf] at h2
          exact ⟨some (m, p), rest, h2, .inr ⟨m, p, [], rest, rfl, rfl, rfl, hf, hr, h4⟩⟩
      · cases h2
theorem filtK_ok {m : Nat} : ∀ {fl : List Ixo} {k : List Ixo → R}, filtK m fl k = .ok → ∃ fl', k fl' = .ok ∧ ∀ p, p ∈ fl' ↔ p ∈ fl ∧ m.testBit p.1 = false
  | [], k, e => ⟨[], e, fun p => by simp⟩
  | q :: fl, k, e => by
    have e' : Bool.rec (motive := fun _ => R) (filtK m fl fun r => k (q :: r)) (filtK m fl k) (tb m q.1) = .ok := e
    cases ht : tb m q.1 with
    | false =>
      rw [ht] at e'
      obtain ⟨fl', h1, h2⟩ := filtK_ok e'
      refine ⟨q :: fl', h1, fun p => ?_⟩
      rw [tb_eq] at ht
      simp only [List.mem_cons, h2]
      constructor
      · rintro (rfl | ⟨x, y⟩)
        · exact ⟨.inl rfl, ht⟩
        · exact ⟨.inr x, y⟩
      · rintro ⟨rfl | x, y⟩
        · exact .inl rfl
        · exact .inr ⟨x, y⟩
    | true =>
      rw [ht] at e'
      obtain ⟨fl', h1, h2⟩ := filtK_ok e'
      refine ⟨fl', h1, fun p => ?_⟩
      rw [tb_eq] at ht
      simp only [List.mem_cons, h2]
      constructor
      · rintro ⟨x, y⟩; exact ⟨.inr x, y⟩
      · rintro ⟨rfl | x, y⟩
        · rw [ht] at y; cases y
        · exact ⟨x, y⟩
end Go.Proofs.YtcoecbpeilmdmaaGreatDoorCx
namespace Go.Proofs.YtcoecbpeilmdmaaGreatDoorCx
variable {P : Program} {C : Cfg} {N : Nat} {F : Nat → Prop} {ρ : Mp} {h : Hp} {w w' : World} {ops : Array Oper}
section
variable {rem : List Ixo} {M : T Nat} {t : Tm} {fl : List Ixo} {listed : Array Bool} {a b : Act}
theorem L_set {i j : Nat} (h : L (listed.setIfInBounds i true) j) : j = i ∨ L listed j := by
  by_cases e : i = j
  · exact .inl e.symm
  · refine .inr ?_
    unfold L at h ⊢
    rw [getD_set_ne false e] at h
    exact h
theorem L_of {i j : Nat} (h : L listed j) : L (listed.setIfInBounds i true) j := getD_set_true h
theorem L_self {i : Nat} (h : i < listed.size) : L (listed.setIfInBounds i true) i := by unfold L; simp [h]
/-- The machine runs an operation that the small side has run before. -/
theorem Inv.list (I : Inv C N ops ρ rem M t fl listed a b) {i : Nat} {o : Oper} (hi : (i, o) ∈ fl) (hp : ∀ p, Pred ops p i → L listed p) {d : Nat} (hd : o.dst = some d) {u v' : Value} (hu : t.get d = some u) (hv : VR ρ u v') :
    Inv C N ops ρ rem M t fl (listed.setIfInBounds i true) (a.put (some d) v') (b.put (some d) v') := by
  obtain ⟨g1, ⟨m, g2⟩, g3, d', g4, g5⟩ := I.flv _ hi
  simp only at g1 g2 g3 g4 g5
  rw [hd] at g4; cases g4
  have hlt : i < listed.size := by rw [I.size]; exact (Array.getElem?_eq_some_iff.1 g1).1
  refine ⟨by simp [I.size], I.cover, I.remv, I.nd, I.dom, ?_, ?_, I.flv, I.preds, I.anc, ?_, I.ok, ?_, ?_, by simp [Act.put, I.sz], by simp [Act.put, I.df]⟩
  · intro j hj
    rcases L_set hj with rfl | hj
    · exact ⟨m, g2⟩
    · exact I.run j hj
  · intro j q hq
    rcases I.late j q hq with c | c
    · exact .inl (L_of c)
    · exact .inr c
  · intro j hj p hpj
    rcases L_set hj with rfl | hj
    · exact L_of (hp p hpj)
    · exact L_of (I.closed j hj p hpj)
  · exact I.gh.put g5 hv (fun x => by
      by_cases e : x = d
      · subst e; rw [if_pos rfl]; exact hu
      · rw [if_neg e])
  · intro d' hd'
    by_cases e : d = d'
    · subst e
      simp only [Act.put]
      rw [Array.getElem?_setIfInBounds_self, Array.getElem?_setIfInBounds_self, I.sz]
    · simp only [Act.put]
      rw [Array.getElem?_setIfInBounds_ne e, Array.getElem?_setIfInBounds_ne e]
      refine I.same d' fun p hp hun hdst => ?_
      by_cases c : p.1 = i
      · have h1 := (I.flv p hp).1
        rw [c, g1] at h1
        cases h1
        rw [hd] at hdst
        cases hdst
        exact e rfl
      · exact hd' p hp (fun x => (L_set x).elim c hun) hdst
/-- Both sides run an operation. -/
theorem Inv.both {p : Ixo} {pre post : List Ixo} (I : Inv C N ops ρ (pre ++ p :: post) M t fl listed a b) {m : Nat} (R : ReadyBy M p m) {M' : T Nat} (hM : ∀ i, M'.get i = if i = p.1 then some m else M.get i)
    (hpl : ∀ q, Pred ops q p.1 → L listed q) {fl' : List Ixo} (hfl : ∀ q, q ∈ fl' ↔ q ∈ fl ∧ m.testBit q.1 = false) {ρ' : Mp} {t' : Tm} {v' : Value} (G : TR ρ' N t' (b.put p.2.dst v')) :
    Inv C N ops ρ' (pre ++ post) M' t' fl' (listed.setIfInBounds p.1 true) (a.put p.2.dst v') (b.put p.2.dst v') := by
  obtain ⟨hp, hpn⟩ := I.remv p (by simp)
  have hlt : p.1 < listed.size := by rw [I.size]; exact (Array.getElem?_eq_some_iff.1 hp).1
  have hsup : ∀ i q, M.get i = some q → ∃ q', M'.get i = some q' := fun i q hq => by
    by_cases e : i = p.1
    · exact ⟨m, by rw [hM, if_pos e]⟩
    · exact ⟨q, by rw [hM, if_neg e]; exact hq⟩
  have hnd := I.nd
  rw [List.map_append, List.map_cons] at hnd
  have hne : ∀ q ∈ pre ++ post, q.1 ≠ p.1 := by
    intro q hq e
    have h1 := List.nodup_append.1 hnd
    rcases List.mem_append.1 hq with hq | hq
    · exact h1.2.2 q.1 (List.mem_map.2 ⟨q, hq, rfl⟩) p.1 (by simp) e
    · have := (List.nodup_cons.1 h1.2.1).1
      exact this (e ▸ List.mem_map.2 ⟨q, hq, rfl⟩)
  have hal : ∀ j, m.testBit j = true → L listed j := fun j hj => anc_listed I.closed hpl (R.anc hp I.anc j hj)
  refine ⟨by simp [I.size], ?_, ?_, ?_, ?_, ?_, ?_, ?_, ?_, ?_, ?_, ?_, G, ?_, ?_, ?_⟩
  · intro i o hi
    rcases I.cover i o hi with ⟨q, hq⟩ | hr
    · exact .inl (hsup i q hq)
    · rcases List.mem_append.1 hr with hr | hr
      · exact .inr (List.mem_append_left _ hr)
      · cases hr with
        | head => exact .inl ⟨m, by rw [hM, if_pos rfl]⟩
        | tail _ hr => exact .inr (List.mem_append_right _ hr)
  · intro q hq
    have hq' : q ∈ pre ++ p :: post := by
      rcases List.mem_append.1 hq with c | c
      · exact List.mem_append_left _ c
      · exact List.mem_append_right _ (.tail _ c)
    obtain ⟨x, y⟩ := I.remv q hq'
    exact ⟨x, by rw [hM, if_neg (hne q hq)]; exact y⟩
  · rw [List.map_append]
    have h1 := List.nodup_append.1 hnd
    refine List.nodup_append.2 ⟨h1.1, (List.nodup_cons.1 h1.2.1).2, fun x hx y hy => h1.2.2 x hx y (by simp; exact .inr (by simpa using hy))⟩
  · intro i q hq
    rw [hM] at hq
    by_cases e : i = p.1
    · subst e; exact ⟨_, hp⟩
    · rw [if_neg e] at hq; exact I.dom i q hq
  · intro j hj
    rcases L_set hj with rfl | hj
    · exact ⟨m, by rw [hM, if_pos rfl]⟩
    · obtain ⟨q, hq⟩ := I.run j hj
      exact hsup j q hq
  · intro i q hq
    rw [hM] at hq
    by_cases e : i = p.1
    · subst e; exact .inl (L_self hlt)
    · rw [if_neg e] at hq
      rcases I.late i q hq with c | ⟨o, c⟩
      · exact .inl (L_of c)
      · cases hb : m.testBit i with
        | true => exact .inl (L_of (hal i hb))
        | false => exact .inr ⟨o, (hfl _).2 ⟨c, hb⟩⟩
  · intro q hq
    obtain ⟨hq, _⟩ := (hfl q).1 hq
    obtain ⟨x, ⟨y, hy⟩, z⟩ := I.flv q hq
    exact ⟨x, hsup _ y hy, z⟩
  · intro i q hq j hj
    rw [hM] at hq
    by_cases e : i = p.1
    · subst e
      obtain ⟨x, y, hy⟩ := R.preds hp j hj
      exact ⟨x, hsup _ y hy⟩
    · rw [if_neg e] at hq
      obtain ⟨x, y, hy⟩ := I.preds i q hq j hj
      exact ⟨x, hsup _ y hy⟩
  · intro i q hq j hj
    rw [hM] at hq
    by_cases e : i = p.1
    · subst e
      rw [if_pos rfl] at hq; cases hq
      exact R.anc hp I.anc j hj
    · rw [if_neg e] at hq; exact I.anc i q hq j hj
  · intro j hj q hq
    rcases L_set hj with rfl | hj
    · exact L_of (hpl q hq)
    · exact L_of (I.closed j hj q hq)
  · intro x hx y hy
    exact I.ok x ((hfl x).1 hx).1 y ((hfl y).1 hy).1
  · intro d' hd'
    have key : p.2.dst ≠ some d' → a.tmps[d']? = b.tmps[d']? := fun hne' => I.same d' fun q hq hun hdst => by
      cases hb : m.testBit q.1 with
      | true => exact hun (hal _ hb)
      | false =>
        refine hd' q ((hfl q).2 ⟨hq, hb⟩) (fun x => ?_) hdst
        rcases L_set x with c | c
        · obtain ⟨_, ⟨z, hz⟩, _⟩ := I.flv q hq
          rw [c, hpn] at hz; cases hz
        · exact hun c
    cases hpd : p.2.dst with
    | none => exact key (by rw [hpd]; nofun)
    | some d =>
      by_cases e : d = d'
      · subst e
        simp only [Act.put]
        rw [Array.getElem?_setIfInBounds_self, Array.getElem?_setIfInBounds_self, I.sz]
      · simp only [Act.put]
        rw [Array.getElem?_setIfInBounds_ne e, Array.getElem?_setIfInBounds_ne e]
        exact key (by rw [hpd]; intro c; cases c; exact e rfl)
  · cases p.2.dst <;> simp [Act.put, I.sz]
  · cases p.2.dst <;> simp [Act.put, I.df]
end
def unl (listed : Array Bool) : Nat := listed.toList.count false
theorem unl_set {listed : Array Bool} {i : Nat} (h : listed.getD i true = false) : unl (listed.setIfInBounds i true) + 1 = unl listed := by
  have hlt : i < listed.size := by
    rcases Nat.lt_or_ge i listed.size with c | c
    · exact c
    · simp [Array.getElem?_eq_none c] at h
  have hv : listed.toList[i]'(by simpa using hlt) = false := by simpa [hlt] using h
  unfold unl
  have hm : false ∈ listed.toList := by
    have := List.getElem_mem (l := listed.toList) (n := i) (by simpa using hlt)
    rw [hv] at this; exact this
  have hpos : 0 < listed.toList.count false := List.count_pos_iff.2 hm
  rw [Array.toList_setIfInBounds, List.count_set (by simpa using hlt), hv]
  show listed.toList.count false - 1 + 0 + 1 = listed.toList.count false
  omega
theorem unl_zero {listed : Array Bool} (h : unl listed = 0) {i : Nat} (hi : i < listed.size) : L listed i := by
  unfold unl at h
  have h1 := List.count_eq_zero.1 h
  unfold L
  have hm : listed.toList[i]'(by simpa using hi) ∈ listed.toList := List.getElem_mem _
  cases hv : listed.getD i false with
  | true => rfl
  | false =>
    have : listed.toList[i]'(by simpa using hi) = false := by simpa [hi] using hv
    rw [this] at hm
    exact absurd hm h1
end Go.Proofs.YtcoecbpeilmdmaaGreatDoorCx
namespace Go.Proofs.YtcoecbpeilmdmaaGreatDoorCx
variable {P : Program} {C : Cfg} {N : Nat} {F : Nat → Prop} {ρ : Mp} {h : Hp} {w w' : World} {ops : Array Oper}
noncomputable def stageK (C : Cfg) (N : Nat) (run : Run) (dk : List Value → Hp → (Hp → R) → R) (al : List Oper) (n : Nat) (rem : List Ixo) (M : T Nat) (t : Tm) (h : Hp) (fl : List Ixo) (k : Tm → Hp → R) : R :=
  recheckK C N al t h fl (List.casesOn (motive := fun _ => R) rem (k t h)
    fun _ _ => selK C M rem fun s rest => match s with
      | none => .no 200
      | some (m, p) => filtK m fl fun fl => cut (pairOk m (looks al p.2) fl) (oneGK C N run dk al p.2 t h fun v h => dstK N p.2.dst v t fun t => T.putK M m p.1 fun M => drawK C N run dk al n rest M t h fl k) (.no 201))
theorem drawK_succ (run : Run) (dk : List Value → Hp → (Hp → R) → R) (al : List Oper) (n : Nat) (rem : List Ixo) (M : T Nat) (t : Tm) (h : Hp) (fl : List Ixo) (k : Tm → Hp → R) :
    drawK C N run dk al (n + 1) rem M t h fl k = sweepK C N al h rem M t fl fun M t fl rem => stageK C N run dk al n rem M t h fl k := rfl
theorem all_done {Q : Exit → Act → World → Prop} {k : Tm → Hp → R} {ρ0 : Mp} {h0 : Hp} {w0 : World} {run : Run} {dk : List Value → Hp → (Hp → R) → R} {n : Nat}
    (hk : ∀ t' h' ρ' a' w', k t' h' = .ok → TR ρ' N t' a' → WR C.env F ρ' h' w' → St F ρ0 h0 w0 ρ' h' w' → Q .normal a' w') {listed : Array Bool} {a b : Act} {rem : List Ixo} {M : T Nat} {t : Tm} {fl : List Ixo}
    (I : Inv C N ops ρ rem M t fl listed a b) (W : WR C.env F ρ h w) (S : St F ρ0 h0 w0 ρ h w) (e : stageK C N run dk ops.toList n rem M t h fl k = .ok) (hd : ∀ i, i < ops.size → L listed i) : Q .normal a w := by
  obtain ⟨e1, _⟩ := recheck_ok e
  cases rem with
  | cons p rem =>
    obtain ⟨x, y⟩ := I.remv p (.head _)
    obtain ⟨q, hq⟩ := I.run _ (hd p.1 (Array.getElem?_eq_some_iff.1 x).1)
    rw [y] at hq; cases hq
  | nil =>
    have hab : a = b := by
      have h1 : a.tmps = b.tmps := Array.ext_getElem? fun d => I.same d fun p hp hun => absurd (hd p.1 (Array.getElem?_eq_some_iff.1 (I.flv p hp).1).1) hun
      have h2 := I.df
      cases a; cases b
      simp only at h1 h2
      subst h1 h2
      rfl
    subst hab
    exact hk _ _ _ _ _ e1 I.gh W S
theorem drawn_ok (H : EnvOk P C.env) (K : KnOk P C) {run : Run} (Rn : RunOk P C run) {dk : List Value → Hp → (Hp → R) → R} (D : DkOk P C dk)
    {Q : Exit → Act → World → Prop} {k : Tm → Hp → R} {ρ0 : Mp} {h0 : Hp} {w0 : World}
    (hk : ∀ t' h' ρ' a' w', k t' h' = .ok → TR ρ' N t' a' → WR C.env F ρ' h' w' → St F ρ0 h0 w0 ρ' h' w' → Q .normal a' w') :
    ∀ (fuel : Nat) (listed : Array Bool) (a b : Act) (w : World) (ρ : Mp) (rem : List Ixo) (M : T Nat) (t : Tm) (h : Hp) (fl : List Ixo) (n : Nat),
      Inv C N ops ρ rem M t fl listed a b → WR C.env F ρ h w → St F ρ0 h0 w0 ρ h w → stageK C N run dk ops.toList n rem M t h fl k = .ok → unl listed ≤ fuel → wpAny P .any ops Q fuel listed a w := by
  intro fuel
  induction fuel with
  | zero =>
    intro listed a b w ρ rem M t h fl n I W S e hu
    have hd : ∀ i, i < ops.size → L listed i := fun i hi => unl_zero (by omega) (by rw [I.size]; exact hi)
    refine ⟨?_, all_done hk I W S e hd⟩
    cases hr : Region.ready .any ops listed with
    | nil => rfl
    | cons j l =>
      have hj : j ∈ Region.ready .any ops listed := by rw [hr]; exact .head _
      rw [mem_ready] at hj
      obtain ⟨x, o, y, _⟩ := hj
      have hlt := (Array.getElem?_eq_some_iff.1 y).1
      have h2 := hd j hlt
      have h3 : j < listed.size := by rw [I.size]; exact hlt
      unfold L at h2
      simp [h3] at x h2
      rw [x] at h2; cases h2
  | succ fuel ih =>
    intro listed a b w ρ rem M t h fl n I W S e hu
    obtain ⟨e1, hag⟩ := recheck_ok e
    have done : (∀ i, i < ops.size → L listed i) → Q .normal a w := all_done hk I W S e
    have sel : rem ≠ [] → ∃ m p pre post, rem = pre ++ p :: post ∧ isFloat C.env p.2.op = false ∧ ReadyBy M p m ∧ (∀ q ∈ pre ++ post, NotReady M q) ∧
        (filtK m fl fun fl => cut (pairOk m (looks ops.toList p.2) fl) (oneGK C N run dk ops.toList p.2 t h fun v h => dstK N p.2.dst v t fun t => T.putK M m p.1 fun M => drawK C N run dk ops.toList n (pre ++ post) M t h fl k) (.no 201)) = .ok := by
      intro hne
      cases rem with
      | nil => exact absurd rfl hne
      | cons p0 rem0 =>
        simp only at e1
        obtain ⟨s, rest, h2, h3⟩ := selK_ok e1
        rcases h3 with ⟨rfl, _, _⟩ | ⟨m, q, pre, post, rfl, g1, rfl, g2, g3, g4⟩
        · cases h2
        · exact ⟨m, q, pre, post, g1, g2, g3, g4, h2⟩
    have rdy : ∀ i o, ops[i]? = some o → ¬ L listed i → (∀ p, Pred ops p i → L listed p) → i ∈ Region.ready .any ops listed := by
      intro i o hi hun hp
      rw [mem_ready]
      have hlt : i < listed.size := by rw [I.size]; exact (Array.getElem?_eq_some_iff.1 hi).1
      refine ⟨?_, o, hi, fun e he hb => ?_⟩
      · unfold L at hun
        simp [hlt] at hun ⊢
        exact hun
      · exact hp e.on ⟨o, hi, e, by simpa using he, by rw [bindsB_eq]; exact hb, rfl⟩
    refine ⟨fun hr => ?_, fun i hi => ?_⟩
    · -- nothing is ready
      have hM : ∀ i m, M.get i = some m → L listed i := by
        intro i
        induction i using Nat.strongRecOn with
        | _ i ihi =>
          intro m hm
          refine Classical.byContradiction fun hun => ?_
          obtain ⟨o, ho⟩ := I.dom i m hm
          have := rdy i o ho hun fun p hp => by
            obtain ⟨x, q, hq⟩ := I.preds i m hm p hp
            exact ihi p x q hq
          rw [hr] at this
          cases this
      refine done fun i hi => ?_
      refine Classical.byContradiction fun hun => ?_
      have hio : ops[i]? = some ops[i] := Array.getElem?_eq_getElem hi
      rcases I.cover i _ hio with ⟨m, hm⟩ | hr'
      · exact hun (hM i m hm)
      · obtain ⟨m, p, pre, post, g1, _, g3, _⟩ := sel (fun c => by rw [c] at hr'; cases hr')
        obtain ⟨hp, hpn⟩ := I.remv p (by rw [g1]; simp)
        have := rdy p.1 p.2 hp (fun c => by obtain ⟨q, hq⟩ := I.run _ c; rw [hpn] at hq; cases hq) fun j hj => by
          obtain ⟨_, q, hq⟩ := g3.preds hp j hj
          exact hM j q hq
        rw [hr] at this
        cases this
    · rw [mem_ready] at hi
      obtain ⟨hun0, o, ho, hpre⟩ := hi
      have hlt : i < ops.size := (Array.getElem?_eq_some_iff.1 ho).1
      have hunl : ¬ L listed i := by
        unfold L
        have : i < listed.size := by rw [I.size]; exact hlt
        simp [this] at hun0 ⊢
        exact hun0
      have hunF : listed.getD i true = false := hun0
      have hpl : ∀ p, Pred ops p i → L listed p := by
        rintro p ⟨o', h1, e', h2, h3, rfl⟩
        rw [ho] at h1; cases h1
        exact hpre e' (by simpa using h2) (by rw [← bindsB_eq]; exact h3)
      have hcnt : unl (listed.setIfInBounds i true) ≤ fuel := by
        have := unl_set hunF
        omega
      unfold wpOp
      simp only [ho]
      cases hMi : M.get i with
      | some m =>
        have hfl : ∃ o', (i, o') ∈ fl := (I.late i m hMi).resolve_left hunl
        obtain ⟨o', hfl⟩ := hfl
        obtain ⟨q1, q2, q3, d, q4, q5⟩ := I.flv _ hfl
        simp only at q1 q3 q4
        rw [ho] at q1; cases q1
        obtain ⟨d', u, g1, g2, g3⟩ := hag _ hfl
        simp only at g1 g3
        rw [q4] at g1; cases g1
        have hlk : ∀ q ∈ fl, ∀ d, q.2.dst = some d → elemN d (looks ops.toList o) = true → L listed q.1 := fun q hq d hd he => anc_listed I.closed hpl (I.ok _ hfl q hq d hd he)
        obtain ⟨v, v', r1, r3, r2⟩ := floatGK_ok H W (a := a) g3 (fun k e => I.guard hlk e) (I.opd W hlk)
        obtain ⟨r4, _⟩ := cut_ok r1
        have r4 := vEq_ok r4
        subst r4
        have nxt := ih _ _ _ _ _ _ _ _ _ _ n (I.list hfl hpl q4 g2 r3) W S e hcnt
        rcases r2 with ⟨x1, x2⟩ | ⟨x1, rfl⟩
        · rw [if_pos x1]
          refine .inl ?_
          unfold Oper.wp
          rw [x2]
          show wpAny P .any ops Q fuel (listed.setIfInBounds i true) (a.put o.dst v') w
          rw [q4]
          exact nxt
        · rw [if_neg (by rw [x1]; nofun), q4]
          exact nxt
      | none =>
        have hrem : (i, o) ∈ rem := by
          rcases I.cover i o ho with ⟨m, hm⟩ | c
          · rw [hMi] at hm; cases hm
          · exact c
        obtain ⟨m, p, pre, post, g1, g2, g3, g4, g6⟩ := sel (fun c => by rw [c] at hrem; cases hrem)
        have hpi : p = (i, o) := by
          rw [g1] at hrem
          rcases List.mem_append.1 hrem with c | c
          · obtain ⟨e', x, y, z⟩ := g4 _ (List.mem_append_left _ c)
            obtain ⟨q, hq⟩ := I.run _ (hpl e'.on ⟨o, ho, e', x, y, rfl⟩)
            rw [z] at hq; cases hq
          · cases c with
            | head => rfl
            | tail _ c =>
              obtain ⟨e', x, y, z⟩ := g4 _ (List.mem_append_right _ c)
              obtain ⟨q, hq⟩ := I.run _ (hpl e'.on ⟨o, ho, e', x, y, rfl⟩)
              rw [z] at hq; cases hq
        subst hpi
        subst g1
        have hanc : ∀ j, m.testBit j = true → L listed j := fun j hj => anc_listed I.closed hpl (g3.anc ho I.anc j hj)
        obtain ⟨fl', e2, hfl'⟩ := filtK_ok g6
        obtain ⟨g5, e2⟩ := cut_ok e2
        have hlk : ∀ q ∈ fl, ∀ d, q.2.dst = some d → elemN d (looks ops.toList o) = true → L listed q.1 := fun q hq d hd he => by
          cases hb : m.testBit q.1 with
          | true => exact hanc _ hb
          | false => exact hanc _ (pairOk_ok g5 q ((hfl' q).2 ⟨hq, hb⟩) d hd he)
        have nxt : ∀ v h' ρ' v' w', (dstK N o.dst v t fun t => T.putK M m i fun M => drawK C N run dk ops.toList n (pre ++ post) M t h' fl' k) = .ok → VR ρ' v v' → WR C.env F ρ' h' w' → St F ρ h w ρ' h' w' → wpAny P .any ops Q fuel (listed.setIfInBounds i true) (a.put o.dst v') w' := by
          intro v h' ρ' v' w' e3 hv W' S'
          obtain ⟨t', e4, G⟩ := dstK_ok (I.gh.sub (S'.sub W)) e3 hv
          obtain ⟨M', g7, g8⟩ := T.putK_spec m M i (fun M => drawK C N run dk ops.toList n (pre ++ post) M t' h' fl' k)
          rw [g7] at e4
          cases n with
          | zero => cases e4
          | succ n =>
            rw [drawK_succ] at e4
            have I' := I.both g3 g8 hpl hfl' G
            obtain ⟨M2, t2, fl2, out, b2, e5, I2⟩ := sweep_ok H W' (pre ++ post) [] M' t' fl' _ _ e4 I'
            exact ih _ _ _ _ _ _ _ _ _ _ n I2 W' (S.trans S') e5 hcnt
        obtain ⟨bw, e3, hbw⟩ := I.guard hlk e2
        cases bw with
        | true =>
          rw [if_pos hbw]
          exact .inl (oneK_ok H K Rn D (I.opd W hlk) W e3 nxt)
        | false =>
          rw [if_neg (by rw [hbw]; nofun)]
          exact nxt _ _ _ _ _ e3 (.tuple .nil) W (.refl F ρ h w)
end Go.Proofs.YtcoecbpeilmdmaaGreatDoorCx
namespace Go.Proofs.YtcoecbpeilmdmaaGreatDoorCx
section
variable (C : Cfg)
noncomputable def stepK (run : Run) (dk : List Value → Hp → (Hp → R) → R) (N : Nat) (c : Code) (t : Tm) (h : Hp) (k : XK) : R :=
  match c with
  | .skip => k .normal t h
  | .label _ => k .normal t h
  | .region _ ops d => Bool.rec (motive := fun _ => R) (opsK C N run dk ops.toList ops.toList t h fun t h => k .normal t h) (regionK C N run dk ops.toList t h fun t h => k .normal t h) d
  | .seq a b => run N a t h fun e t h => match e with | .normal => run N b t h k | .exit i => k (.exit i) t h | .ret => k .ret t h
  | .cond c a b => evK C.env N t c fun v => match v with
    | .bool r => Bool.rec (motive := fun _ => R) (run N b t h k) (run N a t h k) r
    | _ => .no 220
  | .block i a => run N a t h fun e t h => match e with
    | .normal => k .normal t h
    | .exit j => Bool.rec (motive := fun _ => R) (k (.exit j) t h) (k .normal t h) (Nat.beq j i)
    | .ret => k .ret t h
  | .loop a => run N a t h fun e t h => match e with | .normal => run N (.loop a) t h k | .exit i => k (.exit i) t h | .ret => k .ret t h
  | .exit i => k (.exit i) t h
  | .scope a => run N a t h k
  | .ret => k .ret t h
  | _ => .no 221
noncomputable def runK (dkf : Run → List Value → Hp → (Hp → R) → R) (n : Nat) : Run :=
  Nat.rec (motive := fun _ => Run) (fun _ _ _ _ _ => .no 222) (fun _ ih => stepK C ih (dkf ih)) n
end
variable {P : Program} {C : Cfg} {N : Nat} {F : Nat → Prop} {ρ : Mp} {h : Hp} {w w' : World} {ops : Array Oper}
def idx : List Oper → Nat → List Ixo
  | [], _ => []
  | o :: l, n => (n, o) :: idx l (n + 1)
theorem idxK_ok {l : List Oper} : ∀ {n : Nat} {k : List Ixo → R}, idxK l n k = .ok → k (idx l n) = .ok := by
  induction l with
  | nil => exact fun e => e
  | cons o l ih =>
    intro n k e
    exact ih (n := n + 1) (k := fun r => k ((n, o) :: r)) e
theorem idx_mem : ∀ {l : List Oper} {n : Nat} {p : Ixo}, p ∈ idx l n ↔ n ≤ p.1 ∧ l[p.1 - n]? = some p.2
  | [], n, p => by simp [idx]
  | o :: l, n, p => by
    simp only [idx, List.mem_cons, idx_mem]
    constructor
    · rintro (rfl | ⟨h1, h2⟩)
      · simp
      · refine ⟨by omega, ?_⟩
        rw [show p.1 - n = (p.1 - (n + 1)) + 1 by omega, List.getElem?_cons_succ]; exact h2
    · rintro ⟨h1, h2⟩
      by_cases hn : p.1 = n
      · left
        rw [hn, Nat.sub_self, List.getElem?_cons_zero] at h2
        cases h2
        rw [← hn]
      · right
        refine ⟨by omega, ?_⟩
        rw [show p.1 - n = (p.1 - (n + 1)) + 1 by omega, List.getElem?_cons_succ] at h2; exact h2
theorem idx_fst : ∀ (l : List Oper) (n : Nat), (idx l n).map (·.1) = List.range' n l.length
  | [], n => rfl
  | o :: l, n => by simp [idx, idx_fst l, List.range'_succ]
theorem regionK_ok (H : EnvOk P C.env) (K : KnOk P C) {run : Run} (Rn : RunOk P C run) {dk : List Value → Hp → (Hp → R) → R} (D : DkOk P C dk) {t : Tm} {a : Act} (A : TR ρ N t a) (W : WR C.env F ρ h w) {Q : Exit → Act → World → Prop} {k : Tm → Hp → R}
    (e : regionK C N run dk ops.toList t h k = .ok) (hk : ∀ t' h' ρ' a' w', k t' h' = .ok → TR ρ' N t' a' → WR C.env F ρ' h' w' → St F ρ h w ρ' h' w' → Q .normal a' w') {id : Nat} : (Code.region id ops true).wp P Q a w := by
  refine wp_region_any H.mixed ?_
  have W' : WR C.env F ρ h { w with drawn := w.drawn + 1 } := W.drew
  have e1 := idxK_ok e
  have hall : ∀ (i : Nat) (o : Oper), ops[i]? = some o → (i, o) ∈ idx ops.toList 0 := fun i o ho => idx_mem.2 ⟨Nat.zero_le _, by simpa using ho⟩
  have hl : ∀ i, ¬ L (Array.replicate ops.size false) i := fun i c => by
    unfold L at c
    by_cases hi : i < ops.size <;> simp [hi] at c
  have I : Inv C N ops ρ ([] ++ idx ops.toList 0) .nil t [] (Array.replicate ops.size false) a a := by
    have hn : ∀ (i m : Nat), (T.nil : T Nat).get i ≠ some m := fun i m c => by rw [T.get_nil] at c; cases c
    refine ⟨by simp, fun i o ho => .inr (hall i o ho), ?_, ?_, fun i m hm => absurd hm (hn i m), fun i hi => absurd hi (hl i), fun i m hm => absurd hm (hn i m), fun p hp => absurd hp (by simp), fun i m hm => absurd hm (hn i m), fun i m hm => absurd hm (hn i m), fun i hi => absurd hi (hl i),
      fun p hp => absurd hp (by simp), A, fun _ _ => rfl, rfl, rfl⟩
    · intro p hp
      have := (idx_mem.1 (by simpa using hp)).2
      exact ⟨by simpa using this, rfl⟩
    · rw [List.nil_append, idx_fst]
      exact List.nodup_range'
  rw [drawK_succ] at e1
  obtain ⟨M2, t2, fl2, out, b2, e5, I2⟩ := sweep_ok H W' (idx ops.toList 0) [] .nil t [] _ a e1 I
  exact drawn_ok (ρ0 := ρ) (h0 := h) (w0 := w) H K Rn D hk ops.size _ a b2 _ ρ _ M2 t2 h fl2 _ I2 W' ⟨fun _ _ => rfl, Nat.le_refl _, Keep.drew F w⟩ e5 (by simp [unl])
/-- A loop's body with the loop behind it. -/
def LoopAt (P : Program) (c : Code) (Q : Exit → Act → World → Prop) (a : Act) (w : World) : Prop :=
  ∀ (b : Frame) (k : List Item) (cs : List Frame), ∃ e a' w', Q e a' w' ∧ Arrives P (lone (b.at a (.code c :: .inLoop c :: k)) cs w) b k cs e a' w'
theorem LoopAt.wp {c : Code} {Q : Exit → Act → World → Prop} {a : Act} {w : World} (h : LoopAt P c Q a w) : (Code.loop c).wp P Q a w :=
  fun b k cs => let ⟨e, a', w', q, r⟩ := h b k cs; ⟨e, a', w', q, .of_steps (.one step_loop) r⟩
theorem LoopAt.round {c : Code} {Q : Exit → Act → World → Prop} {a : Act} {w : World} (h : c.wp P (Exit.then (LoopAt P c Q) Q) a w) : LoopAt P c Q a w := by
  intro b k cs
  obtain ⟨e, a₁, w₁, hq, harr⟩ := h b (.inLoop c :: k) cs
  cases e with
  | normal =>
    obtain ⟨e₂, a₂, w₂, hq₂, harr₂⟩ := hq b k cs
    exact ⟨e₂, a₂, w₂, hq₂, .of_steps (Steps.trans harr (.one step_inLoop)) harr₂⟩
  | exit id => exact ⟨_, a₁, w₁, hq, .pass (x := .inLoop c) rfl (fun _ _ => .inl (by simp)) harr⟩
  | goto l => exact ⟨_, a₁, w₁, hq, .pass (x := .inLoop c) rfl (fun _ _ => .inl (by simp)) harr⟩
  | ret => exact ⟨_, a₁, w₁, hq, .pass (x := .inLoop c) rfl (fun _ _ => .inl (by simp)) harr⟩
  | panic ch => exact ⟨_, a₁, w₁, hq, .pass (x := .inLoop c) rfl (fun _ _ => .inl (by simp)) harr⟩
  | outgrown => exact ⟨_, a₁, w₁, hq, .pass (x := .inLoop c) rfl (fun _ _ => .inl (by simp)) harr⟩
/-- Loops go well. -/
def LoopOk (P : Program) (C : Cfg) (run : Run) : Prop :=
  ∀ (N : Nat) (c : Code) (t : Tm) (h : Hp) (k : XK) (F : Nat → Prop) (ρ : Mp) (a : Act) (w : World) (Q : Exit → Act → World → Prop), run N (.loop c) t h k = .ok → TR ρ N t a → WR C.env F ρ h w →
    (∀ x t' h' ρ' a' w', k x t' h' = .ok → TR ρ' N t' a' → WR C.env F ρ' h' w' → St F ρ h w ρ' h' w' → Q x.to a' w') → LoopAt P c Q a w
theorem step_sound (H : EnvOk P C.env) (K : KnOk P C) {run : Run} (Rn : RunOk P C run) (Lp : LoopOk P C run) {dk : List Value → Hp → (Hp → R) → R} (D : DkOk P C dk) : RunOk P C (stepK C run dk) ∧ LoopOk P C (stepK C run dk) := by
  have hloop : LoopOk P C (stepK C run dk) := by
    intro N c t h k F ρ a w Q e A W hk
    refine LoopAt.round (Rn N c t h _ F ρ a w _ e A W ?_)
    intro x t' h' ρ' a' w' e' A' W' S'
    cases x with
    | normal => exact Lp N c t' h' k F ρ' a' w' Q e' A' W' fun x t2 h2 ρ2 a2 w2 e2 A2 W2 S2 => hk x t2 h2 ρ2 a2 w2 e2 A2 W2 (S'.trans S2)
    | exit i => exact hk (.exit i) t' h' ρ' a' w' e' A' W' S'
    | ret => exact hk .ret t' h' ρ' a' w' e' A' W' S'
  refine ⟨?_, hloop⟩
  intro N c t h k F ρ a w Q e A W hk
  cases c with
  | skip => exact wp_skip (hk .normal _ _ _ _ _ e A W (.refl F ρ h w))
  | label l => exact wp_label (hk .normal _ _ _ _ _ e A W (.refl F ρ h w))
  | exit i => exact wp_exit (hk (.exit i) _ _ _ _ _ e A W (.refl F ρ h w))
  | ret => exact wp_ret (hk .ret _ _ _ _ _ e A W (.refl F ρ h w))
  | region id ops d =>
    cases d with
    | false =>
      refine wp_region ?_
      rw [List.range_eq_range']
      have := opsK_ok (ops := ops) (Q := Q) (ρ0 := ρ) (h0 := h) (w0 := w) H K Rn D (k := fun t h => k .normal t h) (fun t' h' ρ' a' w' e' A' W' S' => hk .normal t' h' ρ' a' w' e' A' W' S') ops.toList 0 t h ρ a w rfl e A W (.refl F ρ h w)
      simpa using this
    | true => exact regionK_ok H K Rn D A W (k := fun t h => k .normal t h) e fun t' h' ρ' a' w' e' A' W' S' => hk .normal t' h' ρ' a' w' e' A' W' S'
  | seq x y =>
    refine wp_seq (Rn N x t h _ F ρ a w _ e A W ?_)
    intro x t' h' ρ' a' w' e' A' W' S'
    cases x with
    | normal => exact Rn N y t' h' k F ρ' a' w' Q e' A' W' fun x t2 h2 ρ2 a2 w2 e2 A2 W2 S2 => hk x t2 h2 ρ2 a2 w2 e2 A2 W2 (S'.trans S2)
    | exit i => exact hk (.exit i) t' h' ρ' a' w' e' A' W' S'
    | ret => exact hk .ret t' h' ρ' a' w' e' A' W' S'
  | cond c x y =>
    obtain ⟨v, e1, hv⟩ := evK_ok e A W
    split at e1
    · rename_i r
      have hc : a.eval c = .bool r := by
        generalize a.eval c = u at hv
        cases hv; rfl
      refine wp_cond hc ?_
      cases r with
      | true => exact Rn N x t h k F ρ a w Q e1 A W hk
      | false => exact Rn N y t h k F ρ a w Q e1 A W hk
    · cases e1
  | block i x =>
    refine wp_block (Rn N x t h _ F ρ a w _ e A W ?_)
    intro x t' h' ρ' a' w' e' A' W' S'
    cases x with
    | normal => exact hk .normal t' h' ρ' a' w' e' A' W' S'
    | exit j =>
      show (if j = i then Q .normal a' w' else Q (.exit j) a' w')
      simp only at e'
      cases hb : Nat.beq j i with
      | true =>
        rw [hb] at e'
        rw [if_pos (beq_ok hb)]
        exact hk .normal t' h' ρ' a' w' e' A' W' S'
      | false =>
        rw [hb] at e'
        rw [if_neg (fun c => by subst c; simp at hb)]
        exact hk (.exit j) t' h' ρ' a' w' e' A' W' S'
    | ret => exact hk .ret t' h' ρ' a' w' e' A' W' S'
  | loop x => exact (hloop N x t h k F ρ a w Q e A W hk).wp
  | scope x =>
    refine wp_scope_straight (Rn N x t h k F ρ a w _ e A W ?_)
    intro x t' h' ρ' a' w' e' A' W' S'
    have := hk x t' h' ρ' a' w' e' A' W' S'
    cases x <;> exact this
  | rangeFunc f ps x y => cases e
  | goto l => cases e
  | refuse s => cases e
theorem runK_sound (H : EnvOk P C.env) (K : KnOk P C) {dkf : Run → List Value → Hp → (Hp → R) → R} (D : ∀ run, RunOk P C run → DkOk P C (dkf run)) : ∀ n, RunOk P C (runK C dkf n) ∧ LoopOk P C (runK C dkf n)
  | 0 => by refine ⟨?_, ?_⟩ <;> (intro N c t h k F ρ a w Q e; have e' : R.no 222 = R.ok := e; cases e')
  | n + 1 => step_sound H K (runK_sound H K D n).1 (runK_sound H K D n).2 (D _ (runK_sound H K D n).1)
end Go.Proofs.YtcoecbpeilmdmaaGreatDoorCx
namespace Go.Proofs.YtcoecbpeilmdmaaGreatDoorCx
noncomputable def trueK (v : Value) (_ : Hp) : R := match v with | .bool b => Bool.rec (.no 230) .ok b | _ => .no 231
noncomputable def noDk : Run → List Value → Hp → (Hp → R) → R := fun _ _ _ _ => .no 232
theorem noDk_ok {P : Program} {C : Cfg} : ∀ run, RunOk P C run → DkOk P C (noDk run) := fun _ _ _ _ _ _ _ _ _ _ _ _ e => by cases e
noncomputable def closedK (C : Cfg) (dkf : Run → List Value → Hp → (Hp → R) → R) (n f : Nat) (h : Hp) : R := callK C (runK C dkf n) (dkf (runK C dkf n)) f [] h trueK
theorem closed_ok {P : Program} {C : Cfg} (H : EnvOk P C.env) (K : KnOk P C) {dkf : Run → List Value → Hp → (Hp → R) → R} (D : ∀ run, RunOk P C run → DkOk P C (dkf run)) {n f : Nat} {h : Hp} (e : closedK C dkf n f h = .ok) {F : Nat → Prop} {ρ : Mp} {w : World} (W : WR C.env F ρ h w) :
    (∃ w', (callFunc f #[]).run P w = .ok (.value (.bool true)) w' ∧ Keep F w w') ∨ ((callFunc f #[]).run P w = .ok (.enter f #[]) w ∧ Calls P f #[] w fun e w' => e = .returned (.bool true) ∧ Keep F w w') := by
  have tr : ∀ {v : Value} {h' : Hp} {v' : Value} {ρ' : Mp}, trueK v h' = .ok → VR ρ' v v' → v' = .bool true := by
    intro v h' v' ρ' e hv
    unfold trueK at e
    split at e
    · rename_i b
      cases b with
      | true => cases hv; rfl
      | false => cases e
    · cases e
  rcases callK_ok (args' := #[]) H K (runK_sound H K D n).1 (D _ (runK_sound H K D n).1) .nil W e with ⟨v, h', ρ', v', w', q1, q2, q3, q4, q5⟩ | ⟨q1, q2⟩
  · refine .inl ⟨w', ?_, q5.keep⟩
    rw [q2, tr q1 q3]
  · refine .inr ⟨q1, q2.mono ?_⟩
    rintro e w2 ⟨v, h', ρ', v', rfl, r1, r2, r3, r4⟩
    exact ⟨by rw [tr r1 r2], r4.keep⟩
end Go.Proofs.YtcoecbpeilmdmaaGreatDoorCx
namespace Go.Proofs.YtcoecbpeilmdmaaGreatDoorCx
section
variable (C : Cfg) (N : Nat)
noncomputable def opsDK (run : Run) (dk : List Value → Hp → (Hp → R) → R) (all : List Oper) (l : List Oper) : Tm → Hp → (Tm → Hp → R) → R :=
  List.rec (motive := fun _ => Tm → Hp → (Tm → Hp → R) → R) (fun t h k => k t h)
    (fun o _ ih t h k => guardK N all t o.guard fun b => Bool.rec (motive := fun _ => R) (dstK N o.dst (.tuple #[]) t fun t => ih t h k)
      (match o.op with
        | .call c => match c.callee with
          | .builtin .recover => dstK N o.dst .nilIface t fun t => ih t h k
          | _ => oneK C N run dk (.call c) t h fun v h => dstK N o.dst v t fun t => ih t h k
        | op => oneK C N run dk op t h fun v h => dstK N o.dst v t fun t => ih t h k) b) l
noncomputable def runD (run : Run) (dk : List Value → Hp → (Hp → R) → R) (c : Code) : Tm → Hp → XK → R :=
  Code.rec (motive := fun _ => Tm → Hp → XK → R)
    (fun t h k => k .normal t h)
    (fun id ops d t h k => Bool.rec (motive := fun _ => R) (opsDK C N run dk ops.toList ops.toList t h fun t h => k .normal t h) (run N (.region id ops true) t h k) d)
    (fun _ _ ia ib t h k => ia t h fun e t h => match e with | .normal => ib t h k | .exit i => k (.exit i) t h | .ret => k .ret t h)
    (fun c _ _ ia ib t h k => evK C.env N t c fun v => match v with
      | .bool r => Bool.rec (motive := fun _ => R) (ib t h k) (ia t h k) r
      | _ => .no 240)
    (fun i _ ia t h k => ia t h fun e t h => match e with
      | .normal => k .normal t h
      | .exit j => Bool.rec (motive := fun _ => R) (k (.exit j) t h) (k .normal t h) (Nat.beq j i)
      | .ret => k .ret t h)
    (fun a _ t h k => run N (.loop a) t h k)
    (fun _ _ _ _ _ _ _ _ _ => .no 241)
    (fun i t h k => k (.exit i) t h)
    (fun _ ia t h k => ia t h k)
    (fun _ t h k => k .normal t h)
    (fun _ _ _ _ => .no 242)
    (fun t h k => k .ret t h)
    (fun _ _ _ _ => .no 243) c
end
noncomputable def endD (C : Cfg) (fi : FI) (t : Tm) (h : Hp) (k : Hp → R) : R :=
  Option.rec (motive := fun _ => R) (resK C fi.ntmps t h fi.results fun l => outK l fun _ => k h) (fun _ => .no 244) (t.get fi.ntmps)
noncomputable def noD : List Value → Hp → (Hp → R) → R := fun _ _ _ => .no 245
noncomputable def defK (C : Cfg) (run : Run) (f : Nat) (args : List Value) (h : Hp) (k : Hp → R) : R :=
  Option.rec (motive := fun _ => R) (.no 246) (fun fi => lenK args fun n => cut (Nat.ble n fi.ntmps) (putsK args 0 .nil fun t => runD C fi.ntmps run noD fi.code t h fun e t h => match e with
    | .normal => endD C fi t h k
    | .ret => endD C fi t h k
    | .exit _ => .no 247) (.no 248)) (C.env.fn.get f)
noncomputable def dkK (C : Cfg) (run : Run) (ds : List Value) : Hp → (Hp → R) → R :=
  List.rec (motive := fun _ => Hp → (Hp → R) → R) (fun h k => k h) (fun d _ ih h k => match d with
    | .func (.func f) xs ys => appK xs.toList ys.toList fun l => defK C run f l h fun h => ih h k
    | _ => .no 249) ds
variable {P : Program} {C : Cfg} {N : Nat} {F : Nat → Prop} {ρ : Mp} {h : Hp} {w w' : World}
theorem noD_ok : DkOk P C noD := fun _ _ _ _ _ _ _ _ _ _ e => by cases e
section
variable {Q : Exit → Act → List Frame → World → Prop} {a : Act} {cs : List Frame}
theorem wpS_block {id : Nat} {c : Code} (h : c.wpS P (fun e a cs w => match e with | .exit j => if j = id then Q .normal a cs w else Q (.exit j) a cs w | e => Q e a cs w) a cs w) : (Code.block id c).wpS P Q a cs w := by
  intro b k hb hr
  obtain ⟨e, a₁, cs₁, w₁, hq, harr⟩ := h b (.inBlock id :: k) hb hr
  cases e with
  | normal => exact ⟨.normal, a₁, cs₁, w₁, hq, .head step_block (Steps.trans harr (.one step_inBlock))⟩
  | exit j =>
    by_cases hid : j = id
    · simp only [hid, if_true] at hq
      exact ⟨.normal, a₁, cs₁, w₁, hq, .head step_block (harr k (by simp [exitTo, hid]))⟩
    · simp only [hid, if_false] at hq
      refine ⟨.exit j, a₁, cs₁, w₁, hq, fun k' hk => .head step_block (harr k' ?_)⟩
      have : (id == j) = false := by simp; exact fun h => hid h.symm
      simp [exitTo, this, hk]
  | goto l => exact ⟨_, a₁, cs₁, w₁, hq, fun k' hk => .head step_block (harr k' (by simp [gotoIn, hk]))⟩
  | ret => exact ⟨_, a₁, cs₁, w₁, hq, .of_steps (.one step_block) harr⟩
  | panic ch => exact ⟨_, a₁, cs₁, w₁, hq, .of_steps (.one step_block) harr⟩
  | outgrown => exact ⟨_, a₁, cs₁, w₁, hq, .of_steps (b := b) (k := k) (cs := cs₁) (e := .outgrown) (.one step_block) harr⟩
theorem wpS_scope {c : Code} (h : c.wpS P (fun e a cs w => match e with | .goto _ => False | e => Q e a cs w) a cs w) : (Code.scope c).wpS P Q a cs w := by
  intro b k hb hr
  obtain ⟨e, a₁, cs₁, w₁, hq, harr⟩ := h b (.inScope c :: k) hb hr
  cases e with
  | normal => exact ⟨.normal, a₁, cs₁, w₁, hq, .head step_scope (Steps.trans harr (.one step_inScope))⟩
  | exit id => exact ⟨.exit id, a₁, cs₁, w₁, hq, fun k' hk => .head step_scope (harr k' (by simp [exitTo, hk]))⟩
  | goto l => exact hq.elim
  | ret => exact ⟨_, a₁, cs₁, w₁, hq, .of_steps (.one step_scope) harr⟩
  | panic ch => exact ⟨_, a₁, cs₁, w₁, hq, .of_steps (.one step_scope) harr⟩
  | outgrown => exact ⟨_, a₁, cs₁, w₁, hq, .of_steps (b := b) (k := k) (cs := cs₁) (e := .outgrown) (.one step_scope) harr⟩
theorem uponS {o : Oper} {next : Act → World → Prop} {K : Act → List Frame → World → Prop} {X : World → Prop} (h : o.wp P a w next (fun e a' w' => Q e a' cs w')) (hn : ∀ a' w', next a' w' → K a' cs w') :
    (match (execOp a.eval o).run P w with
      | .ok .recover w' => X w'
      | r => o.upon P a (fun a' w' => K a' cs w') (fun e a' w' => Q e a' cs w') r) := by
  unfold Oper.wp at h
  have h2 : o.upon P a (fun a' w' => K a' cs w') (fun e a' w' => Q e a' cs w') ((execOp a.eval o).run P w) := by
    have := Oper.wp_mono (P := P) (Q := fun e a' w' => Q e a' cs w') (o := o) (a := a) (w := w) (K := next) (K' := fun a' w' => K a' cs w') hn h
    exact this
  split
  · rename_i w' hr
    rw [hr] at h2
    exact h2.elim
  · exact h2
end
theorem opsDK_ok (H : EnvOk P C.env) (K : KnOk P C) {run : Run} (Rn : RunOk P C run) {dk : List Value → Hp → (Hp → R) → R} (D : DkOk P C dk) {ops : Array Oper} {cs : List Frame} (hcs : recoverD cs = none) {Q : Exit → Act → List Frame → World → Prop} {k : Tm → Hp → R} {ρ0 : Mp} {h0 : Hp} {w0 : World}
    (hk : ∀ t' h' ρ' a' w', k t' h' = .ok → TR ρ' N t' a' → WR C.env F ρ' h' w' → St F ρ0 h0 w0 ρ' h' w' → Q .normal a' cs w') :
    ∀ (l : List Oper) (i : Nat) (t : Tm) (h : Hp) (ρ : Mp) (a : Act) (w : World), ops.toList.drop i = l → opsDK C N run dk ops.toList l t h k = .ok → TR ρ N t a → WR C.env F ρ h w → St F ρ0 h0 w0 ρ h w →
      wpOpsS P ops Q (List.range' i l.length) a cs w := by
  intro l
  induction l with
  | nil => intro i t h ρ a w _ e A W S; exact hk _ _ _ _ _ e A W S
  | cons o l ih =>
    intro i t h ρ a w hd e A W S
    have hi : ops[i]? = some o := by
      have : (ops.toList.drop i)[0]? = some o := by rw [hd]; rfl
      rw [List.getElem?_drop, Nat.add_zero] at this
      simpa using this
    have hd' : ops.toList.drop (i + 1) = l := by
      rw [← List.drop_drop, hd]; rfl
    have e' : guardK N ops.toList t o.guard (fun b => Bool.rec (motive := fun _ => R) (dstK N o.dst (.tuple #[]) t fun t => opsDK C N run dk ops.toList l t h k)
      (match o.op with
        | .call c => match c.callee with
          | .builtin .recover => dstK N o.dst .nilIface t fun t => opsDK C N run dk ops.toList l t h k
          | _ => oneK C N run dk (.call c) t h fun v h => dstK N o.dst v t fun t => opsDK C N run dk ops.toList l t h k
        | op => oneK C N run dk op t h fun v h => dstK N o.dst v t fun t => opsDK C N run dk ops.toList l t h k) b) = .ok := e
    obtain ⟨b, e1, hw⟩ := guardK_ok (ops := ops) A e'
    show wpOpsS P ops Q (i :: List.range' (i + 1) l.length) a cs w
    simp only [wpOpsS, hi, hw]
    cases b with
    | false =>
      obtain ⟨t', e2, A'⟩ := dstK_ok A e1 (.tuple .nil)
      simpa [undef] using ih (i + 1) t' h ρ _ w hd' e2 A' W S
    | true =>
      simp only [if_true]
      have one : (oneK C N run dk o.op t h fun v h => dstK N o.dst v t fun t => opsDK C N run dk ops.toList l t h k) = .ok →
          (match (execOp a.eval o).run P w with
            | .ok .recover w' => match recoverD cs with
              | some (v, cs') => wpOpsS P ops Q (List.range' (i + 1) l.length) (a.put o.dst v) cs' w'
              | none => wpOpsS P ops Q (List.range' (i + 1) l.length) (a.put o.dst .nilIface) cs w'
            | r => o.upon P a (fun a' w' => wpOpsS P ops Q (List.range' (i + 1) l.length) a' cs w') (fun e a' w' => Q e a' cs w') r) := by
        intro e1
        refine uponS (next := fun a' w' => wpOpsS P ops Q (List.range' (i + 1) l.length) a' cs w') (oneK_ok H K Rn D (fun x _ => A.opd W x) W e1 ?_) (fun _ _ h => h)
        intro v h' ρ' v' w' e2 hv W' S'
        obtain ⟨t', e3, A'⟩ := dstK_ok (A.sub (S'.sub W)) e2 hv
        exact ih (i + 1) t' h' ρ' _ w' hd' e3 A' W' (S.trans S')
      simp only at e1
      split at e1
      · rename_i c hop
        split at e1
        · rename_i hc
          obtain ⟨t', e2, A'⟩ := dstK_ok (v' := .nilIface) A e1 .inil
          have hex : (execOp a.eval o).run P w = .ok .recover w := by
            have : execOp a.eval o = (do let d ← resolve a.eval c o.type; invoke d.target d.args) := by
              unfold execOp; rw [hop]
            rw [this]
            simp only [resolve, hc, Sem.run_bind, Sem.run_pure, Result.andThen_ok, invoke, builtin]
          rw [hex, hcs]
          exact ih (i + 1) t' h ρ _ w hd' e2 A' W S
        · exact one (by rw [hop]; exact e1)
      · exact one e1
theorem runD_ok (H : EnvOk P C.env) (K : KnOk P C) {run : Run} (Rn : RunOk P C run) {dk : List Value → Hp → (Hp → R) → R} (D : DkOk P C dk) {cs : List Frame} (hcs : recoverD cs = none) :
    ∀ (c : Code) (t : Tm) (h : Hp) (k : XK) (ρ : Mp) (a : Act) (w : World) (Q : Exit → Act → List Frame → World → Prop), runD C N run dk c t h k = .ok → TR ρ N t a → WR C.env F ρ h w →
      (∀ x t' h' ρ' a' w', k x t' h' = .ok → TR ρ' N t' a' → WR C.env F ρ' h' w' → St F ρ h w ρ' h' w' → Q x.to a' cs w') → c.wpS P Q a cs w := by
  intro c
  induction c with
  | skip => intro t h k ρ a w Q e A W hk; exact wpS_of_wp (wp_skip (hk .normal _ _ _ _ _ e A W (.refl F ρ h w)))
  | label l => intro t h k ρ a w Q e A W hk; exact wpS_of_wp (wp_label (hk .normal _ _ _ _ _ e A W (.refl F ρ h w)))
  | exit i => intro t h k ρ a w Q e A W hk; exact wpS_of_wp (wp_exit (hk (.exit i) _ _ _ _ _ e A W (.refl F ρ h w)))
  | ret => intro t h k ρ a w Q e A W hk; exact wpS_of_wp (wp_ret (hk .ret _ _ _ _ _ e A W (.refl F ρ h w)))
  | region id ops d =>
    intro t h k ρ a w Q e A W hk
    cases d with
    | false =>
      refine wpS_region ?_
      rw [List.range_eq_range']
      have := opsDK_ok (ops := ops) (Q := Q) (ρ0 := ρ) (h0 := h) (w0 := w) H K Rn D hcs (k := fun t h => k .normal t h) (fun t' h' ρ' a' w' e' A' W' S' => hk .normal t' h' ρ' a' w' e' A' W' S') ops.toList 0 t h ρ a w rfl e A W (.refl F ρ h w)
      simpa using this
    | true => exact wpS_of_wp (Rn N (.region id ops true) t h k F ρ a w _ e A W hk)
  | seq x y ihx ihy =>
    intro t h k ρ a w Q e A W hk
    refine wpS_seq (ihx t h _ ρ a w _ e A W ?_)
    intro x t' h' ρ' a' w' e' A' W' S'
    cases x with
    | normal => exact ihy t' h' k ρ' a' w' Q e' A' W' fun x t2 h2 ρ2 a2 w2 e2 A2 W2 S2 => hk x t2 h2 ρ2 a2 w2 e2 A2 W2 (S'.trans S2)
    | exit i => exact hk (.exit i) t' h' ρ' a' w' e' A' W' S'
    | ret => exact hk .ret t' h' ρ' a' w' e' A' W' S'
  | cond c x y ihx ihy =>
    intro t h k ρ a w Q e A W hk
    obtain ⟨v, e1, hv⟩ := evK_ok (o := c) e A W
    split at e1
    · rename_i r
      have hc : a.eval c = .bool r := by
        generalize a.eval c = u at hv
        cases hv; rfl
      refine wpS_cond hc ?_
      cases r with
      | true => exact ihx t h k ρ a w Q e1 A W hk
      | false => exact ihy t h k ρ a w Q e1 A W hk
    · cases e1
  | block i x ihx =>
    intro t h k ρ a w Q e A W hk
    refine wpS_block (ihx t h _ ρ a w _ e A W ?_)
    intro x t' h' ρ' a' w' e' A' W' S'
    cases x with
    | normal => exact hk .normal t' h' ρ' a' w' e' A' W' S'
    | exit j =>
      show (if j = i then Q .normal a' cs w' else Q (.exit j) a' cs w')
      simp only at e'
      cases hb : Nat.beq j i with
      | true =>
        rw [hb] at e'
        rw [if_pos (beq_ok hb)]
        exact hk .normal t' h' ρ' a' w' e' A' W' S'
      | false =>
        rw [hb] at e'
        rw [if_neg (fun c => by subst c; simp at hb)]
        exact hk (.exit j) t' h' ρ' a' w' e' A' W' S'
    | ret => exact hk .ret t' h' ρ' a' w' e' A' W' S'
  | loop x ihx => intro t h k ρ a w Q e A W hk; exact wpS_of_wp (Rn N (.loop x) t h k F ρ a w _ e A W hk)
  | scope x ihx =>
    intro t h k ρ a w Q e A W hk
    refine wpS_scope (ihx t h k ρ a w _ e A W ?_)
    intro x t' h' ρ' a' w' e' A' W' S'
    have := hk x t' h' ρ' a' w' e' A' W' S'
    cases x <;> exact this
  | rangeFunc f ps x y => intro t h k ρ a w Q e; cases e
  | goto l => intro t h k ρ a w Q e; cases e
  | refuse s => intro t h k ρ a w Q e; cases e
theorem defK_ok (H : EnvOk P C.env) (K : KnOk P C) {run : Run} (Rn : RunOk P C run) {f : Nat} {args : List Value} {args' : Array Value} (V : VL ρ args args'.toList) (W : WR C.env F ρ h w) {k : Hp → R} (e : defK C run f args h k = .ok) :
    (callFunc f args').run P w = .ok (.enter f args') w ∧ CallsD P f args' .returning w fun e u' w' => ∃ h' ρ' v, e = .returned v ∧ u' = .returning ∧ k h' = .ok ∧ WR C.env F ρ' h' w' ∧ St F ρ h w ρ' h' w' := by
  unfold defK at e
  cases hf : C.env.fn.get f with
  | none => rw [hf] at e; cases e
  | some fi =>
    rw [hf] at e
    obtain ⟨fn, g1, g2, g3, g4, g5⟩ := H.fn f fi hf
    have g6 : ¬ fn.name = "runtime.NumGoroutine" := by simpa using g5
    refine ⟨by simp [callFunc, g1, g6, g2], ?_⟩
    simp only [lenK_eq] at e
    obtain ⟨hn, e1⟩ := cut_ok e
    have hn := ble_ok hn
    obtain ⟨t, e2, ht⟩ := putsK_ok _ _ _ _ e1
    have T := start_TR V hn ht
    refine callsD_of_wpS g1 g2 fun c₀ cs hu => ?_
    rw [g3]
    refine runD_ok H K Rn noD_ok (cs := c₀ :: cs) (by simp [recoverD, hu]) _ _ _ _ ρ _ w _ e2 T W ?_
    have fin : ∀ {t' : Tm} {h' : Hp} {ρ' : Mp} {a' : Act} {w' : World}, endD C fi t' h' k = .ok → TR ρ' fi.ntmps t' a' → WR C.env F ρ' h' w' → St F ρ h w ρ' h' w' →
        a'.defers = [] ∧ ∃ u', c₀ :: cs = { c₀ with mode := u' } :: cs ∧ ∃ v, (results fn a'.tmps).run P w' = .ok v w' ∧ ∃ h2 ρ2 v2, Ending.returned v = .returned v2 ∧ u' = .returning ∧ k h2 = .ok ∧ WR C.env F ρ2 h2 w' ∧ St F ρ h w ρ2 h2 w' := by
      intro t' h' ρ' a' w' e' A' W' S'
      unfold endD at e'
      cases hg : t'.get fi.ntmps with
      | some d => rw [hg] at e'; cases e'
      | none =>
        rw [hg] at e'
        obtain ⟨v, v', h1, h2, h3⟩ := run_results H g4 A' W' (k := fun _ => k h') e'
        refine ⟨A'.none hg, .returning, ?_, v', h3, h', ρ', v', rfl, rfl, h1, W', S'⟩
        rw [← hu]
    intro x t' h' ρ' a' w' e' A' W' S'
    cases x with
    | normal => exact fin e' A' W' S'
    | ret => exact fin e' A' W' S'
    | exit i => cases e'
theorem dkK_ok (H : EnvOk P C.env) (K : KnOk P C) (run : Run) (Rn : RunOk P C run) : DkOk P C (dkK C run) := by
  intro ds
  induction ds with
  | nil =>
    intro h k F ρ w dl fn tmps Q e hd W hk
    cases hd
    exact hk h ρ w e W (.refl F ρ h w)
  | cons d ds ih =>
    intro h k F ρ w dl fn tmps Q e hd W hk
    cases hd with
    | @cons f xs xs' ys ys' _ l' V1 V2 hd' =>
      have e' : (appK xs.toList ys.toList fun l => defK C run f l h fun h => dkK C run ds h k) = .ok := e
      rw [appK_eq] at e'
      have V : VL ρ (xs.toList ++ ys.toList) (xs' ++ ys').toList := by
        rw [Array.toList_append]
        exact V1.append V2
      obtain ⟨q1, q2⟩ := defK_ok H K Rn V W e'
      refine leaves_cons (by nofun) q1 (q2.mono ?_)
      rintro e u' w' ⟨h', ρ', v, rfl, rfl, r1, r2, r3⟩
      exact ih h' k F ρ' w' l' fn tmps Q r1 (hd'.sub (r3.sub W)) r2 fun h2 ρ2 w2 s1 s2 s3 => hk h2 ρ2 w2 s1 s2 (r3.trans s3)
end Go.Proofs.YtcoecbpeilmdmaaGreatDoorCx
namespace Go.Proofs.YtcoecbpeilmdmaaGreatDoorCx
def T.All {α : Type} : (Nat → α → Prop) → T α → Prop
  | _, .nil => True
  | p, .node v l r => (∀ x, v = some x → p 0 x) ∧ T.All (fun j => p (2 * j + 1)) l ∧ T.All (fun j => p (2 * j + 2)) r
theorem T.All.get {α : Type} : ∀ {t : T α} {p : Nat → α → Prop}, T.All p t → ∀ i x, t.get i = some x → p i x
  | .nil, p, _, i, x, e => by rw [T.get_nil] at e; cases e
  | .node v l r, p, ⟨h1, h2, h3⟩, i, x, e => by
    cases i with
    | zero => exact h1 x e
    | succ m =>
      rw [T.get_succ] at e
      by_cases hm : m % 2 = 0
      · rw [if_pos hm] at e
        have := h2.get (m / 2) x e
        rwa [show 2 * (m / 2) + 1 = m + 1 by omega] at this
      · rw [if_neg hm] at e
        have := h3.get (m / 2) x e
        rwa [show 2 * (m / 2) + 2 = m + 1 by omega] at this
noncomputable def fi (f : Func) : FI := ⟨f.body.getD .skip, f.ntmps, f.results.toList⟩
noncomputable def isAggD (d : TypeDesc) : Bool := match d with | .struct _ => true | .array _ _ => true | _ => false
noncomputable def zeroL (i : TypeInfo) : List Value := match i.zero with | some z => cells z | none => []
noncomputable def ti (i u : TypeInfo) (sq : Bool) : TI := ⟨u.desc, i.size, i.bytes, zeroL i, isAggD u.desc, sq⟩
def FnOk (P : Program) (i : Nat) (x : FI) : Prop := ∃ fn, P.funcs[i]? = some fn ∧ fn.body = some x.code ∧ fn.ntmps = x.ntmps ∧ fn.results.toList = x.results ∧ (fn.name == "runtime.NumGoroutine") = false
theorem fok {P : Program} {i : Nat} {f : Func} (h : P.funcs[i]? = some f) (hb : f.body.isSome = true) (hn : (f.name == "runtime.NumGoroutine") = false) : FnOk P i (fi f) := by
  refine ⟨f, h, ?_, rfl, rfl, hn⟩
  cases hf : f.body with
  | none => rw [hf] at hb; cases hb
  | some c => simp [fi, hf]
def TyOk (P : Program) (E : Env) (t : Nat) (x : TI) : Prop :=
  (∃ i z, P.info? t = some i ∧ P.underlying t = some x.desc ∧ i.size = x.size ∧ i.bytes = x.bytes ∧ i.zero = some z ∧ z.cells.toList = x.zero ∧ flats x.zero = true ∧ x.agg = isAggV z ∧
    x.agg = (match x.desc with | .struct _ | .array _ _ => true | _ => false) ∧ x.zero.length = x.size ∧ x.size * 1024 ≤ 2 ^ 24 ∧ x.bytes * 4294967296 ≤ 2 ^ 47) ∧
  (∀ fs, x.desc = .struct fs → ∀ f ∈ fs.toList, ∃ tf, E.ty.get f.type = some tf) ∧
  (x.sq = true → P.stoodInHeld t = false ∧ P.eqGuardType P.depth t = false ∧ ∀ fs, x.desc = .struct fs → ∀ f ∈ fs.toList, f.name ≠ "_")
/-- What is checked of a type. -/
noncomputable def tyCheck (E : Env) (i u : TypeInfo) : Bool :=
  match i.zero with
  | some z => flats (cells z) && (isAggD u.desc == isAggV z) && (cells z).length == i.size && Nat.ble (i.size * 1024) 16777216 && Nat.ble (i.bytes * 4294967296) 140737488355328 &&
    (match u.desc with | .struct fs => fs.toList.all fun f => (E.ty.get f.type).isSome | _ => true)
  | none => false
theorem tok {P : Program} {E : Env} {t : Nat} {i u : TypeInfo} {d : TypeDesc} (h1 : P.info? t = some i) (h2 : P.underlying t = some d) (hd : u.desc = d) (hc : tyCheck E i u = true) : TyOk P E t (ti i u false) := by
  unfold tyCheck at hc
  cases hz : i.zero with
  | none => rw [hz] at hc; cases hc
  | some z =>
    rw [hz] at hc
    simp only [Bool.and_eq_true, beq_iff_eq] at hc
    obtain ⟨⟨⟨⟨⟨c1, c2⟩, c3⟩, c4⟩, c5⟩, c6⟩ := hc
    have hzl : zeroL i = cells z := by unfold zeroL; rw [hz]
    refine ⟨⟨i, z, h1, by rw [h2, ← hd]; rfl, rfl, rfl, hz, ?_, ?_, c2, ?_, ?_, ?_, ?_⟩, ?_, nofun⟩
    · show z.cells.toList = zeroL i
      rw [hzl, cells_eq]
    · show flats (zeroL i) = true
      rw [hzl]; exact c1
    · show isAggD u.desc = _
      unfold isAggD
      rfl
    · show (zeroL i).length = i.size
      rw [hzl]; exact c3
    · exact ble_ok c4
    · exact ble_ok c5
    · intro fs hfs f hf
      have hfs' : u.desc = .struct fs := hfs
      rw [hfs'] at c6
      have := List.all_eq_true.1 c6 f hf
      exact Option.isSome_iff_exists.1 this
theorem tok_sq {P : Program} {E : Env} {t : Nat} {i u : TypeInfo} {d : TypeDesc} (h1 : P.info? t = some i) (h2 : P.underlying t = some d) (hd : u.desc = d) (hc : tyCheck E i u = true) (s1 : P.stoodInHeld t = false) (s2 : P.eqGuardType P.depth t = false)
    (s3 : (match u.desc with | .struct fs => fs.toList.all fun f => f.name != "_" | _ => true) = true) : TyOk P E t (ti i u true) := by
  obtain ⟨a, b, _⟩ := tok h1 h2 hd hc
  refine ⟨a, b, fun _ => ⟨s1, s2, fun fs hfs f hf => ?_⟩⟩
  have hfs' : u.desc = .struct fs := hfs
  rw [hfs'] at s3
  simpa using List.all_eq_true.1 s3 f hf
theorem envOk {P : Program} {E : Env} (hf : T.All (FnOk P) E.fn) (ht : T.All (TyOk P E) E.ty) (hm : P.follows .mixedOrders = true) : EnvOk P E :=
  ⟨fun f x e => hf.get f x e, fun t x e => (ht.get t x e).1, fun t x fs e => (ht.get t x e).2.1 fs, fun t x e => (ht.get t x e).2.2, hm⟩
theorem WR.start {E : Env} (hg : E.glob = 0) (w : World) : WR E (fun b => b < w.heap.size) (fun _ => none) ⟨.nil, 0⟩ w := by
  have hn : ∀ (i : Nat) (c : Cell), (T.nil : T Cell).get i ≠ some c := fun i c e => by rw [T.get_nil] at e; cases e
  exact ⟨fun i c e => absurd e (hn i c), fun i j c c' p q e => absurd e (hn i c), fun i p e => (by cases e), fun i c e => absurd e (hn i c), fun b hb => hb, fun g h => (by rw [hg] at h; exact absurd h (Nat.not_lt_zero _))⟩
theorem Keep.below {w w' : World} (k : Keep (fun b => b < w.heap.size) w w') : RowKit.Below w.heap.size w w' := ⟨k.os, k.tape, k.output, k.size, k.old⟩
/-- A function of no argument that answers true in the small run answers true in every world, and leaves it as it was. -/
theorem closed_calls {P : Program} {C : Cfg} (H : EnvOk P C.env) (K : KnOk P C) (hg : C.env.glob = 0) {n f : Nat} {x : FI} (hf : C.env.fn.get f = some x) (hk : C.kn.get f = none) (e : closedK C (dkK C) n f ⟨.nil, 0⟩ = .ok) (w : World) :
    Calls P f #[] w fun e w' => e = .returned (.bool true) ∧ RowKit.Below w.heap.size w w' := by
  have W := WR.start hg w
  have Rn := runK_sound (dkf := dkK C) H K (fun run hr => dkK_ok H K run hr) n
  have e' : callK C (runK C (dkK C) n) (dkK C (runK C (dkK C) n)) f [] ⟨.nil, 0⟩ trueK = .ok := e
  unfold callK at e'
  rw [hk] at e'
  simp only [hf] at e'
  have := (bodyK_ok H Rn.1 (dkK_ok H K _ Rn.1) hf (args' := #[]) .nil W e').2
  refine this.mono ?_
  rintro e2 w2 ⟨v, h', ρ', v', rfl, r1, r2, r3, r4⟩
  refine ⟨?_, r4.keep.below⟩
  unfold trueK at r1
  split at r1
  · rename_i b
    cases b with
    | true => cases r2; rfl
    | false => cases r1
  · cases r1
end Go.Proofs.YtcoecbpeilmdmaaGreatDoorCx
namespace Go.Proofs.YtcoecbpeilmdmaaGreatDoorCx
variable {P : Program} {E : Env} {F : Nat → Prop} {ρ : Mp} {h : Hp} {w w' : World}
def KnownOk (P : Program) (E : Env) (f : Nat) (K : Kn) : Prop :=
  ∀ (args : List Value) (args' : Array Value) (h : Hp) (k : Hk) (F : Nat → Prop) (ρ : Mp) (w : World), K args h k = .ok → VL ρ args args'.toList → WR E F ρ h w → CallOk P E f args' F ρ h w k
theorem knOk {C : Cfg} (h : T.All (KnownOk P C.env) C.kn) : KnOk P C := fun f K e => h.get f K e
noncomputable def idKn : Kn := fun args h k => match args with | [v] => k v h | _ => .no 320
theorem idKn_ok {f : Nat} {fn : Func} (hf : P.funcs[f]? = some fn) (hname : (fn.name == "runtime.NumGoroutine") = false) (hb : fn.body.isNone = true) (hn : Extern.findNext fn = none) (he : Extern.find fn = some Extern.AbiNoEscape.same) : KnownOk P E f idKn := by
  intro args args' h k F ρ w e V W
  unfold idKn at e
  split at e
  · rename_i v
    have hl := V.length
    obtain ⟨l⟩ := args'
    cases V with
    | cons a b =>
      cases b
      refine .inl ⟨v, h, ρ, _, w, e, ?_, a, W, .refl F ρ h w⟩
      rw [run_callFunc_extern hf hname hb hn he]
      rfl
  · cases e
/-- Whatever has been made since, the correspondence stands. -/
theorem WR.later (W : WR E F ρ h w) (hs : w.heap.size ≤ w'.heap.size) (hb : ∀ b, b < w.heap.size → w'.heap[b]? = w.heap[b]?) : WR E F ρ h w' :=
  ⟨fun i c a b => let ⟨p, x, y⟩ := W.blk i c a b; ⟨p, x, y.move (hb _ (W.dom i p x).2) (.refl ρ)⟩, W.apart, fun i p e => ⟨(W.dom i p e).1, Nat.lt_of_lt_of_le (W.dom i p e).2 hs⟩, W.key, fun b hf => Nat.lt_of_lt_of_le (W.fr b hf) hs, W.glob⟩
theorem St.below (W : WR E F ρ h w) (b : RowKit.Below w.heap.size w w') : St F ρ h w ρ h w' :=
  ⟨fun _ _ => rfl, Nat.le_refl _, ⟨b.size, fun i hi => b.block i (W.fr i hi), b.os, b.tape, b.output⟩⟩
/-- The numbers of a row. -/
noncomputable def intsK (kd : IntKind) (cs : List Value) : (List Int → R) → R :=
  List.rec (motive := fun _ => (List Int → R) → R) (fun k => k []) (fun v _ ih k => match v with | .int j n => cut (ikEq j kd) (ih fun l => k (n :: l)) (.no 321) | _ => .no 322) cs
theorem intsK_ok {kd : IntKind} : ∀ {cs : List Value} {k : List Int → R}, intsK kd cs k = .ok → ∃ l, cs = l.map (Value.int kd) ∧ k l = .ok
  | [], k, e => ⟨[], rfl, e⟩
  | v :: cs, k, e => by
    have e' : (match v with | .int j n => cut (ikEq j kd) (intsK kd cs fun l => k (n :: l)) (.no 321) | _ => .no 322) = .ok := e
    split at e'
    · rename_i j n
      obtain ⟨h1, h2⟩ := cut_ok e'
      have h1 := ikEq_ok h1
      subst h1
      obtain ⟨l, h3, h4⟩ := intsK_ok h2
      exact ⟨n :: l, by rw [h3]; rfl, h4⟩
    · cases e'
theorem VL.intsOf {kd : IntKind} : ∀ {ns : List Int} {l : List Value}, VL ρ (ns.map (Value.int kd)) l → l = ns.map (Value.int kd)
  | [], _, .nil => rfl
  | n :: ns, _, .cons h t => by cases h; rw [VL.intsOf t]; rfl
noncomputable def readKn (kd kr : IntKind) (V : List Int → Int) : Kn := fun args h k => match args with
  | [.slice none n _] => cut (Nat.beq n 0) (fI (V []) fun r => k (.int kr r) h) (.no 323)
  | [.slice (some a) n c] => cut (Nat.ble n c) (cut (Nat.ble n 0x7fffffff) (blkK h a.block fun _ _ _ cs => dropK a.off cs fun cs => takeK n cs fun cs => intsK kd cs fun l => fI (V l) fun r => k (.int kr r) h) (.no 324)) (.no 325)
  | _ => .no 326
theorem readKn_ok {f : Nat} {kd kr : IntKind} {V : List Int → Int} (hc : ∀ args w, (callFunc f args).run P w = .ok (.enter f args) w)
    (hr : ∀ (A : Option Addr) (c : Nat) (l : List Int) (w : World), l.length ≤ 9223372036854775807 → l.length ≤ c → (0 < l.length → ∃ ad, A = some ad ∧ ∀ j x, l[j]? = some x → w.cell? (ad.add j) = some (.int kd x)) →
      Calls P f #[.slice A l.length c] w fun e w' => e = .returned (.int kr (V l)) ∧ RowKit.Below w.heap.size w w') : KnownOk P E f (readKn kd kr V) := by
  intro args args' h k F ρ w e V' W
  refine .inr ⟨hc _ _, ?_⟩
  unfold readKn at e
  split at e
  · rename_i n c
    obtain ⟨h1, h2⟩ := cut_ok e
    have h1 := beq_ok h1
    subst h1
    rw [fI_eq] at h2
    obtain ⟨l⟩ := args'
    cases V' with
    | cons a b =>
      cases b
      cases a
      refine (hr none c [] w (by simp) (Nat.zero_le _) (fun h => absurd h (Nat.lt_irrefl _))).mono ?_
      rintro e w' ⟨rfl, hb⟩
      exact ⟨_, h, ρ, _, rfl, h2, .int _ _, W.later hb.size hb.block, .below W hb⟩
  · rename_i a n c
    obtain ⟨h0, h1⟩ := cut_ok e
    obtain ⟨h00, h2⟩ := cut_ok h1
    have h0 := ble_ok h0
    have h00 := ble_ok h00
    obtain ⟨e', g, wr, cs, q1, h3⟩ := blkK_ok h2
    obtain ⟨q2, h4⟩ := dropK_eq _ _ _ h3
    obtain ⟨q3, h5⟩ := takeK_eq _ _ _ h4
    obtain ⟨l, q4, h6⟩ := intsK_ok h5
    rw [fI_eq] at h6
    obtain ⟨l'⟩ := args'
    cases V' with
    | cons x y =>
      cases y
      cases x
      rename_i p hp hs
      simp only [List.length_drop] at q3
      obtain ⟨c', fz, R⟩ := W.get hp q1
      obtain ⟨vs', r1, r2, r3⟩ := R.take a.off n (by omega)
      rw [q4] at r1
      have r4 := r1.intsOf
      have hl : l.length = n := by rw [r4] at r2; simpa using r2
      have hcell : ∀ j x, l[j]? = some x → w.cell? ((p.at a).add j) = some (.int kd x) := by
        intro j x hj
        have := r3 j (.int kd x) (by rw [r4]; simp [hj])
        rw [Pl.at_add]
        simp only [World.cell?, R.heap]
        simpa using this
      have := hr (some (p.at a)) (c + p.d) l w (by omega) (by omega) (fun _ => ⟨_, rfl, hcell⟩)
      rw [hl] at this
      refine this.mono ?_
      rintro e w' ⟨rfl, hb⟩
      exact ⟨_, h, ρ, _, rfl, h6, .int _ _, W.later hb.size hb.block, .below W hb⟩
  · cases e
theorem callFunc_body {f : Nat} {fn : Func} (hf : P.funcs[f]? = some fn) (hname : (fn.name == "runtime.NumGoroutine") = false) (hb : fn.body.isSome = true) (args : Array Value) (w : World) : (callFunc f args).run P w = .ok (.enter f args) w := by
  have h1 : ¬ fn.name = "runtime.NumGoroutine" := by simpa using hname
  have h2 : fn.body ≠ none := fun c => by rw [c] at hb; cases hb
  simp [callFunc, hf, h1, h2]
end Go.Proofs.YtcoecbpeilmdmaaGreatDoorCx
