/-
 The printer's long tactic phrases as theorems with an auto-parameter: the same steps, told once. No condition.
-/
import Derived.Test.YtaffkbemjbfajaaGreatDoorFv
namespace Go.Proofs.YtaffkbemjbfajaaGreatDoorW.PrintMore
open Go.RowKit Go.Proofs.YtaffkbemjbfajaaGreatDoorW.PrintWords Go.Proofs.YtaffkbemjbfajaaGreatDoorW.PrintLast
theorem bw {b : Nat} {w W : World} (h : Below b w W := by repeat (first | (with_reducible first | exact HB.out | apply below_alloc | apply pw_below_drewN | apply below_drew1 | refine below_set ?_ (Aside0.out (by assumption))) | exact HB.out)) : Below b w W := h
theorem bs {w W : World} (h : Below w.heap.size w W := by exact bw) : w.heap.size ≤ W.heap.size := below_size h
theorem sB {w W W' : World} (hb : Below W.heap.size W W') (h : Below w.heap.size w W := by exact bw) : Aside0 (Below w.heap.size w W') := ⟨below_step h hb⟩
theorem sG {w W : World} {g : Nat} (hg : g = W.heap.size) (h : Below w.heap.size w W := by exact bw) : Aside0 (w.heap.size ≤ g) := ⟨hg ▸ below_size h⟩
theorem kw {w W : World} {S : Nat → Prop} (h : Kept w W S := by repeat (first | (with_reducible first | exact HK.out | apply Kept.alloc | apply Kept.drewN | apply Kept.drew) | exact HK.out)) : Kept w W S := h
theorem zR {p q : Prop} (h : Aside0 q) (g : q → p := by intro h; (with_reducible repeat (first | apply Kd.R_alloc | apply Kd.R_drewN | apply Kd.R_drew)); exact h) : p := g h.out
theorem zV {p q : Prop} (h : Aside0 q) (g : q → p := by intro h; (with_reducible repeat (first | apply Kd.V_alloc | apply Kd.V_drewN | apply Kd.V_drew)); exact h) : p := g h.out
theorem zN {p q : Prop} (h : Aside0 q) (g : q → p := by intro h; (with_reducible repeat (first | apply Kd.N_alloc | apply Kd.N_drewN | apply Kd.N_drew)); exact h) : p := g h.out
theorem zQ {p q : Prop} (h : Aside0 q) (g : q → p := by intro h; (with_reducible repeat (first | apply Kd.Q_alloc | apply Kd.Q_drewN | apply Kd.Q_drew)); exact h) : p := g h.out
theorem zS {p q : Prop} (h : Aside0 q) (g : q → p := by intro h; (with_reducible repeat (first | apply Kd.S_alloc | apply Kd.S_drewN | apply Kd.S_drew)); exact h) : p := g h.out
theorem zC {p q : Prop} (h : q) (g : q → p := by intro h; repeat (first | exact h | (with_reducible refine Kd.C_alloc ?_ _) | (with_reducible refine Kd.C_drewN ?_ _) | (with_reducible refine Kd.C_drew ?_))) : p := g h
theorem zb {w W : World} {g : Nat} {o : Obj} (h : Aside0 (w.heap[g]? = some o)) (k : w.heap[g]? = some o → W.heap[g]? = some o := by intro h; (with_reducible repeat (first | refine blk_drewN ?_ _ | refine blk_drew ?_ | refine blk_alloc ?_ _)); exact h) : W.heap[g]? = some o := k h.out
theorem zp {w W : World} {g : Nat} {o o' : Obj} (h : Aside0 (w.heap[g]? = some o)) (k : w.heap[g]? = some o → W.heap[g]? = some o' := by intro h; (repeat (first | (with_reducible exact h) | (with_reducible refine blk_drewN ?_ _) | (with_reducible refine blk_drew ?_) | (with_reducible refine blk_alloc ?_ _) | (apply blk_put))); all_goals rfl) : W.heap[g]? = some o' := k h.out
theorem sP {w W W' : World} {g : Nat} {o : Obj} (o' : Obj) (h : Aside0 (w.heap[g]? = some o)) (hb : Below W.heap.size W W') (k : w.heap[g]? = some o → W.heap[g]? = some o' := by intro h; (repeat (first | (with_reducible exact h) | (with_reducible refine blk_drewN ?_ _) | (with_reducible refine blk_drew ?_) | (with_reducible refine blk_alloc ?_ _) | (apply blk_put))); all_goals rfl) : Aside0 (W'.heap[g]? = some o') := ⟨blk_below (k h.out) hb⟩
theorem sK {w W W' : World} {g : Nat} {o : Obj} (h : Aside0 (w.heap[g]? = some o)) (hb : Below W.heap.size W W') (k : w.heap[g]? = some o → W.heap[g]? = some o := by intro h; (with_reducible repeat (first | refine blk_drewN ?_ _ | refine blk_drew ?_ | refine blk_alloc ?_ _)); exact h) : Aside0 (W'.heap[g]? = some o) := ⟨blk_below (k h.out) hb⟩
theorem zc {w : World} {g : Nat} {t : TypeId} {cs : Array Value} (h : Aside0 (w.heap[g]? = some (.cells cs t (0, 0)))) (i : Nat) (v : Value) (e : cs[i]? = some v) : w.cell? ⟨g, i, none⟩ = some v ∧ w.frozen? ⟨g, i, none⟩ = false := ⟨(blk_cell h.out i).trans e, blk_frozen h.out i⟩
theorem ze {p : Prop} (h : p := by first | rfl | (simp [errW_none, errW_some] <;> rfl) | (simp [*, errW_none, errW_some] <;> rfl)) : p := h
theorem zs {p : Prop} (h : p := by first | rfl | (simp; done) | (simp [*]; done)) : p := h
theorem za {p : Prop} (h : p := by first | (with_reducible assumption) | assumption) : p := h
theorem zd {p : Prop} [Decidable p] (h : decide p = true := by first | (with_reducible assumption) | assumption) : p := of_decide_eq_true h
theorem zm {p : Prop} (h : p := by (try simp only [List.map_toArray, List.map_cons, List.map_nil]); first | done | rfl | (simp only [List.length_drop, List.length_take]; rfl)) : p := h
theorem zM {p : Prop} (h : p := by repeat' first | (with_reducible first | exact LeO.refl _ | exact LeO.none _ | refine LeO.ite ?_ ?_ | refine LeO.bind ?_ (fun _ => ?_) | apply_assumption) | exact LeO.none _ | refine LeO.ite ?_ ?_ | refine LeO.bind ?_ (fun _ => ?_)) : p := h
theorem zy {α : Type} {a b : α} {p q : Prop} (e : a = b) (h : q) (g : a = b → q → p := by intro e h; first | (rw [e]; with_reducible exact h) | (have h2 := (Option.bind_some _ _).symm.trans h; rw [e]; with_reducible exact h2) | (have h2 := (Option.bind_some _ _).symm.trans h; with_reducible exact h2) | with_reducible exact h | (rw [e]; exact h) | exact h) : p := g e h
theorem zB {α β : Type} {x : Option α} {f : α → Option β} {r : β} (h : x.bind f = some r) : ∃ t, Aside0 (x = some t) ∧ f t = some r := by
 obtain ⟨t, h1, h2⟩ := Option.bind_eq_some_iff.mp h
 exact ⟨t, ⟨h1⟩, h2⟩
section
variable {P : Program} {ops : Array Oper} {oi : Oper} {rest : List Oper} {a : Act} {Q : Exit → Act → World → Prop}
theorem box_ev {W : World} (N : Tmp) (cs : Array Value) (t : TypeId)
  (h : ∀ g, g = W.heap.size → ∀ w1, w1.heap[g]? = some (.cells cs t (0, 0)) → Below W.heap.size W w1 → wpList P ops Q rest (a.put oi.dst (.pointer (some ⟨g, 0, none⟩))) w1) (hd : oi.dst = some N := by rfl) (hg : oi.guard = none := by rfl)
  (hrun : (execOp a.eval oi).run P W = .ok (.value (.pointer (some ⟨W.heap.size, 0, none⟩))) (W.alloc (.cells cs t (0, 0))) := by first | (go_simp; done) | (go_simp; rfl)) : wpList P ops Q (oi :: rest) a W := box_event hg hd hrun h
theorem zg {w : World} (N : Option Tmp) {f : FuncId} {fn : Func} (hf : P.funcs[f]? = some fn) (args : Array Value) {c : Operand} {as : Array Operand} {ts : Array TypeId}
  (h : Calls P f args w fun e w' => ∃ v, e = .returned v ∧ wpList P ops Q rest (a.put N v) w')
  (hop : oi.op = .call { callee := .value c, args := as, argTypes := ts } := by with_reducible exact rfl) (hc : a.eval c = .func (.func f) #[] #[] := by rfl) (hd : oi.dst = N := by rfl) (hg : oi.guard = none := by rfl)
  (hname : (fn.name == "runtime.NumGoroutine") = false := by kernel_rfl) (hb : fn.body.isSome = true := by rfl)
  (hargs : as.map a.eval = args := by (try simp only [List.map_toArray, List.map_cons, List.map_nil]); first | done | rfl | (simp only [List.length_drop, List.length_take]; rfl)) : wpList P ops Q (oi :: rest) a w := goesC_ N hd hg hc hf hname hb args hop hargs h
end
end Go.Proofs.YtaffkbemjbfajaaGreatDoorW.PrintMore
