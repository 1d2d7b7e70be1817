/-
 The printer's long tactic phrases as theorems with an auto-parameter: the same steps, told once. No condition.
-/
import Derived.Test.YtaffkbemjbfajaaGreatDoorFv
import Derived.Test.YtaffkbemjbfajaaGreatDoorWTab
namespace Go.Proofs.YtaffkbemjbfajaaGreatDoorW.PrintMore
open Go.RowKit Go.Proofs.YtaffkbemjbfajaaGreatDoorW.PrintWords Go.Proofs.YtaffkbemjbfajaaGreatDoorW.PrintLast
theorem aZ {p:Prop} (h:p):Aside0 p:=⟨h⟩
theorem bw {b:Nat} {w W:World} (h:Below b w W:=by (repeat (first|(with_reducible first|exact HB.out|apply below_alloc|apply pw_below_drewN|apply below_drew1|apply below_set)|exact HB.out));all_goals first|(with_reducible exact Aside0.out (by assumption))|exact IsS44.ge (Aside0.out (by assumption))):Below b w W:=h
theorem bs {w W:World} (h:Below w.heap.size w W:=by exact bw):w.heap.size≤W.heap.size:=below_size h
theorem sB {w W W':World} (hb:Below W.heap.size W W') (h:Below w.heap.size w W:=by exact bw):Aside0 (Below w.heap.size w W'):=⟨below_step h hb⟩
theorem sG {w W:World} {g:Nat} (hg:g=W.heap.size) (h:Below w.heap.size w W:=by exact bw):Aside0 (w.heap.size≤g):=⟨hg ▸ below_size h⟩
theorem kw {w W:World} {S:Nat→Prop} (h:Kept w W S:=by repeat (first|(with_reducible first|exact HK.out|apply Kept.alloc|apply Kept.drewN|apply Kept.drew)|exact HK.out)):Kept w W S:=h
theorem zR {p q:Prop} (h:Aside0 q) (g:q→p:=by intro h;(with_reducible repeat (first|apply Kd.R_alloc|apply Kd.R_drewN|apply Kd.R_drew));exact h):p:=g h.out
theorem zV {p q:Prop} (h:Aside0 q) (g:q→p:=by intro h;(with_reducible repeat (first|apply Kd.V_alloc|apply Kd.V_drewN|apply Kd.V_drew));exact h):p:=g h.out
theorem zN {p q:Prop} (h:Aside0 q) (g:q→p:=by intro h;(with_reducible repeat (first|apply Kd.N_alloc|apply Kd.N_drewN|apply Kd.N_drew));exact h):p:=g h.out
theorem zQ {p q:Prop} (h:Aside0 q) (g:q→p:=by intro h;(with_reducible repeat (first|apply Kd.Q_alloc|apply Kd.Q_drewN|apply Kd.Q_drew));exact h):p:=g h.out
theorem zS {p q:Prop} (h:Aside0 q) (g:q→p:=by intro h;(with_reducible repeat (first|apply Kd.S_alloc|apply Kd.S_drewN|apply Kd.S_drew));exact h):p:=g h.out
theorem zC {p q:Prop} (h:q) (g:q→p:=by intro h;repeat (first|exact h|(with_reducible refine Kd.C_alloc ?_ _)|(with_reducible refine Kd.C_drewN ?_ _)|(with_reducible refine Kd.C_drew ?_))):p:=g h
theorem zb {w W:World} {g:Nat} {o:Obj} (h:Aside0 (w.heap[g]? = some o)) (k:w.heap[g]? = some o→W.heap[g]? = some o:=by intro h;(with_reducible repeat (first|refine blk_drewN ?_ _|refine blk_drew ?_|refine blk_alloc ?_ _));exact h):W.heap[g]? = some o:=k h.out
theorem zp {w W:World} {g:Nat} {o o':Obj} (h:Aside0 (w.heap[g]? = some o)) (k:w.heap[g]? = some o→W.heap[g]? = some o':=by intro h;(repeat (first|(with_reducible exact h)|(with_reducible refine blk_drewN ?_ _)|(with_reducible refine blk_drew ?_)|(with_reducible refine blk_alloc ?_ _)|(apply blk_put)));all_goals rfl):W.heap[g]? = some o':=k h.out
theorem sP {w W W':World} {g:Nat} {o:Obj} (o':Obj) (h:Aside0 (w.heap[g]? = some o)) (hb:Below W.heap.size W W') (k:w.heap[g]? = some o→W.heap[g]? = some o':=by intro h;(repeat (first|(with_reducible exact h)|(with_reducible refine blk_drewN ?_ _)|(with_reducible refine blk_drew ?_)|(with_reducible refine blk_alloc ?_ _)|(apply blk_put)));all_goals rfl):Aside0 (W'.heap[g]? = some o'):=⟨blk_below (k h.out) hb⟩
theorem sK {w W W':World} {g:Nat} {o:Obj} (h:Aside0 (w.heap[g]? = some o)) (hb:Below W.heap.size W W') (k:w.heap[g]? = some o→W.heap[g]? = some o:=by intro h;(with_reducible repeat (first|refine blk_drewN ?_ _|refine blk_drew ?_|refine blk_alloc ?_ _));exact h):Aside0 (W'.heap[g]? = some o):=⟨blk_below (k h.out) hb⟩
theorem zc {w:World} {g:Nat} {t:TypeId} {cs:Array Value} (h:Aside0 (w.heap[g]? = some (.cells cs t (0,0)))) (i:Nat) (v:Value) (e:cs[i]? = some v):w.cell? ⟨g,i,none⟩=some v∧w.frozen? ⟨g,i,none⟩=false:=⟨(blk_cell h.out i).trans e,blk_frozen h.out i⟩
theorem zf {w W:World} {g k:Nat} {o:Obj} (h:Aside0 (w.heap[g]? = some o)) (hk:W.heap.size≤k) (b:w.heap[g]? = some o→W.heap[g]? = some o:=by intro h;(with_reducible repeat (first|refine blk_drewN ?_ _|refine blk_drew ?_|refine blk_alloc ?_ _));exact h):k≠g:=Kd.freshB (b h.out) k hk
theorem zq {w W:World} {g:Nat} {o o':Obj} (h:Aside0 (w.heap[g]? = some o)) (k:w.heap[g]? = some o→W.heap[g]? = some o':=by intro h;(repeat (first|(with_reducible exact h)|(with_reducible refine blk_drewN ?_ _)|(with_reducible refine blk_drew ?_)|(with_reducible refine blk_alloc ?_ _)|(with_reducible apply blk_put)|(with_reducible apply blk_far)));all_goals first|rfl|exact Aside0.out (by assumption)):W.heap[g]? = some o':=k h.out
theorem zh {w:World} {g:Nat} {t:TypeId} {cs:Array Value} (h:Aside0 (w.heap[g]? = some (.cells cs t (0,0)))) (i:Nat) {v:Value} (e:cs[i]? = some v:=by rfl):w.cell? ⟨g,i,none⟩=some v:=(blk_cell h.out i).trans e
theorem zi {p q:Prop} (h:Aside0 q) (g:q→p:=by intro h;(repeat (first|(with_reducible first|exact h|apply IsS44.alloc|apply IsS44.drewN|apply IsS44.drew|apply IsS44.set_1|apply IsS44.far)|exact h));all_goals (exact Aside0.out (by assumption))):p:=g h.out
theorem kk {w W:World} {g:Nat} {r:Option Nat} (h:KeepBut w W g r:=by (repeat (first|(with_reducible first|exact HK.out|apply KeepBut.set_|apply keep_drewN|apply keep_drew|apply keep_alloc|apply keep_far)|exact HK.out));all_goals (exact Aside0.out (by assumption))):KeepBut w W g r:=h
theorem ks {w W:World} {g:Nat} (h:KeepBut w W g none:=by exact kk):w.heap.size≤W.heap.size:=h.1
theorem sT {w W W':World} {g:Nat} (hk:KeepBut W W' g none) (h:KeepBut w W g none:=by exact kk):Aside0 (KeepBut w W' g none):=⟨h.trans hk (.inl rfl)⟩
theorem sU {w W W':World} {g:Nat} (hb:Below W.heap.size W W') (h:KeepBut w W g none:=by exact kk):Aside0 (KeepBut w W' g none):=⟨h.trans (KeepBut.of_below hb g none) (.inl rfl)⟩
theorem sE {w W:World} {g b:Nat} (hg:b=W.heap.size) (h:KeepBut w W g none:=by exact kk):Aside0 (w.heap.size≤b):=⟨hg ▸ h.1⟩
theorem sl {w W:World} {g b:Nat} {o:Obj} (hg:g=W.heap.size) (h:Aside0 (w.heap[b]? = some o)) (k:w.heap[b]? = some o→W.heap[b]? = some o:=by intro h;(with_reducible repeat (first|refine blk_drewN ?_ _|refine blk_drew ?_|refine blk_alloc ?_ _));exact h):Aside0 (b≠g):=⟨by rw [hg];exact Nat.ne_of_lt (blk_lt (k h.out))⟩
theorem sg {w W:World} {g b:Nat} {o:Obj} (hg:g=W.heap.size) (h:Aside0 (w.heap[b]? = some o)) (k:w.heap[b]? = some o→W.heap[b]? = some o:=by intro h;(with_reducible repeat (first|refine blk_drewN ?_ _|refine blk_drew ?_|refine blk_alloc ?_ _));exact h):Aside0 (g≠b):=⟨by rw [hg];exact Nat.ne_of_gt (blk_lt (k h.out))⟩
theorem zF {p q:Prop} (h:Aside0 q) (g:q→p:=by intro h;first|((repeat (with_reducible first|apply Kd.V_alloc|apply Kd.V_drewN|apply Kd.V_drew|apply Kd.V_far));(with_reducible exact h);all_goals (intro k_ hk_;revert hk_;(try simp only [and_imp]);intros;(repeat' refine And.intro ?_ ?_) <;> first|assumption|trivial))|((repeat (with_reducible first|apply Kd.R_alloc|apply Kd.R_drewN|apply Kd.R_drew|apply Kd.R_far));(with_reducible exact h);all_goals (intro k_ hk_;revert hk_;(try simp only [and_imp]);intros;(repeat' refine And.intro ?_ ?_) <;> first|assumption|trivial))|(apply Kd.V_mono;(repeat (with_reducible first|apply Kd.V_alloc|apply Kd.V_drewN|apply Kd.V_drew|apply Kd.V_far));(with_reducible exact h);all_goals (intro k_ hk_;revert hk_;(try simp only [and_imp]);intros;(repeat' refine And.intro ?_ ?_) <;> first|assumption|trivial))|(apply Kd.R_mono;(repeat (with_reducible first|apply Kd.R_alloc|apply Kd.R_drewN|apply Kd.R_drew|apply Kd.R_far));(with_reducible exact h);all_goals (intro k_ hk_;revert hk_;(try simp only [and_imp]);intros;(repeat' refine And.intro ?_ ?_) <;> first|assumption|trivial))):p:=g h.out
section
variable {α:Type} {d:Kd α} {e base base' g:Nat} {ok ok':Nat→Prop} {w W W':World} {v:Value} {xs:List α} {q:Prop}
theorem yV (h:Aside0 q) (hb:Below W.heap.size W W') (k:q→Kd.V d e W base ok v xs:=by intro h;(with_reducible repeat (first|apply Kd.V_alloc|apply Kd.V_drewN|apply Kd.V_drew));exact h):Aside0 (Kd.V d e W' base ok v xs):=⟨Kd.V_below (k h.out) hb⟩
theorem yR (h:Aside0 q) (hb:Below W.heap.size W W') (k:q→Kd.R d e W base ok v xs:=by intro h;(with_reducible repeat (first|apply Kd.R_alloc|apply Kd.R_drewN|apply Kd.R_drew));exact h):Aside0 (Kd.R d e W' base ok v xs):=⟨Kd.R_below (k h.out) hb⟩
theorem yE (h:Aside0 q) (hg:g=W.heap.size) (hb:Below W.heap.size W W') (k:q→Kd.V d e W base ok v xs:=by intro h;(with_reducible repeat (first|apply Kd.V_alloc|apply Kd.V_drewN|apply Kd.V_drew));exact h):Aside0 (Kd.V d e W' base (fun k=>ok k∧k≠g) v xs):=⟨Kd.V_below (Kd.V_elderB (k h.out) g (Nat.le_of_eq hg.symm)) hb⟩
theorem yL (ok':Nat→Prop) (h:Kd.V d e W base ok v xs) (f:∀ k,ok k→ok' k) (hs:base'≤base:=by exact bs):Aside0 (Kd.V d e W base' ok' v xs):=⟨Kd.V_lower (Kd.V_mono h f) hs⟩
theorem vM {ok':Nat→Prop} (h:Aside0 (Kd.V d e w base ok v xs)) (f:∀ k,ok k→ok' k) (g:Kd.V d e w base ok' v xs→Kd.V d e W base ok' v xs:=by intro h;(with_reducible repeat (first|apply Kd.V_alloc|apply Kd.V_drewN|apply Kd.V_drew));exact h):Kd.V d e W base ok' v xs:=g (Kd.V_mono h.out f)
theorem rM {ok':Nat→Prop} (h:Aside0 (Kd.R d e w base ok v xs)) (f:∀ k,ok k→ok' k) (g:Kd.R d e w base ok' v xs→Kd.R d e W base ok' v xs:=by intro h;(with_reducible repeat (first|apply Kd.R_alloc|apply Kd.R_drewN|apply Kd.R_drew));exact h):Kd.R d e W base ok' v xs:=g (Kd.R_mono h.out f)
theorem zr {p:Prop} {A:Option Addr} {n c:Nat} (h:Aside0 (Kd.V d e w base ok (.slice A n c) xs)) (g:Kd.C d w A xs.length xs→p:=by intro h;repeat (first|exact h|(with_reducible refine Kd.C_alloc ?_ _)|(with_reducible refine Kd.C_drewN ?_ _)|(with_reducible refine Kd.C_drew ?_))):p:=g (Kd.V_reads' h.out).2.2
theorem zk {A:Option Addr} {n c:Nat} (h:Aside0 (Kd.V d e w base ok (.slice A n c) xs)):n≤c:=(Kd.V_reads' h.out).2.1
theorem yf {n:Nat} (h:Aside0 q) (hk:W.heap.size≤n) (k:q→Kd.R d e W base ok v xs:=by intro h;(with_reducible repeat (first|apply Kd.R_alloc|apply Kd.R_drewN|apply Kd.R_drew));exact h):some n≠v.ownBlock:=Kd.fresh' (Kd.R_lt (k h.out)) n hk
end
theorem ze {p:Prop} (h:p:=by first|rfl|(simp [errW_none,errW_some] <;> rfl)|(simp [*,errW_none,errW_some] <;> rfl)):p:=h
theorem zs {p:Prop} (h:p:=by first|rfl|(simp;done)|(simp [*];done)):p:=h
theorem za {p:Prop} (h:p:=by first|(with_reducible assumption)|assumption):p:=h
theorem zd {p:Prop} [Decidable p] (h:decide p=true:=by first|(with_reducible assumption)|assumption):p:=of_decide_eq_true h
theorem zm {p:Prop} (h:p:=by (try simp only [List.map_toArray,List.map_cons,List.map_nil]);first|done|rfl|(simp only [List.length_drop,List.length_take];rfl)):p:=h
theorem zM {p:Prop} (h:p:=by repeat' first|(with_reducible first|exact LeO.refl _|exact LeO.none _|refine LeO.ite ?_ ?_|refine LeO.bind ?_ (fun _=>?_)|apply_assumption)|exact LeO.none _|refine LeO.ite ?_ ?_|refine LeO.bind ?_ (fun _=>?_)):p:=h
theorem zy {α:Type} {a b:α} {p q:Prop} (e:a=b) (h:q) (g:a=b→q→p:=by intro e h;first|(rw [e];with_reducible exact h)|(have h2:=(Option.bind_some _ _).symm.trans h;rw [e];with_reducible exact h2)|(have h2:=(Option.bind_some _ _).symm.trans h;with_reducible exact h2)|with_reducible exact h|(rw [e];exact h)|exact h):p:=g e h
theorem zB {α β:Type} {x:Option α} {f:α→Option β} {r:β} (h:x.bind f=some r):∃ t,Aside0 (x=some t)∧f t=some r:=by
 obtain ⟨t,h1,h2⟩:=Option.bind_eq_some_iff.mp h
 exact ⟨t,⟨h1⟩,h2⟩
section
variable {P:Program} {ops:Array Oper} {oi:Oper} {rest:List Oper} {a:Act} {Q:Exit→Act→World→Prop}
theorem box_ev {W:World} (N:Tmp) (cs:Array Value) (t:TypeId)
  (h:∀ g,g=W.heap.size→∀ w1,w1.heap[g]? = some (.cells cs t (0,0))→Below W.heap.size W w1→wpList P ops Q rest (a.put oi.dst (.pointer (some ⟨g,0,none⟩))) w1) (hd:oi.dst=some N:=by rfl) (hg:oi.guard=none:=by rfl)
  (hrun:(execOp a.eval oi).run P W = .ok (.value (.pointer (some ⟨W.heap.size,0,none⟩))) (W.alloc (.cells cs t (0,0))):=by first|(go_simp;done)|(go_simp;rfl)):wpList P ops Q (oi :: rest) a W:=box_event hg hd hrun h
theorem zg {w:World} (N:Option Tmp) {f:FuncId} {fn:Func} (hf:P.funcs[f]? = some fn) (args:Array Value) {c:Operand} {as:Array Operand} {ts:Array TypeId}
  (h:Calls P f args w fun e w'=>∃ v,e = .returned v∧wpList P ops Q rest (a.put N v) w')
  (hop:oi.op = .call { callee:=.value c,args:=as,argTypes:=ts }:=by with_reducible exact rfl) (hc:a.eval c = .func (.func f) #[] #[]:=by rfl) (hd:oi.dst=N:=by rfl) (hg:oi.guard=none:=by rfl)
  (hname:(fn.name == "runtime.NumGoroutine")=false:=by kernel_rfl) (hb:fn.body.isSome=true:=by rfl)
  (hargs:as.map a.eval=args:=by (try simp only [List.map_toArray,List.map_cons,List.map_nil]);first|done|rfl|(simp only [List.length_drop,List.length_take];rfl)):wpList P ops Q (oi :: rest) a w:=goesC_ N hd hg hc hf hname hb args hop hargs h
variable {md:Region.Mode} {S:World→Prop} {ds:List Nat} {T:Bool×List (List Nat×List Nat)} {B:List Nat}
theorem pu (i:Nat) (N:Option Tmp) {v:Value} {fuel:Nat} {l:Array Bool} {w:World} {a':Act} (HT:Aside0 (rtab md ops=T))
  (h:wpAnyLast P md ops Q S ds fuel (l.setIfInBounds i true) a' w) (hi:ops[i]? = some oi:=by rfl) (hN:oi.dst=N:=by rfl) (hc:anyT T l.toList (l.setIfInBounds i true).toList i=true:=by kernel_rfl)
  (hQ:∀ c a w,Q (.panic c) (a.put oi.dst v) w→Q (.panic c) a w:=by exact fun _ _ _ h=>h) (hw:Region.wanted oi (yielded ops a.tmps)=true:=by rfl)
  (hy:∀ w,(execOp a.eval oi).run P w = .ok (.value v) w:=by intro w';go_simp;with_reducible rfl)
  (ha:a.put N v=a':=by simp only [Act.put,List.setIfInBounds_toArray,List.set_cons_zero,List.set_cons_succ,i64_w,i32_w];rfl):wpAnyLast P md ops Q S ds (fuel+1) l a w :=
 pure_ _ hi hN (any_of HT.out hc) hQ (.inl ⟨hw,hy⟩) ha h
theorem nm {fuel:Nat} {l:Array Bool} {d:Option Tmp} {v:Value} {a':Act} {w:World} (h:wpAnyLast P md ops Q S ds fuel l a' w)
  (ha:a.put d v=a':=by simp only [Act.put,List.setIfInBounds_toArray,List.set_cons_zero,List.set_cons_succ,i64_w,i32_w];rfl):wpAnyLast P md ops Q S ds fuel l (a.put d v) w:=norm_ ha h
theorem tk (i:Nat) (N:Option Tmp) {v:Value} {fuel:Nat} {l:Array Bool} {w:World} {a':Act} (HT:Aside0 (rtab md ops=T)) (HW:Aside0 (waitsOk T.2 B=true)) (hS:S w)
  (h:wpAnyLast P md ops Q S ds fuel (l.setIfInBounds i true) a' w) (hi:ops[i]? = some oi:=by rfl) (hN:oi.dst=N:=by rfl) (hc:takeW T B ds l.toList (l.setIfInBounds i true).toList i=true:=by kernel_rfl)
  (hQ:∀ c a w,Q (.panic c) (a.put oi.dst v) w→Q (.panic c) a w:=by exact fun _ _ _ h=>h) (hw:Region.wanted oi (yielded ops a.tmps)=true:=by rfl)
  (hy:∀ w,S w→(execOp a.eval oi).run P w = .ok (.value v) w:=by intro w' h_;(repeat (have s_:=h_.1;replace h_:=h_.2));go_simp;with_reducible rfl)
  (ha:a.put N v=a':=by simp only [Act.put,List.setIfInBounds_toArray,List.set_cons_zero,List.set_cons_succ,i64_w,i32_w];rfl):wpAnyLast P md ops Q S ds (fuel+1) l a w :=
 take_ _ hi hN (take_ofW HT.out HW.out hc) hQ (.inl ⟨hw,hy⟩) hS ha h
theorem pv (i:Nat) (N:Option Tmp) {v:Value} {fuel:Nat} {l:Array Bool} {w:World} {a':Act}
  (h:wpAnyLast P md ops Q S ds fuel (l.setIfInBounds i true) a' w) (hi:ops[i]? = some oi:=by rfl) (hN:oi.dst=N:=by rfl) (hc:anyB md ops l (l.setIfInBounds i true) i=true:=by kernel_rfl)
  (hQ:∀ c a w,Q (.panic c) (a.put oi.dst v) w→Q (.panic c) a w:=by exact fun _ _ _ h=>h) (hw:Region.wanted oi (yielded ops a.tmps)=true:=by rfl)
  (hy:∀ w,(execOp a.eval oi).run P w = .ok (.value v) w:=by intro w';go_simp;with_reducible rfl)
  (ha:a.put N v=a':=by simp only [Act.put,List.setIfInBounds_toArray,List.set_cons_zero,List.set_cons_succ,i64_w,i32_w];rfl):wpAnyLast P md ops Q S ds (fuel+1) l a w :=
 pure_ _ hi hN hc hQ (.inl ⟨hw,hy⟩) ha h
theorem tv (i:Nat) (N:Option Tmp) {v:Value} {fuel:Nat} {l:Array Bool} {w:World} {a':Act} (hS:S w)
  (h:wpAnyLast P md ops Q S ds fuel (l.setIfInBounds i true) a' w) (hi:ops[i]? = some oi:=by rfl) (hN:oi.dst=N:=by rfl) (hc:takeB md ops ds l (l.setIfInBounds i true) i=true:=by kernel_rfl)
  (hQ:∀ c a w,Q (.panic c) (a.put oi.dst v) w→Q (.panic c) a w:=by exact fun _ _ _ h=>h) (hw:Region.wanted oi (yielded ops a.tmps)=true:=by rfl)
  (hy:∀ w,S w→(execOp a.eval oi).run P w = .ok (.value v) w:=by intro w' h_;(repeat (have s_:=h_.1;replace h_:=h_.2));go_simp;with_reducible rfl)
  (ha:a.put N v=a':=by simp only [Act.put,List.setIfInBounds_toArray,List.set_cons_zero,List.set_cons_succ,i64_w,i32_w];rfl):wpAnyLast P md ops Q S ds (fuel+1) l a w :=
 take_ _ hi hN hc hQ (.inl ⟨hw,hy⟩) hS ha h
end
theorem zT {α:Type} {A B R:α} {i:Decidable (true=true)} (h:@ite α (true=true) i A B=R):A=R:=(if_pos rfl).symm.trans h
theorem zU {α:Type} {A B R:α} {i:Decidable (false=true)} (h:@ite α (false=true) i A B=R):B=R:=(if_neg Bool.false_ne_true).symm.trans h
theorem sX {w W W':World} {g b:Nat} {o:Obj} (hg:g=W.heap.size) (hb:Below W.heap.size W W') (h:Aside0 (w.heap[b]? = some o)) (k:w.heap[b]? = some o→W.heap[b]? = some o:=by intro h;(with_reducible repeat (first|refine blk_drewN ?_ _|refine blk_drew ?_|refine blk_alloc ?_ _));exact h):Aside0 (b≠g)∧Aside0 (g≠b)∧Aside0 (W'.heap[b]? = some o):=⟨sl hg h k,sg hg h k,sK h hb k⟩
theorem kB {w W W':World} {g b:Nat} {o:Obj} (hk:KeepBut W W' g none) (nb:Aside0 (b≠g)) (h:Aside0 (w.heap[b]? = some o)) (k:w.heap[b]? = some o→W.heap[b]? = some o:=by intro h;(with_reducible repeat (first|refine blk_drewN ?_ _|refine blk_drew ?_|refine blk_alloc ?_ _));exact h):Aside0 (W'.heap[b]? = some o):=⟨KeepBut.blk hk (k h.out) nb.out (by simp)⟩
theorem zo2 {α β:Type} {a c:α} {b d:β} (h:some (a,b)=some (c,d)):a=c∧b=d:=by cases h;exact ⟨rfl,rfl⟩
theorem zo3 {α β γ:Type} {a c:α} {b d:β} {e f:γ} (h:some (a,b,e)=some (c,d,f)):a=c∧b=d∧e=f:=by cases h;exact ⟨rfl,rfl,rfl⟩
theorem zo4 {α β γ δ:Type} {a c:α} {b d:β} {e f:γ} {x y:δ} (h:some (a,b,e,x)=some (c,d,f,y)):a=c∧b=d∧e=f∧x=y:=by cases h;exact ⟨rfl,rfl,rfl,rfl⟩
theorem zX {α:Type} [BEq α] [LawfulBEq α] {a b:α} (h:¬ a=b):(a==b)=false∧(a != b)=true:=⟨beq_eq_false_iff_ne.mpr h,bne_iff_ne.mpr h⟩
theorem zY {α:Type} [BEq α] [LawfulBEq α] {a b:α} (h:a=b):(a==b)=true∧(a != b)=false:=⟨beq_iff_eq.mpr h,bne_eq_false_iff_eq.mpr h⟩
theorem zW {w0 w W:World} {g b:Nat} (h0:Aside0 (w0.heap.size≤w.heap.size)) (hg:b=W.heap.size) (h:KeepBut w W g none:=by exact kk):Aside0 (w0.heap.size≤b):=⟨Nat.le_trans h0.out (hg ▸ h.1)⟩
end Go.Proofs.YtaffkbemjbfajaaGreatDoorW.PrintMore
