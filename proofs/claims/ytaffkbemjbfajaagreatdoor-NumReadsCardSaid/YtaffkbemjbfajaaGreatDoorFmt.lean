/-
 strconv.FormatUint at base 10 returns the decimal digits, and the world below is as it was; the condition on the world that the later contracts carry (the table of powers of ten reads as the row lists it). No other condition.
-/
import Derived.Test.YtaffkbemjbfajaaGreatDoorShelf
import Derived.Lib.AppendIntMem
import Derived.Lib.SliceRun
import Derived.WalkKit
import Derived.Below
namespace Go.Proofs
open Go.RowKit Go.Shelf Go.Sort
def Tryz.Gt (w:World):Prop:=Lib.TabIs Tryz.prog w "internal/strconv.uint64pow10" .u64 Lib.pow10Tab
def Tryz.Ge (w:World):Prop:=∃ tp p,w.var? Tryz.prog "strconv.ErrRange" = some #[.iface tp p]
def Tryz.Gm (w:World):Prop:=∃ m,w.cell? ⟨0,0,none⟩=some (.int .i64 m)
def Tryz.Gl (w:World):Prop:=Tryz.Gt w∧Tryz.Ge w∧Tryz.Gm w
theorem Tryz.pow10_global:Tryz.prog.globalNamed "internal/strconv.uint64pow10" = some 3:=by kernel_rfl
theorem Tryz.Gt.below {w w1:World} (h:Tryz.Gt w) (hb:Below w.heap.size w w1):Tryz.Gt w1:=by
 unfold Tryz.Gt Lib.TabIs World.var? at *
 rw [Tryz.pow10_global] at *
 simp only [Option.bind_some] at h ⊢
 have hlt:3<w.heap.size:=by
  rcases Nat.lt_or_ge 3 w.heap.size with h'|h'
  ·exact h'
  ·rw [Array.getElem?_eq_none h'] at h;simp at h
 rw [hb.block 3 hlt]
 exact h
theorem Tryz.err_global:Tryz.prog.globalNamed "strconv.ErrRange" = some 2:=by kernel_rfl
theorem Tryz.Ge.below {w w1:World} (h:Tryz.Ge w) (hb:Below w.heap.size w w1):Tryz.Ge w1:=by
 unfold Tryz.Ge World.var? at *
 rw [Tryz.err_global] at *
 simp only [Option.bind_some] at h ⊢
 have hlt:2<w.heap.size:=by
  rcases Nat.lt_or_ge 2 w.heap.size with h'|h'
  ·exact h'
  ·obtain ⟨tp,p,h⟩:=h;rw [Array.getElem?_eq_none h'] at h;simp at h
 rw [hb.block 2 hlt]
 exact h
theorem Tryz.Gm.below {w w1:World} (h:Tryz.Gm w) (hb:Below w.heap.size w w1):Tryz.Gm w1:=by
 obtain ⟨m,hm⟩:=h
 exact ⟨m,(hb.cell (World.block_lt_of_cell? w _ hm)).trans hm⟩
theorem Tryz.Gl.below {w w1:World} (h:Tryz.Gl w) (hb:Below w.heap.size w w1):Tryz.Gl w1:=⟨h.1.below hb,h.2.1.below hb,h.2.2.below hb⟩
theorem Tryz.Gl.alloc {w:World} (h:Tryz.Gl w) (o:Obj):Tryz.Gl (w.alloc o):=h.below ((Below.refl _ _).alloc (Nat.le_refl _) _)
theorem Tryz.grow_below (w:World) (k:Nat) (os:Array Obj):Below w.heap.size w (grow (w.drewN k) os):=Lib.below_grow _ w (Nat.le_refl _) k os
set_option maxRecDepth 100000 in
set_option maxHeartbeats 2000000 in
theorem Tryz.internal_FormatUint (u:Nat) (hu64:u<18446744073709551616) (w:World) (htab:Tryz.Gt w) :
  Calls Tryz.prog 193 #[.int .u64 u,.int .i64 10] w fun e w'=>e = .returned (.string ⟨(Lib.decDigits u).toArray⟩)∧Below w.heap.size w w':=by
 by_cases hs:u<100
 ·have hd:decide ((u:Int)<100)=true:=decide_eq_true (by omega)
  go_enter Tryz.func193,Tryz.ntmps193
  go_wp2_with (go_at_call 215;refine (Tryz.internal_strconv_small u hs _).mono ?_;rintro e w' ⟨rfl,rfl⟩)
  go_ret
  exact ⟨rfl,Below.refl _ _⟩
 ·have hd:decide ((u:Int)<100)=false:=decide_eq_false (by omega)
  have hu1:1≤u:=by omega
  have hnd20:Lib.nDigits u≤20:=by have:=Lib.numDigits_eq u hu1 hu64;split at this <;> omega
  have hal:Tryz.prog.arrayLen 204=24:=by simp [Program.arrayLen,Tryz.underlying204]
  have hsl1:∀ W,(Instr.sliceAt 204 (.pointer (some ⟨w.heap.size,0,none⟩)) none (some (.int .i64 (Lib.nDigits u:Int))) none).run Tryz.prog W = .ok (.slice (some ⟨w.heap.size,0,none⟩) (Lib.nDigits u) 24) W:=fun W=>by
   rw [run_sliceAt_array_h W 204 ⟨w.heap.size,0,none⟩ (by simp [Program.arrayLen,Program.elem,Tryz.underlying204]) .i64 (Lib.nDigits u:Int) (by omega) (by rw [hal];omega)]
   go_simp
  have hH0:=Lib.holds_zero0 w 204 (Lib.nDigits u) (by omega)
  have hfmt:=Tryz.internal_strconv_formatBase10 w.heap.size 0 24 u (Array.replicate (Lib.nDigits u) 0) (w.alloc (.cells Lib.zeros24 204)) hH0 (by rw [Array.size_replicate];exact Lib.lt_pow_nDigits u) hu64 (by rw [Array.size_replicate];omega)
  rw [Array.size_replicate] at hfmt
  have HH0:=Lib.hid hH0
  clear hH0 hal
  have HF0:=Lib.hid hfmt
  clear hfmt
  go_enter Tryz.func193,Tryz.ntmps193
  go_wp2_with (first
   | (go_at_call 216;refine (Tryz.internal_strconv_numDigits u hu1 hu64 _ (Lib.tabIs_alloc htab _)).mono ?_;rintro e w' ⟨rfl,rfl⟩))
  go_at_call 217
  refine HF0.out.mono ?_
  rintro e w' ⟨rfl,k,v',dk,rfl,hF⟩
  have hcv:(convert 45 9 (.slice (some ⟨w.heap.size,0,none⟩) (Lib.nDigits u) 24)).run Tryz.prog ((putRow (fun (b:UInt8)=>Value.int .u8 (b.toNat:Int)) (w.alloc (.cells Lib.zeros24 204)) w.heap.size 0 dk).drewN k) = .ok (.string ⟨(Lib.decDigits u).toArray⟩) ((putRow (fun (b:UInt8)=>Value.int .u8 (b.toNat:Int)) (w.alloc (.cells Lib.zeros24 204)) w.heap.size 0 dk).drewN k):=by
   have h:=run_convert_bytes_back (P:=Tryz.prog) ((putRow (fun (b:UInt8)=>Value.int .u8 (b.toNat:Int)) (w.alloc (.cells Lib.zeros24 204)) w.heap.size 0 dk).drewN k) 45 9 5 ⟨w.heap.size,0,none⟩ 24 (Lib.decDigits u) Tryz.underlying45 Tryz.underlying5 Tryz.underlying9 (fun j hj=>by
    rw [Lib.row_is_numeral hF j hj,Lib.add_plain,World.cell?_drewN]
    exact cell?_putRow (fun (b:UInt8)=>Value.int .u8 (b.toNat:Int)) _ w.heap.size 0 _ dk HH0.out (by rw [hF.size,Array.size_replicate]) j (by rw [hF.size];rw [Lib.decDigits_length] at hj;exact hj))
   rw [Lib.decDigits_length] at h
   exact h
  go_wp2
  go_ret
  obtain ⟨os,eo⟩:=Lib.fin_at w (.cells Lib.zeros24 204) dk k 0
  refine ⟨rfl,?_⟩
  rw [eo]
  exact Tryz.grow_below w k os
set_option maxRecDepth 100000 in
theorem Tryz.strconv_FormatUint (u:Nat) (hu64:u<18446744073709551616) (w:World) (htab:Tryz.Gt w) :
  Calls Tryz.prog 163 #[.int .u64 u,.int .i64 10] w fun e w'=>e = .returned (.string ⟨(Lib.decDigits u).toArray⟩)∧Below w.heap.size w w':=by
 go_enter Tryz.func163,Tryz.ntmps163
 go_wp2_with (go_at_call 193;refine (Tryz.internal_FormatUint u hu64 _ htab).mono ?_;rintro e w' ⟨rfl,hb⟩)
 go_ret
 exact ⟨rfl,hb⟩
end Go.Proofs
