/-
 slices.Insert at a named slice of ints, over this program: in place where there is room, in a new row where there is none; one value at index 0 of a row of the call's own. Conditions: the value lies in another block; lengths below 2^44.
-/
import Derived.Test.YtaffkbemjbfajaaGreatDoorProg
import Derived.Test.YtaffkbemjbfajaaGreatDoorWMore
import Derived.Test.YtaffkbemjbfajaaGreatDoorWKept
import Derived.Shelf.Spec.SlicesInsertGrow
import Derived.Shelf.RegionOpenPlain
set_option linter.unusedVariables false
set_option linter.unusedSimpArgs false
namespace Go.Proofs
open Go.Shelf Go.RowKit Go.Lib
theorem Ins.i3:(Tryz.prog.info? 3).map (fun i=>(i.zero,i.size,i.bytes))=some (some (.int .i64 0),1,8):=by kernel_rfl
theorem Ins.z3:∀ w,(Go.sizeOf 3).run Tryz.prog w = .ok 1 w:=by
 intro w
 obtain ⟨i0,hi0,h0,h1,h2⟩:=info_parts Ins.i3
 simp [sizeOf,typeInfo,hi0,h1]
set_option maxHeartbeats 4000000 in
set_option maxRecDepth 100000 in
theorem Ins.insert_shift (b off n c i vb voff m vc:Nat) (cs vs:List Value) (w:World) (hi:i<n) (hm:0<m) (hroom:n+m≤c) (hc63:c≤9223372036854775807) (hvb:vb≠b)
  (hcl:cs.length=n) (hvl:vs.length=m)
  (hcs:∀ j v,cs[j]? = some v→w.cell? ⟨b,off+j,none⟩=some v) (hsp:∀ j,j<n+m→(w.cell? ⟨b,off+j,none⟩).isSome=true) (hfz:∀ j,j<n+m→w.frozen? ⟨b,off+j,none⟩=false)
  (hvs:∀ j v,vs[j]? = some v→w.cell? ⟨vb,voff+j,none⟩=some v) (h1c:∀ v ∈ cs,v.oneCell'=true) (h1v:∀ v ∈ vs,v.oneCell'=true)
  (tA tB:TypeId) (kA kB:Nat) (hsa:w.shape? vb=some (tA,kA)) (hsb:w.shape? b=some (tB,kB)) (hkB:kB≠0) (hfa:w.frozen? ⟨vb,voff,none⟩=false) (hfe:w.frozen? ⟨vb,kA,none⟩=false) :
  Calls Tryz.prog 161 #[.slice (some ⟨b,off,none⟩) n c,.int .i64 i,.slice (some ⟨vb,voff,none⟩) m vc] w fun e w' =>
   e = .returned (.slice (some ⟨b,off,none⟩) (n+m) c)∧w'=(w.drew.setCells b (off+(i+m)) (cs.drop i)).setCells b (off+i) vs:=by
 have mixed:Tryz.prog.follows .mixedOrders=true:=by kernel_rfl
 have hz1:¬ ((m:Int)=0):=by omega
 have hz2:¬ ((i:Int)=(n:Int)):=by omega
 have hsz:(Tryz.prog.info? 3).map (·.size)=some 1:=by
  obtain ⟨i0,hi0,h0,h1,h2⟩:=info_parts Ins.i3
  rw [hi0];simp [h1]
 have hov:∀ lb cb,(callFunc 190 #[.slice (some ⟨vb,voff,none⟩) m vc,.slice (some ⟨b,off+(i+m),none⟩) lb cb]).run Tryz.prog w = .ok (.value (.bool false)) w:=fun lb cb=>by
  rw [run_callFunc_extern Tryz.func190 (by kernel_rfl) (by kernel_rfl) (by kernel_rfl) (e:=Extern.SlicesOverlaps.overlaps #[36,36] #[4]) (by kernel_rfl),
   Lib.run_overlaps_apart w 36 4 3 Tryz.underlying36 1 Ins.z3 ⟨vb,voff,none⟩ ⟨b,off+(i+m),none⟩ m vc lb cb hvb tA tB kA kB hsa hsb hkB hfa hfe]
  rfl
 have hdl:(cs.drop i).length=n-i:=by rw [List.length_drop,hcl]
 have hw1:IntKind.i64.wrap ((i:Int)+(m:Int))=(i:Int)+(m:Int):=by rw [IntKind.wrap_i64];omega
 have hb1:(0:Int)≤(i:Int)+(m:Int):=by omega
 have hin:i≤n:=by omega
 have htn:((i:Int)+(m:Int)).toNat=i+m:=by omega
 have hb2:¬ (c=i+m):=by omega
 have hb3:(i:Int)≤(n:Int)+(m:Int):=by omega
 have hb4:¬ (c=i):=by omega
 have hcp1:∀ ty dc sc,(Builtin.copy_ #[65,65] ty #[.slice (some ⟨b,off+(i+m),none⟩) (n+m-(i+m)) dc,.slice (some ⟨b,off+i,none⟩) (n+m-i) sc]).run Tryz.prog w.drew = .ok (goInt (cs.drop i).length) (w.drew.setCells b (off+(i+m)) (cs.drop i)):=fun ty dc sc =>
  run_copy_cells w.drew _ _ ty 3 b (off+(i+m)) (n+m-(i+m)) dc ⟨b,off+i,none⟩ (n+m-i) sc (cs.drop i) Tryz.underlying65 hsz (by rw [hdl];simp only [Nat.min_def];split <;> omega)
   (fun j v hj=>by rw [Addr.add_lit,Nat.add_assoc];exact hcs (i+j) v (by rwa [List.getElem?_drop] at hj))
   (fun j hj=>by rw [Nat.add_assoc];exact hsp _ (by omega)) (fun j hj=>by rw [Nat.add_assoc];exact hfz _ (by omega)) (fun v hv=>h1c v (List.mem_of_mem_drop hv))
 obtain ⟨W1,hW1⟩:∃ W1,W1=w.drew.setCells b (off+(i+m)) (cs.drop i):=⟨_,rfl⟩
 have hsp1:∀ k,k<n+m→(W1.cell? ⟨b,off+k,none⟩).isSome=true:=fun k hk=>by
  rw [hW1]
  exact isSome_setCells b _ _ _ (fun j hj=>by rw [Nat.add_assoc];exact hsp _ (by omega)) _ (hsp k hk)
 have hcp2:∀ (W:World),(∀ x,W.cell? x=W1.cell? x)→(∀ x,W.frozen? x=W1.frozen? x)→∀ ty dc,(Builtin.copy_ #[65,36] ty #[.slice (some ⟨b,off+i,none⟩) (n+m-i) dc,.slice (some ⟨vb,voff,none⟩) m vc]).run Tryz.prog W = .ok (goInt vs.length) (W.setCells b (off+i) vs):=fun W hWc hWf ty dc =>
  run_copy_cells W _ _ ty 3 b (off+i) (n+m-i) dc ⟨vb,voff,none⟩ m vc vs Tryz.underlying65 hsz (by rw [hvl];simp only [Nat.min_def];split <;> omega)
   (fun j v hj=>by
    rw [Addr.add_lit,hWc,hW1,World.cell?_setCells_out b _ _ _ _ (fun h _=>absurd h hvb)]
    exact hvs j v hj)
   (fun j hj=>by rw [hWc,Nat.add_assoc];exact hsp1 _ (by omega)) (fun j hj=>by rw [hWf,hW1,World.frozen?_setCells,Nat.add_assoc];exact hfz _ (by omega)) h1v
 rw [← hW1] at hcp1
 go_enter Tryz.func161,Tryz.ntmps161
 go_wp2_with (simp only [hov])
 go_region_law_o (refine step_copy_runI rfl _ _ 65 65 rfl _ _ (by simp [Act.eval,Act.put]) (by simp [Act.eval,Act.put]) (hcp1 _ _ _) ?_)
 go_wp2_with (at_builtin;refine wpList_copy_runI _ rfl _ _ 65 36 rfl _ _ rfl rfl (hcp2 _ (fun _=>rfl) (fun _=>rfl) _ _) ?_)
 go_ret
 first|exact ⟨rfl,rfl⟩|exact ⟨rfl,by rw [hW1]⟩
set_option maxHeartbeats 4000000 in
set_option maxRecDepth 100000 in
theorem Ins.insert_grow (b off n c i vb voff m vc:Nat) (cs vs:List Value) (w:World) (hi:i<n) (hm:0<m) (hnc:n≤c) (hroom:c<n+m) (hbig:(n+m)*8≤140737488355328)
  (hcl:cs.length=n) (hvl:vs.length=m)
  (hcs:∀ j v,cs[j]? = some v→w.cell? ⟨b,off+j,none⟩=some v)
  (hvs:∀ j v,vs[j]? = some v→w.cell? ⟨vb,voff+j,none⟩=some v) (h1c:∀ v ∈ cs,v.oneCell'=true) (h1v:∀ v ∈ vs,v.oneCell'=true) :
  Calls Tryz.prog 161 #[.slice (some ⟨b,off,none⟩) n c,.int .i64 i,.slice (some ⟨vb,voff,none⟩) m vc] w fun e w' =>
   e = .returned (.slice (some ⟨w.heap.size,0,none⟩) (n+m) (grownCap w (n+m) c 3)) ∧
   w'=(((w.alloc (.cells ((cs.take i).toArray++Builtin.zeroCells (Value.int .i64 0).cells (n+m-i)++Builtin.zeroCells (Value.int .i64 0).cells (grownCap w (n+m) c 3-(n+m))) 3)).drew.setCells w.heap.size i vs).drew).setCells w.heap.size (i+m) (cs.drop i):=by
 obtain ⟨i0,hi0,hz0,hzs,hzb⟩:=info_parts Ins.i3
 have mixed:Tryz.prog.follows .mixedOrders=true:=by kernel_rfl
 have hz1:¬ ((m:Int)=0):=by omega
 have hz2:¬ ((i:Int)=(n:Int)):=by omega
 have hz3:(c:Int)<(n:Int)+(m:Int):=by omega
 have hsz:(Tryz.prog.info? 3).map (·.size)=some 1:=by rw [hi0];simp [hzs]
 have hbw:b<w.heap.size:=block_lt_of_cell (hcs 0 _ (List.getElem?_eq_getElem (by omega)))
 have hvw:vb<w.heap.size:=block_lt_of_cell (hvs 0 _ (List.getElem?_eq_getElem (by omega)))
 have hkk:(n:Int)+(m:Int)-(i:Int)=((n+m-i:Nat):Int):=by omega
 have hik:i+(n+m-i)=n+m:=by omega
 have hold:(Builtin.firstCells i0.size i (.slice (some ⟨b,off,none⟩) i c)).run Tryz.prog w.drew = .ok (cs.take i).toArray w.drew:=by
  rw [hzs]
  exact run_firstCells_some w.drew 1 i ⟨b,off,none⟩ i c (cs.take i) (by rw [List.length_take];omega) (fun j v hj=>by
   rw [Addr.add_lit]
   rw [List.getElem?_take] at hj
   split at hj
   ·exact hcs j v hj
   ·cases hj)
 have hrz:∀ ty,(Builtin.append_ #[65,3] ty #[.slice (some ⟨b,off,none⟩) i c,.int .i64 ((n:Int)+(m:Int)-(i:Int))]).run Tryz.prog w =
   .ok (.slice (some ⟨w.heap.size,0,none⟩) (n+m) (grownCap w (n+m) c 3)) (w.drew.alloc (.cells ((cs.take i).toArray++Builtin.zeroCells (Value.int .i64 0).cells (n+m-i)++Builtin.zeroCells (Value.int .i64 0).cells (grownCap w (n+m) c 3-(n+m))) 3)):=fun ty=>by
  have h:=Lib.run_append_grow_zeros w 65 3 ty 3 i0 _ .i64 .i64 Tryz.underlying65 Tryz.underlying3 hi0 hz0 (some ⟨b,off,none⟩) i c (cs.take i) hold (n+m-i) (by omega) (by omega) (by omega) (by omega) (by rw [hzb];omega) (by rw [hzb,hik];exact growslice_fits hroom hbig)
  rw [hik] at h
  rw [hkk]
  exact h
 obtain ⟨G,hG⟩:∃ G,G=grownCap w (n+m) c 3:=⟨_,rfl⟩
 obtain ⟨ROW,hROW⟩:∃ ROW:Array Value,ROW=(cs.take i).toArray++Builtin.zeroCells (Value.int .i64 0).cells (n+m-i)++Builtin.zeroCells (Value.int .i64 0).cells (G-(n+m)):=⟨_,rfl⟩
 rw [← hG] at hrz ⊢
 rw [← hROW] at hrz ⊢
 have hRl:n+m≤ROW.size:=by
  rw [hROW]
  simp [Builtin.zeroCells,Value.cells]
  omega
 obtain ⟨W1,hW1⟩:∃ W1,W1=w.drew.alloc (.cells ROW 3):=⟨_,rfl⟩
 rw [← hW1] at hrz
 have hN:∀ j,j<n+m→(W1.cell? ⟨w.heap.size,j,none⟩).isSome=true:=fun j hj=>by
  rw [hW1,World.cell?_alloc_at (w:=w.drew) ROW _ w.heap.size j rfl,Array.getElem?_eq_getElem (by omega)];rfl
 have hNf:∀ j,W1.frozen? ⟨w.heap.size,j,none⟩=false:=fun j=>by rw [hW1];exact World.frozen?_alloc_at (w:=w.drew) ROW _ w.heap.size j rfl
 have hOb:∀ j v,w.cell? ⟨b,j,none⟩=some v→W1.cell? ⟨b,j,none⟩=some v:=fun j v h=>by rw [hW1,World.cell?_alloc_past (w:=w.drew) _ b j hbw];exact h
 have hOv:∀ j v,w.cell? ⟨vb,j,none⟩=some v→W1.cell? ⟨vb,j,none⟩=some v:=fun j v h=>by rw [hW1,World.cell?_alloc_past (w:=w.drew) _ vb j hvw];exact h
 have hcpA:∀ (W:World),(∀ x,W.cell? x=W1.cell? x)→(∀ x,W.frozen? x=W1.frozen? x)→∀ ty dc,(Builtin.copy_ #[65,36] ty #[.slice (some ⟨w.heap.size,i,none⟩) (n+m-i) dc,.slice (some ⟨vb,voff,none⟩) m vc]).run Tryz.prog W = .ok (goInt vs.length) (W.setCells w.heap.size i vs):=fun W hWc hWf ty dc =>
  run_copy_cells W _ _ ty 3 w.heap.size i (n+m-i) dc ⟨vb,voff,none⟩ m vc vs Tryz.underlying65 hsz (by rw [hvl];simp only [Nat.min_def];split <;> omega)
   (fun j v hj=>by rw [Addr.add_lit,hWc];exact hOv _ v (hvs j v hj))
   (fun j hj=>by rw [hWc];exact hN _ (by omega)) (fun j hj=>by rw [hWf];exact hNf _) h1v
 have hGn:n+m≤G:=by rw [hG];exact grownCap_ge w _ _ _
 have hG63:G≤9223372036854775807:=by
  have:=grownCap_le_maxLen w (n+m) c 3 (by unfold maxLen;omega)
  rw [← hG] at this
  unfold maxLen at this
  omega
 have hGi:¬ (G=i):=by omega
 have hGim:¬ (G=i+m):=by omega
 have hci:¬ (c=i):=by omega
 have hbN:b≠w.heap.size:=by omega
 have hdl:(cs.drop i).length=n-i:=by rw [List.length_drop,hcl]
 have hcpB:∀ (W:World),(∀ x,W.cell? x=(W1.setCells w.heap.size i vs).cell? x)→(∀ x,W.frozen? x=(W1.setCells w.heap.size i vs).frozen? x)→∀ ty dc sc,(Builtin.copy_ #[65,65] ty #[.slice (some ⟨w.heap.size,i+m,none⟩) (n+m-(i+m)) dc,.slice (some ⟨b,off+i,none⟩) (n-i) sc]).run Tryz.prog W = .ok (goInt (cs.drop i).length) (W.setCells w.heap.size (i+m) (cs.drop i)):=fun W hWc hWf ty dc sc =>
  run_copy_cells W _ _ ty 3 w.heap.size (i+m) (n+m-(i+m)) dc ⟨b,off+i,none⟩ (n-i) sc (cs.drop i) Tryz.underlying65 hsz (by rw [hdl];simp only [Nat.min_def];split <;> omega)
   (fun j v hj=>by
    rw [Addr.add_lit,hWc,World.cell?_setCells_out _ _ _ _ _ (fun h _=>absurd h hbN),Nat.add_assoc]
    exact hOb _ v (hcs (i+j) v (by rwa [List.getElem?_drop] at hj)))
   (fun j hj=>by rw [hWc];exact isSome_setCells _ _ _ _ (fun t ht=>hN _ (by omega)) _ (hN _ (by omega)))
   (fun j hj=>by rw [hWf,World.frozen?_setCells];exact hNf _) (fun v hv=>h1c v (List.mem_of_mem_drop hv))
 subst hW1
 have hE1:∀ x,((w.alloc (.cells ROW 3)).drew).cell? x=(w.drew.alloc (.cells ROW 3)).cell? x:=fun x=>rfl
 have hE2:∀ x,((w.alloc (.cells ROW 3)).drew).frozen? x=(w.drew.alloc (.cells ROW 3)).frozen? x:=fun x=>rfl
 have hF1:∀ x,(((w.alloc (.cells ROW 3)).drew.setCells w.heap.size i vs).drew).cell? x=((w.drew.alloc (.cells ROW 3)).setCells w.heap.size i vs).cell? x:=fun x=>rfl
 have hF2:∀ x,(((w.alloc (.cells ROW 3)).drew.setCells w.heap.size i vs).drew).frozen? x=((w.drew.alloc (.cells ROW 3)).setCells w.heap.size i vs).frozen? x:=fun x=>rfl
 have hw1:IntKind.i64.wrap ((i:Int)+(m:Int))=(i:Int)+(m:Int):=by rw [IntKind.wrap_i64];omega
 have hb1:(0:Int)≤(i:Int)+(m:Int):=by omega
 have hin:i≤n:=by omega
 have htn:((i:Int)+(m:Int)).toNat=i+m:=by omega
 have hb3:(i:Int)≤(n:Int):=by omega
 clear hkk hik hold hROW hG hRl
 go_enter Tryz.func161,Tryz.ntmps161
 go_wp2_with (first
  | (at_builtin;refine Lib.wpList_append_run _ rfl _ _ _ _ rfl _ _ rfl rfl _ _ (hrz _) ?_)
  | (at_builtin;refine wpList_copy_runI _ rfl _ _ 65 36 rfl _ _ rfl rfl (hcpA _ hE1 hE2 _ _) ?_)
  | (at_builtin;refine wpList_copy_runI _ rfl _ _ 65 65 rfl _ _ rfl rfl (hcpB _ (fun _=>rfl) (fun _=>rfl) _ _ _) ?_))
 go_region_law_o (refine step_copy_runI rfl _ _ 65 65 rfl (.slice (some ⟨w.heap.size,i+m,none⟩) (n+m-(i+m)) (G-(i+m))) (.slice (some ⟨b,off+i,none⟩) (n-i) (c-i)) (by simp [Act.eval,Act.put]) (by simp [Act.eval,Act.put]) (hcpB _ hF1 hF2 3 (G-(i+m)) (c-i)) ?_)
 go_wp2
 go_ret
 exact ⟨rfl,rfl⟩
set_option maxHeartbeats 4000000 in
set_option maxRecDepth 100000 in
theorem Ins.insert_end_room (b off n c vb voff m vc:Nat) (vs:List Value) (w:World) (hm:0<m) (hroom:n+m≤c) (hc63:c≤9223372036854775807)
  (hvl:vs.length=m) (hsp:∀ j,j<m→(w.cell? ⟨b,off+n+j,none⟩).isSome=true) (hfz:∀ j,j<m→w.frozen? ⟨b,off+n+j,none⟩=false)
  (hvs:∀ j v,vs[j]? = some v→w.cell? ⟨vb,voff+j,none⟩=some v) (h1v:∀ v ∈ vs,v.oneCell'=true) :
  Calls Tryz.prog 161 #[.slice (some ⟨b,off,none⟩) n c,.int .i64 n,.slice (some ⟨vb,voff,none⟩) m vc] w fun e w' =>
   e = .returned (.slice (some ⟨b,off,none⟩) (n+m) c)∧w'=w.setCells b (off+n) vs:=by
 have hz1:¬ ((m:Int)=0):=by omega
 have hsrc:Src Tryz.prog 1 36 (.slice (some ⟨vb,voff,none⟩) m vc) m vs w:=Src.ofSlice w Tryz.underlying36 ⟨vb,voff,none⟩ m vc vs (by omega) (fun j u hj=>by rw [Addr.add_lit];exact hvs j u hj) h1v
 go_enter Tryz.func161,Tryz.ntmps161
 go_wp2_with (at_builtin;refine wpList_append_room1 _ rfl _ _ 65 36 rfl 3 _ _ Tryz.underlying65 Ins.i3 b off n c rfl _ rfl m vs hsrc hroom (by rw [hvl];exact hsp) (by rw [hvl];exact hfz) ?_)
 go_ret
 exact ⟨rfl,rfl⟩
set_option maxHeartbeats 4000000 in
set_option maxRecDepth 100000 in
theorem Ins.insert_end_grow (base:Option Addr) (n c vb voff m vc:Nat) (cs vs:List Value) (w:World) (hm:0<m) (hnc:n≤c) (hroom:c<n+m) (hbig:(n+m)*8≤140737488355328)
  (hcl:cs.length=n) (hvl:vs.length=m) (hnil:base=none→n=0)
  (hcs:∀ a,base=some a→∀ j v,cs[j]? = some v→w.cell? (a.add j)=some v)
  (hvs:∀ j v,vs[j]? = some v→w.cell? ⟨vb,voff+j,none⟩=some v) (h1v:∀ v ∈ vs,v.oneCell'=true) :
  Calls Tryz.prog 161 #[.slice base n c,.int .i64 n,.slice (some ⟨vb,voff,none⟩) m vc] w fun e w' =>
   e = .returned (.slice (some ⟨w.heap.size,0,none⟩) (n+m) (grownCap w (n+m) c 3)) ∧
   w'=w.drew.alloc (.cells ((cs++vs).toArray++Builtin.zeroCells (Value.int .i64 0).cells (grownCap w (n+m) c 3-(n+m))) 3):=by
 obtain ⟨i0,hi0,hz0,hzs,hzb⟩:=info_parts Ins.i3
 have hz1:¬ ((m:Int)=0):=by omega
 have hsrc:Src Tryz.prog i0.size 36 (.slice (some ⟨vb,voff,none⟩) m vc) m vs w:=by
  rw [hzs]
  exact Src.ofSlice w Tryz.underlying36 ⟨vb,voff,none⟩ m vc vs (by omega) (fun j u hj=>by rw [Addr.add_lit];exact hvs j u hj) h1v
 have hold:(Builtin.firstCells i0.size n (.slice base n c)).run Tryz.prog w.drew = .ok cs.toArray w.drew:=by
  rw [hzs]
  cases base with
  | none =>
   have h0:=hnil rfl
   subst h0
   rw [List.length_eq_zero_iff.1 hcl]
   exact run_firstCells_none w.drew 1 0 0 c
  | some a=>exact run_firstCells_some w.drew 1 n a n c cs (by omega) (fun j v hj=>hcs a rfl j v hj)
 have hrun:∀ ty,(Builtin.append_ #[65,36] ty #[.slice base n c,.slice (some ⟨vb,voff,none⟩) m vc]).run Tryz.prog w=_:=fun ty =>
  run_append_grow_src w 65 36 ty 3 i0 _ Tryz.underlying65 hi0 hz0 base n c cs hold _ m vs hsrc hroom (by omega) (by rw [hzb];exact growslice_fits hroom hbig)
 go_enter Tryz.func161,Tryz.ntmps161
 cases base with
 | none =>
  have h0:=hnil rfl
  subst h0
  go_wp2_with (at_builtin;refine Lib.wpList_append_run _ rfl _ _ _ _ rfl _ _ rfl rfl _ _ (hrun _) ?_)
  go_ret
  exact ⟨rfl,rfl⟩
 | some a =>
  obtain ⟨ab,ao,asp⟩:=a
  go_wp2_with (at_builtin;refine Lib.wpList_append_run _ rfl _ _ _ _ rfl _ _ rfl rfl _ _ (hrun _) ?_)
  all_goals (go_ret;exact ⟨rfl,rfl⟩)
section
open Go.Proofs.YtaffkbemjbfajaaGreatDoorW.PrintWords Go.Proofs.YtaffkbemjbfajaaGreatDoorW.PrintLast Go.Proofs.YtaffkbemjbfajaaGreatDoorW.PrintMore
theorem Ins.set_split (xs:List Value) (o:Nat) (v:Value) (r:List Value) (ho:o<xs.length):(xs.set o v).take (o+1)++(r++(xs.set o v).drop (o+1+r.length))=xs.take o++(v :: r++xs.drop (o+(v :: r).length)):=by
 have hs:xs.set o v=xs.take o++v :: xs.drop (o+1):=by rw [List.set_eq_take_append_cons_drop,if_pos ho]
 have hl:(xs.take o).length=o:=by rw [List.length_take];omega
 rw [hs]
 have h1:(xs.take o++v :: xs.drop (o+1)).take (o+1)=xs.take o++[v]:=by
  rw [List.take_append,hl,List.take_of_length_le (by omega),show o+1-o=1 by omega];rfl
 have h2:(xs.take o++v :: xs.drop (o+1)).drop (o+1+r.length)=xs.drop (o+(v :: r).length):=by
  rw [List.drop_append,hl,List.drop_of_length_le (by omega),List.nil_append,show o+1+r.length-o=r.length+1 by omega,List.drop_succ_cons,List.drop_drop,List.length_cons]
  congr 1;omega
 rw [h1,h2,List.append_assoc];rfl
theorem Ins.own_setCells {base g n cap:Nat} {e:TypeId}:∀ (vs:List Value) (o:Nat) (w:World) (xs:List Value),w.ownsRow base e 1 (.slice (some ⟨g,0,none⟩) n cap) n xs→o+vs.length≤n →
  (w.setCells g o vs).ownsRow base e 1 (.slice (some ⟨g,0,none⟩) n cap) n (xs.take o++(vs++xs.drop (o+vs.length)))∧w.grownBy (w.setCells g o vs) (some g)
 | [],o,w,xs,h,_=>by
  refine ⟨?_,World.grownBy.refl w _⟩
  rw [World.setCells,List.length_nil,Nat.add_zero,List.nil_append,List.take_append_drop]
  exact h
 | v :: r,o,w,xs,h,ho=>by
  have hx:xs.length=n:=by have:=h.1;omega
  rw [List.length_cons] at ho
  obtain ⟨h1,g1⟩:=h.stored o v
  obtain ⟨h2,g2⟩:=Ins.own_setCells r (o+1) _ _ h1 (by omega)
  refine ⟨?_,World.grownBy.trans g1 g2⟩
  rw [World.setCells,← Ins.set_split xs o v r (by omega)]
  exact h2
theorem Ins.grown_new {w W1 W2:World} {row:Option Nat} {g:Nat} (h:w.grownBy W1 row) (k:W1.grownBy W2 (some g)) (hg:w.heap.size≤g):w.grownBy W2 row :=
 ⟨k.os.trans h.os,k.tape.trans h.tape,k.output.trans h.output,Nat.le_trans h.size k.size,fun i hi hr=>(k.block i (Nat.lt_of_lt_of_le hi h.size) (fun e=>by injection e with e;omega)).trans (h.block i hi hr)⟩
theorem Ins.grown_drew {w W1:World} {row:Option Nat} (h:w.grownBy W1 row):w.grownBy W1.drew row:=⟨h.os,h.tape,h.output,h.size,h.block⟩
theorem Ins.own_new {base n G:Nat} (W:World) (cs:Array Value) (hb:base≤W.heap.size) (hn:n≤G) (hG:G≤maxLen) (hs:cs.size=G) :
  (W.alloc (.cells cs 3)).ownsRow base 3 1 (.slice (some ⟨W.heap.size,0,none⟩) n G) n (cs.toList.take n)∧∀ row,W.grownBy (W.alloc (.cells cs 3)) row :=
 ⟨⟨by rw [List.length_take,Array.length_toList];omega,.inr ⟨W.heap.size,G,cs,rfl,hb,heap_alloc_new W _,hn,hG,by omega,by rw [Nat.mul_one]⟩⟩,fun row=>World.grownBy_alloc W _ row⟩
theorem Ins.zeros_size (m:Nat):(Builtin.zeroCells (Value.int .i64 0).cells m).size=m:=by simp [Builtin.zeroCells,Value.cells]
theorem Ins.one_new {base G:Nat} {W:World} (hb:base≤W.heap.size) (x:Int) (hge:0+1≤G) (hG:G≤maxLen) (row:Option Nat) :
  ∃ v':Value,Ending.returned (.slice (some ⟨W.heap.size,0,none⟩) (0+1) G) = .returned v'∧Kd.R (Kd.int .i64) 3 (W.drew.alloc (.cells (([]++[.int .i64 x]:List Value).toArray++Builtin.zeroCells (Value.int .i64 0).cells (G-(0+1))) 3)) base (fun _=>True) v' (x :: [])∧W.grownBy (W.drew.alloc (.cells (([]++[.int .i64 x]:List Value).toArray++Builtin.zeroCells (Value.int .i64 0).cells (G-(0+1))) 3)) row∧(v'.ownBlock=row∨∃ b,v'.ownBlock=some b∧W.heap.size≤b):=by
 obtain ⟨ho,hg⟩:=Ins.own_new (base:=base) (n:=1) (G:=G) W.drew (([]++[.int .i64 x]:List Value).toArray++Builtin.zeroCells (Value.int .i64 0).cells (G-(0+1))) hb hge hG (by rw [Array.size_append,Ins.zeros_size];show 1+(G-(0+1))=G;omega)
 refine ⟨_,rfl,Kd.R_of_own ?_ (fun _ _=>trivial),⟨(hg row).os,(hg row).tape,(hg row).output,(hg row).size,(hg row).block⟩,.inr ⟨_,rfl,Nat.le_refl _⟩⟩
 have e1:encs (Value.int .i64) [x]=(([]++[.int .i64 x]:List Value).toArray++Builtin.zeroCells (Value.int .i64 0).cells (G-(0+1))).toList.take 1:=by simp [encs]
 rw [e1];exact ho
set_option maxHeartbeats 1000000 in
theorem Ins.ins (base:Nat) (v:Value) (l:List Int) (x:Int) (vb:Nat) (W:World) (hR:Kd.R (Kd.int .i64) 3 W base (fun _=>True) v l) (hv:W.heap[vb]? = some (.cells #[.int .i64 x] 3 (0,0))) (hne:v.ownBlock≠some vb) (hb:base≤W.heap.size) (hl:l.length<17592186044416) :
  Calls Tryz.prog 161 #[v,.int .i64 0,.slice (some ⟨vb,0,none⟩) 1 1] W fun e w'=>∃ v':Value,e = .returned v'∧Kd.R (Kd.int .i64) 3 w' base (fun _=>True) v' (x :: l)∧W.grownBy w' v.ownBlock∧(v'.ownBlock=v.ownBlock∨∃ b,v'.ownBlock=some b∧W.heap.size≤b):=by
 have hown:=Kd.own_of_R hR
 have hvs:∀ j u,([.int .i64 x]:List Value)[j]? = some u→W.cell? ⟨vb,0+j,none⟩=some u:=fun j u hj=>by
  rw [Nat.zero_add,blk_cell hv];simpa using hj
 have h1v:∀ u ∈ ([.int .i64 x]:List Value),u.oneCell'=true:=fun u hu=>by rw [List.mem_singleton.1 hu];rfl
 have hG0:∀ n c:Nat,n≤17592186044416→grownCap W n c 3≤maxLen:=fun n c h=>grownCap_le_maxLen W n c 3 (by unfold maxLen;omega)
 obtain ⟨hlen,hcase⟩:=hown
 rcases hcase with ⟨rfl,h0⟩|⟨g,cap,cur,rfl,hbg,hh,hn,hcm,hcs,ht⟩
 ·obtain rfl:l=[]:=List.eq_nil_of_length_eq_zero h0
  refine (Ins.insert_end_grow none 0 0 vb 0 1 1 [] [.int .i64 x] W (by omega) (by omega) (by omega) (by omega) rfl rfl (fun _=>rfl) (fun a ha=>by cases ha) hvs h1v).mono ?_
  rintro e w' ⟨rfl,rfl⟩
  exact Ins.one_new hb x (grownCap_ge W (0+1) 0 3) (hG0 _ _ (by omega)) _
 ·have hcell:∀ j,W.cell? ⟨g,j,none⟩=cur[j]?:=fun j=>blk_cell hh j
  rw [Nat.mul_one] at hcs ht
  have hvg:vb≠g:=fun e=>hne (by rw [e];rfl)
  have hcsc:∀ j u,(encs (Value.int .i64) l)[j]? = some u→W.cell? ⟨g,0+j,none⟩=some u:=fun j u hj=>by
   rw [Nat.zero_add,hcell j,← Array.getElem?_toList]
   rw [← ht,List.getElem?_take] at hj
   split at hj
   ·exact hj
   ·cases hj
  have hcl:(encs (Value.int .i64) l).length=l.length:=encs_length _
  have h1c:∀ u ∈ encs (Value.int .i64) l,u.oneCell'=true:=fun u hu=>by
   simp only [encs,List.mem_map] at hu
   obtain ⟨z,_,rfl⟩:=hu;rfl
  have hgw:g<W.heap.size:=blk_lt hh
  by_cases hz:l.length=0
  ·obtain rfl:l=[]:=List.eq_nil_of_length_eq_zero hz
   by_cases hroom:0+1≤cap
   ·refine (Ins.insert_end_room g 0 0 cap vb 0 1 1 [.int .i64 x] W (by omega) hroom (by unfold maxLen at hcm;omega) rfl (fun j hj=>?_) (fun j hj=>blk_frozen hh _) hvs h1v).mono ?_
    ·have hj':j<1:=hj
     rw [hcell,Array.getElem?_eq_getElem (by omega)];rfl
    rintro e w' ⟨rfl,rfl⟩
    have h1:W.ownsRow base 3 1 (.slice (some ⟨g,0,none⟩) 1 cap) 1 (cur.toList.take 1):=⟨by have:=Array.length_toList (xs:=cur);rw [List.length_take];omega,.inr ⟨g,cap,cur,rfl,hbg,hh,by omega,hcm,by omega,by rw [Nat.mul_one]⟩⟩
    obtain ⟨h2,h3⟩:=Ins.own_setCells [.int .i64 x] 0 W _ h1 (by simp)
    refine ⟨_,rfl,Kd.R_of_own ?_ (fun _ _=>trivial),h3,.inl rfl⟩
    have e1:encs (Value.int .i64) [x]=(cur.toList.take 1).take 0++([.int .i64 x]++(cur.toList.take 1).drop (0+1)):=by
     rw [List.take_zero,List.drop_of_length_le (by rw [List.length_take];omega)];simp [encs]
    rw [e1];exact h2
   ·refine (Ins.insert_end_grow (some ⟨g,0,none⟩) 0 cap vb 0 1 1 [] [.int .i64 x] W (by omega) (by omega) (by omega) (by omega) rfl rfl (fun h=>by cases h) (fun a ha j u hj=>by simp at hj) hvs h1v).mono ?_
    rintro e w' ⟨rfl,rfl⟩
    exact Ins.one_new hb x (grownCap_ge W (0+1) cap 3) (hG0 _ _ (by omega)) _
  ·by_cases hroom:l.length+1≤cap
   ·refine (Ins.insert_shift g 0 l.length cap 0 vb 0 1 1 (encs (Value.int .i64) l) [.int .i64 x] W (by omega) (by omega) hroom (by unfold maxLen at hcm;omega) hvg hcl rfl hcsc (fun j hj=>?_) (fun j hj=>blk_frozen hh _) hvs h1c h1v 3 3 1 cur.size (by simp [World.shape?,hv]) (by simp [World.shape?,hh]) (by omega) (blk_frozen hv _) (blk_frozen hv _)).mono ?_
    ·rw [hcell,Array.getElem?_eq_getElem (by omega)];rfl
    rintro e w' ⟨rfl,rfl⟩
    have h1:W.drew.ownsRow base 3 1 (.slice (some ⟨g,0,none⟩) (l.length+1) cap) (l.length+1) (cur.toList.take (l.length+1)):=⟨by have:=Array.length_toList (xs:=cur);rw [List.length_take];omega,.inr ⟨g,cap,cur,rfl,hbg,hh,hroom,hcm,by omega,by rw [Nat.mul_one]⟩⟩
    have hd0:(encs (Value.int .i64) l).drop 0=encs (Value.int .i64) l:=rfl
    obtain ⟨h2,h3⟩:=Ins.own_setCells ((encs (Value.int .i64) l).drop 0) (0+(0+1)) W.drew _ h1 (by rw [hd0,hcl];omega)
    obtain ⟨h4,h5⟩:=Ins.own_setCells [.int .i64 x] (0+0) _ _ h2 (by simp)
    have hWd:W.grownBy W.drew (some g):=Ins.grown_drew (World.grownBy.refl W _)
    refine ⟨_,rfl,Kd.R_of_own ?_ (fun _ _=>trivial),World.grownBy.trans (World.grownBy.trans hWd h3) h5,.inl rfl⟩
    have e1:encs (Value.int .i64) (x :: l)=((cur.toList.take (l.length+1)).take (0+(0+1))++((encs (Value.int .i64) l).drop 0++(cur.toList.take (l.length+1)).drop (0+(0+1)+((encs (Value.int .i64) l).drop 0).length))).take (0+0)++([Value.int .i64 x]++((cur.toList.take (l.length+1)).take (0+(0+1))++((encs (Value.int .i64) l).drop 0++(cur.toList.take (l.length+1)).drop (0+(0+1)+((encs (Value.int .i64) l).drop 0).length))).drop (0+0+[Value.int .i64 x].length)):=by
     have hl1:((cur.toList.take (l.length+1)).take 1).length=1:=by have:=Array.length_toList (xs:=cur);rw [List.length_take,List.length_take];omega
     rw [hd0,hcl]
     simp only [Nat.zero_add,Nat.add_zero,List.take_zero,List.nil_append,List.length_singleton]
     rw [List.drop_of_length_le (show (cur.toList.take (l.length+1)).length≤1+l.length by rw [List.length_take];omega),List.append_nil,List.drop_append,hl1,List.drop_of_length_le (by omega)]
     simp [encs]
    rw [e1];exact h4
   ·have hgG:l.length+1≤grownCap W (l.length+1) cap 3:=grownCap_ge W _ _ _
    refine (Ins.insert_grow g 0 l.length cap 0 vb 0 1 1 (encs (Value.int .i64) l) [.int .i64 x] W (by omega) (by omega) hn (by omega) (by omega) hcl rfl hcsc hvs h1c h1v).mono ?_
    rintro e w' ⟨rfl,rfl⟩
    have hd0:(encs (Value.int .i64) l).drop 0=encs (Value.int .i64) l:=rfl
    obtain ⟨G,hGe⟩:∃ G,grownCap W (l.length+1) cap 3=G:=⟨_,rfl⟩
    have hGm:=hG0 (l.length+1) cap (by omega)
    rw [hGe] at hgG hGm ⊢
    obtain ⟨ROW,hROW⟩:∃ R,(((encs (Value.int .i64) l).take 0).toArray++Builtin.zeroCells (Value.int .i64 0).cells (l.length+1-0)++Builtin.zeroCells (Value.int .i64 0).cells (G-(l.length+1)))=R:=⟨_,rfl⟩
    have hRs:ROW.size=G:=by rw [← hROW,Array.size_append,Array.size_append,Ins.zeros_size,Ins.zeros_size];simp;omega
    rw [hROW]
    obtain ⟨ho,hg⟩:=Ins.own_new (base:=base) (n:=l.length+1) (G:=G) W ROW hb hgG hGm hRs
    have ho':(W.alloc (.cells ROW 3)).drew.ownsRow base 3 1 (.slice (some ⟨W.heap.size,0,none⟩) (l.length+1) G) (l.length+1) (ROW.toList.take (l.length+1)):=ho
    obtain ⟨h2,h3⟩:=Ins.own_setCells [.int .i64 x] 0 _ _ ho' (by simp)
    have h2':((W.alloc (.cells ROW 3)).drew.setCells W.heap.size 0 [.int .i64 x]).drew.ownsRow base 3 1 (.slice (some ⟨W.heap.size,0,none⟩) (l.length+1) G) (l.length+1) ((ROW.toList.take (l.length+1)).take 0++([Value.int .i64 x]++(ROW.toList.take (l.length+1)).drop (0+[Value.int .i64 x].length))):=h2
    obtain ⟨h4,h5⟩:=Ins.own_setCells ((encs (Value.int .i64) l).drop 0) (0+1) _ _ h2' (by rw [hd0,hcl];omega)
    refine ⟨_,rfl,Kd.R_of_own ?_ (fun _ _=>trivial),Ins.grown_new (Ins.grown_drew (Ins.grown_new (Ins.grown_drew (hg _)) h3 (Nat.le_refl _))) h5 (Nat.le_refl _),.inr ⟨_,rfl,Nat.le_refl _⟩⟩
    have hRl:(ROW.toList.take (l.length+1)).length=l.length+1:=by have:=Array.length_toList (xs:=ROW);rw [List.length_take];omega
    have e1:encs (Value.int .i64) (x :: l)=((ROW.toList.take (l.length+1)).take 0++([Value.int .i64 x]++(ROW.toList.take (l.length+1)).drop (0+[Value.int .i64 x].length))).take (0+1)++((encs (Value.int .i64) l).drop 0++((ROW.toList.take (l.length+1)).take 0++([Value.int .i64 x]++(ROW.toList.take (l.length+1)).drop (0+[Value.int .i64 x].length))).drop (0+1+((encs (Value.int .i64) l).drop 0).length)):=by
     rw [hd0,hcl]
     simp only [Nat.zero_add,List.take_zero,List.nil_append,List.length_singleton]
     obtain ⟨Y,hY⟩:∃ Y,(ROW.toList.take (l.length+1)).drop 1=Y:=⟨_,rfl⟩
     have hYl:Y.length=l.length:=by rw [← hY,List.length_drop,hRl];rfl
     rw [hY,List.drop_of_length_le (show ([Value.int .i64 x]++Y).length≤1+l.length by rw [List.length_append,hYl];exact Nat.le_refl _),List.append_nil,List.take_append_of_le_length (by simp)]
     simp [encs]
    rw [e1];exact h4
end
end Go.Proofs
