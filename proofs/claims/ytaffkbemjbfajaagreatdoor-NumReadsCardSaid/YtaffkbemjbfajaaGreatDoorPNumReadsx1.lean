-- By a program of this session: functions as plain Lean functions, each with its proof over the machine.
import Derived.Test.YtaffkbemjbfajaaGreatDoorPNumReadsx0
namespace Go.Proofs.YtaffkbemjbfajaaGreatDoor.PNumReads
open Go.RowKit Go.Proofs.Tryz Go.Proofs.YtaffkbemjbfajaaGreatDoorW.PrintWords Go.Proofs.YtaffkbemjbfajaaGreatDoorW.PrintLast Go.Proofs.YtaffkbemjbfajaaGreatDoorW.PrintMore
attribute [local go_sem] max2_int min2_int max_two min_two max_three min_three max_four min_four
set_option linter.unusedVariables false
set_option linter.unusedSimpArgs false
set_option maxHeartbeats 8000000
set_option maxRecDepth 100000
section
namespace Back
def seq (l:List Int) (k:Nat):List (Int×Int):=(List.range k).map fun (j:Nat)=>((l.length:Int)-1-(j:Int),(l[l.length-1-j]?).getD 0)
theorem seq_succ (l:List Int) (k:Nat):seq l (k+1)=seq l k++[((l.length:Int)-1-(k:Int),(l[l.length-1-k]?).getD 0)]:=by simp [seq,List.range_succ]
theorem seq_length (l:List Int) (k:Nat):(seq l k).length=k:=by simp [seq]
def Keep (n₀ Bs:Nat) (W W':World):Prop:=Below n₀ W W'∧∀ v,W.cell? ⟨Bs,0,none⟩=some v→W'.cell? ⟨Bs,0,none⟩=some v
theorem Keep.refl (n₀ Bs:Nat) (W:World):Keep n₀ Bs W W:=⟨Below.refl _ _,fun _ h=>h⟩
theorem Keep.trans {n₀ Bs:Nat} {A B C:World} (h:Keep n₀ Bs A B) (k:Keep n₀ Bs B C):Keep n₀ Bs A C:=⟨h.1.trans k.1,fun v e=>k.2 v (h.2 v e)⟩
theorem Keep.put {n₀ Bs:Nat} {w:World} (hn:n₀≤w.heap.size) (W:World) (l:Nat) (o o':Obj) (hl:w.heap.size≤l) (h:W.heap[l]? = some o) (hc:o.isCells=false) (hw:o.isWalk=false):Keep n₀ Bs W (W.putObj l o') :=
 ⟨belowK_b hn W l o o' hl h hc hw,fun v e=>cell_kept e (grownBy_putObj' W l o') (fun r e=>by cases e;exact ⟨o,h,hc⟩)⟩
attribute [local go_sem] Oper.semAt_some
set_option maxRecDepth 100000 in
set_option maxHeartbeats 2000000 in
theorem back1_in (F:Fence) (n:Nat) (h8:F.fn 204) (hro:F.round=none) (hn:1≤n) (l Bs n₀ cap:Nat) (ad:Addr) (zs:List Int) (hreach:zs.length≤9223372036854775807) (J Jx:List (Int×Int)→World→Prop)
  (hY:∀ pre x W,J pre W→pre.length<zs.length→YieldAt F (n-1) Tryz.prog l #[.int .i64 x.1,.int .u32 x.2] W fun e W' =>
   (e = .returned (.bool true)∧J (pre++[x]) W'∧Keep n₀ Bs W W')∨(e = .returned (.bool false)∧Jx (pre++[x]) W'))
  (W:World) (hBs:W.cell? ⟨Bs,0,none⟩=some (.slice (some ad) zs.length cap)) (hb:0<zs.length→ad.block<n₀) (hc:∀ j,j<zs.length→W.cell? (ad.add j)=some (.int .u32 (zs[j]?.getD 0))) (h0:J [] W) :
  CallsIn F n Tryz.prog 204 #[.func (.yield l) #[] #[],.pointer (some ⟨Bs,0,none⟩)] W fun e W'=>(∃ v,e = .returned v) ∧
   ((∃ ys,ys=seq zs zs.length∧J ys W')∨(∃ pre,(∃ k,k≤zs.length∧pre=seq zs k)∧Jx pre W')):=by
 refine callsIn_of_wp func204 rfl h8 ?_ hro
 simp only [ntmps204,List.size_toArray,List.length_cons,List.length_nil,Nat.reduceAdd,Nat.reduceSub,Array.replicate_succ,Array.replicate_zero,List.push_toArray,List.append_toArray,List.nil_append,List.cons_append]
 gi_wp2
 gi_loopw [3] (fun i wr=>∃ k:Nat,k≤zs.length∧i = .int .i64 ((zs.length:Int)-1-k)∧J (seq zs k) wr∧Keep n₀ Bs W wr)
  (fun i _=>(intOf i+1).toNat)
 case atStart=>exact ⟨0,Nat.zero_le _,by simp,h0,Keep.refl _ _ _⟩
 case round =>
  obtain ⟨k,hk,rfl,hJs,hnx⟩:=hrel
  have hbs:=hnx.2 _ hBs
  by_cases hlt:k<zs.length
  case neg=>
   obtain rfl:k=zs.length:=by omega
   gi_wp2
   go_end0
   exact ⟨⟨_,rfl⟩,.inl ⟨_,rfl,hJs⟩⟩
  have hcx:wr.cell? (ad.add (zs.length-1-k))=some (.int .u32 (zs[zs.length-1-k]?.getD 0)):=(hnx.1.cell (p:=ad.add (zs.length-1-k)) (by unfold Addr.add;split <;> exact hb (by omega))).trans (hc _ (by omega))
  obtain ⟨fn,tmps,assign,body,hy,hR⟩:=hY _ ((zs.length:Int)-1-k,zs[zs.length-1-k]?.getD 0) wr hJs (by rw [seq_length];exact hlt)
  dsimp only at hy
  have hidx:((zs.length:Int)-1-k).toNat=zs.length-1-k:=by omega
  gi_wp2
  refine hR.mono ?_
  rintro e W3 (⟨rfl,hJ3,hk3⟩|⟨rfl,hJx3⟩)
  ·gi_wp2
   go_roundw
   case rel=>exact ⟨k+1,by omega,by congr 1;omega,by rw [seq_succ];exact hJ3,hnx.trans hk3⟩
   case measure=>simp [intOf];omega
  ·gi_wp2
   refine bodyPost_ret (results_none rfl _ _ _) rfl ?_
   exact ⟨⟨_,rfl⟩,.inr ⟨_,⟨k+1,by omega,(seq_succ _ _).symm⟩,hJx3⟩⟩
set_option maxRecDepth 100000 in
set_option maxHeartbeats 1000000 in
theorem back1_nil_in (F:Fence) (n:Nat) (h8:F.fn 204) (hro:F.round=none) (l Bs:Nat) (A:Option Addr) (cap:Nat) (J:List (Int×Int)→World→Prop) (W:World) (hBs:W.cell? ⟨Bs,0,none⟩=some (.slice A 0 cap)) (h0:J [] W) :
  CallsIn F n Tryz.prog 204 #[.func (.yield l) #[] #[],.pointer (some ⟨Bs,0,none⟩)] W fun e W'=>(∃ v,e = .returned v)∧J [] W':=by
 refine callsIn_of_wp func204 rfl h8 ?_ hro
 simp only [ntmps204,List.size_toArray,List.length_cons,List.length_nil,Nat.reduceAdd,Nat.reduceSub,Array.replicate_succ,Array.replicate_zero,List.push_toArray,List.append_toArray,List.nil_append,List.cons_append]
 gi_wp2
 gi_loopw [3] (fun i wr=>i = .int .i64 (-1)∧J [] wr) (fun _ _=>0)
 case atStart=>exact ⟨rfl,h0⟩
 case round =>
  obtain ⟨rfl,hJs⟩:=hrel
  gi_wp2
  go_end0
  exact ⟨⟨_,rfl⟩,hJs⟩
set_option maxHeartbeats 1000000 in
theorem back_in (F:Fence) (n:Nat) (h6:F.fn 181) (hro:F.round=none) (a:Option Addr) (len cap:Nat) (w:World) :
  CallsIn F n Tryz.prog 181 #[.slice a len cap] w fun e w'=>e = .returned (.func (.func 204) #[] #[.pointer (some ⟨w.heap.size,0,none⟩)])∧w'=w.alloc (.cells #[.slice a len cap] 101):=by
 refine callsIn_of_wp func181 rfl h6 ?_ hro
 simp only [ntmps181,List.size_toArray,List.length_cons,List.length_nil,Nat.reduceAdd,Nat.reduceSub,Array.replicate_succ,Array.replicate_zero,List.push_toArray,List.append_toArray,List.nil_append,List.cons_append]
 gi_wp2
 go_ret
 exact ⟨rfl,rfl⟩
theorem back_stops (F:Fence) (n:Nat) (h8:F.fn 204) (hro:F.round=none) (hn:1≤n) (Bs n₀ cap:Nat) (A:Option Addr) (zs:List Int) (w0 w:World) (hr:Kd.C (Kd.int .u32) w0 A zs.length zs) (hn0:n₀ = w0.heap.size) (hle:n₀≤w.heap.size) (hbl:Below n₀ w0 w) (hBs:Bs<w.heap.size)
  (hc:w.cell? ⟨Bs,0,none⟩=some (.slice A zs.length cap)) :
  SeqStopsK F n Tryz.prog 204 #[.pointer (some ⟨Bs,0,none⟩)] (fun x:Int×Int=>#[Value.int .i64 x.1,Value.int .u32 x.2]) (Keep n₀ Bs) (fun ys=>ys=seq zs zs.length)
   (fun pre=>∃ k,k≤zs.length∧pre=seq zs k) zs.length w:=fun l J Jx W hW _ _ hY h0=>by
 have hc':=(hW.cell (p:=⟨Bs,0,none⟩) hBs).trans hc
 rcases Nat.eq_zero_or_pos zs.length with hz|hz
 ·obtain rfl:zs=[]:=List.eq_nil_of_length_eq_zero hz
  exact (back1_nil_in F n h8 hro l Bs A cap J W hc' h0).mono fun e W' ⟨he,hj⟩=>⟨he,.inl ⟨_,rfl,hj⟩⟩
 ·obtain ⟨_,hm,hx⟩:=hr
  obtain ⟨ad,rfl,hcell0⟩:=hx hz
  have hcell:∀ j,j<zs.length→w0.cell? (ad.add j)=some (.int .u32 (zs.getD j 0)):=fun j hj=>by
   obtain ⟨c,_,hR,hcl⟩:=hcell0 j (zs.getD j 0) (by rw [List.getD_eq_getElem?_getD,List.getElem?_eq_getElem hj];rfl)
   have e:c=[.int .u32 (zs.getD j 0)]:=hR
   subst e
   have:=hcl 0 _ rfl
   have h1:(Kd.int .u32).sz=1:=rfl
   rw [h1,Nat.mul_one,Nat.add_zero] at this
   exact this
  have hlt:ad.block<n₀:=by have:=World.block_lt_of_cell? w0 _ (hcell 0 hz);rw [hn0];unfold Addr.add at this;revert this;split <;> exact id
  refine back1_in F n h8 hro hn l Bs n₀ cap ad zs hm J Jx hY W hc' (fun _=>hlt) (fun j hj=>?_) h0
  have h1:=hcell j hj
  have hj':(ad.add j).block<n₀:=by unfold Addr.add;split <;> exact hlt
  rw [((hbl.trans (hW.mono hle)).cell (p:=ad.add j) hj'),h1,List.getD_eq_getElem?_getD]
end Back
def Back.wideW (l:List Int):Int:=l.foldr (fun d n=>IntKind.u64.wrap (IntKind.u64.wrap (n*1000000000)+IntKind.u64.wrap d)) 0
def Back.acc (l:List (Int×Int)):Int:=l.foldl (fun n p=>IntKind.u64.wrap (IntKind.u64.wrap (n*1000000000)+IntKind.u64.wrap p.2)) 0
theorem Back.acc_snoc (l:List (Int×Int)) (p:Int×Int):Back.acc (l++[p])=IntKind.u64.wrap (IntKind.u64.wrap (Back.acc l*1000000000)+IntKind.u64.wrap p.2):=by simp [Back.acc]
theorem Back.seq_all (l:List Int):(Back.seq l l.length).map (·.2)=l.reverse:=by
 apply List.ext_getElem
 ·simp [Back.seq]
 ·intro i h1 h2
  simp [Back.seq] at h1 ⊢
  rw [List.getElem?_eq_getElem (by omega)];simp
theorem Back.acc_all (l:List Int):Back.acc (Back.seq l l.length)=Back.wideW l:=by
 have h:Back.acc (Back.seq l l.length)=((Back.seq l l.length).map (·.2)).foldl (fun n d=>IntKind.u64.wrap (IntKind.u64.wrap (n*1000000000)+IntKind.u64.wrap d)) 0:=by
  rw [List.foldl_map];rfl
 rw [h,Back.seq_all,List.foldl_reverse];rfl
def YS.f (l0:List Int):Option Int:=some (Back.wideW l0)
attribute [local go_sem] Oper.semAt_some
set_option maxHeartbeats 2000000 in
set_option maxRecDepth 100000 in
theorem YS.calls (A0:Option Addr) (c0:Nat) (l0:List Int) (r:Int) (w:World) (hr0:Kd.C (Kd.int .u32) w A0 l0.length l0) (hc0:l0.length≤c0) (h:YS.f l0=some r) :
  Calls Tryz.prog 145 #[.slice A0 l0.length c0] w fun e w'=>e = .returned (.int .u64 r)∧Below w.heap.size w w':=by
 unfold YS.f at h
 have hres:=Option.some.inj h
 clear h
 refine (callsIn_wide (n:=3)).1 ?_
 have h1:1≤3:=by omega
 refine callsIn_of_wp_marks func145 rfl trivial ?_ rfl
 simp only [ntmps145,List.size_toArray,List.length_cons,List.length_nil,Nat.reduceAdd,Nat.reduceSub,Array.replicate_succ,Array.replicate_zero,List.push_toArray,List.append_toArray,List.nil_append,List.cons_append]
 have HC:=aZ hr0
 have HE:=aZ hres
 clear hr0 hres hc0
 gi_wp2_with (fail)
 refine ⟨trivial,?_⟩
 refine (Back.back_in _ 2 trivial rfl _ _ _ _).mono ?_
 rintro e w1 ⟨rfl,rfl⟩
 gi_wp2
 have bS:=Boxed.new w 95 (.int .u64 0)
 have bN:=Boxed.new (w.alloc (.cells #[.int .u64 0] 95)) 101 (.slice A0 l0.length c0)
 rw [World.size_alloc] at bN
 have hB0:Below w.heap.size w ((w.alloc (.cells #[.int .u64 0] 95)).alloc (.cells #[.slice A0 l0.length c0] 101)):=((Below.refl _ w).alloc (Nat.le_refl _) _).alloc (by simp) _
 refine wpIn_rangeFunc_ownG rfl h1 (gf:=204) (lb:=#[.pointer (some ⟨w.heap.size+1,0,none⟩)]) rfl trivial (enters_of func204 (by kernel_rfl) rfl)
  (Back.back_stops Fence.wide (3-1) trivial rfl (by omega) (w.heap.size+1) w.heap.size c0 A0 l0 w _ HC.out rfl (by simp;omega) hB0 (by simp) bN.cell) Back.Keep.trans (Back.Keep.put (by simp;omega)) (Below.refl _ _) (fun _=>rfl)
  (fun pre W=>(W.cell? ⟨w.heap.size,0,none⟩=some (.int .u64 (Back.acc pre))∧W.frozen? ⟨w.heap.size,0,none⟩=false)∧Below w.heap.size w W)
  (fun _ _ _=>False)
  (OwnFrom.and (Own.from (fun s A B row hs hg hr=>⟨cell_kept hs.1 hg hr,(frozen_kept hs.1 hg hr).trans hs.2⟩) _) (ownFrom_below (Nat.le_refl _) (by simp;omega)))
  (fun _ _ _ _ _ hs _ _=>hs)
  ⟨⟨(bS.alloc _).cell,(bS.alloc _).frozen⟩,hB0⟩
  (fun x=>{ tmps:=#[.slice A0 l0.length c0,undef,.int .u64 0,.pointer (some ⟨w.heap.size,0,none⟩),undef,.int .u32 x.2,.slice A0 l0.length c0,.func (.func 204) #[] #[.pointer (some ⟨w.heap.size+1,0,none⟩)],.int .i64 x.1,.int .u32 x.2,undef,undef,undef,undef,undef,undef],defers:=[] }) ?assign ?body ?done ?stop
 case assign =>
  intro l x W K hK
  gi_wp2
  exact hK
 case body =>
  rintro l pre x W ⟨⟨hc,hf⟩,hB⟩ _
  gi_wp2
  refine ⟨(KeepsOthers.setCell _ _ _).from _,⟨(Below.refl w.heap.size W).setCell (p:=⟨w.heap.size,0,none⟩) (Nat.le_refl _) _,fun v e=>?_⟩,⟨?_,by rw [World.frozen?_setCell];exact hf⟩,hB.setCell (p:=⟨w.heap.size,0,none⟩) (Nat.le_refl _) _⟩
  ·rw [← e];exact World.cell?_of_block (Below.heap_setCell W ⟨w.heap.size,0,none⟩ _ (w.heap.size+1) (by simp))
  ·rw [Back.acc_snoc];exact World.cell?_setCell_same' _ _ _ (by rw [hc];rfl)
 case done =>
  rintro D ys W hD rfl ⟨⟨hc,_⟩,hB⟩ hK
  gi_wp2
  refine ⟨by simp,.inl ⟨_,_,rfl,run_takeDeferred hK,?_⟩⟩
  exact ⟨_,results_tmp rfl _ _ _,by rw [Back.acc_all,HE.out];rfl,hB.trans (belowK_b (w:=w) (Nat.le_refl _) W D _ _ (by simp at hD;omega) hK rfl rfl)⟩
 case stop =>
  rintro D c pre W _ _ h _
  exact h.elim
end
mutual
def Yb.l0:Nat→List Int→List Int→Option (List Int)
 | 0,_,_=>none
 | k+1,x0,x1=>if (x0.length:Int)>2 then (Yb.j1 k x0 x1 true) else (Yb.j1 k x0 x1 (decide ((x1.length:Int)>2)))
def Yb.j1:Nat→List Int→List Int→Bool→Option (List Int)
 | 0,_,_,_=>none
 | k+1,x0,x1,x16=>if x16=true then (if (x1.length:Int)=0 then ((YC.f x0).bind fun t167=>(some t167)) else ((Yn.f k x0 x1).bind fun bt170=>(Yb.l0 k x1 bt170.2))) else ((YS.f x0).bind fun t176=>((YS.f x1).bind fun t177=>(Yb.l1 k t176 t177)))
def Yb.l1:Nat→Int→Int→Option (List Int)
 | 0,_,_=>none
 | k+1,x7,x8=>if x8=0 then ((Yt.f k x7).bind fun t178=>(some t178)) else (Yb.l1 k x8 (Int.tmod x7 x8))
end
def Yb.f (k:Nat) (l0:List Int) (l1:List Int):Option (List Int):=Yb.l0 k l0 l1
theorem Yb.mono_l:∀ k,(∀ y0 y1,LeO (Yb.l0 k y0 y1) (Yb.l0 (k+1) y0 y1))∧(∀ y0 y1 y2,LeO (Yb.j1 k y0 y1 y2) (Yb.j1 (k+1) y0 y1 y2))∧(∀ y0 y1,LeO (Yb.l1 k y0 y1) (Yb.l1 (k+1) y0 y1))
 | 0=>⟨fun _ _ r h=>by simp [Yb.l0] at h,fun _ _ _ r h=>by simp [Yb.j1] at h,fun _ _ r h=>by simp [Yb.l1] at h⟩
 | k+1=>by
  obtain ⟨ih0,ih1,ih2⟩:=Yb.mono_l k
  refine ⟨?_,?_,?_⟩
  ·intro y0 y1
   unfold Yb.l0
   have m0:=Yn.mono
   have m1:=Yt.mono
   exact zM
  ·intro y0 y1 y2
   unfold Yb.j1
   have m0:=Yn.mono
   have m1:=Yt.mono
   exact zM
  ·intro y0 y1
   unfold Yb.l1
   have m0:=Yn.mono
   have m1:=Yt.mono
   exact zM
theorem Yb.mono:∀ a0 a1 k,LeO (Yb.f k a0 a1) (Yb.f (k+1) a0 a1):=by
 intro a0 a1 k
 obtain ⟨ih0,ih1,ih2⟩:=Yb.mono_l k
 unfold Yb.f
 have m0:=Yn.mono
 have m1:=Yt.mono
 exact zM
theorem Yb.calls (k:Nat) (P0_:Nat→Prop) (A0:Option Addr) (c0:Nat) (l0:List Int) (P1_:Nat→Prop) (A1:Option Addr) (c1:Nat) (l1:List Int) (r:List Int) (w:World) (hs0:Kd.V (Kd.int .u32) 97 w w.heap.size (fun k_=>P0_ k_) (.slice A0 l0.length c0) l0) (hs1:Kd.V (Kd.int .u32) 97 w w.heap.size (fun k_=>P1_ k_) (.slice A1 l1.length c1) l1) (h:Yb.f k l0 l1=some r) :
  Calls Tryz.prog 107 #[.slice A0 l0.length c0,.slice A1 l1.length c1] w fun e w'=>∃ v0_:Value,e = .returned (v0_)∧Kd.R (Kd.int .u32) 97 w' w.heap.size (fun k_=>(w.heap.size≤k_)) v0_ r∧Below w.heap.size w w':=by
 have HO0:=aZ (show Kd.V (Kd.int .u32) 97 w w.heap.size (fun k_=>((P0_ k_∨P1_ k_)∨w.heap.size≤k_)) (.slice A0 l0.length c0) l0 from Kd.V_mono hs0 (fun k_ hk=>.inl (.inl hk)))
 have HO1:=aZ (show Kd.V (Kd.int .u32) 97 w w.heap.size (fun k_=>((P0_ k_∨P1_ k_)∨w.heap.size≤k_)) (.slice A1 l1.length c1) l1 from Kd.V_mono hs1 (fun k_ hk=>.inl (.inr hk)))
 have HB:=aZ (Below.refl w.heap.size w)
 have H:=h
 unfold Yb.f at H
 clear h
 have H':=aZ H
 clear H
 go_enter func107,ntmps107
 go_wp2
 repeat (go_quiet (fail);try go_wp2)
 go_loopg [0,1] k (fun kq v0 v1 w'=>∃ (x0_1:List Int) (x1_1:List Int),Aside0 (Yb.l0 kq x0_1 x1_1=some r)∧Aside0 (kq≤k)∧Aside0 (Kd.V (Kd.int .u32) 97 w' w.heap.size (fun k_=>((P0_ k_∨P1_ k_)∨w.heap.size≤k_)) v0 x0_1)∧Aside0 (Kd.V (Kd.int .u32) 97 w' w.heap.size (fun k_=>((P0_ k_∨P1_ k_)∨w.heap.size≤k_)) v1 x1_1)∧Aside0 (Below w.heap.size w w'))
 case atStart=>exact ⟨(l0),(l1),H',⟨Nat.le_refl _⟩,⟨zV HO0⟩,⟨zV HO1⟩,⟨bw⟩⟩
 case round =>
  clear H'
  try clear c1
  obtain ⟨x0_1,x1_1,HA,HK1,HO_0,HO_1,HB⟩:=hrel
  cases gk with
  | zero=>exact absurd HA.out (by simp [Yb.l0])
  | succ k1 =>
   have H:=HA.out
   clear HA
   simp only [Yb.l0] at H
   have HC3:=aZ H
   clear H
   go_upto_region 1 with (fail)
   repeat (go_quiet (fail);go_upto_region 1 with (fail))
   go_cut [16] (fun v16 wc=>∃ (kq:Nat) (x16_2:Bool),v16 = .bool x16_2∧Aside0 (Yb.j1 kq x0_1 x1_1 x16_2=some r)∧Aside0 (kq≤k1)∧Aside0 (Kd.V (Kd.int .u32) 97 wc w.heap.size (fun k_=>((P0_ k_∨P1_ k_)∨w.heap.size≤k_)) u0 x0_1)∧Aside0 (Kd.V (Kd.int .u32) 97 wc w.heap.size (fun k_=>((P0_ k_∨P1_ k_)∨w.heap.size≤k_)) u1 x1_1)∧Aside0 (Below w.heap.size w wc))
   case first =>
    have H:=HC3.out
    clear HC3
    by_cases c4:(x0_1.length:Int)>2
    case neg=>
     rw [if_neg c4] at H
     have c4b0:=decide_eq_false c4
     have c4b1:decide (2<x0_1.length)=false:=decide_eq_false (by omega)
     clear c4
     (first|rw [c4b0]|(simp only [i64_w,i32_w];rw [c4b0])|skip)
     have H':=aZ H
     clear H
     obtain ⟨Ao6,co6,rfl⟩:=Kd.V_slice HO_0.out
     obtain ⟨Ao7,co7,rfl⟩:=Kd.V_slice HO_1.out
     go_wp2
     repeat (go_quiet (fail);try go_wp2)
     go_meet
     case rel=>exact ⟨_,(decide ((x1_1.length:Int)>2)),zs,H',⟨by have:=HK1.out;first|omega|exact Nat.le_refl _⟩,⟨zV HO_0⟩,⟨zV HO_1⟩,⟨bw⟩⟩
    rw [if_pos c4] at H
    have c4b0:=decide_eq_true c4
    have c4b1:decide (2<x0_1.length)=true:=decide_eq_true (by omega)
    clear c4
    (first|rw [c4b0]|(simp only [i64_w,i32_w];rw [c4b0])|skip)
    have H':=aZ H
    clear H
    obtain ⟨Ao5,co5,rfl⟩:=Kd.V_slice HO_0.out
    go_wp2
    repeat (go_quiet (fail);try go_wp2)
    go_meet
    case rel=>exact ⟨_,(true),zs,H',⟨by have:=HK1.out;first|omega|exact Nat.le_refl _⟩,⟨zV HO_0⟩,⟨zV HO_1⟩,⟨bw⟩⟩
   case rest =>
    clear HC3
    try clear c1
    try clear c4
    try clear c4b0
    try clear c4b1
    obtain ⟨kq,x16_2,rfl,HA,HJ2,HO_0,HO_1,HB⟩:=hcut
    cases kq with
    | zero=>exact absurd HA.out (by simp [Yb.j1])
    | succ kj2 =>
     have H:=HA.out
     clear HA
     simp only [Yb.j1] at H
     by_cases c8:x16_2=true
     case neg=>
      replace c8:=Bool.eq_false_iff.mpr c8
      subst c8
      have H1:((YS.f x0_1).bind fun t176=>((YS.f x1_1).bind fun t177=>(Yb.l1 kj2 t176 t177)))=some r:=by rw [if_neg (show ¬ (false=true) by decide)] at H;exact H
      clear H
      have H:=H1
      clear H1
      obtain ⟨t176,A18,H⟩:=zB H
      obtain ⟨t177,A19,H⟩:=zB H
      have H':=aZ H
      clear H
      obtain ⟨Ao20,co20,rfl⟩:=Kd.V_slice HO_0.out
      go_wp2_with (first|(go_at_call 145;(with_reducible refine (YS.calls _ _ x0_1 t176 _ ?side1 ?side2 A18.out).mono ?_);(case side1=>exact zr HO_0);(case side2=>exact zk HO_0);rintro e w21 ⟨rfl,hb⟩;replace HO_0:=yV HO_0 hb;replace HO_1:=yV HO_1 hb;replace HB:=sB hb;clear hb;obtain ⟨Ao22,co22,rfl⟩:=Kd.V_slice HO_1.out)|(go_at_call 145;(with_reducible refine (YS.calls _ _ x1_1 t177 _ ?side1 ?side2 A19.out).mono ?_);(case side1=>exact zr HO_1);(case side2=>exact zk HO_1);rintro e w23 ⟨rfl,hb⟩;replace HO_0:=yV HO_0 hb;replace HO_1:=yV HO_1 hb;replace HB:=sB hb;clear hb))
      repeat (go_quiet (first|(go_at_call 145;(with_reducible refine (YS.calls _ _ x0_1 t176 _ ?side1 ?side2 A18.out).mono ?_);(case side1=>exact zr HO_0);(case side2=>exact zk HO_0);rintro e w21 ⟨rfl,hb⟩;replace HO_0:=yV HO_0 hb;replace HO_1:=yV HO_1 hb;replace HB:=sB hb;clear hb;obtain ⟨Ao22,co22,rfl⟩:=Kd.V_slice HO_1.out)|(go_at_call 145;(with_reducible refine (YS.calls _ _ x1_1 t177 _ ?side1 ?side2 A19.out).mono ?_);(case side1=>exact zr HO_1);(case side2=>exact zk HO_1);rintro e w23 ⟨rfl,hb⟩;replace HO_0:=yV HO_0 hb;replace HO_1:=yV HO_1 hb;replace HB:=sB hb;clear hb));try go_wp2_with (first|(go_at_call 145;(with_reducible refine (YS.calls _ _ x0_1 t176 _ ?side1 ?side2 A18.out).mono ?_);(case side1=>exact zr HO_0);(case side2=>exact zk HO_0);rintro e w21 ⟨rfl,hb⟩;replace HO_0:=yV HO_0 hb;replace HO_1:=yV HO_1 hb;replace HB:=sB hb;clear hb;obtain ⟨Ao22,co22,rfl⟩:=Kd.V_slice HO_1.out)|(go_at_call 145;(with_reducible refine (YS.calls _ _ x1_1 t177 _ ?side1 ?side2 A19.out).mono ?_);(case side1=>exact zr HO_1);(case side2=>exact zk HO_1);rintro e w23 ⟨rfl,hb⟩;replace HO_0:=yV HO_0 hb;replace HO_1:=yV HO_1 hb;replace HB:=sB hb;clear hb)))
      go_loopg [7,8] kj2 (fun kq v7 v8 w'=>∃ (x7_3:Int) (x8_3:Int),v7 = .int .u64 x7_3∧v8 = .int .u64 x8_3∧Aside0 (Yb.l1 kq x7_3 x8_3=some r)∧Aside0 (kq≤kj2)∧Aside0 (Below w.heap.size w w'))
      case atStart=>exact ⟨(t176),(t177),zs,zs,H',⟨Nat.le_refl _⟩,⟨bw⟩⟩
      case round =>
       clear H'
       try clear c1
       try clear c4
       try clear c4b0
       try clear c4b1
       try clear c8
       try clear c9
       try clear c9b0
       try clear c9b1
       try clear c9b2
       try clear c10
       obtain ⟨x7_3,x8_3,rfl,rfl,HA,HK3,HB⟩:=hrel
       cases gk with
       | zero=>exact absurd HA.out (by simp [Yb.l1])
       | succ k3 =>
        have H:=HA.out
        clear HA
        simp only [Yb.l1] at H
        by_cases c24:x8_3=0
        case neg=>
         rw [if_neg c24] at H
         obtain ⟨c24b0,c24b1⟩:=zX c24
         have H':=aZ H
         clear H
         go_wp2
         repeat (go_quiet (fail);try go_wp2)
         go_roundg k3
         case measure=>have:=HK1.out;have:=HJ2.out;have:=HK3.out;omega
         case rel=>exact ⟨(x8_3),(Int.tmod x7_3 x8_3),zs,zs,H',⟨by have:=HK1.out;have:=HJ2.out;have:=HK3.out;omega⟩,⟨bw⟩⟩
        rw [if_pos c24] at H
        obtain ⟨c24b0,c24b1⟩:=zY c24
        clear c24
        obtain ⟨t178,A25,H⟩:=zB H
        obtain rfl:=Option.some.inj H
        go_wp2_with (first|(go_at_call 136;(with_reducible refine (Yt.calls k3 x7_3 t178 _ A25.out).mono ?_);rintro e w26 ⟨v179,rfl,ho0,hb⟩;have HO180:=aZ (Kd.R_lower (Kd.R_newM (M:=fun k_=>(w.heap.size≤k_)) ho0 bs (fun k_ h_=>h_)) bs);replace HB:=sB hb;clear hb ho0))
        repeat (go_quiet (first|(go_at_call 136;(with_reducible refine (Yt.calls k3 x7_3 t178 _ A25.out).mono ?_);rintro e w26 ⟨v179,rfl,ho0,hb⟩;have HO180:=aZ (Kd.R_lower (Kd.R_newM (M:=fun k_=>(w.heap.size≤k_)) ho0 bs (fun k_ h_=>h_)) bs);replace HB:=sB hb;clear hb ho0));try go_wp2_with (first|(go_at_call 136;(with_reducible refine (Yt.calls k3 x7_3 t178 _ A25.out).mono ?_);rintro e w26 ⟨v179,rfl,ho0,hb⟩;have HO180:=aZ (Kd.R_lower (Kd.R_newM (M:=fun k_=>(w.heap.size≤k_)) ho0 bs (fun k_ h_=>h_)) bs);replace HB:=sB hb;clear hb ho0)))
        go_ret
        exact ⟨_,ze,by (with_reducible repeat (first|apply Kd.R_alloc|apply Kd.R_drewN|apply Kd.R_drew));exact Kd.R_mono HO180.out (fun _ hk=>hk.1),bw⟩
     subst c8
     have H1:(if (x1_1.length:Int)=0 then ((YC.f x0_1).bind fun t167=>(some t167)) else ((Yn.f kj2 x0_1 x1_1).bind fun bt170=>(Yb.l0 kj2 x1_1 bt170.2)))=some r:=by rw [if_pos rfl] at H;exact H
     clear H
     have H:=H1
     clear H1
     by_cases c9:(x1_1.length:Int)=0
     case neg=>
      rw [if_neg c9] at H
      obtain ⟨c9b0,c9b1⟩:=zX c9
      have c9b2:¬ (x1_1=[]):=fun h_=>c9 (by rw [h_];rfl)
      obtain ⟨⟨t170,t173⟩,A14,H⟩:=zB H
      (try dsimp only at H)
      have H':=aZ H
      clear H
      obtain ⟨Ao15,co15,rfl⟩:=Kd.V_slice HO_1.out
      obtain ⟨Ao16,co16,rfl⟩:=Kd.V_slice HO_0.out
      go_wp2_with (first|(go_at_call 144;(with_reducible refine (Yn.calls kj2 _ _ x0_1 _ _ x1_1 t170 t173 _ ?side1 ?side2 ?side3 ?side4 A14.out).mono ?_);(case side1=>exact zr HO_0);(case side2=>exact zk HO_0);(case side3=>exact zr HO_1);(case side4=>exact zk HO_1);rintro e w17 ⟨v171,v174,rfl,ho0,ho1,hb⟩;replace HO_0:=yV HO_0 hb;replace HO_1:=yV HO_1 hb;have HO172:=yL (fun k_=>((P0_ k_∨P1_ k_)∨w.heap.size≤k_)) ho0 (fun k_ hk_=>(.inr (Nat.le_trans bs hk_)));have HO175:=yL (fun k_=>((P0_ k_∨P1_ k_)∨w.heap.size≤k_)) ho1 (fun k_ hk_=>(.inr (Nat.le_trans bs hk_)));replace HB:=sB hb;clear hb ho0 ho1))
      repeat (go_quiet (first|(go_at_call 144;(with_reducible refine (Yn.calls kj2 _ _ x0_1 _ _ x1_1 t170 t173 _ ?side1 ?side2 ?side3 ?side4 A14.out).mono ?_);(case side1=>exact zr HO_0);(case side2=>exact zk HO_0);(case side3=>exact zr HO_1);(case side4=>exact zk HO_1);rintro e w17 ⟨v171,v174,rfl,ho0,ho1,hb⟩;replace HO_0:=yV HO_0 hb;replace HO_1:=yV HO_1 hb;have HO172:=yL (fun k_=>((P0_ k_∨P1_ k_)∨w.heap.size≤k_)) ho0 (fun k_ hk_=>(.inr (Nat.le_trans bs hk_)));have HO175:=yL (fun k_=>((P0_ k_∨P1_ k_)∨w.heap.size≤k_)) ho1 (fun k_ hk_=>(.inr (Nat.le_trans bs hk_)));replace HB:=sB hb;clear hb ho0 ho1));try go_wp2_with (first|(go_at_call 144;(with_reducible refine (Yn.calls kj2 _ _ x0_1 _ _ x1_1 t170 t173 _ ?side1 ?side2 ?side3 ?side4 A14.out).mono ?_);(case side1=>exact zr HO_0);(case side2=>exact zk HO_0);(case side3=>exact zr HO_1);(case side4=>exact zk HO_1);rintro e w17 ⟨v171,v174,rfl,ho0,ho1,hb⟩;replace HO_0:=yV HO_0 hb;replace HO_1:=yV HO_1 hb;have HO172:=yL (fun k_=>((P0_ k_∨P1_ k_)∨w.heap.size≤k_)) ho0 (fun k_ hk_=>(.inr (Nat.le_trans bs hk_)));have HO175:=yL (fun k_=>((P0_ k_∨P1_ k_)∨w.heap.size≤k_)) ho1 (fun k_ hk_=>(.inr (Nat.le_trans bs hk_)));replace HB:=sB hb;clear hb ho0 ho1)))
      go_roundg kj2
      case measure=>have:=HK1.out;have:=HJ2.out;omega
      case rel=>exact ⟨(x1_1),(t173),H',⟨by have:=HK1.out;have:=HJ2.out;omega⟩,⟨zV HO_1⟩,⟨zV HO175⟩,⟨bw⟩⟩
     rw [if_pos c9] at H
     obtain ⟨c9b0,c9b1⟩:=zY c9
     clear c9
     obtain ⟨t167,A10,H⟩:=zB H
     obtain rfl:=Option.some.inj H
     obtain ⟨Ao11,co11,rfl⟩:=Kd.V_slice HO_1.out
     obtain ⟨Ao12,co12,rfl⟩:=Kd.V_slice HO_0.out
     go_wp2_with (first|(go_at_call 143;(with_reducible refine (YC.calls _ _ x0_1 t167 _ ?side1 ?side2 A10.out).mono ?_);(case side1=>exact zr HO_0);(case side2=>exact zk HO_0);rintro e w13 ⟨v168,rfl,ho0,hb⟩;replace HO_0:=aZ (Kd.V_elder' (zV HO_0) (Kd.R_base ho0) hb);replace HO_1:=aZ (Kd.V_elder' (zV HO_1) (Kd.R_base ho0) hb);have HO169:=aZ (Kd.R_lower (Kd.R_newM (M:=fun k_=>(w.heap.size≤k_)) ho0 bs (fun k_ h_=>h_)) bs);replace HB:=sB hb;clear hb ho0))
     repeat (go_quiet (first|(go_at_call 143;(with_reducible refine (YC.calls _ _ x0_1 t167 _ ?side1 ?side2 A10.out).mono ?_);(case side1=>exact zr HO_0);(case side2=>exact zk HO_0);rintro e w13 ⟨v168,rfl,ho0,hb⟩;replace HO_0:=aZ (Kd.V_elder' (zV HO_0) (Kd.R_base ho0) hb);replace HO_1:=aZ (Kd.V_elder' (zV HO_1) (Kd.R_base ho0) hb);have HO169:=aZ (Kd.R_lower (Kd.R_newM (M:=fun k_=>(w.heap.size≤k_)) ho0 bs (fun k_ h_=>h_)) bs);replace HB:=sB hb;clear hb ho0));try go_wp2_with (first|(go_at_call 143;(with_reducible refine (YC.calls _ _ x0_1 t167 _ ?side1 ?side2 A10.out).mono ?_);(case side1=>exact zr HO_0);(case side2=>exact zk HO_0);rintro e w13 ⟨v168,rfl,ho0,hb⟩;replace HO_0:=aZ (Kd.V_elder' (zV HO_0) (Kd.R_base ho0) hb);replace HO_1:=aZ (Kd.V_elder' (zV HO_1) (Kd.R_base ho0) hb);have HO169:=aZ (Kd.R_lower (Kd.R_newM (M:=fun k_=>(w.heap.size≤k_)) ho0 bs (fun k_ h_=>h_)) bs);replace HB:=sB hb;clear hb ho0)))
     go_ret
     exact ⟨_,ze,by (with_reducible repeat (first|apply Kd.R_alloc|apply Kd.R_drewN|apply Kd.R_drew));exact Kd.R_mono HO169.out (fun _ hk=>hk.1),bw⟩
def Yx.f (l0:List Int):Option (Bool):=if (l0.length:Int)=1 then (if 0<(l0.length:Int) then (some ((rd l0 0)==1)) else (none)) else (some false)
theorem Yx.calls (A0:Option Addr) (c0:Nat) (l0:List Int) (r:Bool) (w:World) (hr0:Kd.C (Kd.int .u32) w A0 l0.length l0) (hc0:l0.length≤c0) (h:Yx.f l0=some r) :
  Calls Tryz.prog 109 #[.slice A0 l0.length c0] w fun e w'=>e = .returned (.bool r)∧Drawn0 w w':=by
 have HR0:=aZ hr0
 have HC0:=aZ hc0
 clear hr0 hc0
 have H:=h
 unfold Yx.f at H
 clear h
 by_cases c2:(l0.length:Int)=1
 case neg=>
  rw [if_neg c2] at H
  obtain ⟨c2b0,c2b1⟩:=zX c2
  obtain rfl:=Option.some.inj H
  go_enter func109,ntmps109
  go_wp2
  go_ret
  exact ⟨zs,by repeat (first|exact Drawn0.refl _|apply Drawn0.step)⟩
 rw [if_pos c2] at H
 obtain ⟨c2b0,c2b1⟩:=zY c2
 clear c2
 by_cases c3:0<(l0.length:Int)
 case neg=>
  rw [if_neg c3] at H
  cases H
 rw [if_pos c3] at H
 have c3b0:=decide_eq_true c3
 have c3b1:decide (0<l0.length)=true:=decide_eq_true (by omega)
 clear c3
 obtain rfl:=Option.some.inj H
 have p181:0≤(0:Int):=(by omega)
 have q181:0<(l0.length:Int):=zd
 obtain ⟨ad181,e181,hx181_0⟩:=Kd.at_int HR0.out 0 p181 q181
 cases e181
 have qi181:(0<l0.length)=True:=eq_true (by omega)
 (try rw [show ((0:Int)).toNat=0 from rfl] at hx181_0)
 (try rw [Addr.add_zero'] at hx181_0)
 replace p181:=eq_true p181
 replace q181:=eq_true q181
 go_enter func109,ntmps109
 go_wp2
 go_ret
 exact ⟨zs,by repeat (first|exact Drawn0.refl _|apply Drawn0.step)⟩
def YV.f (l0:List Int):Option (Bool):=some ((l0.length:Int)==0)
theorem YV.calls (A0:Option Addr) (c0:Nat) (l0:List Int) (r:Bool) (w:World) (hr0:Kd.C (Kd.int .u32) w A0 l0.length l0) (hc0:l0.length≤c0) (h:YV.f l0=some r) :
  Calls Tryz.prog 151 #[.slice A0 l0.length c0] w fun e w'=>e = .returned (.bool r)∧Drawn0 w w':=by
 have HR0:=aZ hr0
 have HC0:=aZ hc0
 clear hr0 hc0
 have H:=h
 unfold YV.f at H
 clear h
 obtain rfl:=Option.some.inj H
 go_enter func151,ntmps151
 go_wp2
 go_ret
 exact ⟨zs,by repeat (first|exact Drawn0.refl _|apply Drawn0.step)⟩
def YR.f (k:Nat) (a0:Bool) (l1:List Int) (l2:List Int):Option (Bool×List Int×List Int):=(YV.f l1).bind fun t183=>(if t183=true then ((YQ.f k).bind fun t184=>(some (false,([]:List Int),t184))) else ((Yx.f l2).bind fun t187=>(if t187=true then (some (a0,l1,l2)) else ((Yb.f k l1 l2).bind fun t188=>((Yx.f t188).bind fun t191=>(if t191=true then (some (a0,l1,l2)) else ((Yn.f k l1 t188).bind fun bt192=>((Yn.f k l2 t188).bind fun bt198=>(some (a0,bt192.1,bt198.1))))))))))
theorem YR.mono:∀ a0 a1 a2 k,LeO (YR.f k a0 a1 a2) (YR.f (k+1) a0 a1 a2):=by
 intro a0 a1 a2 k
 unfold YR.f
 have m0:=YQ.mono
 have m1:=Yn.mono
 have m2:=Yb.mono
 exact zM
theorem YR.calls (k:Nat) (a0:Bool) (P1_:Nat→Prop) (A1:Option Addr) (c1:Nat) (l1:List Int) (P2_:Nat→Prop) (A2:Option Addr) (c2:Nat) (l2:List Int) (r1:Bool) (r2:List Int) (r3:List Int) (w:World) (hs1:Kd.V (Kd.int .u32) 97 w w.heap.size (fun k_=>P1_ k_) (.slice A1 l1.length c1) l1) (hs2:Kd.V (Kd.int .u32) 97 w w.heap.size (fun k_=>P2_ k_) (.slice A2 l2.length c2) l2) (h:YR.f k a0 l1 l2=some (r1,r2,r3)) :
  Calls Tryz.prog 148 #[.bool a0,.slice A1 l1.length c1,.slice A2 l2.length c2] w fun e w'=>∃ v1_ v2_:Value,e = .returned (.agg #[.bool r1,v1_,v2_])∧Kd.V (Kd.int .u32) 97 w' w.heap.size (fun k_=>((P1_ k_∨P2_ k_)∨w.heap.size≤k_)) v1_ r2∧Kd.V (Kd.int .u32) 97 w' w.heap.size (fun k_=>((P1_ k_∨P2_ k_)∨w.heap.size≤k_)) v2_ r3∧Below w.heap.size w w':=by
 have hu103:=underlying103
 have HO1:=aZ (show Kd.V (Kd.int .u32) 97 w w.heap.size (fun k_=>((P1_ k_∨P2_ k_)∨w.heap.size≤k_)) (.slice A1 l1.length c1) l1 from Kd.V_mono hs1 (fun k_ hk=>.inl (.inl hk)))
 have HO2:=aZ (show Kd.V (Kd.int .u32) 97 w w.heap.size (fun k_=>((P1_ k_∨P2_ k_)∨w.heap.size≤k_)) (.slice A2 l2.length c2) l2 from Kd.V_mono hs2 (fun k_ hk=>.inl (.inr hk)))
 have HB:=aZ (Below.refl w.heap.size w)
 have H:=h
 unfold YR.f at H
 clear h
 obtain ⟨t183,A4,H⟩:=zB H
 by_cases c5:t183=true
 case neg=>
  replace c5:=Bool.eq_false_iff.mpr c5
  subst c5
  have H1:((Yx.f l2).bind fun t187=>(if t187=true then (some (a0,l1,l2)) else ((Yb.f k l1 l2).bind fun t188=>((Yx.f t188).bind fun t191=>(if t191=true then (some (a0,l1,l2)) else ((Yn.f k l1 t188).bind fun bt192=>((Yn.f k l2 t188).bind fun bt198=>(some (a0,bt192.1,bt198.1)))))))))=some (r1,r2,r3):=by rw [if_neg (show ¬ (false=true) by decide)] at H;exact H
  clear H
  have H:=H1
  clear H1
  obtain ⟨t187,A11,H⟩:=zB H
  by_cases c12:t187=true
  case neg=>
   replace c12:=Bool.eq_false_iff.mpr c12
   subst c12
   have H1:((Yb.f k l1 l2).bind fun t188=>((Yx.f t188).bind fun t191=>(if t191=true then (some (a0,l1,l2)) else ((Yn.f k l1 t188).bind fun bt192=>((Yn.f k l2 t188).bind fun bt198=>(some (a0,bt192.1,bt198.1)))))))=some (r1,r2,r3):=by rw [if_neg (show ¬ (false=true) by decide)] at H;exact H
   clear H
   have H:=H1
   clear H1
   obtain ⟨t188,A15,H⟩:=zB H
   obtain ⟨t191,A16,H⟩:=zB H
   by_cases c17:t191=true
   case neg=>
    replace c17:=Bool.eq_false_iff.mpr c17
    subst c17
    have H1:((Yn.f k l1 t188).bind fun bt192=>((Yn.f k l2 t188).bind fun bt198=>(some (a0,bt192.1,bt198.1))))=some (r1,r2,r3):=by rw [if_neg (show ¬ (false=true) by decide)] at H;exact H
    clear H
    have H:=H1
    clear H1
    obtain ⟨⟨t192,t195⟩,A22,H⟩:=zB H
    (try dsimp only at H)
    obtain ⟨⟨t198,t201⟩,A23,H⟩:=zB H
    (try dsimp only at H)
    simp only [Option.some.injEq,Prod.mk.injEq] at H
    obtain ⟨rfl,rfl,rfl⟩:=H
    go_enter func148,ntmps148
    go_wp2_with (first|(refine box_ev 6 #[.bool false,.slice none 0 0,.slice none 0 0] 103 ?_;intro gb182 hg w24 hbox hb;replace HO1:=yE HO1 hg hb;replace HO2:=yE HO2 hg hb;have BK182:=aZ hbox;have GE182:=sG hg;replace HB:=sB hb;clear hb hbox hg)|(refine zg (some 9) func151 #[.slice A1 l1.length c1] ?_;(with_reducible refine (YV.calls _ _ l1 false _ ?side1 ?side2 A4.out).mono ?_);(case side1=>exact zr HO1);(case side2=>exact zk HO1);rintro e w' ⟨rfl,⟨nd,rfl⟩⟩;refine ⟨_,rfl,?_⟩;(try (rw [drewN_self w24];generalize hq_:World.drewN w24 _=w24;have n0_:Aside0 (Kd.V (Kd.int .u32) 97 w24 w.heap.size (fun k_=>((P1_ k_∨P2_ k_)∨w.heap.size≤k_)∧k_≠gb182) (.slice A1 l1.length c1) l1):=⟨by rw [← hq_];exact (zV HO1)⟩;have n1_:Aside0 (Kd.V (Kd.int .u32) 97 w24 w.heap.size (fun k_=>((P1_ k_∨P2_ k_)∨w.heap.size≤k_)∧k_≠gb182) (.slice A2 l2.length c2) l2):=⟨by rw [← hq_];exact (zV HO2)⟩;have n2_:Aside0 (w24.heap[gb182]? = some (.cells #[.bool false,.slice none 0 0,.slice none 0 0] 103 (0,0))):=⟨by rw [← hq_];exact (zb BK182)⟩;have n3_:Aside0 (Below w.heap.size w w24):=⟨by rw [← hq_];exact bw⟩;clear HO1 HO2 BK182 HB hq_;have HO1:=n0_;have HO2:=n1_;have BK182:=n2_;have HB:=n3_;clear n0_ n1_ n2_ n3_)))|(refine zg (some 13) func109 #[.slice A2 l2.length c2] ?_;(with_reducible refine (Yx.calls _ _ l2 false _ ?side1 ?side2 A11.out).mono ?_);(case side1=>exact zr HO2);(case side2=>exact zk HO2);rintro e w' ⟨rfl,⟨nd,rfl⟩⟩;refine ⟨_,rfl,?_⟩;(try (rw [drewN_self w24];generalize hq_:World.drewN w24 _=w24;have n0_:Aside0 (Kd.V (Kd.int .u32) 97 w24 w.heap.size (fun k_=>((P1_ k_∨P2_ k_)∨w.heap.size≤k_)∧k_≠gb182) (.slice A1 l1.length c1) l1):=⟨by rw [← hq_];exact (zV HO1)⟩;have n1_:Aside0 (Kd.V (Kd.int .u32) 97 w24 w.heap.size (fun k_=>((P1_ k_∨P2_ k_)∨w.heap.size≤k_)∧k_≠gb182) (.slice A2 l2.length c2) l2):=⟨by rw [← hq_];exact (zV HO2)⟩;have n2_:Aside0 (w24.heap[gb182]? = some (.cells #[.bool false,.slice none 0 0,.slice none 0 0] 103 (0,0))):=⟨by rw [← hq_];exact (zb BK182)⟩;have n3_:Aside0 (Below w.heap.size w w24):=⟨by rw [← hq_];exact bw⟩;clear HO1 HO2 BK182 HB hq_;have HO1:=n0_;have HO2:=n1_;have BK182:=n2_;have HB:=n3_;clear n0_ n1_ n2_ n3_)))|(refine zg (some 17) func107 #[.slice A1 l1.length c1,.slice A2 l2.length c2] ?_;(with_reducible refine (Yb.calls k (fun k_=>(((P1_ k_∨P2_ k_)∨w.heap.size≤k_)∧k_≠gb182)) _ _ l1 (fun k_=>(((P1_ k_∨P2_ k_)∨w.heap.size≤k_)∧k_≠gb182)) _ _ l2 t188 _ ?side1 ?side2 A15.out).mono ?_);(case side1=>exact HO1.out);(case side2=>exact HO2.out);rintro e w25 ⟨v189,rfl,ho0,hb⟩;refine ⟨_,rfl,?_⟩;replace HO1:=aZ (Kd.V_elder' (zV HO1) (Kd.R_base ho0) hb);replace HO2:=aZ (Kd.V_elder' (zV HO2) (Kd.R_base ho0) hb);have HO190:=aZ (Kd.R_lower (Kd.R_newM (M:=fun k_=>(w.heap.size≤k_)) (Kd.R_mono (ok':=fun k_=>True) ho0 (fun _ hk_=>trivial)) bs (fun k_ h_=>h_)) bs);replace BK182:=sK BK182 hb;replace HB:=sB hb;clear hb ho0;obtain ⟨Ao26,co26,rfl⟩:=Kd.R_slice HO190.out)|(refine zg (some 19) func109 #[.slice Ao26 t188.length co26] ?_;(with_reducible refine (Yx.calls _ _ t188 false _ ?side1 ?side2 A16.out).mono ?_);(case side1=>exact zC (Kd.R_reads' HO190.out).2.2);(case side2=>exact (Kd.R_reads' HO190.out).2.1);rintro e w' ⟨rfl,⟨nd,rfl⟩⟩;refine ⟨_,rfl,?_⟩;(try (rw [drewN_self w25];generalize hq_:World.drewN w25 _=w25;have n0_:Aside0 (Kd.V (Kd.int .u32) 97 w25 w.heap.size (fun k_=>((P1_ k_∨P2_ k_)∨w.heap.size≤k_)∧some k_≠(.slice Ao26 t188.length co26:Value).ownBlock∧k_≠gb182) (.slice A1 l1.length c1) l1):=⟨by rw [← hq_];exact (by (with_reducible repeat (first|apply Kd.V_alloc|apply Kd.V_drewN|apply Kd.V_drew));exact Kd.V_mono HO1.out (fun _ hk=>⟨hk.1.1,⟨hk.2,hk.1.2⟩⟩))⟩;have n1_:Aside0 (Kd.R (Kd.int .u32) 97 w25 w.heap.size (fun k_=>(w.heap.size≤k_)) (.slice Ao26 t188.length co26) t188):=⟨by rw [← hq_];exact (by (with_reducible repeat (first|apply Kd.R_alloc|apply Kd.R_drewN|apply Kd.R_drew));exact Kd.R_mono HO190.out (fun k_ hk=>by first|exact hk.1|simp_all))⟩;have n2_:Aside0 (Kd.V (Kd.int .u32) 97 w25 w.heap.size (fun k_=>((P1_ k_∨P2_ k_)∨w.heap.size≤k_)∧some k_≠(.slice Ao26 t188.length co26:Value).ownBlock∧k_≠gb182) (.slice A2 l2.length c2) l2):=⟨by rw [← hq_];exact (by (with_reducible repeat (first|apply Kd.V_alloc|apply Kd.V_drewN|apply Kd.V_drew));exact Kd.V_mono HO2.out (fun _ hk=>⟨hk.1.1,⟨hk.2,hk.1.2⟩⟩))⟩;have n3_:Aside0 (w25.heap[gb182]? = some (.cells #[.bool false,.slice none 0 0,.slice none 0 0] 103 (0,0))):=⟨by rw [← hq_];exact (zb BK182)⟩;have n4_:Aside0 (Below w.heap.size w w25):=⟨by rw [← hq_];exact bw⟩;clear HO1 HO190 HO2 BK182 HB hq_;have HO1:=n0_;have HO190:=n1_;have HO2:=n2_;have BK182:=n3_;have HB:=n4_;clear n0_ n1_ n2_ n3_ n4_)))|(refine zg (some 24) func144 #[.slice A1 l1.length c1,.slice Ao26 t188.length co26] ?_;(with_reducible refine (Yn.calls k _ _ l1 _ _ t188 t192 t195 _ ?side1 ?side2 ?side3 ?side4 A22.out).mono ?_);(case side1=>exact zr HO1);(case side2=>exact zk HO1);(case side3=>exact zC (Kd.R_reads' HO190.out).2.2);(case side4=>exact (Kd.R_reads' HO190.out).2.1);rintro e w27 ⟨v193,v196,rfl,ho0,ho1,hb⟩;refine ⟨_,rfl,?_⟩;replace HO1:=yV HO1 hb;replace HO2:=yV HO2 hb;have HO194:=yL (fun k_=>((P1_ k_∨P2_ k_)∨w.heap.size≤k_)∧some k_≠(.slice Ao26 t188.length co26:Value).ownBlock∧k_≠gb182) ho0 (fun k_ hk_=>⟨(.inr (Nat.le_trans bs hk_)),(yf HO190 hk_),(zf BK182 hk_)⟩);have HO197:=yL (fun k_=>((P1_ k_∨P2_ k_)∨w.heap.size≤k_)∧some k_≠(.slice Ao26 t188.length co26:Value).ownBlock∧k_≠gb182) ho1 (fun k_ hk_=>⟨(.inr (Nat.le_trans bs hk_)),(yf HO190 hk_),(zf BK182 hk_)⟩);replace HO190:=yR HO190 hb;replace BK182:=sK BK182 hb;replace HB:=sB hb;clear hb ho0 ho1)|(refine zg (some 30) func144 #[.slice A2 l2.length c2,.slice Ao26 t188.length co26] ?_;(with_reducible refine (Yn.calls k _ _ l2 _ _ t188 t198 t201 _ ?side1 ?side2 ?side3 ?side4 A23.out).mono ?_);(case side1=>exact zr HO2);(case side2=>exact zk HO2);(case side3=>exact zC (Kd.R_reads' HO190.out).2.2);(case side4=>exact (Kd.R_reads' HO190.out).2.1);rintro e w28 ⟨v199,v202,rfl,ho0,ho1,hb⟩;refine ⟨_,rfl,?_⟩;replace HO1:=yV HO1 hb;replace HO2:=yV HO2 hb;replace HO194:=yV HO194 hb;replace HO197:=yV HO197 hb;have HO200:=yL (fun k_=>((P1_ k_∨P2_ k_)∨w.heap.size≤k_)∧some k_≠(.slice Ao26 t188.length co26:Value).ownBlock∧k_≠gb182) ho0 (fun k_ hk_=>⟨(.inr (Nat.le_trans bs hk_)),(yf HO190 hk_),(zf BK182 hk_)⟩);have HO203:=yL (fun k_=>((P1_ k_∨P2_ k_)∨w.heap.size≤k_)∧some k_≠(.slice Ao26 t188.length co26:Value).ownBlock∧k_≠gb182) ho1 (fun k_ hk_=>⟨(.inr (Nat.le_trans bs hk_)),(yf HO190 hk_),(zf BK182 hk_)⟩);replace HO190:=yR HO190 hb;replace BK182:=sK BK182 hb;replace HB:=sB hb;clear hb ho0 ho1;obtain ⟨Ao29,co29,rfl⟩:=Kd.V_slice HO200.out;obtain ⟨Ao30,co30,rfl⟩:=Kd.V_slice HO194.out;obtain ⟨hcz31_0,hfz31_0⟩:=zc BK182 0 (.bool false) rfl;obtain ⟨hcz31_1,hfz31_1⟩:=zc BK182 1 (.slice none 0 0) rfl;obtain ⟨hcz31_2,hfz31_2⟩:=zc BK182 2 (.slice none 0 0) rfl))
    refine bodyPost_ret (results_cell_row rfl _ _ gb182 103 #[.bool a0,.slice Ao30 t192.length co30,.slice Ao29 t198.length co29] (0,0) _ rfl (zp BK182) underlying103 rfl (by kernel_rfl)) rfl ?_
    exact ⟨_,_,ze,zF HO194,zF HO200,bw⟩
   subst c17
   have H1:(some (a0,l1,l2))=some (r1,r2,r3):=by rw [if_pos rfl] at H;exact H
   clear H
   have H:=H1
   clear H1
   simp only [Option.some.injEq,Prod.mk.injEq] at H
   obtain ⟨rfl,rfl,rfl⟩:=H
   go_enter func148,ntmps148
   go_wp2_with (first|(refine box_ev 6 #[.bool false,.slice none 0 0,.slice none 0 0] 103 ?_;intro gb182 hg w18 hbox hb;replace HO1:=yE HO1 hg hb;replace HO2:=yE HO2 hg hb;have BK182:=aZ hbox;have GE182:=sG hg;replace HB:=sB hb;clear hb hbox hg)|(refine zg (some 9) func151 #[.slice A1 l1.length c1] ?_;(with_reducible refine (YV.calls _ _ l1 false _ ?side1 ?side2 A4.out).mono ?_);(case side1=>exact zr HO1);(case side2=>exact zk HO1);rintro e w' ⟨rfl,⟨nd,rfl⟩⟩;refine ⟨_,rfl,?_⟩;(try (rw [drewN_self w18];generalize hq_:World.drewN w18 _=w18;have n0_:Aside0 (Kd.V (Kd.int .u32) 97 w18 w.heap.size (fun k_=>((P1_ k_∨P2_ k_)∨w.heap.size≤k_)∧k_≠gb182) (.slice A1 l1.length c1) l1):=⟨by rw [← hq_];exact (zV HO1)⟩;have n1_:Aside0 (Kd.V (Kd.int .u32) 97 w18 w.heap.size (fun k_=>((P1_ k_∨P2_ k_)∨w.heap.size≤k_)∧k_≠gb182) (.slice A2 l2.length c2) l2):=⟨by rw [← hq_];exact (zV HO2)⟩;have n2_:Aside0 (w18.heap[gb182]? = some (.cells #[.bool false,.slice none 0 0,.slice none 0 0] 103 (0,0))):=⟨by rw [← hq_];exact (zb BK182)⟩;have n3_:Aside0 (Below w.heap.size w w18):=⟨by rw [← hq_];exact bw⟩;clear HO1 HO2 BK182 HB hq_;have HO1:=n0_;have HO2:=n1_;have BK182:=n2_;have HB:=n3_;clear n0_ n1_ n2_ n3_)))|(refine zg (some 13) func109 #[.slice A2 l2.length c2] ?_;(with_reducible refine (Yx.calls _ _ l2 false _ ?side1 ?side2 A11.out).mono ?_);(case side1=>exact zr HO2);(case side2=>exact zk HO2);rintro e w' ⟨rfl,⟨nd,rfl⟩⟩;refine ⟨_,rfl,?_⟩;(try (rw [drewN_self w18];generalize hq_:World.drewN w18 _=w18;have n0_:Aside0 (Kd.V (Kd.int .u32) 97 w18 w.heap.size (fun k_=>((P1_ k_∨P2_ k_)∨w.heap.size≤k_)∧k_≠gb182) (.slice A1 l1.length c1) l1):=⟨by rw [← hq_];exact (zV HO1)⟩;have n1_:Aside0 (Kd.V (Kd.int .u32) 97 w18 w.heap.size (fun k_=>((P1_ k_∨P2_ k_)∨w.heap.size≤k_)∧k_≠gb182) (.slice A2 l2.length c2) l2):=⟨by rw [← hq_];exact (zV HO2)⟩;have n2_:Aside0 (w18.heap[gb182]? = some (.cells #[.bool false,.slice none 0 0,.slice none 0 0] 103 (0,0))):=⟨by rw [← hq_];exact (zb BK182)⟩;have n3_:Aside0 (Below w.heap.size w w18):=⟨by rw [← hq_];exact bw⟩;clear HO1 HO2 BK182 HB hq_;have HO1:=n0_;have HO2:=n1_;have BK182:=n2_;have HB:=n3_;clear n0_ n1_ n2_ n3_)))|(refine zg (some 17) func107 #[.slice A1 l1.length c1,.slice A2 l2.length c2] ?_;(with_reducible refine (Yb.calls k (fun k_=>(((P1_ k_∨P2_ k_)∨w.heap.size≤k_)∧k_≠gb182)) _ _ l1 (fun k_=>(((P1_ k_∨P2_ k_)∨w.heap.size≤k_)∧k_≠gb182)) _ _ l2 t188 _ ?side1 ?side2 A15.out).mono ?_);(case side1=>exact HO1.out);(case side2=>exact HO2.out);rintro e w19 ⟨v189,rfl,ho0,hb⟩;refine ⟨_,rfl,?_⟩;replace HO1:=aZ (Kd.V_elder' (zV HO1) (Kd.R_base ho0) hb);replace HO2:=aZ (Kd.V_elder' (zV HO2) (Kd.R_base ho0) hb);have HO190:=aZ (Kd.R_lower (Kd.R_newM (M:=fun k_=>(w.heap.size≤k_)) (Kd.R_mono (ok':=fun k_=>True) ho0 (fun _ hk_=>trivial)) bs (fun k_ h_=>h_)) bs);replace BK182:=sK BK182 hb;replace HB:=sB hb;clear hb ho0;obtain ⟨Ao20,co20,rfl⟩:=Kd.R_slice HO190.out)|(refine zg (some 19) func109 #[.slice Ao20 t188.length co20] ?_;(with_reducible refine (Yx.calls _ _ t188 true _ ?side1 ?side2 A16.out).mono ?_);(case side1=>exact zC (Kd.R_reads' HO190.out).2.2);(case side2=>exact (Kd.R_reads' HO190.out).2.1);rintro e w' ⟨rfl,⟨nd,rfl⟩⟩;refine ⟨_,rfl,?_⟩;(try (rw [drewN_self w19];generalize hq_:World.drewN w19 _=w19;have n0_:Aside0 (Kd.V (Kd.int .u32) 97 w19 w.heap.size (fun k_=>((P1_ k_∨P2_ k_)∨w.heap.size≤k_)∧some k_≠(.slice Ao20 t188.length co20:Value).ownBlock∧k_≠gb182) (.slice A1 l1.length c1) l1):=⟨by rw [← hq_];exact (by (with_reducible repeat (first|apply Kd.V_alloc|apply Kd.V_drewN|apply Kd.V_drew));exact Kd.V_mono HO1.out (fun _ hk=>⟨hk.1.1,⟨hk.2,hk.1.2⟩⟩))⟩;have n1_:Aside0 (Kd.R (Kd.int .u32) 97 w19 w.heap.size (fun k_=>(w.heap.size≤k_)) (.slice Ao20 t188.length co20) t188):=⟨by rw [← hq_];exact (by (with_reducible repeat (first|apply Kd.R_alloc|apply Kd.R_drewN|apply Kd.R_drew));exact Kd.R_mono HO190.out (fun k_ hk=>by first|exact hk.1|simp_all))⟩;have n2_:Aside0 (Kd.V (Kd.int .u32) 97 w19 w.heap.size (fun k_=>((P1_ k_∨P2_ k_)∨w.heap.size≤k_)∧some k_≠(.slice Ao20 t188.length co20:Value).ownBlock∧k_≠gb182) (.slice A2 l2.length c2) l2):=⟨by rw [← hq_];exact (by (with_reducible repeat (first|apply Kd.V_alloc|apply Kd.V_drewN|apply Kd.V_drew));exact Kd.V_mono HO2.out (fun _ hk=>⟨hk.1.1,⟨hk.2,hk.1.2⟩⟩))⟩;have n3_:Aside0 (w19.heap[gb182]? = some (.cells #[.bool false,.slice none 0 0,.slice none 0 0] 103 (0,0))):=⟨by rw [← hq_];exact (zb BK182)⟩;have n4_:Aside0 (Below w.heap.size w w19):=⟨by rw [← hq_];exact bw⟩;clear HO1 HO190 HO2 BK182 HB hq_;have HO1:=n0_;have HO190:=n1_;have HO2:=n2_;have BK182:=n3_;have HB:=n4_;clear n0_ n1_ n2_ n3_ n4_));obtain ⟨hcz21_0,hfz21_0⟩:=zc BK182 0 (.bool false) rfl;obtain ⟨hcz21_1,hfz21_1⟩:=zc BK182 1 (.slice none 0 0) rfl;obtain ⟨hcz21_2,hfz21_2⟩:=zc BK182 2 (.slice none 0 0) rfl))
   refine bodyPost_ret (results_cell_row rfl _ _ gb182 103 #[.bool a0,.slice A1 l1.length c1,.slice A2 l2.length c2] (0,0) _ rfl (zp BK182) underlying103 rfl (by kernel_rfl)) rfl ?_
   exact ⟨_,_,ze,zF HO1,zF HO2,bw⟩
  subst c12
  have H1:(some (a0,l1,l2))=some (r1,r2,r3):=by rw [if_pos rfl] at H;exact H
  clear H
  have H:=H1
  clear H1
  simp only [Option.some.injEq,Prod.mk.injEq] at H
  obtain ⟨rfl,rfl,rfl⟩:=H
  go_enter func148,ntmps148
  go_wp2_with (first|(refine box_ev 6 #[.bool false,.slice none 0 0,.slice none 0 0] 103 ?_;intro gb182 hg w13 hbox hb;replace HO1:=yE HO1 hg hb;replace HO2:=yE HO2 hg hb;have BK182:=aZ hbox;have GE182:=sG hg;replace HB:=sB hb;clear hb hbox hg)|(refine zg (some 9) func151 #[.slice A1 l1.length c1] ?_;(with_reducible refine (YV.calls _ _ l1 false _ ?side1 ?side2 A4.out).mono ?_);(case side1=>exact zr HO1);(case side2=>exact zk HO1);rintro e w' ⟨rfl,⟨nd,rfl⟩⟩;refine ⟨_,rfl,?_⟩;(try (rw [drewN_self w13];generalize hq_:World.drewN w13 _=w13;have n0_:Aside0 (Kd.V (Kd.int .u32) 97 w13 w.heap.size (fun k_=>((P1_ k_∨P2_ k_)∨w.heap.size≤k_)∧k_≠gb182) (.slice A1 l1.length c1) l1):=⟨by rw [← hq_];exact (zV HO1)⟩;have n1_:Aside0 (Kd.V (Kd.int .u32) 97 w13 w.heap.size (fun k_=>((P1_ k_∨P2_ k_)∨w.heap.size≤k_)∧k_≠gb182) (.slice A2 l2.length c2) l2):=⟨by rw [← hq_];exact (zV HO2)⟩;have n2_:Aside0 (w13.heap[gb182]? = some (.cells #[.bool false,.slice none 0 0,.slice none 0 0] 103 (0,0))):=⟨by rw [← hq_];exact (zb BK182)⟩;have n3_:Aside0 (Below w.heap.size w w13):=⟨by rw [← hq_];exact bw⟩;clear HO1 HO2 BK182 HB hq_;have HO1:=n0_;have HO2:=n1_;have BK182:=n2_;have HB:=n3_;clear n0_ n1_ n2_ n3_)))|(refine zg (some 13) func109 #[.slice A2 l2.length c2] ?_;(with_reducible refine (Yx.calls _ _ l2 true _ ?side1 ?side2 A11.out).mono ?_);(case side1=>exact zr HO2);(case side2=>exact zk HO2);rintro e w' ⟨rfl,⟨nd,rfl⟩⟩;refine ⟨_,rfl,?_⟩;(try (rw [drewN_self w13];generalize hq_:World.drewN w13 _=w13;have n0_:Aside0 (Kd.V (Kd.int .u32) 97 w13 w.heap.size (fun k_=>((P1_ k_∨P2_ k_)∨w.heap.size≤k_)∧k_≠gb182) (.slice A1 l1.length c1) l1):=⟨by rw [← hq_];exact (zV HO1)⟩;have n1_:Aside0 (Kd.V (Kd.int .u32) 97 w13 w.heap.size (fun k_=>((P1_ k_∨P2_ k_)∨w.heap.size≤k_)∧k_≠gb182) (.slice A2 l2.length c2) l2):=⟨by rw [← hq_];exact (zV HO2)⟩;have n2_:Aside0 (w13.heap[gb182]? = some (.cells #[.bool false,.slice none 0 0,.slice none 0 0] 103 (0,0))):=⟨by rw [← hq_];exact (zb BK182)⟩;have n3_:Aside0 (Below w.heap.size w w13):=⟨by rw [← hq_];exact bw⟩;clear HO1 HO2 BK182 HB hq_;have HO1:=n0_;have HO2:=n1_;have BK182:=n2_;have HB:=n3_;clear n0_ n1_ n2_ n3_));obtain ⟨hcz14_0,hfz14_0⟩:=zc BK182 0 (.bool false) rfl;obtain ⟨hcz14_1,hfz14_1⟩:=zc BK182 1 (.slice none 0 0) rfl;obtain ⟨hcz14_2,hfz14_2⟩:=zc BK182 2 (.slice none 0 0) rfl))
  refine bodyPost_ret (results_cell_row rfl _ _ gb182 103 #[.bool a0,.slice A1 l1.length c1,.slice A2 l2.length c2] (0,0) _ rfl (zp BK182) underlying103 rfl (by kernel_rfl)) rfl ?_
  exact ⟨_,_,ze,zF HO1,zF HO2,bw⟩
 subst c5
 have H1:((YQ.f k).bind fun t184=>(some (false,([]:List Int),t184)))=some (r1,r2,r3):=by rw [if_pos rfl] at H;exact H
 clear H
 have H:=H1
 clear H1
 obtain ⟨t184,A6,H⟩:=zB H
 simp only [Option.some.injEq,Prod.mk.injEq] at H
 obtain ⟨rfl,rfl,rfl⟩:=H
 go_enter func148,ntmps148
 go_wp2_with (first|(refine box_ev 6 #[.bool false,.slice none 0 0,.slice none 0 0] 103 ?_;intro gb182 hg w7 hbox hb;replace HO1:=yE HO1 hg hb;replace HO2:=yE HO2 hg hb;have BK182:=aZ hbox;have GE182:=sG hg;replace HB:=sB hb;clear hb hbox hg)|(refine zg (some 9) func151 #[.slice A1 l1.length c1] ?_;(with_reducible refine (YV.calls _ _ l1 true _ ?side1 ?side2 A4.out).mono ?_);(case side1=>exact zr HO1);(case side2=>exact zk HO1);rintro e w' ⟨rfl,⟨nd,rfl⟩⟩;refine ⟨_,rfl,?_⟩;(try (rw [drewN_self w7];generalize hq_:World.drewN w7 _=w7;have n0_:Aside0 (Kd.V (Kd.int .u32) 97 w7 w.heap.size (fun k_=>((P1_ k_∨P2_ k_)∨w.heap.size≤k_)∧k_≠gb182) (.slice A1 l1.length c1) l1):=⟨by rw [← hq_];exact (zV HO1)⟩;have n1_:Aside0 (Kd.V (Kd.int .u32) 97 w7 w.heap.size (fun k_=>((P1_ k_∨P2_ k_)∨w.heap.size≤k_)∧k_≠gb182) (.slice A2 l2.length c2) l2):=⟨by rw [← hq_];exact (zV HO2)⟩;have n2_:Aside0 (w7.heap[gb182]? = some (.cells #[.bool false,.slice none 0 0,.slice none 0 0] 103 (0,0))):=⟨by rw [← hq_];exact (zb BK182)⟩;have n3_:Aside0 (Below w.heap.size w w7):=⟨by rw [← hq_];exact bw⟩;clear HO1 HO2 BK182 HB hq_;have HO1:=n0_;have HO2:=n1_;have BK182:=n2_;have HB:=n3_;clear n0_ n1_ n2_ n3_)))|(refine zg (some 10) func137 #[] ?_;(with_reducible refine (YQ.calls k  t184 _ A6.out).mono ?_);rintro e w8 ⟨v185,rfl,ho0,hb⟩;refine ⟨_,rfl,?_⟩;replace HO1:=aZ (Kd.V_elder' (zV HO1) (Kd.R_base ho0) hb);replace HO2:=aZ (Kd.V_elder' (zV HO2) (Kd.R_base ho0) hb);have HO186:=aZ (Kd.R_lower (Kd.R_newM (M:=fun k_=>(w.heap.size≤k_)) ho0 bs (fun k_ h_=>h_)) bs);replace BK182:=sK BK182 hb;replace HB:=sB hb;clear hb ho0;obtain ⟨Ao9,co9,rfl⟩:=Kd.R_slice HO186.out;obtain ⟨hcz10_0,hfz10_0⟩:=zc BK182 0 (.bool false) rfl;obtain ⟨hcz10_1,hfz10_1⟩:=zc BK182 1 (.slice none 0 0) rfl;obtain ⟨hcz10_2,hfz10_2⟩:=zc BK182 2 (.slice none 0 0) rfl))
 refine bodyPost_ret (results_cell_row rfl _ _ gb182 103 #[.bool false,.slice none 0 0,.slice Ao9 t184.length co9] (0,0) _ rfl (zp BK182) underlying103 rfl (by kernel_rfl)) rfl ?_
 exact ⟨_,_,ze,Kd.V_mono (Kd.V_nil _ _ _ _ _) (fun k_ hk=>by first|exact ⟨(.inr (hk.1)),hk.2⟩|exact (.inr (hk))),Kd.V_mono (Kd.R_V (by (with_reducible repeat (first|apply Kd.R_alloc|apply Kd.R_drewN|apply Kd.R_drew));exact Kd.R_mono (Kd.R_far (p:=⟨gb182,2,none⟩) (Kd.R_far (p:=⟨gb182,1,none⟩) (Kd.R_far (p:=⟨gb182,0,none⟩) (Kd.R_types HO186.out BK182.out (by decide)) (fun k_ hk=>by first|exact hk.2|simp_all) (.bool false)) (fun k_ hk=>by first|exact hk.2|simp_all) (.slice none 0 0)) (fun k_ hk=>by first|exact hk.2|simp_all) (.slice Ao9 t184.length co9)) (fun k_ hk=>by first|exact hk.1.1|simp_all))) (fun k_ hk=>by first|exact ⟨(.inr (hk.1)),hk.2⟩|exact (.inr (hk))),bw⟩
mutual
def Yq.j0:Nat→List Int→List Int→Bool→Option (List Int)
 | 0,_,_,_=>none
 | k+1,x0,x1,x19=>if x19=true then (some ([]:List Int)) else (if 0≤(wrap64 ((x0.length:Int)+(x1.length:Int))) then (if (wrap64 ((x0.length:Int)+(x1.length:Int)):Int).toNat≤70368744177664 then (Yq.l0 k x1 (List.replicate (wrap64 ((x0.length:Int)+(x1.length:Int)):Int).toNat 0) x0 (x0.length:Int) 0) else (none)) else (none))
def Yq.l0:Nat→List Int→List Int→List Int→Int→Int→Option (List Int)
 | 0,_,_,_,_,_=>none
 | k+1,x1,x5,x26,x27,x28=>if x28<x27 then (if 0≤x28 then (if x28<(x26.length:Int) then (Yq.l1 k x1 x5 x28 (rd x26 x28) 0 x26 x27 x28 x1 (x1.length:Int) 0) else (none)) else (none)) else ((Yf.f k x5).bind fun t207=>(some t207))
def Yq.l1:Nat→List Int→List Int→Int→Int→Int→List Int→Int→Int→List Int→Int→Int→Option (List Int)
 | 0,_,_,_,_,_,_,_,_,_,_,_=>none
 | k+1,x1,x5,x6,x7,x8,x26,x27,x28,x33,x34,x35=>if x35<x34 then (if 0≤x35 then (if x35<(x33.length:Int) then (if 0≤(wrap64 (x6+x35)) then (if (wrap64 (x6+x35))<(x5.length:Int) then (Yq.l1 k x1 (x5.set ((wrap64 (x6+x35)):Int).toNat ((Int.tmod (IntKind.u64.wrap ((IntKind.u64.wrap ((IntKind.u64.wrap ((IntKind.u64.wrap (x7))*(IntKind.u64.wrap (rd x33 x35))))+(IntKind.u64.wrap (rd x5 (wrap64 (x6+x35))))))+x8)) 1000000000)%4294967296)) x6 x7 (IntKind.u64.wrap (Int.tdiv (IntKind.u64.wrap ((IntKind.u64.wrap ((IntKind.u64.wrap ((IntKind.u64.wrap (x7))*(IntKind.u64.wrap (rd x33 x35))))+(IntKind.u64.wrap (rd x5 (wrap64 (x6+x35))))))+x8)) 1000000000)) x26 x27 x28 x33 x34 (wrap64 (x35+1))) else (none)) else (none)) else (none)) else (none)) else (if 0≤(wrap64 (x6+(x1.length:Int))) then (if (wrap64 (x6+(x1.length:Int)))<(x5.length:Int) then (Yq.l0 k x1 (x5.set ((wrap64 (x6+(x1.length:Int))):Int).toNat ((x8)%4294967296)) x26 x27 (wrap64 (x28+1))) else (none)) else (none))
end
def Yq.f (k:Nat) (l0:List Int) (l1:List Int):Option (List Int):=if (l0.length:Int)=0 then (Yq.j0 k l0 l1 true) else (Yq.j0 k l0 l1 ((l1.length:Int)==0))
theorem Yq.mono_l:∀ k,(∀ y0 y1 y2,LeO (Yq.j0 k y0 y1 y2) (Yq.j0 (k+1) y0 y1 y2))∧(∀ y0 y1 y2 y3 y4,LeO (Yq.l0 k y0 y1 y2 y3 y4) (Yq.l0 (k+1) y0 y1 y2 y3 y4))∧(∀ y0 y1 y2 y3 y4 y5 y6 y7 y8 y9 y10,LeO (Yq.l1 k y0 y1 y2 y3 y4 y5 y6 y7 y8 y9 y10) (Yq.l1 (k+1) y0 y1 y2 y3 y4 y5 y6 y7 y8 y9 y10))
 | 0=>⟨fun _ _ _ r h=>by simp [Yq.j0] at h,fun _ _ _ _ _ r h=>by simp [Yq.l0] at h,fun _ _ _ _ _ _ _ _ _ _ _ r h=>by simp [Yq.l1] at h⟩
 | k+1=>by
  obtain ⟨ih0,ih1,ih2⟩:=Yq.mono_l k
  refine ⟨?_,?_,?_⟩
  ·intro y0 y1 y2
   unfold Yq.j0
   have m0:=Yf.mono
   exact zM
  ·intro y0 y1 y2 y3 y4
   unfold Yq.l0
   have m0:=Yf.mono
   exact zM
  ·intro y0 y1 y2 y3 y4 y5 y6 y7 y8 y9 y10
   unfold Yq.l1
   have m0:=Yf.mono
   exact zM
theorem Yq.mono:∀ a0 a1 k,LeO (Yq.f k a0 a1) (Yq.f (k+1) a0 a1):=by
 intro a0 a1 k
 obtain ⟨ih0,ih1,ih2⟩:=Yq.mono_l k
 unfold Yq.f
 have m0:=Yf.mono
 exact zM
theorem Yq.calls (k:Nat) (A0:Option Addr) (c0:Nat) (l0:List Int) (A1:Option Addr) (c1:Nat) (l1:List Int) (r:List Int) (w:World) (hr0:Kd.C (Kd.int .u32) w A0 l0.length l0) (hc0:l0.length≤c0) (hr1:Kd.C (Kd.int .u32) w A1 l1.length l1) (hc1:l1.length≤c1) (h:Yq.f k l0 l1=some r) :
  Calls Tryz.prog 149 #[.slice A0 l0.length c0,.slice A1 l1.length c1] w fun e w'=>∃ v0_:Value,e = .returned (v0_)∧Kd.V (Kd.int .u32) 97 w' w.heap.size (fun k_=>(w.heap.size≤k_)) v0_ r∧Below w.heap.size w w':=by
 have HR0:=aZ hr0
 have HC0:=aZ hc0
 clear hr0 hc0
 have HR1:=aZ hr1
 have HC1:=aZ hc1
 clear hr1 hc1
 have HB:=aZ (Below.refl w.heap.size w)
 have H:=h
 unfold Yq.f at H
 clear h
 have HC3:=aZ H
 clear H
 go_enter func149,ntmps149
 go_upto_region 1 with (fail)
 go_cut [19] (fun v19 wc=>∃ (kq:Nat) (x19_2:Bool),v19 = .bool x19_2∧Aside0 (Yq.j0 kq l0 l1 x19_2=some r)∧Aside0 (kq≤k)∧Aside0 (Below w.heap.size w wc))
 case first =>
  have H:=HC3.out
  clear HC3
  by_cases c4:(l0.length:Int)=0
  case neg=>
   rw [if_neg c4] at H
   obtain ⟨c4b0,c4b1⟩:=zX c4
   have c4b2:¬ (l0=[]):=fun h_=>c4 (by rw [h_];rfl)
   (first|rw [c4b0]|(simp only [i64_w,i32_w];rw [c4b0])|skip)
   have H':=aZ H
   clear H
   go_wp2
   go_meet
   case rel=>exact ⟨_,(((l1.length:Int)==0)),zs,H',⟨by first|omega|exact Nat.le_refl _⟩,⟨bw⟩⟩
  rw [if_pos c4] at H
  obtain ⟨c4b0,c4b1⟩:=zY c4
  clear c4
  (first|rw [c4b0]|(simp only [i64_w,i32_w];rw [c4b0])|skip)
  have H':=aZ H
  clear H
  go_wp2
  go_meet
  case rel=>exact ⟨_,(true),zs,H',⟨by first|omega|exact Nat.le_refl _⟩,⟨bw⟩⟩
 case rest =>
  clear HC3
  try clear c1
  try clear c4
  try clear c4b0
  try clear c4b1
  try clear c4b2
  obtain ⟨kq,x19_2,rfl,HA,HJ2,HB⟩:=hcut
  cases kq with
  | zero=>exact absurd HA.out (by simp [Yq.j0])
  | succ kj2 =>
   have H:=HA.out
   clear HA
   simp only [Yq.j0] at H
   by_cases c5:x19_2=true
   case neg=>
    replace c5:=Bool.eq_false_iff.mpr c5
    subst c5
    have H1:(if 0≤(wrap64 ((l0.length:Int)+(l1.length:Int))) then (if (wrap64 ((l0.length:Int)+(l1.length:Int)):Int).toNat≤70368744177664 then (Yq.l0 kj2 l1 (List.replicate (wrap64 ((l0.length:Int)+(l1.length:Int)):Int).toNat 0) l0 (l0.length:Int) 0) else (none)) else (none))=some r:=by rw [if_neg (show ¬ (false=true) by decide)] at H;exact H
    clear H
    have H:=H1
    clear H1
    obtain ⟨ji6,hji6⟩:∃ j_:Int,(wrap64 ((l0.length:Int)+(l1.length:Int)))=j_:=⟨_,rfl⟩
    (first|rw [hji6] at H|simp only [hji6] at H)
    have hji6w:(IntKind.i64.wrap ((l0.length:Int)+(l1.length:Int)))=ji6:=(i64_w _).trans hji6
    by_cases c7:0≤(ji6)
    case neg=>
     rw [if_neg c7] at H
     cases H
    rw [if_pos c7] at H
    have c7b0:=eq_true c7
    have c7b1:=decide_eq_true c7
    clear c7
    by_cases c8:(ji6:Int).toNat≤70368744177664
    case neg=>
     rw [if_neg c8] at H
     cases H
    rw [if_pos c8] at H
    have c8b0:=eq_true c8
    have c8b1:=decide_eq_true c8
    clear c8
    obtain ⟨y204,hy204⟩:∃ y_:List Int,y_=(List.replicate (ji6:Int).toNat 0):=⟨_,rfl⟩
    replace H:(Yq.l0 kj2 l1 y204 l0 (l0.length:Int) 0)=some r:=zy hy204 H
    have Ny204:=aZ hy204
    clear hy204
    have H':=aZ H
    clear H
    go_wp2_with (first|((with_reducible refine gate_dst (N:=25) rfl ?_);(try (refine gate_guard (by rfl) ?_;dsimp only));refine Kd.R_make (Kd.int .u32) _ 97 rfl (N:=25) rfl 101 _ _ rfl ji6 rfl rfl underlying101 (.int .u32 0) 4 info97 rfl (by decide) (by omega) 0 (ok:=fun _=>True) (okp:=fun _=>True) rfl (fun _ hk=>hk) trivial (zd) (Nat.le_trans (Nat.mul_le_mul_right _ (zd:ji6.toNat≤70368744177664)) (by omega)) (Below.refl _ _) (Nat.le_refl _) ?_;intro v205 w9 ho10 hb hg_ hnew_;clear hg_ hnew_;(first|rw [← Ny204.out] at ho10|(simp only [Int.reduceToNat] at ho10;rw [← Ny204.out] at ho10));have HO206:=aZ (Kd.R_lower (Kd.R_newM (M:=fun k_=>(w.heap.size≤k_)) ho10 bs (fun k_ h_=>h_)) bs);replace HB:=sB hb;clear hb ho10))
    go_loopg [28] kj2 (fun kq v28 w'=>∃ (x5_2:List Int) (x28_2:Int),v28 = .int .i64 x28_2∧Aside0 (Yq.l0 kq l1 x5_2 l0 (l0.length:Int) x28_2=some r)∧Aside0 (kq≤kj2)∧Aside0 (Kd.R (Kd.int .u32) 97 w' w.heap.size (fun k_=>(w.heap.size≤k_)) v205 x5_2)∧Aside0 (Below w.heap.size w w'))
    case atStart=>exact ⟨(y204),(0),zs,H',⟨Nat.le_refl _⟩,⟨by (with_reducible repeat (first|apply Kd.R_alloc|apply Kd.R_drewN|apply Kd.R_drew));exact Kd.R_mono HO206.out (fun _ hk=>hk.1)⟩,⟨bw⟩⟩
    case round =>
     clear H'
     try clear c1
     try clear c4
     try clear c4b0
     try clear c4b1
     try clear c4b2
     try clear c5
     try clear c7
     try clear c7b0
     try clear c7b1
     try clear c8
     try clear c8b0
     try clear c8b1
     obtain ⟨x5_2,x28_2,rfl,HA,HK2,HO_5,HB⟩:=hrel
     cases gk with
     | zero=>exact absurd HA.out (by simp [Yq.l0])
     | succ k2 =>
      have H:=HA.out
      clear HA
      simp only [Yq.l0] at H
      by_cases c11:x28_2<(l0.length:Int)
      case neg=>
       rw [if_neg c11] at H
       have c11b0:=decide_eq_false c11
       clear c11
       obtain ⟨t207,A30,H⟩:=zB H
       obtain rfl:=Option.some.inj H
       obtain ⟨Ao31,co31,rfl⟩:=Kd.R_slice HO_5.out
       go_wp2_with (first|(refine zg (some 76) func147 #[.slice Ao31 x5_2.length co31] ?_;(with_reducible refine (Yf.calls k2 (fun k_=>some k_=(.slice Ao31 x5_2.length co31:Value).ownBlock) _ _ x5_2 t207 _ ?side1 A30.out).mono ?_);(case side1=>exact Kd.R_V (Kd.R_tight rfl (HO_5.out)));rintro e w32 ⟨v208,rfl,ho0,hb⟩;refine ⟨_,rfl,?_⟩;have HO209:=yL (fun k_=>(w.heap.size≤k_)) ho0 (fun k_ hk_=>Or.elim hk_ (fun hs_=>((HO_5.out).1 k_ hs_.symm)) (fun hn_=>(Nat.le_trans bs hn_)));replace HO_5:=yR HO_5 hb;replace HB:=sB hb;clear hb ho0))
       go_ret
       exact ⟨_,by first|rfl|(simp [errW_none,errW_some] <;> rfl)|(simp only [← hji6];first|rfl|(simp [errW_none,errW_some] <;> rfl))|(simp [*,errW_none,errW_some] <;> rfl),zV HO209,bw⟩
      rw [if_pos c11] at H
      have c11b0:=decide_eq_true c11
      clear c11
      by_cases c12:0≤x28_2
      case neg=>
       rw [if_neg c12] at H
       cases H
      rw [if_pos c12] at H
      have c12b0:=decide_eq_true c12
      clear c12
      by_cases c13:x28_2<(l0.length:Int)
      case neg=>
       rw [if_neg c13] at H
       cases H
      rw [if_pos c13] at H
      have c13b0:=decide_eq_true c13
      clear c13
      have H':=aZ H
      clear H
      have p210:0≤(x28_2:Int):=zd
      have q210:x28_2<(l0.length:Int):=zd
      obtain ⟨ad210,e210,hx210_0⟩:=Kd.at_int HR0.out x28_2 p210 q210
      cases e210
      replace hx210_0:=(HB.out.cell (World.block_lt_of_cell? w _ hx210_0)).trans hx210_0
      replace p210:=eq_true p210
      replace q210:=eq_true q210
      go_wp2
      go_loopg [8,35] k2 (fun kq v8 v35 w'=>∃ (x5_3:List Int) (x8_3:Int) (x35_3:Int),v8 = .int .u64 x8_3∧v35 = .int .i64 x35_3∧Aside0 (Yq.l1 kq l1 x5_3 x28_2 (rd l0 x28_2) x8_3 l0 (l0.length:Int) x28_2 l1 (l1.length:Int) x35_3=some r)∧Aside0 (kq≤k2)∧Aside0 (Kd.R (Kd.int .u32) 97 w' w.heap.size (fun k_=>(w.heap.size≤k_)) v205 x5_3)∧Aside0 (Below w.heap.size w w'))
      case atStart=>exact ⟨(x5_2),(0),(0),zs,zs,H',⟨Nat.le_refl _⟩,⟨zR HO_5⟩,⟨bw⟩⟩
      case round =>
       clear H'
       try clear c1
       try clear q2
       try clear hx2
       try clear c4
       try clear c4b0
       try clear c4b1
       try clear c4b2
       try clear c5
       try clear c7
       try clear c7b0
       try clear c7b1
       try clear c8
       try clear c8b0
       try clear c8b1
       try clear c11
       try clear c11b0
       try clear c12
       try clear c12b0
       try clear c13
       try clear c13b0
       try clear hx210_0
       try clear q210
       obtain ⟨x5_3,x8_3,x35_3,rfl,rfl,HA,HK3,HO_5,HB⟩:=hrel
       cases gk with
       | zero=>exact absurd HA.out (by simp [Yq.l1])
       | succ k3 =>
        have H:=HA.out
        clear HA
        simp only [Yq.l1] at H
        by_cases c14:x35_3<(l1.length:Int)
        case neg=>
         rw [if_neg c14] at H
         have c14b0:=decide_eq_false c14
         clear c14
         obtain ⟨ji24,hji24⟩:∃ j_:Int,(wrap64 (x28_2+(l1.length:Int)))=j_:=⟨_,rfl⟩
         (first|rw [hji24] at H|simp only [hji24] at H)
         have hji24w:(IntKind.i64.wrap (x28_2+(l1.length:Int)))=ji24:=(i64_w _).trans hji24
         by_cases c25:0≤(ji24)
         case neg=>
          rw [if_neg c25] at H
          cases H
         rw [if_pos c25] at H
         have c25b0:=decide_eq_true c25
         clear c25
         by_cases c26:(ji24)<(x5_3.length:Int)
         case neg=>
          rw [if_neg c26] at H
          cases H
         rw [if_pos c26] at H
         have c26b0:=decide_eq_true c26
         clear c26
         obtain ⟨y214,hy214⟩:∃ y_:List Int,y_=(x5_3.set ((ji24):Int).toNat ((x8_3)%4294967296)):=⟨_,rfl⟩
         replace H:(Yq.l0 k3 l1 y214 l0 (l0.length:Int) (wrap64 (x28_2+1)))=some r:=zy hy214 H
         have Ny214:=aZ hy214
         clear hy214
         have H':=aZ H
         clear H
         have p27:0≤((ji24):Int):=zd
         have q27:((ji24):Int)<((x5_3.length:Int):Int):=zd
         obtain ⟨go27,co27,eo27,gb27,gl27,cl27,HG27⟩:=Kd.R_form HO_5.out (by omega)
         (first|cases eo27|(injection eo27 with ea_ en_ ec_;(first|subst ea_|(injection ea_ with ea_;subst ea_));subst ec_;clear en_))
         have GB27:=aZ gb27
         have GG27:=aZ HG27
         clear gb27 gl27 HG27
         obtain ⟨hx27_0,hf27_0⟩:=Kd.R_celln 0 HO_5.out ((ji24):Int) p27 q27
         replace p27:=eq_true p27
         replace q27:=eq_true q27
         have HP28:=Kd.R_putg HO_5.out ((ji24):Int) ((x8_3)%4294967296)
         go_wp2_with (first|((with_reducible refine gate_store (t:=97) (p:=73) rfl ?_);refine store_event (t:=97) (p:=73) (v:=?vo_w29) (w1:=(wr.setCell ⟨go27,((ji24):Int).toNat,none⟩ (.int .u32 ((x8_3)%4294967296)))) ?hg ?ho ?hn ?hr ?_;(case ho=>rfl);(case hg=>rfl);(case hn=>rfl);(case hr=>first|(go_simp;done)|(go_simp;rfl));intro w29 hw;have hg:wr.grownBy w29 (some go27):=(by rw [hw];exact HP28.2);have hp_:Kd.R (Kd.int .u32) 97 w29 w.heap.size (fun k_=>(w.heap.size≤k_)) (.slice (some ⟨go27,0,none⟩) x5_3.length co27) y214:=(by rw [hw,Ny214.out];exact HP28.1);clear HP28;replace HO_5:=aZ (hp_);replace HB:=aZ ((by rw [hw];exact below_set (HB.out) GB27.out:Below w.heap.size w w29));clear hg hw hp_))
         go_roundg k3
         case measure=>have:=HJ2.out;have:=HK2.out;have:=HK3.out;omega
         case rel=>exact ⟨(y214),(wrap64 (x28_2+1)),zs,H',⟨by have:=HJ2.out;have:=HK2.out;have:=HK3.out;omega⟩,⟨zR HO_5⟩,⟨bw⟩⟩
        rw [if_pos c14] at H
        have c14b0:=decide_eq_true c14
        clear c14
        by_cases c15:0≤x35_3
        case neg=>
         rw [if_neg c15] at H
         cases H
        rw [if_pos c15] at H
        have c15b0:=decide_eq_true c15
        clear c15
        by_cases c16:x35_3<(l1.length:Int)
        case neg=>
         rw [if_neg c16] at H
         cases H
        rw [if_pos c16] at H
        have c16b0:=decide_eq_true c16
        clear c16
        obtain ⟨ji17,hji17⟩:∃ j_:Int,(wrap64 (x28_2+x35_3))=j_:=⟨_,rfl⟩
        (first|rw [hji17] at H|simp only [hji17] at H)
        have hji17w:(IntKind.i64.wrap (x28_2+x35_3))=ji17:=(i64_w _).trans hji17
        by_cases c18:0≤(ji17)
        case neg=>
         rw [if_neg c18] at H
         cases H
        rw [if_pos c18] at H
        have c18b0:=decide_eq_true c18
        clear c18
        by_cases c19:(ji17)<(x5_3.length:Int)
        case neg=>
         rw [if_neg c19] at H
         cases H
        rw [if_pos c19] at H
        have c19b0:=decide_eq_true c19
        clear c19
        obtain ⟨y213,hy213⟩:∃ y_:List Int,y_=(x5_3.set ((ji17):Int).toNat ((Int.tmod (IntKind.u64.wrap ((IntKind.u64.wrap ((IntKind.u64.wrap ((IntKind.u64.wrap ((rd l0 x28_2)))*(IntKind.u64.wrap (rd l1 x35_3))))+(IntKind.u64.wrap (rd x5_3 (ji17)))))+x8_3)) 1000000000)%4294967296)):=⟨_,rfl⟩
        replace H:(Yq.l1 k3 l1 y213 x28_2 (rd l0 x28_2) (IntKind.u64.wrap (Int.tdiv (IntKind.u64.wrap ((IntKind.u64.wrap ((IntKind.u64.wrap ((IntKind.u64.wrap ((rd l0 x28_2)))*(IntKind.u64.wrap (rd l1 x35_3))))+(IntKind.u64.wrap (rd x5_3 (ji17)))))+x8_3)) 1000000000)) l0 (l0.length:Int) x28_2 l1 (l1.length:Int) (wrap64 (x35_3+1)))=some r:=zy hy213 H
        have Ny213:=aZ hy213
        clear hy213
        have H':=aZ H
        clear H
        have p211:0≤(x35_3:Int):=zd
        have q211:x35_3<(l1.length:Int):=zd
        obtain ⟨ad211,e211,hx211_0⟩:=Kd.at_int HR1.out x35_3 p211 q211
        cases e211
        replace hx211_0:=(HB.out.cell (World.block_lt_of_cell? w _ hx211_0)).trans hx211_0
        replace p211:=eq_true p211
        replace q211:=eq_true q211
        obtain ⟨Ao21,co21,rfl⟩:=Kd.R_slice HO_5.out
        have p212:0≤((ji17):Int):=zd
        have q212:(ji17)<(x5_3.length:Int):=zd
        obtain ⟨ad212,e212,hx212_0⟩:=Kd.at_int (Kd.R_reads' HO_5.out).2.2 (ji17) p212 q212
        cases e212
        replace p212:=eq_true p212
        replace q212:=eq_true q212
        have p20:0≤((ji17):Int):=zd
        have q20:((ji17):Int)<((x5_3.length:Int):Int):=zd
        obtain ⟨go20,co20,eo20,gb20,gl20,cl20,HG20⟩:=Kd.R_form HO_5.out (by omega)
        (first|cases eo20|(injection eo20 with ea_ en_ ec_;(first|subst ea_|(injection ea_ with ea_;subst ea_));subst ec_;clear en_))
        have GB20:=aZ gb20
        have GG20:=aZ HG20
        clear gb20 gl20 HG20
        (first|simp only [add_plain] at hx212_0|skip)
        obtain ⟨hx20_0,hf20_0⟩:=Kd.R_celln 0 HO_5.out ((ji17):Int) p20 q20
        replace p20:=eq_true p20
        replace q20:=eq_true q20
        have HP22:=Kd.R_putg HO_5.out ((ji17):Int) ((Int.tmod (IntKind.u64.wrap ((IntKind.u64.wrap ((IntKind.u64.wrap ((IntKind.u64.wrap ((rd l0 x28_2)))*(IntKind.u64.wrap (rd l1 x35_3))))+(IntKind.u64.wrap (rd x5_3 (ji17)))))+x8_3)) 1000000000)%4294967296)
        go_wp2_with (first|((with_reducible refine gate_store (t:=97) (p:=64) rfl ?_);refine store_event (t:=97) (p:=64) (v:=?vo_w23) (w1:=(wr.setCell ⟨go20,((ji17):Int).toNat,none⟩ (.int .u32 ((Int.tmod (IntKind.u64.wrap ((IntKind.u64.wrap ((IntKind.u64.wrap ((IntKind.u64.wrap ((rd l0 x28_2)))*(IntKind.u64.wrap (rd l1 x35_3))))+(IntKind.u64.wrap (rd x5_3 (ji17)))))+x8_3)) 1000000000)%4294967296)))) ?hg ?ho ?hn ?hr ?_;(case ho=>rfl);(case hg=>rfl);(case hn=>rfl);(case hr=>first|(go_simp;done)|(go_simp;rfl));intro w23 hw;have hg:wr.grownBy w23 (some go20):=(by rw [hw];exact HP22.2);have hp_:Kd.R (Kd.int .u32) 97 w23 w.heap.size (fun k_=>(w.heap.size≤k_)) (.slice (some ⟨go20,0,none⟩) x5_3.length co21) y213:=(by rw [hw,Ny213.out];exact HP22.1);clear HP22;replace HO_5:=aZ (hp_);replace HB:=aZ ((by rw [hw];exact below_set (HB.out) GB20.out:Below w.heap.size w w23));clear hg hw hp_))
        go_roundg k3
        case measure=>have:=HJ2.out;have:=HK2.out;have:=HK3.out;omega
        case rel=>exact ⟨(y213),(IntKind.u64.wrap (Int.tdiv (IntKind.u64.wrap ((IntKind.u64.wrap ((IntKind.u64.wrap ((IntKind.u64.wrap ((rd l0 x28_2)))*(IntKind.u64.wrap (rd l1 x35_3))))+(IntKind.u64.wrap (rd x5_3 (ji17)))))+x8_3)) 1000000000)),(wrap64 (x35_3+1)),(by first|rfl|(simp;done)|(simp only [← hji17] <;> (first|rfl|simp))|(simp [*];done)),zs,H',⟨by have:=HJ2.out;have:=HK2.out;have:=HK3.out;omega⟩,⟨zR HO_5⟩,⟨bw⟩⟩
   subst c5
   have H1:(some ([]:List Int))=some r:=by rw [if_pos rfl] at H;exact H
   clear H
   have H:=H1
   clear H1
   obtain rfl:=Option.some.inj H
   go_wp2
   go_ret
   exact ⟨_,ze,Kd.V_nil _ _ _ _ _,bw⟩
def YK.f (k:Nat) (a0_0:Bool) (l0_1:List Int) (l0_2:List Int) (a1_0:Bool) (l1_1:List Int) (l1_2:List Int):Option (Bool×List Int×List Int):=(Yq.f k l0_1 l1_2).bind fun t218=>((Yq.f k l0_2 l1_1).bind fun t221=>((YR.f k (a0_0 != a1_0) t218 t221).bind fun bt224=>(some (bt224.1,bt224.2.1,bt224.2.2))))
theorem YK.mono:∀ a0 a1 a2 a3 a4 a5 k,LeO (YK.f k a0 a1 a2 a3 a4 a5) (YK.f (k+1) a0 a1 a2 a3 a4 a5):=by
 intro a0 a1 a2 a3 a4 a5 k
 unfold YK.f
 have m0:=YR.mono
 have m1:=Yq.mono
 exact zM
def YK.T1:Bool×List (List Nat×List Nat):=(true,[([],[]),([0],[0]),([],[]),([2],[2]),([1,3],[1,3]),([],[]),([5],[5]),([],[]),([7],[7]),([6,8],[6,8]),([],[]),([10],[10]),([],[]),([12],[12]),([11,13,9],[11,13]),([4,9,14,14],[4,9,14]),([15,15,0,1,2,3,4,5,6,7,8,9,10,11,12,13,14,15],[15])])
def YK.B1:List Nat:=[0,1,0,4,15,0,32,0,128,480,0,1024,0,4096,16352,32767,65535]
theorem YK.tab1:rtab .any (opsOf Tryz.f113 1)=YK.T1:=by kernel_rfl
theorem YK.bits1:waitsOk YK.T1.2 YK.B1=true:=by kernel_rfl
theorem YK.calls (k:Nat) (a0_0:Bool) (A0_1:Option Addr) (c0_1:Nat) (l0_1:List Int) (A0_2:Option Addr) (c0_2:Nat) (l0_2:List Int) (a1_0:Bool) (A1_1:Option Addr) (c1_1:Nat) (l1_1:List Int) (A1_2:Option Addr) (c1_2:Nat) (l1_2:List Int) (r1:Bool) (r2:List Int) (r3:List Int) (w:World) (hr0_1:Kd.C (Kd.int .u32) w A0_1 l0_1.length l0_1) (hc0_1:l0_1.length≤c0_1) (hr0_2:Kd.C (Kd.int .u32) w A0_2 l0_2.length l0_2) (hc0_2:l0_2.length≤c0_2) (hr1_1:Kd.C (Kd.int .u32) w A1_1 l1_1.length l1_1) (hc1_1:l1_1.length≤c1_1) (hr1_2:Kd.C (Kd.int .u32) w A1_2 l1_2.length l1_2) (hc1_2:l1_2.length≤c1_2) (h:YK.f k a0_0 l0_1 l0_2 a1_0 l1_1 l1_2=some (r1,r2,r3)) :
  Calls Tryz.prog 113 #[.agg #[.bool a0_0,.slice A0_1 l0_1.length c0_1,.slice A0_2 l0_2.length c0_2],.agg #[.bool a1_0,.slice A1_1 l1_1.length c1_1,.slice A1_2 l1_2.length c1_2]] w fun e w'=>∃ v1_ v2_:Value,e = .returned (.agg #[.bool r1,v1_,v2_])∧Kd.V (Kd.int .u32) 97 w' w.heap.size (fun k_=>(w.heap.size≤k_)) v1_ r2∧Kd.V (Kd.int .u32) 97 w' w.heap.size (fun k_=>(w.heap.size≤k_)) v2_ r3∧Below w.heap.size w w':=by
 have hu103:=underlying103
 have HR0_1:=aZ hr0_1
 have HC0_1:=aZ hc0_1
 clear hr0_1 hc0_1
 have HR0_2:=aZ hr0_2
 have HC0_2:=aZ hc0_2
 clear hr0_2 hc0_2
 have HR1_1:=aZ hr1_1
 have HC1_1:=aZ hc1_1
 clear hr1_1 hc1_1
 have HR1_2:=aZ hr1_2
 have HC1_2:=aZ hc1_2
 clear hr1_2 hc1_2
 have HB:=aZ (Below.refl w.heap.size w)
 have H:=h
 unfold YK.f at H
 clear h
 obtain ⟨t218,A3,H⟩:=zB H
 obtain ⟨t221,A4,H⟩:=zB H
 obtain ⟨⟨t224,t225,t228⟩,A5,H⟩:=zB H
 (try dsimp only at H)
 simp only [Option.some.injEq,Prod.mk.injEq] at H
 obtain ⟨rfl,rfl,rfl⟩:=H
 go_enter func113,ntmps113
 try go_wp2_with (first|(refine box_ev 2 #[.bool a0_0,.slice A0_1 l0_1.length c0_1,.slice A0_2 l0_2.length c0_2] 103 ?_;intro gb215 hg w6 hbox hb;have BK215:=aZ hbox;have GE215:=sG hg;replace HB:=sB hb;clear hb hbox hg)|(refine box_ev 3 #[.bool a1_0,.slice A1_1 l1_1.length c1_1,.slice A1_2 l1_2.length c1_2] 103 ?_;intro gb216 hg w7 hbox hb;have BK216:=aZ hbox;have GE216:=sG hg;replace HB:=sB hb;have NB215_216:=sl hg BK215;have NB216_215:=sg hg BK215;replace BK215:=sK BK215 hb;clear hb hbox hg)|(refine box_ev 4 #[.bool false,.slice none 0 0,.slice none 0 0] 103 ?_;intro gb217 hg w8 hbox hb;have BK217:=aZ hbox;have GE217:=sG hg;replace HB:=sB hb;have NB215_217:=sl hg BK215;have NB217_215:=sg hg BK215;replace BK215:=sK BK215 hb;have NB216_217:=sl hg BK216;have NB217_216:=sg hg BK216;replace BK216:=sK BK216 hb;clear hb hbox hg))
 replace BK215:=aZ (blk_drew BK215.out)
 replace BK216:=aZ (blk_drew BK216.out)
 replace BK217:=aZ (blk_drew BK217.out)
 replace HB:=aZ (below_drew1 HB.out)
 refine start_ (n:=17) (S:=fun w'=>w'.cell? ⟨gb215,0,none⟩=some (.bool a0_0)∧w'.cell? ⟨gb215,1,none⟩=some (.slice A0_1 l0_1.length c0_1)∧w'.cell? ⟨gb215,2,none⟩=some (.slice A0_2 l0_2.length c0_2)∧w'.cell? ⟨gb216,0,none⟩=some (.bool a1_0)∧w'.cell? ⟨gb216,1,none⟩=some (.slice A1_1 l1_1.length c1_1)∧w'.cell? ⟨gb216,2,none⟩=some (.slice A1_2 l1_2.length c1_2)) (ds:=[]) #[false,false,false,false,false,false,false,false,false,false,false,false,false,false,false,false,false] (by kernel_rfl) rfl rfl ⟨zh BK215 0,zh BK215 1,zh BK215 2,zh BK216 0,zh BK216 1,zh BK216 2⟩ (fun hHeld=>?_);refine with_tabW YK.tab1 YK.bits1 (fun HT_ HW_=>?_)
 generalize w8.drew=w9 at BK215 BK216 BK217 HB hHeld ⊢
 refine pu 0 (some 5) HT_ ?_
 refine pu 2 (some 7) HT_ ?_
 refine pu 5 (some 10) HT_ ?_
 refine pu 7 (some 12) HT_ ?_
 refine pu 10 (some 15) HT_ ?_
 refine pu 12 (some 17) HT_ ?_
 refine tk 1 (some 6) HT_ HW_ hHeld ?_
 refine tk 3 (some 8) HT_ HW_ hHeld ?_
 refine pu 4 (some 9) HT_ ?_
 refine tk 6 (some 11) HT_ HW_ hHeld ?_
 refine tk 8 (some 13) HT_ HW_ hHeld ?_
 refine tk 11 (some 16) HT_ HW_ hHeld ?_
 refine tk 13 (some 18) HT_ HW_ hHeld ?_
 refine one_ (i:=9) (N:=some 14) #[true,true,true,true,true,true,true,true,true,true,true,true,true,true,false,false,false] rfl rfl (one_of HT_.out (by kernel_rfl)) (by decide) (fun K hK=>?_)
 refine goes_ func149 (by kernel_rfl) rfl #[.slice A0_1 l0_1.length c0_1,.slice A1_2 l1_2.length c1_2] (by rfl) rfl rfl zm ?_
 with_reducible refine (Yq.calls k _ _ l0_1 _ _ l1_2 t218 _ ?side1 ?side2 ?side3 ?side4 A3.out).mono ?_
 (case side1=>exact zC (Kd.C_below HR0_1.out HB.out))
 (case side2=>exact HC0_1.out)
 (case side3=>exact zC (Kd.C_below HR1_2.out HB.out))
 (case side4=>exact HC1_2.out)
 rintro e w10 ⟨v219,rfl,ho0,hb⟩
 refine ⟨_,rfl,?_⟩
 have HO220:=yL (fun k_=>(w.heap.size≤k_)∧k_≠gb215∧k_≠gb216∧k_≠gb217) ho0 (fun k_ hk_=>⟨(Nat.le_trans bs hk_),(zf BK215 hk_),(zf BK216 hk_),(zf BK217 hk_)⟩)
 replace BK215:=sK BK215 hb
 replace BK216:=sK BK216 hb
 replace BK217:=sK BK217 hb
 replace HB:=sB hb
 clear hb ho0
 refine hK.out _ _ ⟨zh BK215 0,zh BK215 1,zh BK215 2,zh BK216 0,zh BK216 1,zh BK216 2⟩ (fun hHeld=>?_)
 clear hK K
 refine nm ?_
 refine one_ (i:=14) (N:=some 19) #[true,true,true,true,true,true,true,true,true,true,true,true,true,true,true,false,false] rfl rfl (one_of HT_.out (by kernel_rfl)) (by decide) (fun K hK=>?_)
 refine goes_ func149 (by kernel_rfl) rfl #[.slice A0_2 l0_2.length c0_2,.slice A1_1 l1_1.length c1_1] (by rfl) rfl rfl zm ?_
 with_reducible refine (Yq.calls k _ _ l0_2 _ _ l1_1 t221 _ ?side1 ?side2 ?side3 ?side4 A4.out).mono ?_
 (case side1=>exact zC (Kd.C_below HR0_2.out HB.out))
 (case side2=>exact HC0_2.out)
 (case side3=>exact zC (Kd.C_below HR1_1.out HB.out))
 (case side4=>exact HC1_1.out)
 rintro e w11 ⟨v222,rfl,ho0,hb⟩
 refine ⟨_,rfl,?_⟩
 replace HO220:=yV HO220 hb
 have HO223:=yL (fun k_=>(w.heap.size≤k_)∧k_≠gb215∧k_≠gb216∧k_≠gb217) ho0 (fun k_ hk_=>⟨(Nat.le_trans bs hk_),(zf BK215 hk_),(zf BK216 hk_),(zf BK217 hk_)⟩)
 replace BK215:=sK BK215 hb
 replace BK216:=sK BK216 hb
 replace BK217:=sK BK217 hb
 replace HB:=sB hb
 clear hb ho0
 obtain ⟨Ao12,co12,eo12⟩:=Kd.V_slice HO220.out
 (first|subst eo12|(injection eo12 with f1_ f2_ f3_;have f4_:=f1_.symm;have f5_:=f3_.symm;clear f1_ f2_ f3_;subst f4_;subst f5_))
 obtain ⟨Ao13,co13,eo13⟩:=Kd.V_slice HO223.out
 (first|subst eo13|(injection eo13 with f1_ f2_ f3_;have f4_:=f1_.symm;have f5_:=f3_.symm;clear f1_ f2_ f3_;subst f4_;subst f5_))
 refine hK.out _ _ ⟨zh BK215 0,zh BK215 1,zh BK215 2,zh BK216 0,zh BK216 1,zh BK216 2⟩ (fun hHeld=>?_)
 clear hK K
 refine nm ?_
 refine one_ (i:=15) (N:=some 20) #[true,true,true,true,true,true,true,true,true,true,true,true,true,true,true,true,false] rfl rfl (one_of HT_.out (by kernel_rfl)) (by decide) (fun K hK=>?_)
 refine goes_ func148 (by kernel_rfl) rfl #[.bool (a0_0 != a1_0),.slice Ao12 t218.length co12,.slice Ao13 t221.length co13] (by rfl) rfl rfl zm ?_
 with_reducible refine (YR.calls k (a0_0 != a1_0) (fun k_=>((w.heap.size≤k_)∧(k_≠gb215∧(k_≠gb216∧k_≠gb217)))) _ _ t218 (fun k_=>((w.heap.size≤k_)∧(k_≠gb215∧(k_≠gb216∧k_≠gb217)))) _ _ t221 t224 t225 t228 _ ?side1 ?side2 A5.out).mono ?_
 (case side1=>exact HO220.out)
 (case side2=>exact HO223.out)
 rintro e w14 ⟨v226,v229,rfl,ho0,ho1,hb⟩
 refine ⟨_,rfl,?_⟩
 replace HO220:=yV HO220 hb
 replace HO223:=yV HO223 hb
 have HO227:=yL (fun k_=>(w.heap.size≤k_)∧k_≠gb215∧k_≠gb216∧k_≠gb217) ho0 (fun k_ hk_=>⟨Or.elim hk_ (fun hs_=>Or.elim hs_ (fun hs_=>hs_.1) (fun hs_=>hs_.1)) (fun hn_=>(Nat.le_trans bs hn_)),Or.elim hk_ (fun hs_=>Or.elim hs_ (fun hs_=>hs_.2.1) (fun hs_=>hs_.2.1)) (fun hn_=>(zf BK215 hn_)),Or.elim hk_ (fun hs_=>Or.elim hs_ (fun hs_=>hs_.2.2.1) (fun hs_=>hs_.2.2.1)) (fun hn_=>(zf BK216 hn_)),Or.elim hk_ (fun hs_=>Or.elim hs_ (fun hs_=>hs_.2.2.2) (fun hs_=>hs_.2.2.2)) (fun hn_=>(zf BK217 hn_))⟩)
 have HO230:=yL (fun k_=>(w.heap.size≤k_)∧k_≠gb215∧k_≠gb216∧k_≠gb217) ho1 (fun k_ hk_=>⟨Or.elim hk_ (fun hs_=>Or.elim hs_ (fun hs_=>hs_.1) (fun hs_=>hs_.1)) (fun hn_=>(Nat.le_trans bs hn_)),Or.elim hk_ (fun hs_=>Or.elim hs_ (fun hs_=>hs_.2.1) (fun hs_=>hs_.2.1)) (fun hn_=>(zf BK215 hn_)),Or.elim hk_ (fun hs_=>Or.elim hs_ (fun hs_=>hs_.2.2.1) (fun hs_=>hs_.2.2.1)) (fun hn_=>(zf BK216 hn_)),Or.elim hk_ (fun hs_=>Or.elim hs_ (fun hs_=>hs_.2.2.2) (fun hs_=>hs_.2.2.2)) (fun hn_=>(zf BK217 hn_))⟩)
 replace BK215:=sK BK215 hb
 replace BK216:=sK BK216 hb
 replace BK217:=sK BK217 hb
 replace HB:=sB hb
 clear hb ho0 ho1
 obtain ⟨Ao16,co16,eo16⟩:=Kd.V_slice HO227.out
 (first|subst eo16|(injection eo16 with f1_ f2_ f3_;have f4_:=f1_.symm;have f5_:=f3_.symm;clear f1_ f2_ f3_;subst f4_;subst f5_))
 obtain ⟨Ao18,co18,eo18⟩:=Kd.V_slice HO230.out
 (first|subst eo18|(injection eo18 with f1_ f2_ f3_;have f4_:=f1_.symm;have f5_:=f3_.symm;clear f1_ f2_ f3_;subst f4_;subst f5_))
 refine hK.out _ _ ⟨zh BK215 0,zh BK215 1,zh BK215 2,zh BK216 0,zh BK216 1,zh BK216 2⟩ (fun hHeld=>?_)
 clear hK K
 refine nm ?_
 refine one_ (i:=16) (N:=none) #[true,true,true,true,true,true,true,true,true,true,true,true,true,true,true,true,true] rfl rfl (one_of HT_.out (by kernel_rfl)) (by decide) (fun K hK=>?_)
 have hs15:w14.cell? ⟨gb217,0,none⟩=some (.bool false):=(blk_cell BK217.out 0).trans rfl
 have hfs15:=blk_frozen BK217.out 0
 have hns15_0:=NB215_217.out
 have hns15_1:=NB216_217.out
 have hms15_0:=NB217_215.out
 have hms15_1:=NB217_216.out
 have hs17:w14.cell? ⟨gb217,1,none⟩=some (.slice none 0 0):=(blk_cell BK217.out 1).trans rfl
 have hfs17:=blk_frozen BK217.out 1
 have hns17_0:=NB215_217.out
 have hns17_1:=NB216_217.out
 have hms17_0:=NB217_215.out
 have hms17_1:=NB217_216.out
 have hs19:w14.cell? ⟨gb217,2,none⟩=some (.slice none 0 0):=(blk_cell BK217.out 2).trans rfl
 have hfs19:=blk_frozen BK217.out 2
 have hns19_0:=NB215_217.out
 have hns19_1:=NB216_217.out
 have hms19_0:=NB217_215.out
 have hms19_1:=NB217_216.out
 refine skip_ (w1:=?_) (by rfl) rfl ?_ ?_
 rotate_left
 ·go_simp
  rfl
 refine hK.out _ _ ⟨((cell_far (p:=⟨gb217,_,none⟩) NB215_217.out _).trans (((cell_far (p:=⟨gb217,_,none⟩) NB215_217.out _).trans (((cell_far (p:=⟨gb217,_,none⟩) NB215_217.out _).trans (hHeld.1)))))),((cell_far (p:=⟨gb217,_,none⟩) NB215_217.out _).trans (((cell_far (p:=⟨gb217,_,none⟩) NB215_217.out _).trans (((cell_far (p:=⟨gb217,_,none⟩) NB215_217.out _).trans (hHeld.2.1)))))),((cell_far (p:=⟨gb217,_,none⟩) NB215_217.out _).trans (((cell_far (p:=⟨gb217,_,none⟩) NB215_217.out _).trans (((cell_far (p:=⟨gb217,_,none⟩) NB215_217.out _).trans (hHeld.2.2.1)))))),((cell_far (p:=⟨gb217,_,none⟩) NB216_217.out _).trans (((cell_far (p:=⟨gb217,_,none⟩) NB216_217.out _).trans (((cell_far (p:=⟨gb217,_,none⟩) NB216_217.out _).trans (hHeld.2.2.2.1)))))),((cell_far (p:=⟨gb217,_,none⟩) NB216_217.out _).trans (((cell_far (p:=⟨gb217,_,none⟩) NB216_217.out _).trans (((cell_far (p:=⟨gb217,_,none⟩) NB216_217.out _).trans (hHeld.2.2.2.2.1)))))),((cell_far (p:=⟨gb217,_,none⟩) NB216_217.out _).trans (((cell_far (p:=⟨gb217,_,none⟩) NB216_217.out _).trans (((cell_far (p:=⟨gb217,_,none⟩) NB216_217.out _).trans (hHeld.2.2.2.2.2))))))⟩ (fun hHeld=>?_)
 clear hK K
 refine done_ (done_of HT_.out (by kernel_rfl)) ?_
 try go_wp2
 refine bodyPost_ret (results_cell_row rfl _ _ gb217 103 #[.bool t224,.slice Ao16 t225.length co16,.slice Ao18 t228.length co18] (0,0) _ rfl (zp BK217) underlying103 rfl (by kernel_rfl)) rfl ?_
 exact ⟨_,_,ze,zF HO227,zF HO230,bw⟩
def YM.f (k:Nat) (a0:Int) (a1:Int):Option (Bool×List Int×List Int):=(YW.f k a0).bind fun bt232=>((YW.f k a1).bind fun bt239=>((YK.f k bt232.1 bt232.2.1 bt232.2.2 bt239.1 bt239.2.1 bt239.2.2).bind fun bt246=>(some (bt246.1,bt246.2.1,bt246.2.2))))
theorem YM.mono:∀ a0 a1 k,LeO (YM.f k a0 a1) (YM.f (k+1) a0 a1):=by
 intro a0 a1 k
 unfold YM.f
 have m0:=YK.mono
 have m1:=YW.mono
 exact zM
theorem YM.calls (k:Nat) (a0:Int) (a1:Int) (r1:Bool) (r2:List Int) (r3:List Int) (w:World) (h:YM.f k a0 a1=some (r1,r2,r3)) :
  Calls Tryz.prog 95 #[.int .i64 a0,.int .i64 a1] w fun e w'=>∃ v1_ v2_:Value,e = .returned (.agg #[.bool r1,v1_,v2_])∧Kd.V (Kd.int .u32) 97 w' w.heap.size (fun k_=>(w.heap.size≤k_)) v1_ r2∧Kd.V (Kd.int .u32) 97 w' w.heap.size (fun k_=>(w.heap.size≤k_)) v2_ r3∧Below w.heap.size w w':=by
 have hu103:=underlying103
 have HB:=aZ (Below.refl w.heap.size w)
 have H:=h
 unfold YM.f at H
 clear h
 obtain ⟨⟨t232,t233,t236⟩,A3,H⟩:=zB H
 (try dsimp only at H)
 obtain ⟨⟨t239,t240,t243⟩,A4,H⟩:=zB H
 (try dsimp only at H)
 obtain ⟨⟨t246,t247,t250⟩,A5,H⟩:=zB H
 (try dsimp only at H)
 simp only [Option.some.injEq,Prod.mk.injEq] at H
 obtain ⟨rfl,rfl,rfl⟩:=H
 go_enter func95,ntmps95
 go_wp2_with (first|(refine box_ev 4 #[.bool false,.slice none 0 0,.slice none 0 0] 103 ?_;intro gb231 hg w6 hbox hb;have BK231:=aZ hbox;have GE231:=sG hg;replace HB:=sB hb;clear hb hbox hg)|(refine zg (some 6) func97 #[.int .i64 a0] ?_;(with_reducible refine (YW.calls k a0 t232 t233 t236 _ A3.out).mono ?_);rintro e w7 ⟨v234,v237,rfl,ho0,ho1,hb⟩;refine ⟨_,rfl,?_⟩;have HO235:=aZ (Kd.R_lower (Kd.R_newM (M:=fun k_=>(w.heap.size≤k_)) ho0 bs (fun k_ h_=>h_)) bs);have HO238:=aZ (Kd.R_lower (Kd.R_newM (M:=fun k_=>(w.heap.size≤k_)) ho1 bs (fun k_ h_=>h_)) bs);replace BK231:=sK BK231 hb;replace HB:=sB hb;clear hb ho0 ho1)|(refine zg (some 8) func97 #[.int .i64 a1] ?_;(with_reducible refine (YW.calls k a1 t239 t240 t243 _ A4.out).mono ?_);rintro e w8 ⟨v241,v244,rfl,ho0,ho1,hb⟩;refine ⟨_,rfl,?_⟩;have HO242:=aZ (Kd.R_lower (Kd.R_new' (Kd.R_new' (Kd.R_newM (M:=fun k_=>(w.heap.size≤k_)) ho0 bs (fun k_ h_=>h_)) (Kd.R_lt (zR HO235))) (Kd.R_lt (zR HO238))) bs);have HO245:=aZ (Kd.R_lower (Kd.R_new' (Kd.R_new' (Kd.R_newM (M:=fun k_=>(w.heap.size≤k_)) ho1 bs (fun k_ h_=>h_)) (Kd.R_lt (zR HO235))) (Kd.R_lt (zR HO238))) bs);replace HO235:=aZ (Kd.R_mono (Kd.R_told (Kd.R_told (Kd.R_old (zR HO235) hb) (Kd.R_base ho0)) (Kd.R_base ho1)) (fun _ h_=>h_.1));replace HO238:=aZ (Kd.R_mono (Kd.R_told (Kd.R_told (Kd.R_old (zR HO238) hb) (Kd.R_base ho0)) (Kd.R_base ho1)) (fun _ h_=>h_.1));replace BK231:=sK BK231 hb;replace HB:=sB hb;clear hb ho0 ho1;obtain ⟨Ao9,co9,rfl⟩:=Kd.R_slice HO235.out;obtain ⟨Ao10,co10,rfl⟩:=Kd.R_slice HO238.out;obtain ⟨Ao11,co11,rfl⟩:=Kd.R_slice HO242.out;obtain ⟨Ao12,co12,rfl⟩:=Kd.R_slice HO245.out)|(refine zg (some 9) func113 #[.agg #[.bool t232,.slice Ao9 t233.length co9,.slice Ao10 t236.length co10],.agg #[.bool t239,.slice Ao11 t240.length co11,.slice Ao12 t243.length co12]] ?_;(with_reducible refine (YK.calls k t232 _ _ t233 _ _ t236 t239 _ _ t240 _ _ t243 t246 t247 t250 _ ?side1 ?side2 ?side3 ?side4 ?side5 ?side6 ?side7 ?side8 A5.out).mono ?_);(case side1=>exact zC (Kd.R_reads' HO235.out).2.2);(case side2=>exact (Kd.R_reads' HO235.out).2.1);(case side3=>exact zC (Kd.R_reads' HO238.out).2.2);(case side4=>exact (Kd.R_reads' HO238.out).2.1);(case side5=>exact zC (Kd.R_reads' HO242.out).2.2);(case side6=>exact (Kd.R_reads' HO242.out).2.1);(case side7=>exact zC (Kd.R_reads' HO245.out).2.2);(case side8=>exact (Kd.R_reads' HO245.out).2.1);rintro e w13 ⟨v248,v251,rfl,ho0,ho1,hb⟩;refine ⟨_,rfl,?_⟩;have HO249:=yL (fun k_=>(w.heap.size≤k_)∧some k_≠(.slice Ao9 t233.length co9:Value).ownBlock∧some k_≠(.slice Ao10 t236.length co10:Value).ownBlock∧some k_≠(.slice Ao11 t240.length co11:Value).ownBlock∧some k_≠(.slice Ao12 t243.length co12:Value).ownBlock∧k_≠gb231) ho0 (fun k_ hk_=>⟨(Nat.le_trans bs hk_),(yf HO235 hk_),(yf HO238 hk_),(yf HO242 hk_),(yf HO245 hk_),(zf BK231 hk_)⟩);have HO252:=yL (fun k_=>(w.heap.size≤k_)∧some k_≠(.slice Ao9 t233.length co9:Value).ownBlock∧some k_≠(.slice Ao10 t236.length co10:Value).ownBlock∧some k_≠(.slice Ao11 t240.length co11:Value).ownBlock∧some k_≠(.slice Ao12 t243.length co12:Value).ownBlock∧k_≠gb231) ho1 (fun k_ hk_=>⟨(Nat.le_trans bs hk_),(yf HO235 hk_),(yf HO238 hk_),(yf HO242 hk_),(yf HO245 hk_),(zf BK231 hk_)⟩);replace HO235:=yR HO235 hb;replace HO238:=yR HO238 hb;replace HO242:=yR HO242 hb;replace HO245:=yR HO245 hb;replace BK231:=sK BK231 hb;replace HB:=sB hb;clear hb ho0 ho1;obtain ⟨hcz14_0,hfz14_0⟩:=zc BK231 0 (.bool false) rfl;obtain ⟨hcz14_1,hfz14_1⟩:=zc BK231 1 (.slice none 0 0) rfl;obtain ⟨hcz14_2,hfz14_2⟩:=zc BK231 2 (.slice none 0 0) rfl;obtain ⟨Ao15,co15,rfl⟩:=Kd.V_slice HO249.out;obtain ⟨Ao16,co16,rfl⟩:=Kd.V_slice HO252.out))
 refine bodyPost_ret (results_cell_row rfl _ _ gb231 103 #[.bool t246,.slice Ao15 t247.length co15,.slice Ao16 t250.length co16] (0,0) _ rfl (zp BK231) underlying103 rfl (by kernel_rfl)) rfl ?_
 exact ⟨_,_,ze,zF HO249,zF HO252,bw⟩
section
namespace Str
def pad9 (d:Nat):List UInt8:=List.replicate (9-(Lib.decDigits d).length) 48++Lib.decDigits d
def str:List Int→List UInt8
 | []=>[]
 | [d]=>Lib.decDigits d.toNat
 | d :: e :: l=>str (e :: l)++pad9 d.toNat
def Small (l:List Int):Prop:=∀ d ∈ l,0≤d∧d<1000000000
instance (l:List Int):Decidable (Small l):=inferInstanceAs (Decidable (∀ d ∈ l,0≤d∧d<1000000000))
theorem nDigits9 {d:Nat} (h:d<1000000000):(Lib.decDigits d).length≤9:=by
 rw [Lib.decDigits_length]
 have hk:∀ k u,u<10^(k+1)→Lib.nDigits u≤k+1:=by
  intro k
  induction k with
  | zero=>intro u hu;rw [Lib.nDigits_small (by omega)];omega
  | succ k ih =>
   intro u hu
   by_cases h9:u<10
   case neg=>
    rw [Lib.nDigits_big h9]
    have:=ih (u/10) (by rw [Nat.pow_succ] at hu;omega)
    omega
   rw [Lib.nDigits_small h9];omega
 exact hk 8 d h
theorem pad9_length {d:Nat} (h:d<1000000000):(pad9 d).length=9:=by
 have:=nDigits9 h
 simp [pad9];omega
theorem str_drop (l:List Int) (k:Nat) (h:k+1<l.length):str (l.drop k)=str (l.drop (k+1))++pad9 (l[k]'(by omega)).toNat:=by
 rw [List.drop_eq_getElem_cons (show k<l.length by omega)]
 rw [List.drop_eq_getElem_cons h]
 rfl
theorem str_length (l:List Int) (h:Small l):(str l).length≤9*l.length:=by
 induction l with
 | nil=>simp [str]
 | cons d l ih =>
  have hd:=h d (List.mem_cons_self)
  cases l with
  | nil=>have:=nDigits9 (d:=d.toNat) (by omega);simp [str];omega
  | cons e l =>
   have:=ih (fun x hx=>h x (List.mem_cons_of_mem _ hx))
   have:=pad9_length (d:=d.toNat) (by omega)
   simp [str] at *;omega
end Str
theorem Str.builder_below {T e:TypeId} {B b:Nat} {p:Value} {bs:List Value} {w w1:World} (h:Lib.BuilderAt T e B b p bs w) (hb:Below w.heap.size w w1):Lib.BuilderAt T e B b p bs w1:=by
 have hl:=h.lt
 obtain ⟨hB,v,hk,ho,hn⟩:=h
 exact ⟨hB,v,(hb.block b hl).trans hk,pw_own_below ho hb,hn⟩
def YF.f (l0:List Int):Option ByteArray:=if Str.Small l0∧l0.length<10000000000000 then (if l0=[] then some ⟨#[48]⟩ else some ⟨(Str.str l0).toArray⟩) else none
set_option maxHeartbeats 4000000 in
set_option maxRecDepth 100000 in
theorem YF.calls (A0:Option Addr) (c0:Nat) (l0:List Int) (r:ByteArray) (w:World) (hr0:Kd.C (Kd.int .u32) w A0 l0.length l0) (hc0:l0.length≤c0) (hG:Tryz.Gl w) (h:YF.f l0=some r) :
  Calls Tryz.prog 135 #[.slice A0 l0.length c0] w fun e w'=>e = .returned (.string r)∧Below w.heap.size w w':=by
 unfold YF.f at h
 by_cases hs:Str.Small l0∧l0.length<10000000000000
 case neg=>rw [if_neg hs] at h;cases h
 rw [if_pos hs] at h
 obtain ⟨hsm,hlen⟩:=hs
 by_cases hz:l0=[]
 ·rw [if_pos hz] at h
  obtain rfl:=Option.some.inj h
  subst hz
  clear hr0 hc0
  go_enter func135,ntmps135
  go_wp2
  go_ret
  exact ⟨rfl,Below.refl _ _⟩
 rw [if_neg hz] at h
 obtain rfl:=Option.some.inj h
 have hpos:0<l0.length:=List.length_pos_iff.2 hz
 obtain ⟨_,_,hx⟩:=hr0
 obtain ⟨ad,rfl,hcell0⟩:=hx hpos
 have hcell:∀ j,j<l0.length→w.cell? (ad.add j)=some (.int .u32 (l0.getD j 0)):=fun j hj=>by
  obtain ⟨c,_,hR,hcl⟩:=hcell0 j (l0.getD j 0) (by rw [List.getD_eq_getElem?_getD,List.getElem?_eq_getElem hj];rfl)
  have e:c=[.int .u32 (l0.getD j 0)]:=hR
  subst e
  have:=hcl 0 _ rfl
  have h1:(Kd.int .u32).sz=1:=rfl
  rw [h1,Nat.mul_one,Nat.add_zero] at this
  exact this
 have hsz:ad.block<w.heap.size:=by have:=World.block_lt_of_cell? w _ (hcell 0 hpos);unfold Addr.add at this;revert this;split <;> exact id
 clear hx hcell0
 -- the top digit
 obtain ⟨dt,hdt⟩:∃ d:Nat,l0.getD (l0.length-1) 0=(d:Int):=⟨(l0.getD (l0.length-1) 0).toNat,by have:=hsm (l0.getD (l0.length-1) 0) (by rw [List.getD_eq_getElem?_getD,List.getElem?_eq_getElem (by omega)];exact List.getElem_mem _);omega⟩
 have hdtlt:dt<1000000000:=by have:=hsm (l0.getD (l0.length-1) 0) (by rw [List.getD_eq_getElem?_getD,List.getElem?_eq_getElem (by omega)];exact List.getElem_mem _);omega
 have hct:=hcell (l0.length-1) (by omega)
 rw [hdt] at hct
 have HT:=aZ hdt
 have HCell:=aZ hcell
 have HS:=aZ hsm
 have HL:=aZ hlen
 have HZ:=aZ hz
 clear hdt hcell hsm hz h
 have hne:((l0.length:Int)==0)=false:=beq_eq_false_iff_ne.mpr (by omega)
 have hct':∀ (o1:Obj),(w.alloc o1).cell? (ad.add (l0.length-1))=some (.int .u32 dt):=fun o1=>by
  rw [((Below.refl w.heap.size w).alloc (Nat.le_refl _) o1).cell (by unfold Addr.add;split <;> exact hsz)];exact hct
 clear hct
 go_enter func135,ntmps135
 go_wp2_with (fail)
 refine (Tryz.strconv_FormatUint dt (by omega) _ (hG.alloc _).1).mono ?_
 rintro e w1 ⟨rfl,hb1⟩
 have hA0:Lib.IsBuilder 155 5 w.heap.size w.heap.size [] (w.alloc (.cells #[.pointer none,.slice none 0 0] 155)) :=
  .inl ⟨Nat.le_refl _,.slice none 0 0,heap_alloc_new _ _,⟨rfl,.inl ⟨rfl,rfl⟩⟩,by simp [Value.ownBlock]⟩
 have hA1:Lib.IsBuilder 155 5 w.heap.size w.heap.size [] w1:=hA0.elim (fun x=>.inl (Str.builder_below x hb1)) (fun x=>.inr (Str.builder_below x hb1))
 have HB1:=aZ (show Below w.heap.size w w1 from below_step ((Below.refl _ _).alloc (Nat.le_refl _) _) hb1)
 clear hb1 hA0 hct'
 have hd9:=Str.nDigits9 hdtlt
 go_wp2_with (fail)
 refine (Tryz.Builder_WriteString _ _ _ _ _ hA1 (by simp [ByteArray.size];omega) HB1.out.size).mono ?_
 rintro e w2 ⟨rfl,hA2,hb2⟩
 have HB2:=aZ (show Below w.heap.size w w2 from HB1.out.trans hb2)
 have HA2:=aZ (show Lib.BuilderAt 155 5 w.heap.size w.heap.size (.pointer (some ⟨w.heap.size,0,none⟩)) (Lib.byteCells (Str.str (l0.drop (l0.length-1)))) w2 by
  have e1:l0.drop (l0.length-1)=[l0.getD (l0.length-1) 0]:=by
   rw [List.drop_eq_getElem_cons (show l0.length-1<l0.length by omega),List.getD_eq_getElem?_getD,List.getElem?_eq_getElem (show l0.length-1<l0.length by omega),show l0.length-1+1=l0.length by omega,List.drop_length]
   rfl
  rw [e1,HT.out]
  exact hA2)
 clear hA2 hb2 HB1 hA1 hd9 HT
 go_wp2
 go_loopw [4] (fun i wr=>∃ k:Nat,k<l0.length∧i = .int .i64 ((k:Int)-1)∧Aside0 (Lib.BuilderAt 155 5 w.heap.size w.heap.size (.pointer (some ⟨w.heap.size,0,none⟩)) (Lib.byteCells (Str.str (l0.drop k))) wr)∧Aside0 (Below w.heap.size w wr)) (fun i _=>(intOf i+1).toNat)
 case atStart=>exact ⟨l0.length-1,by omega,by congr 1;omega,HA2,HB2⟩
 case round =>
  obtain ⟨k,hk,rfl,HA,HB⟩:=hrel
  clear HA2 HB2
  cases k with
  | zero =>
   go_wp2_with (fail)
   refine (Tryz.Builder_String_any _ _ _ _ (.inr HA.out) HB.out.size).mono ?_
   rintro e w3 ⟨rfl,hb3⟩
   go_wp2
   go_ret
   exact ⟨rfl,HB.out.trans hb3⟩
  | succ k =>
   obtain ⟨dk,hdk⟩:∃ d:Nat,l0.getD k 0=(d:Int):=⟨(l0.getD k 0).toNat,by have:=HS.out (l0.getD k 0) (by rw [List.getD_eq_getElem?_getD,List.getElem?_eq_getElem (by omega)];exact List.getElem_mem _);omega⟩
   have hdklt:dk<1000000000:=by have:=HS.out (l0.getD k 0) (by rw [List.getD_eq_getElem?_getD,List.getElem?_eq_getElem (by omega)];exact List.getElem_mem _);omega
   have hck:wr.cell? (ad.add k)=some (.int .u32 dk):=by rw [HB.out.cell (by unfold Addr.add;split <;> exact hsz),HCell.out k (by omega),hdk]
   have HD:=aZ hdk
   clear hdk
   rw [show (((k+1:Nat):Int)-1)=(k:Int) from by omega]
   go_wp2_with (fail)
   obtain ⟨sD,hsD⟩:∃ s:ByteArray,s=⟨(Lib.decDigits dk).toArray⟩:=⟨_,rfl⟩
   have hfm:=Tryz.strconv_FormatUint dk (by omega) wr (hG.below HB.out).1
   rw [← hsD] at hfm
   have hszD:sD.size≤9:=by rw [hsD];simpa [ByteArray.size] using Str.nDigits9 hdklt
   have HsD:=aZ hsD
   clear hsD
   refine hfm.mono ?_
   clear hfm
   rintro e w3 ⟨rfl,hb3⟩
   have HA3:=aZ (Str.builder_below HA.out hb3)
   have HB3:=aZ (show Below w.heap.size w w3 from below_step HB.out hb3)
   clear hb3 HA HB hck
   go_wp2_with (fail)
   rw [show (9-(sD.size:Int))=((9-sD.size:Nat):Int) from by omega]
   obtain ⟨sR,hsR⟩:∃ s:ByteArray,s=⟨(Lib.repeatL [48] (9-sD.size)).toArray⟩:=⟨_,rfl⟩
   have hrep:=Tryz.strings_Repeat ⟨#[48]⟩ (9-sD.size) w3 (by omega) (by show 1*(9-sD.size)≤140737488355328;omega)
   rw [show (ByteArray.mk #[48]).data.toList=[48] from rfl,← hsR] at hrep
   have hszR:sR.size=9-sD.size:=by rw [hsR];show (List.toArray _).size=_;rw [List.size_toArray,Lib.repeatL_length];show _*1=_;omega
   have HszR:=aZ hszR
   have hle:sR.size+sD.size≤9:=by omega
   have HsR:=aZ hsR
   clear hsR hszR
   refine hrep.mono ?_
   clear hrep
   rintro e w4 ⟨rfl,hb4⟩
   have HA4:=aZ (Str.builder_below HA3.out hb4)
   have HB4:=aZ (show Below w.heap.size w w4 from below_step HB3.out hb4)
   clear hb4 HA3 HB3
   go_wp2_with (fail)
   have hlS:=Str.str_length (l0.drop (k+1)) (fun x hx=>HS.out x (List.mem_of_mem_drop hx))
   refine (Tryz.Builder_WriteString _ _ _ _ _ (.inr HA4.out) (by have:=HL.out;simp [Lib.byteCells,ByteArray.size_append] at *;omega) HB4.out.size).mono ?_
   rintro e w5 ⟨rfl,hA5,hb5⟩
   have HB5:=aZ (show Below w.heap.size w w5 from HB4.out.trans hb5)
   have HA5:=aZ (show Lib.BuilderAt 155 5 w.heap.size w.heap.size (.pointer (some ⟨w.heap.size,0,none⟩)) (Lib.byteCells (Str.str (l0.drop k))) w5 by
    have e1:Lib.byteCells (Str.str (l0.drop k))=Lib.byteCells (Str.str (l0.drop (k+1)))++Lib.byteCells (sR++sD).data.toList:=by
     rw [Str.str_drop l0 k hk,Lib.byteCells,Lib.byteCells,Lib.byteCells,← List.map_append]
     congr 2
     have e2:(l0[k]'(by omega)).toNat=dk:=by
      have:=HD.out
      rw [List.getD_eq_getElem?_getD,List.getElem?_eq_getElem (by omega)] at this
      have h3:l0[k]'(by omega)=(dk:Int):=this
      rw [h3];rfl
     have hl:sD.size=(Lib.decDigits dk).length:=by rw [HsD.out];simp [ByteArray.size]
     rw [e2,Str.pad9,← hl,ByteArray.data_append,Array.toList_append,HsR.out,HsD.out]
     dsimp only
     congr 1
     generalize 9-(ByteArray.mk (Lib.decDigits dk).toArray).size=m
     induction m with
     | zero=>rfl
     | succ m ih=>rw [List.replicate_succ,ih];rfl
    rw [e1]
    exact hA5)
   clear hA5 hb5 HA4 HB4 hlS
   go_wp2
   go_roundw
   case rel=>exact ⟨k,by omega,rfl,HA5,HB5⟩
   case measure=>simp [intOf]
end
def YY.f (a0_0:Bool) (l0_1:List Int) (l0_2:List Int):Option (ByteArray×ByteArray):=(YF.f l0_1).bind fun t255=>(if a0_0=true then (if 1+t255.size≤9223372036854775807 then ((YF.f l0_2).bind fun t256=>(some ((⟨#[45]⟩:ByteArray)++t255,t256))) else (none)) else ((YF.f l0_2).bind fun t257=>(some (t255,t257))))
theorem YY.calls (a0_0:Bool) (A0_1:Option Addr) (c0_1:Nat) (l0_1:List Int) (A0_2:Option Addr) (c0_2:Nat) (l0_2:List Int) (r1:ByteArray) (r2:ByteArray) (w:World) (hr0_1:Kd.C (Kd.int .u32) w A0_1 l0_1.length l0_1) (hc0_1:l0_1.length≤c0_1) (hr0_2:Kd.C (Kd.int .u32) w A0_2 l0_2.length l0_2) (hc0_2:l0_2.length≤c0_2) (hG:Tryz.Gl w) (h:YY.f a0_0 l0_1 l0_2=some (r1,r2)) :
  Calls Tryz.prog 96 #[.agg #[.bool a0_0,.slice A0_1 l0_1.length c0_1,.slice A0_2 l0_2.length c0_2]] w fun e w'=>e = .returned (.agg #[.string r1,.string r2])∧Below w.heap.size w w':=by
 have hu103:=underlying103
 have hu61:=underlying61
 have HG:=aZ hG
 clear hG
 have HR0_1:=aZ hr0_1
 have HC0_1:=aZ hc0_1
 clear hr0_1 hc0_1
 have HR0_2:=aZ hr0_2
 have HC0_2:=aZ hc0_2
 clear hr0_2 hc0_2
 have HB:=aZ (Below.refl w.heap.size w)
 have H:=h
 unfold YY.f at H
 clear h
 obtain ⟨t255,A2,H⟩:=zB H
 by_cases c3:a0_0=true
 case neg=>
  replace c3:=Bool.eq_false_iff.mpr c3
  subst c3
  have H1:((YF.f l0_2).bind fun t257=>(some (t255,t257)))=some (r1,r2):=by rw [if_neg (show ¬ (false=true) by decide)] at H;exact H
  clear H
  have H:=H1
  clear H1
  obtain ⟨t257,A14,H⟩:=zB H
  simp only [Option.some.injEq,Prod.mk.injEq] at H
  obtain ⟨rfl,rfl⟩:=H
  go_enter func96,ntmps96
  go_wp2_with (first|(refine box_ev 1 #[.bool false,.slice A0_1 l0_1.length c0_1,.slice A0_2 l0_2.length c0_2] 103 ?_;intro gb253 hg w15 hbox hb;have BK253:=aZ hbox;have GE253:=sG hg;replace HB:=sB hb;clear hb hbox hg)|(refine box_ev 2 #[.string ⟨#[]⟩,.string ⟨#[]⟩] 61 ?_;intro gb254 hg w16 hbox hb;have BK254:=aZ hbox;have GE254:=sG hg;replace HB:=sB hb;have NB253_254:=sl hg BK253;have NB254_253:=sg hg BK253;replace BK253:=sK BK253 hb;clear hb hbox hg;have hnb17:=NB253_254.out;have hnc17:=NB254_253.out;obtain ⟨hcz18_0,hfz18_0⟩:=zc BK253 0 (.bool false) rfl;obtain ⟨hcz18_1,hfz18_1⟩:=zc BK253 1 (.slice A0_1 l0_1.length c0_1) rfl;obtain ⟨hcz18_2,hfz18_2⟩:=zc BK253 2 (.slice A0_2 l0_2.length c0_2) rfl)|(refine zg (some 6) func135 #[.slice A0_1 l0_1.length c0_1] ?_;(with_reducible refine (YF.calls _ _ l0_1 t255 _ ?side1 ?side2 ?side3 A2.out).mono ?_);(case side1=>exact zC (Kd.C_below HR0_1.out HB.out));(case side2=>exact HC0_1.out);(case side3=>exact Tryz.Gl.below HG.out bw);rintro e w19 ⟨rfl,hb⟩;refine ⟨_,rfl,?_⟩;replace BK253:=sK BK253 hb;replace BK254:=sK BK254 hb;replace HB:=sB hb;clear hb;obtain ⟨hcz20_0,hfz20_0⟩:=zc BK253 0 (.bool false) rfl;obtain ⟨hcz20_1,hfz20_1⟩:=zc BK253 1 (.slice A0_1 l0_1.length c0_1) rfl;obtain ⟨hcz20_2,hfz20_2⟩:=zc BK253 2 (.slice A0_2 l0_2.length c0_2) rfl)|(refine zg (some 14) func135 #[.slice A0_2 l0_2.length c0_2] ?_;(with_reducible refine (YF.calls _ _ l0_2 t257 _ ?side1 ?side2 ?side3 A14.out).mono ?_);(case side1=>exact zC (Kd.C_below HR0_2.out HB.out));(case side2=>exact HC0_2.out);(case side3=>exact Tryz.Gl.below HG.out bw);rintro e w21 ⟨rfl,hb⟩;refine ⟨_,rfl,?_⟩;replace BK253:=sK BK253 hb;replace BK254:=sK BK254 hb;replace HB:=sB hb;clear hb;obtain ⟨hcz22_0,hfz22_0⟩:=zc BK254 0 (.string ⟨#[]⟩) rfl;obtain ⟨hcz22_1,hfz22_1⟩:=zc BK254 1 (.string ⟨#[]⟩) rfl))
  refine bodyPost_ret (results_cell_row rfl _ _ gb254 61 #[.string t255,.string t257] (0,0) _ rfl (zp BK254) underlying61 rfl (by kernel_rfl)) rfl ?_
  exact ⟨ze,bw⟩
 subst c3
 have H1:(if 1+t255.size≤9223372036854775807 then ((YF.f l0_2).bind fun t256=>(some ((⟨#[45]⟩:ByteArray)++t255,t256))) else (none))=some (r1,r2):=by rw [if_pos rfl] at H;exact H
 clear H
 have H:=H1
 clear H1
 by_cases c4:1+t255.size≤9223372036854775807
 case neg=>
  rw [if_neg c4] at H
  cases H
 rw [if_pos c4] at H
 have c4b0:=eq_true c4
 have c4b1:=decide_eq_true c4
 try have c4b2:=eq_false (Nat.not_lt.2 c4)
 obtain ⟨t256,A5,H⟩:=zB H
 simp only [Option.some.injEq,Prod.mk.injEq] at H
 obtain ⟨rfl,rfl⟩:=H
 go_enter func96,ntmps96
 go_wp2_with (first|(refine box_ev 1 #[.bool true,.slice A0_1 l0_1.length c0_1,.slice A0_2 l0_2.length c0_2] 103 ?_;intro gb253 hg w6 hbox hb;have BK253:=aZ hbox;have GE253:=sG hg;replace HB:=sB hb;clear hb hbox hg)|(refine box_ev 2 #[.string ⟨#[]⟩,.string ⟨#[]⟩] 61 ?_;intro gb254 hg w7 hbox hb;have BK254:=aZ hbox;have GE254:=sG hg;replace HB:=sB hb;have NB253_254:=sl hg BK253;have NB254_253:=sg hg BK253;replace BK253:=sK BK253 hb;clear hb hbox hg;have hnb8:=NB253_254.out;have hnc8:=NB254_253.out;obtain ⟨hcz9_0,hfz9_0⟩:=zc BK253 0 (.bool true) rfl;obtain ⟨hcz9_1,hfz9_1⟩:=zc BK253 1 (.slice A0_1 l0_1.length c0_1) rfl;obtain ⟨hcz9_2,hfz9_2⟩:=zc BK253 2 (.slice A0_2 l0_2.length c0_2) rfl)|(refine zg (some 6) func135 #[.slice A0_1 l0_1.length c0_1] ?_;(with_reducible refine (YF.calls _ _ l0_1 t255 _ ?side1 ?side2 ?side3 A2.out).mono ?_);(case side1=>exact zC (Kd.C_below HR0_1.out HB.out));(case side2=>exact HC0_1.out);(case side3=>exact Tryz.Gl.below HG.out bw);rintro e w10 ⟨rfl,hb⟩;refine ⟨_,rfl,?_⟩;replace BK253:=sK BK253 hb;replace BK254:=sK BK254 hb;replace HB:=sB hb;clear hb;obtain ⟨hcz11_0,hfz11_0⟩:=zc BK253 0 (.bool true) rfl;obtain ⟨hcz11_1,hfz11_1⟩:=zc BK253 1 (.slice A0_1 l0_1.length c0_1) rfl;obtain ⟨hcz11_2,hfz11_2⟩:=zc BK253 2 (.slice A0_2 l0_2.length c0_2) rfl)|(refine zg (some 14) func135 #[.slice A0_2 l0_2.length c0_2] ?_;(with_reducible refine (YF.calls _ _ l0_2 t256 _ ?side1 ?side2 ?side3 A5.out).mono ?_);(case side1=>exact zC (Kd.C_below HR0_2.out HB.out));(case side2=>exact HC0_2.out);(case side3=>exact Tryz.Gl.below HG.out bw);rintro e w12 ⟨rfl,hb⟩;refine ⟨_,rfl,?_⟩;replace BK253:=sK BK253 hb;replace BK254:=sK BK254 hb;replace HB:=sB hb;clear hb;obtain ⟨hcz13_0,hfz13_0⟩:=zc BK254 0 (.string ⟨#[]⟩) rfl;obtain ⟨hcz13_1,hfz13_1⟩:=zc BK254 1 (.string ⟨#[]⟩) rfl))
 refine bodyPost_ret (results_cell_row rfl _ _ gb254 61 #[.string ((⟨#[45]⟩:ByteArray)++t255),.string t256] (0,0) _ rfl (zp BK254) underlying61 rfl (by kernel_rfl)) rfl ?_
 exact ⟨ze,bw⟩
def YT.f (k:Nat) (a0:Int) (a1:Int):Option (ByteArray×ByteArray×Int):=if a1=0 then (some ((⟨#[]⟩:ByteArray),(⟨#[]⟩:ByteArray),23)) else ((YM.f k a0 a1).bind fun bt259=>((YY.f bt259.1 bt259.2.1 bt259.2.2).bind fun bt266=>(some (bt266.1,bt266.2,0))))
theorem YT.mono:∀ a0 a1 k,LeO (YT.f k a0 a1) (YT.f (k+1) a0 a1):=by
 intro a0 a1 k
 unfold YT.f
 have m0:=YM.mono
 exact zM
theorem YT.calls (k:Nat) (a0:Int) (a1:Int) (r1:ByteArray) (r2:ByteArray) (r3:Int) (w:World) (hG:Tryz.Gl w) (h:YT.f k a0 a1=some (r1,r2,r3)) :
  Calls Tryz.prog 46 #[.int .i64 a0,.int .i64 a1] w fun e w'=>e = .returned (.tuple #[.agg #[.string r1,.string r2],.int .i64 r3])∧Below w.heap.size w w':=by
 have hu61:=underlying61
 have HG:=aZ hG
 clear hG
 have HB:=aZ (Below.refl w.heap.size w)
 have H:=h
 unfold YT.f at H
 clear h
 by_cases c3:a1=0
 case neg=>
  rw [if_neg c3] at H
  obtain ⟨c3b0,c3b1⟩:=zX c3
  obtain ⟨⟨t259,t260,t263⟩,A6,H⟩:=zB H
  (try dsimp only at H)
  obtain ⟨⟨t266,t267⟩,A7,H⟩:=zB H
  (try dsimp only at H)
  simp only [Option.some.injEq,Prod.mk.injEq] at H
  obtain ⟨rfl,rfl,rfl⟩:=H
  go_enter func46,ntmps46
  go_wp2_with (first|(refine box_ev 4 #[.string ⟨#[]⟩,.string ⟨#[]⟩] 61 ?_;intro gb258 hg w8 hbox hb;have BK258:=aZ hbox;have GE258:=sG hg;replace HB:=sB hb;clear hb hbox hg)|(refine zg (some 11) func95 #[.int .i64 a0,.int .i64 a1] ?_;(with_reducible refine (YM.calls k a0 a1 t259 t260 t263 _ A6.out).mono ?_);rintro e w9 ⟨v261,v264,rfl,ho0,ho1,hb⟩;refine ⟨_,rfl,?_⟩;have HO262:=yL (fun k_=>k_≠gb258) ho0 (fun k_ hk_=>(zf BK258 hk_));have HO265:=yL (fun k_=>k_≠gb258) ho1 (fun k_ hk_=>(zf BK258 hk_));replace BK258:=sK BK258 hb;replace HB:=sB hb;clear hb ho0 ho1;obtain ⟨Ao10,co10,rfl⟩:=Kd.V_slice HO262.out;obtain ⟨Ao11,co11,rfl⟩:=Kd.V_slice HO265.out)|(refine zg (some 12) func96 #[.agg #[.bool t259,.slice Ao10 t260.length co10,.slice Ao11 t263.length co11]] ?_;(with_reducible refine (YY.calls t259 _ _ t260 _ _ t263 t266 t267 _ ?side1 ?side2 ?side3 ?side4 ?side5 A7.out).mono ?_);(case side1=>exact zr HO262);(case side2=>exact zk HO262);(case side3=>exact zr HO265);(case side4=>exact zk HO265);(case side5=>exact Tryz.Gl.below HG.out bw);rintro e w12 ⟨rfl,hb⟩;refine ⟨_,rfl,?_⟩;replace HO262:=yV HO262 hb;replace HO265:=yV HO265 hb;replace BK258:=sK BK258 hb;replace HB:=sB hb;clear hb;obtain ⟨hcz13_0,hfz13_0⟩:=zc BK258 0 (.string ⟨#[]⟩) rfl;obtain ⟨hcz13_1,hfz13_1⟩:=zc BK258 1 (.string ⟨#[]⟩) rfl))
  refine bodyPost_ret (results_ct rfl _ _ gb258 61 #[.string t266,.string t267] (0,0) _ rfl (zp BK258) underlying61 rfl (by kernel_rfl)) rfl ?_
  exact ⟨ze,bw⟩
 rw [if_pos c3] at H
 obtain ⟨c3b0,c3b1⟩:=zY c3
 clear c3
 simp only [Option.some.injEq,Prod.mk.injEq] at H
 obtain ⟨rfl,rfl,rfl⟩:=H
 go_enter func46,ntmps46
 go_wp2_with (first|(refine box_ev 4 #[.string ⟨#[]⟩,.string ⟨#[]⟩] 61 ?_;intro gb258 hg w4 hbox hb;have BK258:=aZ hbox;have GE258:=sG hg;replace HB:=sB hb;clear hb hbox hg;obtain ⟨hcz5_0,hfz5_0⟩:=zc BK258 0 (.string ⟨#[]⟩) rfl;obtain ⟨hcz5_1,hfz5_1⟩:=zc BK258 1 (.string ⟨#[]⟩) rfl))
 refine bodyPost_ret (results_ct rfl _ _ gb258 61 #[.string ⟨#[]⟩,.string ⟨#[]⟩] (0,0) _ rfl (zp BK258) underlying61 rfl (by kernel_rfl)) rfl ?_
 exact ⟨ze,bw⟩
def YI.f (a0:ByteArray) (a1:ByteArray):Option (Bool):=if (a0.size:Int)≥(a1.size:Int) then (if 0≤(a1.size:Int) then (if (a1.size:Int)≤(a0.size:Int) then (some ((a0.extract 0 ((a1.size:Int):Int).toNat).toList==a1.toList)) else (none)) else (none)) else (some false)
theorem YI.calls (a0:ByteArray) (a1:ByteArray) (r:Bool) (w:World) (h:YI.f a0 a1=some r) :
  Calls Tryz.prog 170 #[.string a0,.string a1] w fun e w'=>e = .returned (.bool r)∧Drawn0 w w':=by
 have H:=h
 unfold YI.f at H
 clear h
 by_cases c3:(a0.size:Int)≥(a1.size:Int)
 case neg=>
  rw [if_neg c3] at H
  have c3b0:=decide_eq_false c3
  have c3b1:decide (a1.size≤a0.size)=false:=decide_eq_false (fun h=>c3 (Int.ofNat_le.mpr h))
  clear c3
  obtain rfl:=Option.some.inj H
  go_enter func170,ntmps170
  go_wp2
  go_ret
  exact ⟨zs,by repeat (first|exact Drawn0.refl _|apply Drawn0.step)⟩
 rw [if_pos c3] at H
 have c3b0:=decide_eq_true c3
 have c3b1:decide (a1.size≤a0.size)=true:=decide_eq_true (Int.ofNat_le.mp c3)
 clear c3
 by_cases c4:0≤(a1.size:Int)
 case neg=>
  rw [if_neg c4] at H
  cases H
 rw [if_pos c4] at H
 have c4b0:=eq_true c4
 have c4b1:=decide_eq_true c4
 clear c4
 by_cases c5:(a1.size:Int)≤(a0.size:Int)
 case neg=>
  rw [if_neg c5] at H
  cases H
 rw [if_pos c5] at H
 have c5b0:=eq_true c5
 have c5b1:=decide_eq_true c5
 clear c5
 obtain rfl:=Option.some.inj H
 go_enter func170,ntmps170
 go_wp2
 go_ret
 exact ⟨zs,by repeat (first|exact Drawn0.refl _|apply Drawn0.step)⟩
def YL.f (a0:ByteArray) (a1:ByteArray):Option (ByteArray×Bool):=(YI.f a0 a1).bind fun t268=>(if t268=true then (if 0≤(a1.size:Int) then (if (a1.size:Int)≤(a0.size:Int) then (some (a0.extract ((a1.size:Int):Int).toNat a0.size,true)) else (none)) else (none)) else (some (a0,false)))
theorem YL.calls (a0:ByteArray) (a1:ByteArray) (r1:ByteArray) (r2:Bool) (w:World) (h:YL.f a0 a1=some (r1,r2)) :
  Calls Tryz.prog 140 #[.string a0,.string a1] w fun e w'=>e = .returned (.tuple #[.string r1,.bool r2])∧Drawn0 w w':=by
 have H:=h
 unfold YL.f at H
 clear h
 obtain ⟨t268,A3,H⟩:=zB H
 by_cases c4:t268=true
 case neg=>
  replace c4:=Bool.eq_false_iff.mpr c4
  subst c4
  have H1:(some (a0,false))=some (r1,r2):=by rw [if_neg (show ¬ (false=true) by decide)] at H;exact H
  clear H
  have H:=H1
  clear H1
  simp only [Option.some.injEq,Prod.mk.injEq] at H
  obtain ⟨rfl,rfl⟩:=H
  go_enter func140,ntmps140
  go_wp2_with (first|(refine zg (some 8) func170 #[.string a0,.string a1] ?_;(with_reducible refine (YI.calls a0 a1 false _ A3.out).mono ?_);rintro e w' ⟨rfl,⟨nd,rfl⟩⟩;refine ⟨_,rfl,?_⟩))
  go_ret2
  exact ⟨zs,by repeat (first|exact Drawn0.refl _|apply Drawn0.step)⟩
 subst c4
 have H1:(if 0≤(a1.size:Int) then (if (a1.size:Int)≤(a0.size:Int) then (some (a0.extract ((a1.size:Int):Int).toNat a0.size,true)) else (none)) else (none))=some (r1,r2):=by rw [if_pos rfl] at H;exact H
 clear H
 have H:=H1
 clear H1
 by_cases c5:0≤(a1.size:Int)
 case neg=>
  rw [if_neg c5] at H
  cases H
 rw [if_pos c5] at H
 have c5b0:=eq_true c5
 have c5b1:=decide_eq_true c5
 clear c5
 by_cases c6:(a1.size:Int)≤(a0.size:Int)
 case neg=>
  rw [if_neg c6] at H
  cases H
 rw [if_pos c6] at H
 have c6b0:=eq_true c6
 have c6b1:=decide_eq_true c6
 clear c6
 simp only [Option.some.injEq,Prod.mk.injEq] at H
 obtain ⟨rfl,rfl⟩:=H
 go_enter func140,ntmps140
 go_wp2_with (first|(refine zg (some 8) func170 #[.string a0,.string a1] ?_;(with_reducible refine (YI.calls a0 a1 true _ A3.out).mono ?_);rintro e w' ⟨rfl,⟨nd,rfl⟩⟩;refine ⟨_,rfl,?_⟩))
 go_ret2
 exact ⟨zs,by repeat (first|exact Drawn0.refl _|apply Drawn0.step)⟩
def YB.f (a0:ByteArray) (a1:ByteArray):Option (ByteArray×Bool):=(YL.f a0 a1).bind fun bt269=>(some (bt269.1,bt269.2))
theorem YB.calls (a0:ByteArray) (a1:ByteArray) (r1:ByteArray) (r2:Bool) (w:World) (h:YB.f a0 a1=some (r1,r2)) :
  Calls Tryz.prog 102 #[.string a0,.string a1] w fun e w'=>e = .returned (.tuple #[.string r1,.bool r2])∧Drawn0 w w':=by
 have H:=h
 unfold YB.f at H
 clear h
 obtain ⟨⟨t269,t270⟩,A3,H⟩:=zB H
 (try dsimp only at H)
 simp only [Option.some.injEq,Prod.mk.injEq] at H
 obtain ⟨rfl,rfl⟩:=H
 go_enter func102,ntmps102
 go_wp2_with (first|(refine zg (some 8) func140 #[.string a0,.string a1] ?_;(with_reducible refine (YL.calls a0 a1 t269 t270 _ A3.out).mono ?_);rintro e w' ⟨rfl,⟨nd,rfl⟩⟩;refine ⟨_,rfl,?_⟩))
 go_ret2
 exact ⟨zs,by repeat (first|exact Drawn0.refl _|apply Drawn0.step)⟩
section
def YU.f (a0:ByteArray) (a1:ByteArray):Option ByteArray:=if a0.size≤9223372036854775807∧a1.size<4294967281∧a1.data.toList.all (fun b=>decide (b.toNat<128))=true then some ⟨(Lib.trimS a0.data.toList a1.data.toList).toArray⟩ else none
theorem YU.calls (a0:ByteArray) (a1:ByteArray) (r:ByteArray) (w:World) (h:YU.f a0 a1=some r) :
  Calls Tryz.prog 142 #[.string a0,.string a1] w fun e w'=>e = .returned (.string r)∧Below w.heap.size w w':=by
 unfold YU.f at h
 by_cases c:a0.size≤9223372036854775807∧a1.size<4294967281∧a1.data.toList.all (fun b=>decide (b.toNat<128))=true
 case neg=>
  rw [if_neg c] at h;cases h
 rw [if_pos c] at h
 obtain rfl:=Option.some.inj h
 exact Any.strings_Trim_laid Tryz.lays160 (by kernel_rfl) a0 a1 w c.1 c.2.1 (ascii_of_all c.2.2)
end
def YN.f (a0:ByteArray):Option (Bool):=if a0.toList=([]:List UInt8) then (some false) else ((YU.f a0 (⟨#[48,49,50,51,52,53,54,55,56,57]⟩:ByteArray)).bind fun t271=>(if t271.toList=([]:List UInt8) then (if 0<(a0.size:Int) then (if (bt a0 0)=48 then (some (a0.toList==([48]:List UInt8))) else (some true)) else (none)) else (some false)))
theorem YN.calls (a0:ByteArray) (r:Bool) (w:World) (h:YN.f a0=some r) :
  Calls Tryz.prog 106 #[.string a0] w fun e w'=>e = .returned (.bool r)∧Below w.heap.size w w':=by
 have HB:=aZ (Below.refl w.heap.size w)
 have H:=h
 unfold YN.f at H
 clear h
 by_cases c2:a0.toList=([]:List UInt8)
 case neg=>
  rw [if_neg c2] at H
  obtain ⟨c2b0,c2b1⟩:=zX c2
  obtain ⟨t271,A3,H⟩:=zB H
  by_cases c4:t271.toList=([]:List UInt8)
  case neg=>
   rw [if_neg c4] at H
   obtain ⟨c4b0,c4b1⟩:=zX c4
   obtain rfl:=Option.some.inj H
   go_enter func106,ntmps106
   go_wp2_with (first|(go_at_call 142;(with_reducible refine (YU.calls a0 (⟨#[48,49,50,51,52,53,54,55,56,57]⟩:ByteArray) t271 _ A3.out).mono ?_);rintro e w10 ⟨rfl,hb⟩;replace HB:=sB hb;clear hb))
   go_ret
   exact ⟨ze,bw⟩
  rw [if_pos c4] at H
  obtain ⟨c4b0,c4b1⟩:=zY c4
  clear c4
  by_cases c5:0<(a0.size:Int)
  case neg=>
   rw [if_neg c5] at H
   cases H
  rw [if_pos c5] at H
  have c5b0:=decide_eq_true c5
  have c5b1:decide (0<a0.size)=true:=decide_eq_true (by omega)
  clear c5
  by_cases c7:(bt a0 0)=48
  case neg=>
   rw [if_neg c7] at H
   obtain ⟨c7b0,c7b1⟩:=zX c7
   obtain rfl:=Option.some.inj H
   go_enter func106,ntmps106
   go_wp2_with (first|(go_at_call 142;(with_reducible refine (YU.calls a0 (⟨#[48,49,50,51,52,53,54,55,56,57]⟩:ByteArray) t271 _ A3.out).mono ?_);rintro e w9 ⟨rfl,hb⟩;replace HB:=sB hb;clear hb;have p6:0≤(0:Int):=(by omega);have q6:0<a0.size:=(by have:(0:Int)<(a0.size:Int):=zd;omega);have hx6:∀ h:0<a0.size,((a0[0]'h).toNat:Int)=bt a0 0:=bt_at a0 0;clear p6;have qi6:(0<(a0.size:Int))=True:=eq_true (zd);replace q6:=eq_true q6))
   go_ret
   exact ⟨ze,bw⟩
  rw [if_pos c7] at H
  obtain ⟨c7b0,c7b1⟩:=zY c7
  clear c7
  obtain rfl:=Option.some.inj H
  go_enter func106,ntmps106
  go_wp2_with (first|(go_at_call 142;(with_reducible refine (YU.calls a0 (⟨#[48,49,50,51,52,53,54,55,56,57]⟩:ByteArray) t271 _ A3.out).mono ?_);rintro e w8 ⟨rfl,hb⟩;replace HB:=sB hb;clear hb;have p6:0≤(0:Int):=(by omega);have q6:0<a0.size:=(by have:(0:Int)<(a0.size:Int):=zd;omega);have hx6:∀ h:0<a0.size,((a0[0]'h).toNat:Int)=bt a0 0:=bt_at a0 0;clear p6;have qi6:(0<(a0.size:Int))=True:=eq_true (zd);replace q6:=eq_true q6))
  go_ret
  exact ⟨ze,bw⟩
 rw [if_pos c2] at H
 obtain ⟨c2b0,c2b1⟩:=zY c2
 clear c2
 obtain rfl:=Option.some.inj H
 go_enter func106,ntmps106
 go_wp2
 go_ret
 exact ⟨ze,bw⟩
section
def YP.f (a0:ByteArray) (a1:Int) (a2:Int):Option (Int×Option Int) :=
 if a0.size≤9223372036854775806∧a1=10∧a2=32 then (match Lib.parseUintB 32 a0.data.toList with
  | .ok u=>some ((u:Int),none)
  | _=>none) else none
theorem YP.calls (a0:ByteArray) (a1:Int) (a2:Int) (r1:Int) (r2:Option Int) (w:World) (h:YP.f a0 a1 a2=some (r1,r2)) :
  Calls Tryz.prog 146 #[.string a0,.int .i64 a1,.int .i64 a2] w fun e w'=>e = .returned (.tuple #[.int .u64 r1,errW r2])∧Below w.heap.size w w':=by
 unfold YP.f at h
 by_cases c:a0.size≤9223372036854775806∧a1=10∧a2=32
 case neg=>rw [if_neg c] at h;cases h
 rw [if_pos c] at h
 obtain ⟨hs,rfl,rfl⟩:=c
 cases hp:Lib.parseUintB 32 a0.data.toList with
 | ok u =>
  rw [hp] at h
  simp only [Option.some.injEq,Prod.mk.injEq] at h
  obtain ⟨rfl,rfl⟩:=h
  refine (Tryz.strconv_ParseUint_10_at32_ok a0 hs u hp w).mono ?_
  rintro e w' ⟨rfl,rfl|rfl⟩
  ·exact ⟨rfl,Below.refl _ _⟩
  ·exact ⟨rfl,Lib.bytesWorld_below _ _ _⟩
 | _=>rw [hp] at h;cases h
end
def Yo.l0:Nat→ByteArray→List Int→Int→Option (List Int)
 | 0,_,_,_=>none
 | k+1,x0,x3,x4=>if x4 > 0 then (if 0≤(mx (wrap64 (x4-9)) 0) then (if (mx (wrap64 (x4-9)) 0)≤x4 then (if x4≤(x0.size:Int) then ((YP.f (x0.extract ((mx (wrap64 (x4-9)) 0):Int).toNat (x4:Int).toNat) 10 32).bind fun bt272=>(if x3.length<35184372088832 then (Yo.l0 k x0 (x3++[(bt272.1)%4294967296]) (wrap64 (x4-9))) else (none))) else (none)) else (none)) else (none)) else ((Yf.f k x3).bind fun t277=>(some t277))
def Yo.f (k:Nat) (a0:ByteArray):Option (List Int):=Yo.l0 k a0 ([]:List Int) (a0.size:Int)
theorem Yo.mono_l:∀ k,(∀ y0 y1 y2,LeO (Yo.l0 k y0 y1 y2) (Yo.l0 (k+1) y0 y1 y2))
 | 0=>fun _ _ _ r h=>by simp [Yo.l0] at h
 | k+1=>by
  have ih0:=Yo.mono_l k
  ·intro y0 y1 y2
   unfold Yo.l0
   have m0:=Yf.mono
   exact zM
theorem Yo.mono:∀ a0 k,LeO (Yo.f k a0) (Yo.f (k+1) a0):=by
 intro a0 k
 have ih0:=Yo.mono_l k
 unfold Yo.f
 have m0:=Yf.mono
 exact zM
theorem Yo.calls (k:Nat) (a0:ByteArray) (r:List Int) (w:World) (h:Yo.f k a0=some r) :
  Calls Tryz.prog 108 #[.string a0] w fun e w'=>∃ v0_:Value,e = .returned (v0_)∧Kd.V (Kd.int .u32) 97 w' w.heap.size (fun k_=>(w.heap.size≤k_)) v0_ r∧Below w.heap.size w w':=by
 have HB:=aZ (Below.refl w.heap.size w)
 have H:=h
 unfold Yo.f at H
 clear h
 have H':=aZ H
 clear H
 go_enter func108,ntmps108
 go_wp2
 go_loopg [3,4] k (fun kq v3 v4 w'=>∃ (x3_1:List Int) (x4_1:Int),v4 = .int .i64 x4_1∧Aside0 (Yo.l0 kq a0 x3_1 x4_1=some r)∧Aside0 (kq≤k)∧Aside0 (Kd.R (Kd.int .u32) 97 w' w.heap.size (fun k_=>(w.heap.size≤k_)) v3 x3_1)∧Aside0 (Below w.heap.size w w'))
 case atStart=>exact ⟨(([]:List Int)),((a0.size:Int)),zs,H',⟨Nat.le_refl _⟩,⟨by first|exact Kd.R_nil _ _ _ _ _|exact Kd.N_nil _ _ _ _ _|exact Kd.V_nil _ _ _ _ _|exact Kd.Q_nil _ _ _ _ _|exact Kd.S_nil _ _ _ _ _⟩,⟨bw⟩⟩
 case round =>
  clear H'
  try clear c1
  obtain ⟨x3_1,x4_1,rfl,HA,HK1,HO_3,HB⟩:=hrel
  cases gk with
  | zero=>exact absurd HA.out (by simp [Yo.l0])
  | succ k1 =>
   have H:=HA.out
   clear HA
   simp only [Yo.l0] at H
   by_cases c2:x4_1 > 0
   case neg=>
    rw [if_neg c2] at H
    have c2b0:=decide_eq_false c2
    clear c2
    obtain ⟨t277,A11,H⟩:=zB H
    obtain rfl:=Option.some.inj H
    obtain ⟨Ao12,co12,rfl⟩:=Kd.R_slice HO_3.out
    go_wp2_with (first|(refine zg (some 29) func147 #[.slice Ao12 x3_1.length co12] ?_;(with_reducible refine (Yf.calls k1 (fun k_=>some k_=(.slice Ao12 x3_1.length co12:Value).ownBlock) _ _ x3_1 t277 _ ?side1 A11.out).mono ?_);(case side1=>exact Kd.R_V (Kd.R_tight rfl (HO_3.out)));rintro e w13 ⟨v278,rfl,ho0,hb⟩;refine ⟨_,rfl,?_⟩;have HO279:=yL (fun k_=>(w.heap.size≤k_)) ho0 (fun k_ hk_=>Or.elim hk_ (fun hs_=>((HO_3.out).1 k_ hs_.symm)) (fun hn_=>(Nat.le_trans bs hn_)));replace HO_3:=yR HO_3 hb;replace HB:=sB hb;clear hb ho0))
    go_ret
    exact ⟨_,ze,zV HO279,bw⟩
   rw [if_pos c2] at H
   have c2b0:=decide_eq_true c2
   clear c2
   obtain ⟨ji3,hji3⟩:∃ j_:Int,(mx (wrap64 (x4_1-9)) 0)=j_:=⟨_,rfl⟩
   (first|rw [hji3] at H|simp only [hji3] at H)
   have hji3_:(if (wrap64 (x4_1-9))<0 then 0 else (wrap64 (x4_1-9)))=ji3:=hji3
   by_cases c4:0≤(ji3)
   case neg=>
    rw [if_neg c4] at H
    cases H
   rw [if_pos c4] at H
   have c4b0:=eq_true c4
   have c4b1:=decide_eq_true c4
   clear c4
   by_cases c5:(ji3)≤x4_1
   case neg=>
    rw [if_neg c5] at H
    cases H
   rw [if_pos c5] at H
   have c5b0:=eq_true c5
   have c5b1:=decide_eq_true c5
   clear c5
   by_cases c6:x4_1≤(a0.size:Int)
   case neg=>
    rw [if_neg c6] at H
    cases H
   rw [if_pos c6] at H
   have c6b0:=eq_true c6
   have c6b1:=decide_eq_true c6
   clear c6
   obtain ⟨⟨t272,t273⟩,A7,H⟩:=zB H
   (try dsimp only at H)
   by_cases c8:x3_1.length<35184372088832
   case neg=>
    rw [if_neg c8] at H
    cases H
   rw [if_pos c8] at H
   have LMc8:=aZ c8
   clear c8
   obtain ⟨y274,hy274⟩:∃ y_:List Int,y_=(x3_1++[(t272)%4294967296]):=⟨_,rfl⟩
   replace H:(Yo.l0 k1 a0 y274 (wrap64 (x4_1-9)))=some r:=zy hy274 H
   have Ny274:=aZ hy274
   clear hy274
   have H':=aZ H
   clear H
   go_wp2_with (first|((with_reducible refine gate_callee (f:=146) rfl ?_);refine goesL_ (some 20) rfl rfl func146 (by kernel_rfl) rfl #[.string (a0.extract ((ji3):Int).toNat (x4_1:Int).toNat),.int .i64 10,.int .i64 32] rfl (by (try simp only [List.map_toArray,List.map_cons,List.map_nil]);first|done|(simp only [hji3];rfl)|rfl|(simp only [List.length_drop,List.length_take];rfl)) ?_;(with_reducible refine (YP.calls (a0.extract ((ji3):Int).toNat (x4_1:Int).toNat) 10 32 t272 t273 _ A7.out).mono ?_);rintro e w9 ⟨rfl,hb⟩;refine ⟨_,rfl,?_⟩;replace HO_3:=yR HO_3 hb;replace HB:=sB hb;clear hb;(try simp only [errW_none,errW_some]))|((with_reducible refine gate_builtin (b:=.append) (xs:=#[.tmp 23,.tmp 26]) rfl ?_);at_builtin;refine Kd.R_append (Kd.int .u32) (w0:=w) w.heap.size rfl (.tmp 23) (.tmp 26) 101 97 (.int .u32 0) 4 rfl underlying101 info97 rfl (by decide) (by omega) u3 x3_1 ((t272)%4294967296) [.int .u32 ((t272)%4294967296)] (fun k_=>(w.heap.size≤k_)) (fun _=>False) rfl rfl ?aP (fun _ hk=>hk.elim) ?aF ?aO ?aB ?aS ?aL ?_;(case aP=>exact rfl);(case aB=>exact bw);(case aF=>exact (fun k_ hk=>(Nat.le_trans bs hk)));(case aO=>exact (zR HO_3));(case aS=>exact bs);(case aL=>have:=LMc8.out;omega);intro v275 w10 ho hb hg hat;rw [← Ny274.out] at ho;replace HB:=aZ (hb);have HO276:=aZ (ho);clear HO_3;clear ho hb hg hat))
   go_roundg k1
   case measure=>have:=HK1.out;omega
   case rel=>exact ⟨(y274),(wrap64 (x4_1-9)),zs,H',⟨by have:=HK1.out;omega⟩,⟨zR HO276⟩,⟨bw⟩⟩
attribute [local go_sem high] eqA61
def Y6.j0:Nat→ByteArray→Bool→Bool→ByteArray→ByteArray→Option (Int)
 | 0,_,_,_,_,_=>none
 | k+1,x3,x4,x11,x281000,x281001=>if x11=true then (some 3) else (if x3.toList=([48]:List UInt8) then (if x4=true then (some 3) else (if x281001.toList=([49]:List UInt8) then (some 0) else (some 3))) else (if x281001.toList=([49]:List UInt8) then (some 0) else ((Yo.f k x3).bind fun t285=>((Yo.f k x281001).bind fun t288=>((Yb.f k t285 t288).bind fun t291=>((Yx.f t291).bind fun t294=>(if t294=true then (some 0) else (some 3))))))))
def Y6.f (k:Nat) (a0_0:ByteArray) (a0_1:ByteArray):Option (Int):=(YB.f a0_0 (⟨#[45]⟩:ByteArray)).bind fun bt281=>((YN.f bt281.1).bind fun t283=>(if t283=true then ((YN.f a0_1).bind fun t284=>(if t284=true then (Y6.j0 k bt281.1 bt281.2 (a0_1.toList==([48]:List UInt8)) a0_0 a0_1) else (Y6.j0 k bt281.1 bt281.2 true a0_0 a0_1))) else (Y6.j0 k bt281.1 bt281.2 true a0_0 a0_1)))
theorem Y6.mono_l:∀ k,(∀ y0 y1 y2 y3 y4,LeO (Y6.j0 k y0 y1 y2 y3 y4) (Y6.j0 (k+1) y0 y1 y2 y3 y4))
 | 0=>fun _ _ _ _ _ r h=>by simp [Y6.j0] at h
 | k+1=>by
  have ih0:=Y6.mono_l k
  ·intro y0 y1 y2 y3 y4
   unfold Y6.j0
   have m0:=Yb.mono
   have m1:=Yo.mono
   exact zM
theorem Y6.mono:∀ a0 a1 k,LeO (Y6.f k a0 a1) (Y6.f (k+1) a0 a1):=by
 intro a0 a1 k
 have ih0:=Y6.mono_l k
 unfold Y6.f
 have m0:=Yb.mono
 have m1:=Yo.mono
 exact zM
def Y6.T7:Bool×List (List Nat×List Nat):=(true,[([],[]),([0],[0]),([1],[1]),([2],[2]),([3],[3]),([4,3,3],[3,4]),([3],[3]),([6,3],[3,6]),([7,5,3],[3,7]),([5,8,8,3],[3,5,8]),([9,9,3],[3,9]),([10,3],[3,10]),([3,11],[3,11]),([12,10],[12])])
def Y6.B7:List Nat:=[0,1,3,7,15,31,15,79,255,511,1023,2047,4095,8191]
theorem Y6.tab7:rtab .any (opsOf Tryz.f56 7)=Y6.T7:=by kernel_rfl
theorem Y6.bits7:waitsOk Y6.T7.2 Y6.B7=true:=by kernel_rfl
theorem Y6.calls (k:Nat) (a0_0:ByteArray) (a0_1:ByteArray) (r:Int) (w:World) (h:Y6.f k a0_0 a0_1=some r) :
  Calls Tryz.prog 56 #[.agg #[.string a0_0,.string a0_1]] w fun e w'=>e = .returned (.int .i64 r)∧Below w.heap.size w w':=by
 have hu61:=underlying61
 have HB:=aZ (Below.refl w.heap.size w)
 have H:=h
 unfold Y6.f at H
 clear h
 obtain ⟨⟨t281,t282⟩,A2,H⟩:=zB H
 (try dsimp only at H)
 have HC3:=aZ H
 clear H
 go_enter func56,ntmps56
 go_upto_region 2 with (first|(refine box_ev 1 #[.string a0_0,.string a0_1] 61 ?_;intro gb280 hg w4 hbox hb;have BK280:=aZ hbox;have GE280:=sG hg;replace HB:=sB hb;clear hb hbox hg;obtain ⟨hcz5_0,hfz5_0⟩:=zc BK280 0 (.string a0_0) rfl;obtain ⟨hcz5_1,hfz5_1⟩:=zc BK280 1 (.string a0_1) rfl)|(refine zg (some 8) func102 #[.string a0_0,.string (⟨#[45]⟩:ByteArray)] ?_;(with_reducible refine (YB.calls a0_0 (⟨#[45]⟩:ByteArray) t281 t282 _ A2.out).mono ?_);rintro e w' ⟨rfl,⟨nd,rfl⟩⟩;refine ⟨_,rfl,?_⟩))
 (try simp only [Act.put,List.setIfInBounds_toArray,List.set_cons_zero,List.set_cons_succ])
 go_cut [11] (fun v11 wc=>∃ (kq:Nat) (x11_2:Bool),v11 = .bool x11_2∧Aside0 (Y6.j0 kq t281 t282 x11_2 a0_0 a0_1=some r)∧Aside0 (kq≤k)∧Aside0 (wc.heap[gb280]? = some (.cells #[.string a0_0,.string a0_1] 61 (0,0)))∧Aside0 (Below w.heap.size w wc))
 case first =>
  have H:=HC3.out
  clear HC3
  obtain ⟨t283,A6,H⟩:=zB H
  by_cases c7:t283=true
  case neg=>
   replace c7:=Bool.eq_false_iff.mpr c7
   subst c7
   have H1:(Y6.j0 k t281 t282 true a0_0 a0_1)=some r:=by rw [if_neg (show ¬ (false=true) by decide)] at H;exact H
   clear H
   have H:=H1
   clear H1
   have H':=aZ H
   clear H
   go_wp2_with (first|(refine zg (some 13) func106 #[.string t281] ?_;(with_reducible refine (YN.calls t281 false _ A6.out).mono ?_);rintro e w17 ⟨rfl,hb⟩;refine ⟨_,rfl,?_⟩;replace BK280:=sK BK280 hb;replace HB:=sB hb;clear hb))
   go_meet
   case rel=>exact ⟨_,(true),zs,H',⟨by first|omega|exact Nat.le_refl _⟩,⟨zb BK280⟩,⟨bw⟩⟩
  subst c7
  have H1:((YN.f a0_1).bind fun t284=>(if t284=true then (Y6.j0 k t281 t282 (a0_1.toList==([48]:List UInt8)) a0_0 a0_1) else (Y6.j0 k t281 t282 true a0_0 a0_1)))=some r:=by rw [if_pos rfl] at H;exact H
  clear H
  have H:=H1
  clear H1
  obtain ⟨t284,A8,H⟩:=zB H
  by_cases c9:t284=true
  case neg=>
   replace c9:=Bool.eq_false_iff.mpr c9
   subst c9
   have H1:(Y6.j0 k t281 t282 true a0_0 a0_1)=some r:=by rw [if_neg (show ¬ (false=true) by decide)] at H;exact H
   clear H
   have H:=H1
   clear H1
   have H':=aZ H
   clear H
   go_wp2_with (first|(refine zg (some 13) func106 #[.string t281] ?_;(with_reducible refine (YN.calls t281 true _ A6.out).mono ?_);rintro e w14 ⟨rfl,hb⟩;refine ⟨_,rfl,?_⟩;replace BK280:=sK BK280 hb;replace HB:=sB hb;clear hb;obtain ⟨hcz15_0,hfz15_0⟩:=zc BK280 0 (.string a0_0) rfl;obtain ⟨hcz15_1,hfz15_1⟩:=zc BK280 1 (.string a0_1) rfl)|(go_at_call 106;(with_reducible refine (YN.calls a0_1 false _ A8.out).mono ?_);rintro e w16 ⟨rfl,hb⟩;replace BK280:=sK BK280 hb;replace HB:=sB hb;clear hb))
   go_meet
   case rel=>exact ⟨_,(true),zs,H',⟨by first|omega|exact Nat.le_refl _⟩,⟨zb BK280⟩,⟨bw⟩⟩
  subst c9
  have H1:(Y6.j0 k t281 t282 (a0_1.toList==([48]:List UInt8)) a0_0 a0_1)=some r:=by rw [if_pos rfl] at H;exact H
  clear H
  have H:=H1
  clear H1
  have H':=aZ H
  clear H
  go_wp2_with (first|(refine zg (some 13) func106 #[.string t281] ?_;(with_reducible refine (YN.calls t281 true _ A6.out).mono ?_);rintro e w10 ⟨rfl,hb⟩;refine ⟨_,rfl,?_⟩;replace BK280:=sK BK280 hb;replace HB:=sB hb;clear hb;obtain ⟨hcz11_0,hfz11_0⟩:=zc BK280 0 (.string a0_0) rfl;obtain ⟨hcz11_1,hfz11_1⟩:=zc BK280 1 (.string a0_1) rfl)|(go_at_call 106;(with_reducible refine (YN.calls a0_1 true _ A8.out).mono ?_);rintro e w12 ⟨rfl,hb⟩;replace BK280:=sK BK280 hb;replace HB:=sB hb;clear hb;obtain ⟨hcz13_0,hfz13_0⟩:=zc BK280 0 (.string a0_0) rfl;obtain ⟨hcz13_1,hfz13_1⟩:=zc BK280 1 (.string a0_1) rfl))
  go_meet
  case rel=>exact ⟨_,((a0_1.toList==([48]:List UInt8))),zs,H',⟨by first|omega|exact Nat.le_refl _⟩,⟨zb BK280⟩,⟨bw⟩⟩
 case rest =>
  clear HC3
  try clear c1
  try clear c5
  try clear c7
  try clear c9
  try clear c10
  try clear hcz11_0
  try clear hcz11_1
  try clear hcz13_0
  try clear hcz13_1
  try clear hcz15_0
  try clear hcz15_1
  try clear hcz5_0
  try clear hcz5_1
  try clear hfz11_0
  try clear hfz11_1
  try clear hfz13_0
  try clear hfz13_1
  try clear hfz15_0
  try clear hfz15_1
  try clear hfz5_0
  try clear hfz5_1
  obtain ⟨kq,x11_2,rfl,HA,HJ2,BK280,HB⟩:=hcut
  cases kq with
  | zero=>exact absurd HA.out (by simp [Y6.j0])
  | succ kj2 =>
   have H:=HA.out
   clear HA
   simp only [Y6.j0] at H
   by_cases c18:x11_2=true
   case neg=>
    replace c18:=Bool.eq_false_iff.mpr c18
    subst c18
    have H1:(if t281.toList=([48]:List UInt8) then (if t282=true then (some 3) else (if a0_1.toList=([49]:List UInt8) then (some 0) else (some 3))) else (if a0_1.toList=([49]:List UInt8) then (some 0) else ((Yo.f kj2 t281).bind fun t285=>((Yo.f kj2 a0_1).bind fun t288=>((Yb.f kj2 t285 t288).bind fun t291=>((Yx.f t291).bind fun t294=>(if t294=true then (some 0) else (some 3))))))))=some r:=by rw [if_neg (show ¬ (false=true) by decide)] at H;exact H
    clear H
    have H:=H1
    clear H1
    by_cases c19:t281.toList=([48]:List UInt8)
    case neg=>
     rw [if_neg c19] at H
     obtain ⟨c19b0,c19b1⟩:=zX c19
     by_cases c24:a0_1.toList=([49]:List UInt8)
     case neg=>
      rw [if_neg c24] at H
      obtain ⟨c24b0,c24b1⟩:=zX c24
      obtain ⟨t285,A26,H⟩:=zB H
      obtain ⟨t288,A27,H⟩:=zB H
      obtain ⟨t291,A28,H⟩:=zB H
      obtain ⟨t294,A29,H⟩:=zB H
      by_cases c30:t294=true
      case neg=>
       replace c30:=Bool.eq_false_iff.mpr c30
       subst c30
       have H1:(some 3)=some r:=by rw [if_neg (show ¬ (false=true) by decide)] at H;exact H
       clear H
       have H:=H1
       clear H1
       obtain rfl:=Option.some.inj H
       try go_wp2
       replace BK280:=aZ (blk_drew BK280.out)
       replace HB:=aZ (below_drew1 HB.out)
       refine start_ (n:=14) (S:=fun w'=>w'.cell? ⟨gb280,0,none⟩=some (.string a0_0)∧w'.cell? ⟨gb280,1,none⟩=some (.string a0_1)) (ds:=[]) #[false,false,false,false,false,false,false,false,false,false,false,false,false,false] (by kernel_rfl) rfl rfl ⟨zh BK280 0,zh BK280 1⟩ (fun hHeld=>?_);refine with_tabW Y6.tab7 Y6.bits7 (fun HT_ HW_=>?_)
       generalize wc.drew=w38 at BK280 HB hHeld ⊢
       refine pu 0 (some 36) HT_ ?_
       refine tk 1 (some 37) HT_ HW_ hHeld ?_
       refine pu 2 (some 38) HT_ ?_
       refine pu 3 (some 39) HT_ ?_
       refine pu 4 (some 40) HT_ ?_
       refine pu 6 (some 42) HT_ ?_
       refine tk 7 (some 43) HT_ HW_ hHeld ?_
       refine one_ (i:=5) (N:=some 41) #[true,true,true,true,true,true,true,true,false,false,false,false,false,false] rfl rfl (one_of HT_.out (by kernel_rfl)) (by decide) (fun K hK=>?_)
       refine goes_ func108 (by kernel_rfl) rfl #[.string t281] (by rfl) rfl rfl zm ?_
       with_reducible refine (Yo.calls kj2 t281 t285 _ A26.out).mono ?_
       rintro e w39 ⟨v286,rfl,ho0,hb⟩
       refine ⟨_,rfl,?_⟩
       have HO287:=yL (fun k_=>k_≠gb280) ho0 (fun k_ hk_=>(zf BK280 hk_))
       replace BK280:=sK BK280 hb
       replace HB:=sB hb
       clear hb ho0
       refine hK.out _ _ ⟨zh BK280 0,zh BK280 1⟩ (fun hHeld=>?_)
       clear hK K
       refine nm ?_
       refine one_ (i:=8) (N:=some 44) #[true,true,true,true,true,true,true,true,true,false,false,false,false,false] rfl rfl (one_of HT_.out (by kernel_rfl)) (by decide) (fun K hK=>?_)
       refine goes_ func108 (by kernel_rfl) rfl #[.string a0_1] (by rfl) rfl rfl zm ?_
       with_reducible refine (Yo.calls kj2 a0_1 t288 _ A27.out).mono ?_
       rintro e w40 ⟨v289,rfl,ho0,hb⟩
       refine ⟨_,rfl,?_⟩
       replace HO287:=yV HO287 hb
       have HO290:=yL (fun k_=>k_≠gb280) ho0 (fun k_ hk_=>(zf BK280 hk_))
       replace BK280:=sK BK280 hb
       replace HB:=sB hb
       clear hb ho0
       obtain ⟨Ao41,co41,eo41⟩:=Kd.V_slice HO287.out
       (first|subst eo41|(injection eo41 with f1_ f2_ f3_;have f4_:=f1_.symm;have f5_:=f3_.symm;clear f1_ f2_ f3_;subst f4_;subst f5_))
       obtain ⟨Ao42,co42,eo42⟩:=Kd.V_slice HO290.out
       (first|subst eo42|(injection eo42 with f1_ f2_ f3_;have f4_:=f1_.symm;have f5_:=f3_.symm;clear f1_ f2_ f3_;subst f4_;subst f5_))
       refine hK.out _ _ ⟨zh BK280 0,zh BK280 1⟩ (fun hHeld=>?_)
       clear hK K
       refine nm ?_
       refine one_ (i:=9) (N:=some 45) #[true,true,true,true,true,true,true,true,true,true,false,false,false,false] rfl rfl (one_of HT_.out (by kernel_rfl)) (by decide) (fun K hK=>?_)
       refine goes_ func107 (by kernel_rfl) rfl #[.slice Ao41 t285.length co41,.slice Ao42 t288.length co42] (by rfl) rfl rfl zm ?_
       with_reducible refine (Yb.calls kj2 (fun k_=>k_≠gb280) _ _ t285 (fun k_=>k_≠gb280) _ _ t288 t291 _ ?side1 ?side2 A28.out).mono ?_
       (case side1=>exact HO287.out)
       (case side2=>exact HO290.out)
       rintro e w43 ⟨v292,rfl,ho0,hb⟩
       refine ⟨_,rfl,?_⟩
       replace HO287:=aZ (Kd.V_elder' (zV HO287) (Kd.R_base ho0) hb)
       replace HO290:=aZ (Kd.V_elder' (zV HO290) (Kd.R_base ho0) hb)
       have HO293:=aZ (Kd.R_lower (Kd.R_mono (ok':=fun k_=>True) ho0 (fun _ hk_=>trivial)) bs)
       replace BK280:=sK BK280 hb
       replace HB:=sB hb
       clear hb ho0
       obtain ⟨Ao44,co44,eo44⟩:=Kd.R_slice HO293.out
       (first|subst eo44|(injection eo44 with f1_ f2_ f3_;have f4_:=f1_.symm;have f5_:=f3_.symm;clear f1_ f2_ f3_;subst f4_;subst f5_))
       refine hK.out _ _ ⟨zh BK280 0,zh BK280 1⟩ (fun hHeld=>?_)
       clear hK K
       refine nm ?_
       refine one_ (i:=10) (N:=some 46) #[true,true,true,true,true,true,true,true,true,true,true,false,false,false] rfl rfl (one_of HT_.out (by kernel_rfl)) (by decide) (fun K hK=>?_)
       refine goes_ func109 (by kernel_rfl) rfl #[.slice Ao44 t291.length co44] (by rfl) rfl rfl zm ?_
       with_reducible refine (Yx.calls _ _ t291 false _ ?side1 ?side2 A29.out).mono ?_
       (case side1=>exact zC (Kd.R_reads' HO293.out).2.2)
       (case side2=>exact (Kd.R_reads' HO293.out).2.1)
       rintro e w' ⟨rfl,⟨nd,rfl⟩⟩
       refine ⟨_,rfl,?_⟩
       refine hK.out _ _ ⟨zh BK280 0,zh BK280 1⟩ (fun hHeld=>?_)
       clear hK K
       refine nm ?_
       refine pu 11 (some 47) HT_ ?_
       refine pu 12 (some 48) HT_ ?_
       refine pu 13 (some 35) HT_ ?_
       refine done_ (done_of HT_.out (by kernel_rfl)) ?_
       try go_wp2
       go_ret
       exact ⟨ze,bw⟩
      subst c30
      have H1:(some 0)=some r:=by rw [if_pos rfl] at H;exact H
      clear H
      have H:=H1
      clear H1
      obtain rfl:=Option.some.inj H
      try go_wp2
      replace BK280:=aZ (blk_drew BK280.out)
      replace HB:=aZ (below_drew1 HB.out)
      refine start_ (n:=14) (S:=fun w'=>w'.cell? ⟨gb280,0,none⟩=some (.string a0_0)∧w'.cell? ⟨gb280,1,none⟩=some (.string a0_1)) (ds:=[]) #[false,false,false,false,false,false,false,false,false,false,false,false,false,false] (by kernel_rfl) rfl rfl ⟨zh BK280 0,zh BK280 1⟩ (fun hHeld=>?_);refine with_tabW Y6.tab7 Y6.bits7 (fun HT_ HW_=>?_)
      generalize wc.drew=w31 at BK280 HB hHeld ⊢
      refine pu 0 (some 36) HT_ ?_
      refine tk 1 (some 37) HT_ HW_ hHeld ?_
      refine pu 2 (some 38) HT_ ?_
      refine pu 3 (some 39) HT_ ?_
      refine pu 4 (some 40) HT_ ?_
      refine pu 6 (some 42) HT_ ?_
      refine tk 7 (some 43) HT_ HW_ hHeld ?_
      refine one_ (i:=5) (N:=some 41) #[true,true,true,true,true,true,true,true,false,false,false,false,false,false] rfl rfl (one_of HT_.out (by kernel_rfl)) (by decide) (fun K hK=>?_)
      refine goes_ func108 (by kernel_rfl) rfl #[.string t281] (by rfl) rfl rfl zm ?_
      with_reducible refine (Yo.calls kj2 t281 t285 _ A26.out).mono ?_
      rintro e w32 ⟨v286,rfl,ho0,hb⟩
      refine ⟨_,rfl,?_⟩
      have HO287:=yL (fun k_=>k_≠gb280) ho0 (fun k_ hk_=>(zf BK280 hk_))
      replace BK280:=sK BK280 hb
      replace HB:=sB hb
      clear hb ho0
      refine hK.out _ _ ⟨zh BK280 0,zh BK280 1⟩ (fun hHeld=>?_)
      clear hK K
      refine nm ?_
      refine one_ (i:=8) (N:=some 44) #[true,true,true,true,true,true,true,true,true,false,false,false,false,false] rfl rfl (one_of HT_.out (by kernel_rfl)) (by decide) (fun K hK=>?_)
      refine goes_ func108 (by kernel_rfl) rfl #[.string a0_1] (by rfl) rfl rfl zm ?_
      with_reducible refine (Yo.calls kj2 a0_1 t288 _ A27.out).mono ?_
      rintro e w33 ⟨v289,rfl,ho0,hb⟩
      refine ⟨_,rfl,?_⟩
      replace HO287:=yV HO287 hb
      have HO290:=yL (fun k_=>k_≠gb280) ho0 (fun k_ hk_=>(zf BK280 hk_))
      replace BK280:=sK BK280 hb
      replace HB:=sB hb
      clear hb ho0
      obtain ⟨Ao34,co34,eo34⟩:=Kd.V_slice HO287.out
      (first|subst eo34|(injection eo34 with f1_ f2_ f3_;have f4_:=f1_.symm;have f5_:=f3_.symm;clear f1_ f2_ f3_;subst f4_;subst f5_))
      obtain ⟨Ao35,co35,eo35⟩:=Kd.V_slice HO290.out
      (first|subst eo35|(injection eo35 with f1_ f2_ f3_;have f4_:=f1_.symm;have f5_:=f3_.symm;clear f1_ f2_ f3_;subst f4_;subst f5_))
      refine hK.out _ _ ⟨zh BK280 0,zh BK280 1⟩ (fun hHeld=>?_)
      clear hK K
      refine nm ?_
      refine one_ (i:=9) (N:=some 45) #[true,true,true,true,true,true,true,true,true,true,false,false,false,false] rfl rfl (one_of HT_.out (by kernel_rfl)) (by decide) (fun K hK=>?_)
      refine goes_ func107 (by kernel_rfl) rfl #[.slice Ao34 t285.length co34,.slice Ao35 t288.length co35] (by rfl) rfl rfl zm ?_
      with_reducible refine (Yb.calls kj2 (fun k_=>k_≠gb280) _ _ t285 (fun k_=>k_≠gb280) _ _ t288 t291 _ ?side1 ?side2 A28.out).mono ?_
      (case side1=>exact HO287.out)
      (case side2=>exact HO290.out)
      rintro e w36 ⟨v292,rfl,ho0,hb⟩
      refine ⟨_,rfl,?_⟩
      replace HO287:=aZ (Kd.V_elder' (zV HO287) (Kd.R_base ho0) hb)
      replace HO290:=aZ (Kd.V_elder' (zV HO290) (Kd.R_base ho0) hb)
      have HO293:=aZ (Kd.R_lower (Kd.R_mono (ok':=fun k_=>True) ho0 (fun _ hk_=>trivial)) bs)
      replace BK280:=sK BK280 hb
      replace HB:=sB hb
      clear hb ho0
      obtain ⟨Ao37,co37,eo37⟩:=Kd.R_slice HO293.out
      (first|subst eo37|(injection eo37 with f1_ f2_ f3_;have f4_:=f1_.symm;have f5_:=f3_.symm;clear f1_ f2_ f3_;subst f4_;subst f5_))
      refine hK.out _ _ ⟨zh BK280 0,zh BK280 1⟩ (fun hHeld=>?_)
      clear hK K
      refine nm ?_
      refine one_ (i:=10) (N:=some 46) #[true,true,true,true,true,true,true,true,true,true,true,false,false,false] rfl rfl (one_of HT_.out (by kernel_rfl)) (by decide) (fun K hK=>?_)
      refine goes_ func109 (by kernel_rfl) rfl #[.slice Ao37 t291.length co37] (by rfl) rfl rfl zm ?_
      with_reducible refine (Yx.calls _ _ t291 true _ ?side1 ?side2 A29.out).mono ?_
      (case side1=>exact zC (Kd.R_reads' HO293.out).2.2)
      (case side2=>exact (Kd.R_reads' HO293.out).2.1)
      rintro e w' ⟨rfl,⟨nd,rfl⟩⟩
      refine ⟨_,rfl,?_⟩
      refine hK.out _ _ ⟨zh BK280 0,zh BK280 1⟩ (fun hHeld=>?_)
      clear hK K
      refine nm ?_
      refine pu 11 (some 47) HT_ ?_
      refine pu 12 (some 48) HT_ ?_
      refine pu 13 (some 35) HT_ ?_
      refine done_ (done_of HT_.out (by kernel_rfl)) ?_
      try go_wp2
      go_ret
      exact ⟨ze,bw⟩
     rw [if_pos c24] at H
     obtain ⟨c24b0,c24b1⟩:=zY c24
     clear c24
     obtain rfl:=Option.some.inj H
     try go_wp2
     replace BK280:=aZ (blk_drew BK280.out)
     replace HB:=aZ (below_drew1 HB.out)
     refine start_ (n:=14) (S:=fun w'=>w'.cell? ⟨gb280,0,none⟩=some (.string a0_0)∧w'.cell? ⟨gb280,1,none⟩=some (.string a0_1)) (ds:=[]) #[false,false,false,false,false,false,false,false,false,false,false,false,false,false] (by kernel_rfl) rfl rfl ⟨zh BK280 0,zh BK280 1⟩ (fun hHeld=>?_);refine with_tabW Y6.tab7 Y6.bits7 (fun HT_ HW_=>?_)
     generalize wc.drew=w25 at BK280 HB hHeld ⊢
     refine pu 0 (some 36) HT_ ?_
     refine tk 1 (some 37) HT_ HW_ hHeld ?_
     refine pu 2 (some 38) HT_ ?_
     refine pu 3 (some 39) HT_ ?_
     refine pure_ (i:=4) (N:=some 40) (v:=undef) (a':=?_) #[true,true,true,true,true,false,false,false,false,false,false,false,false,false] rfl rfl (any_of HT_.out (by kernel_rfl)) (fun _ _ _ h=>h) (Or.inr ⟨by rfl,rfl⟩) ?_ ?_
     rotate_left
     ·simp only [Act.put,List.setIfInBounds_toArray,List.set_cons_zero,List.set_cons_succ,i64_w,i32_w]
      rfl
     refine pure_ (i:=5) (N:=some 41) (v:=undef) (a':=?_) #[true,true,true,true,true,true,false,false,false,false,false,false,false,false] rfl rfl (any_of HT_.out (by kernel_rfl)) (fun _ _ _ h=>h) (Or.inr ⟨by rfl,rfl⟩) ?_ ?_
     rotate_left
     ·simp only [Act.put,List.setIfInBounds_toArray,List.set_cons_zero,List.set_cons_succ,i64_w,i32_w]
      rfl
     refine pure_ (i:=6) (N:=some 42) (v:=undef) (a':=?_) #[true,true,true,true,true,true,true,false,false,false,false,false,false,false] rfl rfl (any_of HT_.out (by kernel_rfl)) (fun _ _ _ h=>h) (Or.inr ⟨by rfl,rfl⟩) ?_ ?_
     rotate_left
     ·simp only [Act.put,List.setIfInBounds_toArray,List.set_cons_zero,List.set_cons_succ,i64_w,i32_w]
      rfl
     refine pure_ (i:=7) (N:=some 43) (v:=undef) (a':=?_) #[true,true,true,true,true,true,true,true,false,false,false,false,false,false] rfl rfl (any_of HT_.out (by kernel_rfl)) (fun _ _ _ h=>h) (Or.inr ⟨by rfl,rfl⟩) ?_ ?_
     rotate_left
     ·simp only [Act.put,List.setIfInBounds_toArray,List.set_cons_zero,List.set_cons_succ,i64_w,i32_w]
      rfl
     refine pure_ (i:=8) (N:=some 44) (v:=undef) (a':=?_) #[true,true,true,true,true,true,true,true,true,false,false,false,false,false] rfl rfl (any_of HT_.out (by kernel_rfl)) (fun _ _ _ h=>h) (Or.inr ⟨by rfl,rfl⟩) ?_ ?_
     rotate_left
     ·simp only [Act.put,List.setIfInBounds_toArray,List.set_cons_zero,List.set_cons_succ,i64_w,i32_w]
      rfl
     refine pure_ (i:=9) (N:=some 45) (v:=undef) (a':=?_) #[true,true,true,true,true,true,true,true,true,true,false,false,false,false] rfl rfl (any_of HT_.out (by kernel_rfl)) (fun _ _ _ h=>h) (Or.inr ⟨by rfl,rfl⟩) ?_ ?_
     rotate_left
     ·simp only [Act.put,List.setIfInBounds_toArray,List.set_cons_zero,List.set_cons_succ,i64_w,i32_w]
      rfl
     refine pure_ (i:=10) (N:=some 46) (v:=undef) (a':=?_) #[true,true,true,true,true,true,true,true,true,true,true,false,false,false] rfl rfl (any_of HT_.out (by kernel_rfl)) (fun _ _ _ h=>h) (Or.inr ⟨by rfl,rfl⟩) ?_ ?_
     rotate_left
     ·simp only [Act.put,List.setIfInBounds_toArray,List.set_cons_zero,List.set_cons_succ,i64_w,i32_w]
      rfl
     refine pure_ (i:=11) (N:=some 47) (v:=undef) (a':=?_) #[true,true,true,true,true,true,true,true,true,true,true,true,false,false] rfl rfl (any_of HT_.out (by kernel_rfl)) (fun _ _ _ h=>h) (Or.inr ⟨by rfl,rfl⟩) ?_ ?_
     rotate_left
     ·simp only [Act.put,List.setIfInBounds_toArray,List.set_cons_zero,List.set_cons_succ,i64_w,i32_w]
      rfl
     refine pu 12 (some 48) HT_ ?_
     refine pu 13 (some 35) HT_ ?_
     refine done_ (done_of HT_.out (by kernel_rfl)) ?_
     try go_wp2
     go_ret
     exact ⟨ze,bw⟩
    rw [if_pos c19] at H
    obtain ⟨c19b0,c19b1⟩:=zY c19
    clear c19
    by_cases c20:t282=true
    case neg=>
     replace c20:=Bool.eq_false_iff.mpr c20
     subst c20
     have H1:(if a0_1.toList=([49]:List UInt8) then (some 0) else (some 3))=some r:=by rw [if_neg (show ¬ (false=true) by decide)] at H;exact H
     clear H
     have H:=H1
     clear H1
     by_cases c21:a0_1.toList=([49]:List UInt8)
     case neg=>
      rw [if_neg c21] at H
      obtain ⟨c21b0,c21b1⟩:=zX c21
      obtain rfl:=Option.some.inj H
      have hcz23_0:wc.cell? ⟨gb280,0,none⟩=some (.string a0_0):=(blk_cell BK280.out 0).trans rfl
      have hcz23_1:wc.cell? ⟨gb280,1,none⟩=some (.string a0_1):=(blk_cell BK280.out 1).trans rfl
      have hfz23_0:=blk_frozen BK280.out 0
      have hfz23_1:=blk_frozen BK280.out 1
      go_wp2
      go_ret
      exact ⟨ze,bw⟩
     rw [if_pos c21] at H
     obtain ⟨c21b0,c21b1⟩:=zY c21
     clear c21
     obtain rfl:=Option.some.inj H
     have hcz22_0:wc.cell? ⟨gb280,0,none⟩=some (.string a0_0):=(blk_cell BK280.out 0).trans rfl
     have hcz22_1:wc.cell? ⟨gb280,1,none⟩=some (.string a0_1):=(blk_cell BK280.out 1).trans rfl
     have hfz22_0:=blk_frozen BK280.out 0
     have hfz22_1:=blk_frozen BK280.out 1
     go_wp2
     go_ret
     exact ⟨ze,bw⟩
    subst c20
    have H1:(some 3)=some r:=by rw [if_pos rfl] at H;exact H
    clear H
    have H:=H1
    clear H1
    obtain rfl:=Option.some.inj H
    go_wp2
    go_ret
    exact ⟨ze,bw⟩
   subst c18
   have H1:(some 3)=some r:=by rw [if_pos rfl] at H;exact H
   clear H
   have H:=H1
   clear H1
   obtain rfl:=Option.some.inj H
   go_wp2
   go_ret
   exact ⟨ze,bw⟩
def YA.f (k:Nat)  : Option (Bool):=(YT.f k 6 (-4)).bind fun bt295=>(if bt295.2.2=0 then (if (bt295.1.toList==([45,51]:List UInt8)&&(bt295.2.1.toList==([50]:List UInt8)))=true then ((Y6.f k bt295.1 bt295.2.1).bind fun t299=>(if t299=0 then ((Y6.f k (⟨#[]⟩:ByteArray) (⟨#[]⟩:ByteArray)).bind fun t300=>(some (t300==3))) else (some false))) else (some false)) else (some false))
theorem YA.mono:∀ k,LeO (YA.f k ) (YA.f (k+1) ):=by
 intro  k
 unfold YA.f
 have m0:=Y6.mono
 have m1:=YT.mono
 exact zM
theorem YA.calls (k:Nat)  (r:Bool) (w:World) (hG:Tryz.Gl w) (h:YA.f k  = some r) :
  Calls Tryz.prog 20 #[] w fun e w'=>e = .returned (.bool r)∧Below w.heap.size w w':=by
 have hu61:=underlying61
 have HG:=aZ hG
 clear hG
 have HB:=aZ (Below.refl w.heap.size w)
 have H:=h
 unfold YA.f at H
 clear h
 obtain ⟨⟨t295,t296,t297⟩,A1,H⟩:=zB H
 (try dsimp only at H)
 by_cases c2:t297=0
 case neg=>
  rw [if_neg c2] at H
  obtain ⟨c2b0,c2b1⟩:=zX c2
  obtain rfl:=Option.some.inj H
  go_enter func20,ntmps20
  go_wp2_with (first|(refine zg (some 4) func46 #[.int .i64 6,.int .i64 (-4)] ?_;(with_reducible refine (YT.calls k 6 (-4) t295 t296 t297 _ ?side1 A1.out).mono ?_);(case side1=>exact Tryz.Gl.below HG.out bw);rintro e w19 ⟨rfl,hb⟩;refine ⟨_,rfl,?_⟩;replace HB:=sB hb;clear hb)|(refine box_ev 1 #[.string ⟨#[]⟩,.string ⟨#[]⟩] 61 ?_;intro gb298 hg w20 hbox hb;have BK298:=aZ hbox;have GE298:=sG hg;replace HB:=sB hb;clear hb hbox hg;obtain ⟨hcz21_0,hfz21_0⟩:=zc BK298 0 (.string ⟨#[]⟩) rfl;obtain ⟨hcz21_1,hfz21_1⟩:=zc BK298 1 (.string ⟨#[]⟩) rfl))
  go_ret
  exact ⟨ze,bw⟩
 rw [if_pos c2] at H
 obtain ⟨c2b0,c2b1⟩:=zY c2
 clear c2
 by_cases c3:(t295.toList==([45,51]:List UInt8)&&(t296.toList==([50]:List UInt8)))=true
 case neg=>
  rw [if_neg c3] at H
  have c3b0:(t295.toList==([45,51]:List UInt8)&&(t296.toList==([50]:List UInt8)))=false:=by simpa using c3
  (try (have c3b1:decide (t295.toList=([45,51]:List UInt8)&&(t296.toList==([50]:List UInt8)))=false:=by simpa using c3))
  (try (have c3b2:(t295.toList==([45,51]:List UInt8)&&(t296.toList==([50]:List UInt8)))=false:=by simpa using c3))
  (try (have c3b3:¬ (t295.toList=([45,51]:List UInt8)&&(t296.toList==([50]:List UInt8))):=by simpa using c3))
  clear c3
  obtain rfl:=Option.some.inj H
  go_enter func20,ntmps20
  go_wp2_with (first|(refine zg (some 4) func46 #[.int .i64 6,.int .i64 (-4)] ?_;(with_reducible refine (YT.calls k 6 (-4) t295 t296 t297 _ ?side1 A1.out).mono ?_);(case side1=>exact Tryz.Gl.below HG.out bw);rintro e w16 ⟨rfl,hb⟩;refine ⟨_,rfl,?_⟩;replace HB:=sB hb;clear hb)|(refine box_ev 1 #[.string ⟨#[]⟩,.string ⟨#[]⟩] 61 ?_;intro gb298 hg w17 hbox hb;have BK298:=aZ hbox;have GE298:=sG hg;replace HB:=sB hb;clear hb hbox hg;obtain ⟨hcz18_0,hfz18_0⟩:=zc BK298 0 (.string ⟨#[]⟩) rfl;obtain ⟨hcz18_1,hfz18_1⟩:=zc BK298 1 (.string ⟨#[]⟩) rfl))
  go_ret
  exact ⟨ze,bw⟩
 rw [if_pos c3] at H
 have c3b0:(t295.toList==([45,51]:List UInt8)&&(t296.toList==([50]:List UInt8)))=true:=c3
 (try (have c3b1:decide (t295.toList=([45,51]:List UInt8)&&(t296.toList==([50]:List UInt8)))=true:=by simpa using c3))
 (try (have c3b2:(t295.toList==([45,51]:List UInt8)&&(t296.toList==([50]:List UInt8)))=true:=by simpa using c3))
 clear c3
 obtain ⟨t299,A4,H⟩:=zB H
 by_cases c5:t299=0
 case neg=>
  rw [if_neg c5] at H
  obtain ⟨c5b0,c5b1⟩:=zX c5
  obtain rfl:=Option.some.inj H
  go_enter func20,ntmps20
  go_wp2_with (first|(refine zg (some 4) func46 #[.int .i64 6,.int .i64 (-4)] ?_;(with_reducible refine (YT.calls k 6 (-4) t295 t296 t297 _ ?side1 A1.out).mono ?_);(case side1=>exact Tryz.Gl.below HG.out bw);rintro e w12 ⟨rfl,hb⟩;refine ⟨_,rfl,?_⟩;replace HB:=sB hb;clear hb)|(refine box_ev 1 #[.string ⟨#[]⟩,.string ⟨#[]⟩] 61 ?_;intro gb298 hg w13 hbox hb;have BK298:=aZ hbox;have GE298:=sG hg;replace HB:=sB hb;clear hb hbox hg;obtain ⟨hcz14_0,hfz14_0⟩:=zc BK298 0 (.string ⟨#[]⟩) rfl;obtain ⟨hcz14_1,hfz14_1⟩:=zc BK298 1 (.string ⟨#[]⟩) rfl)|(go_at_call 56;(with_reducible refine (Y6.calls k t295 t296 t299 _ A4.out).mono ?_);rintro e w15 ⟨rfl,hb⟩;replace BK298:=sP (.cells #[.string t295,.string t296] 61 (0,0)) BK298 hb;replace HB:=sB hb;clear hb))
  go_ret
  exact ⟨ze,bw⟩
 rw [if_pos c5] at H
 obtain ⟨c5b0,c5b1⟩:=zY c5
 clear c5
 obtain ⟨t300,A6,H⟩:=zB H
 obtain rfl:=Option.some.inj H
 go_enter func20,ntmps20
 go_wp2_with (first|(refine zg (some 4) func46 #[.int .i64 6,.int .i64 (-4)] ?_;(with_reducible refine (YT.calls k 6 (-4) t295 t296 t297 _ ?side1 A1.out).mono ?_);(case side1=>exact Tryz.Gl.below HG.out bw);rintro e w7 ⟨rfl,hb⟩;refine ⟨_,rfl,?_⟩;replace HB:=sB hb;clear hb)|(refine box_ev 1 #[.string ⟨#[]⟩,.string ⟨#[]⟩] 61 ?_;intro gb298 hg w8 hbox hb;have BK298:=aZ hbox;have GE298:=sG hg;replace HB:=sB hb;clear hb hbox hg;obtain ⟨hcz9_0,hfz9_0⟩:=zc BK298 0 (.string ⟨#[]⟩) rfl;obtain ⟨hcz9_1,hfz9_1⟩:=zc BK298 1 (.string ⟨#[]⟩) rfl)|(go_at_call 56;(with_reducible refine (Y6.calls k t295 t296 t299 _ A4.out).mono ?_);rintro e w10 ⟨rfl,hb⟩;replace BK298:=sP (.cells #[.string t295,.string t296] 61 (0,0)) BK298 hb;replace HB:=sB hb;clear hb)|(go_at_call 56;(with_reducible refine (Y6.calls k (⟨#[]⟩:ByteArray) (⟨#[]⟩:ByteArray) t300 _ A6.out).mono ?_);rintro e w11 ⟨rfl,hb⟩;replace BK298:=sK BK298 hb;replace HB:=sB hb;clear hb))
 go_ret
 exact ⟨ze,bw⟩
def Yv.f (a0:Int) (a1:Int):Option (Int):=if a1<1 then (some 0) else (if a1=0 then (none) else (if (Int.tmod a0 a1)<0 then (some (wrap64 ((Int.tmod a0 a1)+a1))) else (some (Int.tmod a0 a1))))
theorem Yv.calls (a0:Int) (a1:Int) (r:Int) (w:World) (h:Yv.f a0 a1=some r) :
  Calls Tryz.prog 91 #[.int .i64 a0,.int .i64 a1] w fun e w'=>e = .returned (.int .i64 r)∧Drawn0 w w':=by
 have H:=h
 unfold Yv.f at H
 clear h
 by_cases c3:a1<1
 case neg=>
  rw [if_neg c3] at H
  have c3b0:=decide_eq_false c3
  clear c3
  by_cases c4:a1=0
  case neg=>
   rw [if_neg c4] at H
   obtain ⟨c4b0,c4b1⟩:=zX c4
   by_cases c5:(Int.tmod a0 a1)<0
   case neg=>
    rw [if_neg c5] at H
    have c5b0:=decide_eq_false c5
    clear c5
    obtain rfl:=Option.some.inj H
    go_enter func91,ntmps91
    go_wp2
    go_ret
    exact ⟨zs,by repeat (first|exact Drawn0.refl _|apply Drawn0.step)⟩
   rw [if_pos c5] at H
   have c5b0:=decide_eq_true c5
   clear c5
   obtain rfl:=Option.some.inj H
   go_enter func91,ntmps91
   go_wp2
   go_ret
   exact ⟨zs,by repeat (first|exact Drawn0.refl _|apply Drawn0.step)⟩
  rw [if_pos c4] at H
  cases H
 rw [if_pos c3] at H
 have c3b0:=decide_eq_true c3
 clear c3
 obtain rfl:=Option.some.inj H
 go_enter func91,ntmps91
 go_wp2
 go_ret
 exact ⟨zs,by repeat (first|exact Drawn0.refl _|apply Drawn0.step)⟩
end Go.Proofs.YtaffkbemjbfajaaGreatDoor.PNumReads
