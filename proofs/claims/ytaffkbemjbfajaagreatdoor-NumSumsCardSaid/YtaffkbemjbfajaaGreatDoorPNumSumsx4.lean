-- By a program of this session: functions as plain Lean functions, each with its proof over the machine.
import Derived.Test.YtaffkbemjbfajaaGreatDoorPNumSumsx0
import Derived.Test.YtaffkbemjbfajaaGreatDoorPNumSumsx2
import Derived.Test.YtaffkbemjbfajaaGreatDoorPNumSumsx3
import Derived.Test.YtaffkbemjbfajaaGreatDoorPNumSumsx1
namespace Go.Proofs.YtaffkbemjbfajaaGreatDoor.PNumSums
open Go.RowKit Go.Proofs.Tryz Go.Proofs.YtaffkbemjbfajaaGreatDoorW.PrintWords Go.Proofs.YtaffkbemjbfajaaGreatDoorW.PrintLast Go.Proofs.YtaffkbemjbfajaaGreatDoorW.PrintMore
attribute [local go_sem] max2_int min2_int max_two min_two max_three min_three max_four min_four
set_option linter.unusedVariables false
set_option linter.unusedSimpArgs false
set_option maxHeartbeats 8000000
set_option maxRecDepth 100000
def weftref1_Of.f (k:Nat) (a0_0:ByteArray) (a0_1:ByteArray):Option (Bool×List Int×List Int):=(strings_CutPrefix.f a0_0 (⟨#[45]⟩:ByteArray)).bind fun bt468=>((weftref1_natRead.f k bt468.1).bind fun t470=>((weftref1_natRead.f k a0_1).bind fun t473=>(some (bt468.2,t470,t473))))
def weftref1_Of.T2:Bool×List (List Nat×List Nat):=(true,[([],[]),([],[]),([1],[1]),([],[]),([3],[3]),([4,2],[4]),([0,2,5],[0,2,5]),([6,5,0,1,2,3,4,5,6],[6])])
def weftref1_Of.B2:List Nat:=[0,0,2,0,8,30,63,127]
theorem weftref1_Of.tab2:rtab .any (opsOf Tryz.f58 2)=weftref1_Of.T2:=by kernel_rfl
theorem weftref1_Of.bits2:waitsOk weftref1_Of.T2.2 weftref1_Of.B2=true:=by kernel_rfl
theorem weftref1_Of.calls (k:Nat) (a0_0:ByteArray) (a0_1:ByteArray) (r1:Bool) (r2:List Int) (r3:List Int) (w:World) (h:weftref1_Of.f k a0_0 a0_1=some (r1,r2,r3)) :
  Calls Tryz.prog 58 #[.agg #[.string a0_0,.string a0_1]] w fun e w'=>∃ v1_ v2_:Value,e = .returned (.agg #[.bool r1,v1_,v2_])∧Kd.V (Kd.int .i64) 3 w' w.heap.size (fun k_=>(w.heap.size≤k_)) v1_ r2∧Kd.V (Kd.int .i64) 3 w' w.heap.size (fun k_=>(w.heap.size≤k_)) v2_ r3∧Below w.heap.size w w':=by
 have hu61:=underlying61
 have hu67:=underlying67
 have HB:=aZ (Below.refl w.heap.size w)
 have H:=h
 unfold weftref1_Of.f at H
 clear h
 obtain ⟨⟨t468,t469⟩,A2,H⟩:=zB H
 (try dsimp only at H)
 obtain ⟨t470,A3,H⟩:=zB H
 obtain ⟨t473,A4,H⟩:=zB H
 simp only [Option.some.injEq,Prod.mk.injEq] at H
 obtain ⟨rfl,rfl,rfl⟩:=H
 go_enter func58,ntmps58
 try go_wp2_with (first|(refine box_ev 1 #[.string a0_0,.string a0_1] 61 ?_;intro gb466 hg w5 hbox hb;have BK466:=aZ hbox;have GE466:=sG hg;replace HB:=sB hb;clear hb hbox hg)|(refine box_ev 2 #[.bool false,.slice none 0 0,.slice none 0 0] 67 ?_;intro gb467 hg w6 hbox hb;have BK467:=aZ hbox;have GE467:=sG hg;replace HB:=sB hb;have NB466_467:=sl hg BK466;have NB467_466:=sg hg BK466;replace BK466:=sK BK466 hb;clear hb hbox hg;have hnb7:=NB466_467.out;have hnc7:=NB467_466.out;obtain ⟨hcz8_0,hfz8_0⟩:=zc BK466 0 (.string a0_0) rfl;obtain ⟨hcz8_1,hfz8_1⟩:=zc BK466 1 (.string a0_1) rfl)|(refine zg (some 8) func102 #[.string a0_0,.string (⟨#[45]⟩:ByteArray)] ?_;(with_reducible refine (strings_CutPrefix.calls a0_0 (⟨#[45]⟩:ByteArray) t468 t469 _ A2.out).mono ?_);rintro e w' ⟨rfl,⟨nd,rfl⟩⟩;refine ⟨_,rfl,?_⟩;(try (rw [drewN_self w6];generalize hq_:World.drewN w6 _=w6;have n0_:Aside0 (w6.heap[gb466]? = some (.cells #[.string a0_0,.string a0_1] 61 (0,0))):=⟨by rw [← hq_];exact (zb BK466)⟩;have n1_:Aside0 (w6.heap[gb467]? = some (.cells #[.bool false,.slice none 0 0,.slice none 0 0] 67 (0,0))):=⟨by rw [← hq_];exact (zb BK467)⟩;have n2_:Aside0 (Below w.heap.size w w6):=⟨by rw [← hq_];exact bw⟩;clear BK466 BK467 HB hq_;have BK466:=n0_;have BK467:=n1_;have HB:=n2_;clear n0_ n1_ n2_))))
 replace BK466:=aZ (blk_drew BK466.out)
 replace BK467:=aZ (blk_drew BK467.out)
 replace HB:=aZ (below_drew1 HB.out)
 refine start_ (n:=8) (S:=fun w'=>w'.cell? ⟨gb466,0,none⟩=some (.string a0_0)∧w'.cell? ⟨gb466,1,none⟩=some (.string a0_1)) (ds:=[]) #[false,false,false,false,false,false,false,false] (by kernel_rfl) rfl rfl ⟨zh BK466 0,zh BK466 1⟩ (fun hHeld=>?_);refine with_tabW weftref1_Of.tab2 weftref1_Of.bits2 (fun HT_ HW_=>?_)
 generalize w6.drew=w9 at BK466 BK467 HB hHeld ⊢
 refine pu 0 (some 11) HT_ ?_
 refine pu 1 (some 12) HT_ ?_
 refine pu 3 (some 14) HT_ ?_
 refine tk 4 (some 15) HT_ HW_ hHeld ?_
 refine one_ (i:=2) (N:=some 13) #[true,true,true,true,true,false,false,false] rfl rfl (one_of HT_.out (by kernel_rfl)) (by decide) (fun K hK=>?_)
 refine goes_ func105 (by kernel_rfl) rfl #[.string t468] (by rfl) rfl rfl zm ?_
 with_reducible refine (weftref1_natRead.calls k t468 t470 _ A3.out).mono ?_
 rintro e w10 ⟨v471,rfl,ho0,hb⟩
 refine ⟨_,rfl,?_⟩
 have HO472:=yL (fun k_=>(w.heap.size≤k_)∧k_≠gb466∧k_≠gb467) ho0 (fun k_ hk_=>⟨(Nat.le_trans bs hk_),(zf BK466 hk_),(zf BK467 hk_)⟩)
 replace BK466:=sK BK466 hb
 replace BK467:=sK BK467 hb
 replace HB:=sB hb
 clear hb ho0
 refine hK.out _ _ ⟨zh BK466 0,zh BK466 1⟩ (fun hHeld=>?_)
 clear hK K
 refine nm ?_
 refine one_ (i:=5) (N:=some 16) #[true,true,true,true,true,true,false,false] rfl rfl (one_of HT_.out (by kernel_rfl)) (by decide) (fun K hK=>?_)
 refine goes_ func105 (by kernel_rfl) rfl #[.string a0_1] (by rfl) rfl rfl zm ?_
 with_reducible refine (weftref1_natRead.calls k a0_1 t473 _ A4.out).mono ?_
 rintro e w11 ⟨v474,rfl,ho0,hb⟩
 refine ⟨_,rfl,?_⟩
 replace HO472:=yV HO472 hb
 have HO475:=yL (fun k_=>(w.heap.size≤k_)∧k_≠gb466∧k_≠gb467) ho0 (fun k_ hk_=>⟨(Nat.le_trans bs hk_),(zf BK466 hk_),(zf BK467 hk_)⟩)
 replace BK466:=sK BK466 hb
 replace BK467:=sK BK467 hb
 replace HB:=sB hb
 clear hb ho0
 obtain ⟨Ao12,co12,eo12⟩:=Kd.V_slice HO475.out
 (first|subst eo12|(injection eo12 with f1_ f2_ f3_;have f4_:=f1_.symm;have f5_:=f3_.symm;clear f1_ f2_ f3_;subst f4_;subst f5_))
 obtain ⟨Ao13,co13,eo13⟩:=Kd.V_slice HO472.out
 (first|subst eo13|(injection eo13 with f1_ f2_ f3_;have f4_:=f1_.symm;have f5_:=f3_.symm;clear f1_ f2_ f3_;subst f4_;subst f5_))
 refine hK.out _ _ ⟨zh BK466 0,zh BK466 1⟩ (fun hHeld=>?_)
 clear hK K
 refine nm ?_
 refine pu 6 (some 17) HT_ ?_
 refine one_ (i:=7) (N:=none) #[true,true,true,true,true,true,true,true] rfl rfl (one_of HT_.out (by kernel_rfl)) (by decide) (fun K hK=>?_)
 have hs14:w11.cell? ⟨gb467,0,none⟩=some (.bool false):=(blk_cell BK467.out 0).trans rfl
 have hfs14:=blk_frozen BK467.out 0
 have hns14_0:=NB466_467.out
 have hms14_0:=NB467_466.out
 have hs15:w11.cell? ⟨gb467,1,none⟩=some (.slice none 0 0):=(blk_cell BK467.out 1).trans rfl
 have hfs15:=blk_frozen BK467.out 1
 have hns15_0:=NB466_467.out
 have hms15_0:=NB467_466.out
 have hs16:w11.cell? ⟨gb467,2,none⟩=some (.slice none 0 0):=(blk_cell BK467.out 2).trans rfl
 have hfs16:=blk_frozen BK467.out 2
 have hns16_0:=NB466_467.out
 have hms16_0:=NB467_466.out
 refine skip_ (w1:=?_) (by rfl) rfl ?_ ?_
 rotate_left
 ·go_simp
  rfl
 refine hK.out _ _ ⟨((cell_far (p:=⟨gb467,_,none⟩) NB466_467.out _).trans (((cell_far (p:=⟨gb467,_,none⟩) NB466_467.out _).trans (((cell_far (p:=⟨gb467,_,none⟩) NB466_467.out _).trans (hHeld.1)))))),((cell_far (p:=⟨gb467,_,none⟩) NB466_467.out _).trans (((cell_far (p:=⟨gb467,_,none⟩) NB466_467.out _).trans (((cell_far (p:=⟨gb467,_,none⟩) NB466_467.out _).trans (hHeld.2))))))⟩ (fun hHeld=>?_)
 clear hK K
 refine done_ (done_of HT_.out (by kernel_rfl)) ?_
 try go_wp2
 refine bodyPost_ret (results_cell_row rfl _ _ gb467 67 #[.bool t469,.slice Ao13 t470.length co13,.slice Ao12 t473.length co12] (0,0) _ rfl (zp BK467) underlying67 rfl (by kernel_rfl)) rfl ?_
 exact ⟨_,_,ze,zF HO472,zF HO475,bw⟩
def frac_Of.f (k:Nat) (a0_0:ByteArray) (a0_1:ByteArray):Option (Bool×List Int×List Int):=(strings_CutPrefix.f a0_0 (⟨#[45]⟩:ByteArray)).bind fun bt478=>((nat_Parse.f k bt478.1).bind fun t480=>((nat_Parse.f k a0_1).bind fun t483=>(some (bt478.2,t480,t483))))
def frac_Of.T2:Bool×List (List Nat×List Nat):=(true,[([],[]),([],[]),([1],[1]),([],[]),([3],[3]),([4,2],[4]),([0,2,5],[0,2,5]),([6,5,0,1,2,3,4,5,6],[6])])
def frac_Of.B2:List Nat:=[0,0,2,0,8,30,63,127]
theorem frac_Of.tab2:rtab .any (opsOf Tryz.f127 2)=frac_Of.T2:=by kernel_rfl
theorem frac_Of.bits2:waitsOk frac_Of.T2.2 frac_Of.B2=true:=by kernel_rfl
theorem frac_Of.calls (k:Nat) (a0_0:ByteArray) (a0_1:ByteArray) (r1:Bool) (r2:List Int) (r3:List Int) (w:World) (h:frac_Of.f k a0_0 a0_1=some (r1,r2,r3)) :
  Calls Tryz.prog 127 #[.agg #[.string a0_0,.string a0_1]] w fun e w'=>∃ v1_ v2_:Value,e = .returned (.agg #[.bool r1,v1_,v2_])∧Kd.V (Kd.int .u32) 97 w' w.heap.size (fun k_=>(w.heap.size≤k_)) v1_ r2∧Kd.V (Kd.int .u32) 97 w' w.heap.size (fun k_=>(w.heap.size≤k_)) v2_ r3∧Below w.heap.size w w':=by
 have hu61:=underlying61
 have hu103:=underlying103
 have HB:=aZ (Below.refl w.heap.size w)
 have H:=h
 unfold frac_Of.f at H
 clear h
 obtain ⟨⟨t478,t479⟩,A2,H⟩:=zB H
 (try dsimp only at H)
 obtain ⟨t480,A3,H⟩:=zB H
 obtain ⟨t483,A4,H⟩:=zB H
 simp only [Option.some.injEq,Prod.mk.injEq] at H
 obtain ⟨rfl,rfl,rfl⟩:=H
 go_enter func127,ntmps127
 try go_wp2_with (first|(refine box_ev 1 #[.string a0_0,.string a0_1] 61 ?_;intro gb476 hg w5 hbox hb;have BK476:=aZ hbox;have GE476:=sG hg;replace HB:=sB hb;clear hb hbox hg)|(refine box_ev 2 #[.bool false,.slice none 0 0,.slice none 0 0] 103 ?_;intro gb477 hg w6 hbox hb;have BK477:=aZ hbox;have GE477:=sG hg;replace HB:=sB hb;have NB476_477:=sl hg BK476;have NB477_476:=sg hg BK476;replace BK476:=sK BK476 hb;clear hb hbox hg;have hnb7:=NB476_477.out;have hnc7:=NB477_476.out;obtain ⟨hcz8_0,hfz8_0⟩:=zc BK476 0 (.string a0_0) rfl;obtain ⟨hcz8_1,hfz8_1⟩:=zc BK476 1 (.string a0_1) rfl)|(refine zg (some 8) func102 #[.string a0_0,.string (⟨#[45]⟩:ByteArray)] ?_;(with_reducible refine (strings_CutPrefix.calls a0_0 (⟨#[45]⟩:ByteArray) t478 t479 _ A2.out).mono ?_);rintro e w' ⟨rfl,⟨nd,rfl⟩⟩;refine ⟨_,rfl,?_⟩;(try (rw [drewN_self w6];generalize hq_:World.drewN w6 _=w6;have n0_:Aside0 (w6.heap[gb476]? = some (.cells #[.string a0_0,.string a0_1] 61 (0,0))):=⟨by rw [← hq_];exact (zb BK476)⟩;have n1_:Aside0 (w6.heap[gb477]? = some (.cells #[.bool false,.slice none 0 0,.slice none 0 0] 103 (0,0))):=⟨by rw [← hq_];exact (zb BK477)⟩;have n2_:Aside0 (Below w.heap.size w w6):=⟨by rw [← hq_];exact bw⟩;clear BK476 BK477 HB hq_;have BK476:=n0_;have BK477:=n1_;have HB:=n2_;clear n0_ n1_ n2_))))
 replace BK476:=aZ (blk_drew BK476.out)
 replace BK477:=aZ (blk_drew BK477.out)
 replace HB:=aZ (below_drew1 HB.out)
 refine start_ (n:=8) (S:=fun w'=>w'.cell? ⟨gb476,0,none⟩=some (.string a0_0)∧w'.cell? ⟨gb476,1,none⟩=some (.string a0_1)) (ds:=[]) #[false,false,false,false,false,false,false,false] (by kernel_rfl) rfl rfl ⟨zh BK476 0,zh BK476 1⟩ (fun hHeld=>?_);refine with_tabW frac_Of.tab2 frac_Of.bits2 (fun HT_ HW_=>?_)
 generalize w6.drew=w9 at BK476 BK477 HB hHeld ⊢
 refine pu 0 (some 11) HT_ ?_
 refine pu 1 (some 12) HT_ ?_
 refine pu 3 (some 14) HT_ ?_
 refine tk 4 (some 15) HT_ HW_ hHeld ?_
 refine one_ (i:=2) (N:=some 13) #[true,true,true,true,true,false,false,false] rfl rfl (one_of HT_.out (by kernel_rfl)) (by decide) (fun K hK=>?_)
 refine goes_ func108 (by kernel_rfl) rfl #[.string t478] (by rfl) rfl rfl zm ?_
 with_reducible refine (nat_Parse.calls k t478 t480 _ A3.out).mono ?_
 rintro e w10 ⟨v481,rfl,ho0,hb⟩
 refine ⟨_,rfl,?_⟩
 have HO482:=yL (fun k_=>(w.heap.size≤k_)∧k_≠gb476∧k_≠gb477) ho0 (fun k_ hk_=>⟨(Nat.le_trans bs hk_),(zf BK476 hk_),(zf BK477 hk_)⟩)
 replace BK476:=sK BK476 hb
 replace BK477:=sK BK477 hb
 replace HB:=sB hb
 clear hb ho0
 refine hK.out _ _ ⟨zh BK476 0,zh BK476 1⟩ (fun hHeld=>?_)
 clear hK K
 refine nm ?_
 refine one_ (i:=5) (N:=some 16) #[true,true,true,true,true,true,false,false] rfl rfl (one_of HT_.out (by kernel_rfl)) (by decide) (fun K hK=>?_)
 refine goes_ func108 (by kernel_rfl) rfl #[.string a0_1] (by rfl) rfl rfl zm ?_
 with_reducible refine (nat_Parse.calls k a0_1 t483 _ A4.out).mono ?_
 rintro e w11 ⟨v484,rfl,ho0,hb⟩
 refine ⟨_,rfl,?_⟩
 replace HO482:=yV HO482 hb
 have HO485:=yL (fun k_=>(w.heap.size≤k_)∧k_≠gb476∧k_≠gb477) ho0 (fun k_ hk_=>⟨(Nat.le_trans bs hk_),(zf BK476 hk_),(zf BK477 hk_)⟩)
 replace BK476:=sK BK476 hb
 replace BK477:=sK BK477 hb
 replace HB:=sB hb
 clear hb ho0
 obtain ⟨Ao12,co12,eo12⟩:=Kd.V_slice HO485.out
 (first|subst eo12|(injection eo12 with f1_ f2_ f3_;have f4_:=f1_.symm;have f5_:=f3_.symm;clear f1_ f2_ f3_;subst f4_;subst f5_))
 obtain ⟨Ao13,co13,eo13⟩:=Kd.V_slice HO482.out
 (first|subst eo13|(injection eo13 with f1_ f2_ f3_;have f4_:=f1_.symm;have f5_:=f3_.symm;clear f1_ f2_ f3_;subst f4_;subst f5_))
 refine hK.out _ _ ⟨zh BK476 0,zh BK476 1⟩ (fun hHeld=>?_)
 clear hK K
 refine nm ?_
 refine pu 6 (some 17) HT_ ?_
 refine one_ (i:=7) (N:=none) #[true,true,true,true,true,true,true,true] rfl rfl (one_of HT_.out (by kernel_rfl)) (by decide) (fun K hK=>?_)
 have hs14:w11.cell? ⟨gb477,0,none⟩=some (.bool false):=(blk_cell BK477.out 0).trans rfl
 have hfs14:=blk_frozen BK477.out 0
 have hns14_0:=NB476_477.out
 have hms14_0:=NB477_476.out
 have hs15:w11.cell? ⟨gb477,1,none⟩=some (.slice none 0 0):=(blk_cell BK477.out 1).trans rfl
 have hfs15:=blk_frozen BK477.out 1
 have hns15_0:=NB476_477.out
 have hms15_0:=NB477_476.out
 have hs16:w11.cell? ⟨gb477,2,none⟩=some (.slice none 0 0):=(blk_cell BK477.out 2).trans rfl
 have hfs16:=blk_frozen BK477.out 2
 have hns16_0:=NB476_477.out
 have hms16_0:=NB477_476.out
 refine skip_ (w1:=?_) (by rfl) rfl ?_ ?_
 rotate_left
 ·go_simp
  rfl
 refine hK.out _ _ ⟨((cell_far (p:=⟨gb477,_,none⟩) NB476_477.out _).trans (((cell_far (p:=⟨gb477,_,none⟩) NB476_477.out _).trans (((cell_far (p:=⟨gb477,_,none⟩) NB476_477.out _).trans (hHeld.1)))))),((cell_far (p:=⟨gb477,_,none⟩) NB476_477.out _).trans (((cell_far (p:=⟨gb477,_,none⟩) NB476_477.out _).trans (((cell_far (p:=⟨gb477,_,none⟩) NB476_477.out _).trans (hHeld.2))))))⟩ (fun hHeld=>?_)
 clear hK K
 refine done_ (done_of HT_.out (by kernel_rfl)) ?_
 try go_wp2
 refine bodyPost_ret (results_cell_row rfl _ _ gb477 103 #[.bool t479,.slice Ao13 t480.length co13,.slice Ao12 t483.length co12] (0,0) _ rfl (zp BK477) underlying103 rfl (by kernel_rfl)) rfl ?_
 exact ⟨_,_,ze,zF HO482,zF HO485,bw⟩
-- NOT PRINTED: function 110 (num_two)
section
def nat_Add_core.l0:Nat→List Int→List Int→Int→List Int→Int→Int→Option (List Int)
 | 0,_,_,_,_,_,_=>none
 | k+1,x1,x5,x6,x20,x21,x22=>if x22<x21 then (if 0≤x22 then (if x22<(x20.length:Int) then (if x22<(x1.length:Int) then (if x5.length<35184372088832 then (nat_Add_core.l0 k x1 (x5++[(((rd x20 x22)+x6+(rd x1 x22))%4294967296)%1000000000]) ((((rd x20 x22)+x6+(rd x1 x22))%4294967296)/1000000000) x20 x21 (wrap64 (x22+1))) else (none)) else (if x5.length<35184372088832 then (nat_Add_core.l0 k x1 (x5++[(((rd x20 x22)+x6)%4294967296)%1000000000]) ((((rd x20 x22)+x6)%4294967296)/1000000000) x20 x21 (wrap64 (x22+1))) else (none))) else (none)) else (none)) else (if x6 > 0 then (if x5.length<35184372088832 then (some (x5++[x6])) else (none)) else (some x5))
def nat_Add_core.f (k:Nat) (l0:List Int) (l1:List Int):Option (List Int):=nat_Add_core.l0 k l1 ([]:List Int) 0 l0 (l0.length:Int) 0
theorem nat_Add_core.calls1 (k:Nat) (A0:Option Addr) (c0:Nat) (l0:List Int) (A1:Option Addr) (c1:Nat) (l1:List Int) (r:List Int) (w:World) (hr0:Kd.C (Kd.int .u32) w A0 l0.length l0) (hc0:l0.length≤c0) (hr1:Kd.C (Kd.int .u32) w A1 l1.length l1) (hc1:l1.length≤c1) (hb0_:l0.length<35184372088832) (hlt_:¬ l0.length<l1.length) (h:nat_Add_core.f k l0 l1=some r) :
  Calls Tryz.prog 152 #[.slice A0 l0.length c0,.slice A1 l1.length c1] w fun e w'=>∃ v0_:Value,e = .returned (v0_)∧Kd.R (Kd.int .u32) 97 w' w.heap.size (fun _=>True) v0_ r∧Below w.heap.size w w':=by
 have HR0:=aZ hr0
 have HC0:=aZ hc0
 clear hr0 hc0
 have HR1:=aZ hr1
 have HC1:=aZ hc1
 clear hr1 hc1
 have HB:=aZ (Below.refl w.heap.size w)
 have H:=h
 unfold nat_Add_core.f at H
 clear h
 have H':=aZ H
 clear H
 have hsw1:decide ((l0.length:Int)<(l1.length:Int))=false:=decide_eq_false (by omega)
 have hsw2:decide (l0.length<l1.length)=false:=decide_eq_false (by omega)
 clear hlt_
 go_enter func152,ntmps152
 go_wp2_with (((with_reducible refine gate_dst (N:=19) rfl ?_);refine R_make0 (Kd.int .u32) (w0:=w) w.heap.size 97 rfl (N:=19) rfl 101 _ _ rfl (l0.length+1) ?hx ?hy underlying101 (.int .u32 0) 4 info97 (by decide) (ok:=fun _=>True) trivial ?hl ?hB ?hS ?_;(case hx=>rfl);(case hy=>rfl);(case hl=>omega);(case hB=>exact bw);(case hS=>exact bs);intro v5_ w5_ HO5_ hb_ _ _;have n0_:=aZ HO5_;have n1_:=aZ hb_;clear HB HO5_ hb_;have HO5_:=n0_;have HB:=n1_;clear n0_ n1_))
 go_loopg [5,6,22] k (fun kq v5 v6 v22 w'=>∃ (x5_1:List Int) (x6_1:Int) (x22_1:Int),v6 = .int .u32 x6_1∧v22 = .int .i64 x22_1∧Aside0 (nat_Add_core.l0 kq l1 x5_1 x6_1 l0 (l0.length:Int) x22_1=some r)∧Aside0 (kq≤k)∧Aside0 (Kd.R (Kd.int .u32) 97 w' w.heap.size (fun _=>True) v5 x5_1)∧Aside0 (Below w.heap.size w w'))
 case atStart=>exact ⟨(([]:List Int)),(0),(0),zs,zs,H',⟨Nat.le_refl _⟩,⟨HO5_.out⟩,⟨bw⟩⟩
 case round =>
  clear HO5_ HB H'
  try clear c1
  obtain ⟨x5_1,x6_1,x22_1,rfl,rfl,HA,HK1,HO_5,HB⟩:=hrel
  cases gk with
  | zero=>exact absurd HA.out (by simp [nat_Add_core.l0])
  | succ k1 =>
   have H:=HA.out
   clear HA
   simp only [nat_Add_core.l0] at H
   by_cases c3:x22_1<(l0.length:Int)
   case neg=>
    rw [if_neg c3] at H
    have c3b0:=decide_eq_false c3
    clear c3
    by_cases c11:x6_1 > 0
    case neg=>
     rw [if_neg c11] at H
     have c11b0:=decide_eq_false c11
     clear c11
     obtain rfl:=Option.some.inj H
     go_wp2
     go_ret
     exact ⟨_,ze,zR HO_5,bw⟩
    rw [if_pos c11] at H
    have c11b0:=decide_eq_true c11
    clear c11
    by_cases c12:x5_1.length<35184372088832
    case neg=>
     rw [if_neg c12] at H
     cases H
    rw [if_pos c12] at H
    have LMc12:=aZ c12
    clear c12
    obtain ⟨y494,hy494⟩:∃ y_:List Int,y_=(x5_1++[x6_1]):=⟨_,rfl⟩
    replace H:(some y494)=some r:=zy hy494 H
    have Ny494:=aZ hy494
    clear hy494
    obtain rfl:=Option.some.inj H
    go_wp2_with (first|((with_reducible refine gate_builtin (b:=.append) (xs:=#[.tmp 50,.tmp 52]) rfl ?_);at_builtin;refine Kd.R_append (Kd.int .u32) (w0:=w) w.heap.size rfl (.tmp 50) (.tmp 52) 101 97 (.int .u32 0) 4 rfl underlying101 info97 rfl (by decide) (by omega) u5 x5_1 x6_1 [.int .u32 x6_1] (fun _=>True) (fun _=>False) rfl rfl ?aP (fun _ hk=>hk.elim) ?aF ?aO ?aB ?aS ?aL ?_;(case aP=>exact rfl);(case aB=>exact bw);(case aF=>exact (fun _ _=>trivial));(case aO=>exact (zR HO_5));(case aS=>exact bs);(case aL=>have:=LMc12.out;omega);intro v495 w13 ho hb hg hat;rw [← Ny494.out] at ho;replace HB:=aZ (hb);have HO496:=aZ (ho);clear HO_5;clear ho hb hg hat))
    go_ret
    exact ⟨_,ze,zR HO496,bw⟩
   rw [if_pos c3] at H
   have c3b0:=decide_eq_true c3
   clear c3
   by_cases c4:0≤x22_1
   case neg=>
    rw [if_neg c4] at H
    cases H
   rw [if_pos c4] at H
   have c4b0:=decide_eq_true c4
   clear c4
   by_cases c5:x22_1<(l0.length:Int)
   case neg=>
    rw [if_neg c5] at H
    cases H
   rw [if_pos c5] at H
   have c5b0:=decide_eq_true c5
   clear c5
   by_cases c6:x22_1<(l1.length:Int)
   case neg=>
    rw [if_neg c6] at H
    have c6b0:=decide_eq_false c6
    clear c6
    by_cases c9:x5_1.length<35184372088832
    case neg=>
     rw [if_neg c9] at H
     cases H
    rw [if_pos c9] at H
    have LMc9:=aZ c9
    clear c9
    obtain ⟨y491,hy491⟩:∃ y_:List Int,y_=(x5_1++[(((rd l0 x22_1)+x6_1)%4294967296)%1000000000]):=⟨_,rfl⟩
    replace H:(nat_Add_core.l0 k1 l1 y491 ((((rd l0 x22_1)+x6_1)%4294967296)/1000000000) l0 (l0.length:Int) (wrap64 (x22_1+1)))=some r:=zy hy491 H
    have Ny491:=aZ hy491
    clear hy491
    have H':=aZ H
    clear H
    have p486:0≤(x22_1:Int):=zd
    have q486:x22_1<(l0.length:Int):=zd
    obtain ⟨ad486,e486,hx486_0⟩:=Kd.at_int HR0.out x22_1 p486 q486
    cases e486
    replace hx486_0:=(HB.out.cell (World.block_lt_of_cell? w _ hx486_0)).trans hx486_0
    replace p486:=eq_true p486
    replace q486:=eq_true q486
    go_wp2_with (first|((with_reducible refine gate_builtin (b:=.append) (xs:=#[.tmp 42,.tmp 45]) rfl ?_);at_builtin;refine Kd.R_append (Kd.int .u32) (w0:=w) w.heap.size rfl (.tmp 42) (.tmp 45) 101 97 (.int .u32 0) 4 rfl underlying101 info97 rfl (by decide) (by omega) u5 x5_1 ((((rd l0 x22_1)+x6_1)%4294967296)%1000000000) [.int .u32 ((((rd l0 x22_1)+x6_1)%4294967296)%1000000000)] (fun _=>True) (fun _=>False) rfl rfl ?aP (fun _ hk=>hk.elim) ?aF ?aO ?aB ?aS ?aL ?_;(case aP=>exact rfl);(case aB=>exact bw);(case aF=>exact (fun _ _=>trivial));(case aO=>exact (zR HO_5));(case aS=>exact bs);(case aL=>have:=LMc9.out;omega);intro v492 w10 ho hb hg hat;rw [← Ny491.out] at ho;replace HB:=aZ (hb);have HO493:=aZ (ho);clear HO_5;clear ho hb hg hat))
    go_roundg k1
    case measure=>have:=HK1.out;omega
    case rel=>exact ⟨(y491),((((rd l0 x22_1)+x6_1)%4294967296)/1000000000),(wrap64 (x22_1+1)),zs,zs,H',⟨by have:=HK1.out;omega⟩,⟨zR HO493⟩,⟨bw⟩⟩
   rw [if_pos c6] at H
   have c6b0:=decide_eq_true c6
   clear c6
   by_cases c7:x5_1.length<35184372088832
   case neg=>
    rw [if_neg c7] at H
    cases H
   rw [if_pos c7] at H
   have LMc7:=aZ c7
   clear c7
   obtain ⟨y488,hy488⟩:∃ y_:List Int,y_=(x5_1++[(((rd l0 x22_1)+x6_1+(rd l1 x22_1))%4294967296)%1000000000]):=⟨_,rfl⟩
   replace H:(nat_Add_core.l0 k1 l1 y488 ((((rd l0 x22_1)+x6_1+(rd l1 x22_1))%4294967296)/1000000000) l0 (l0.length:Int) (wrap64 (x22_1+1)))=some r:=zy hy488 H
   have Ny488:=aZ hy488
   clear hy488
   have H':=aZ H
   clear H
   have p486:0≤(x22_1:Int):=zd
   have q486:x22_1<(l0.length:Int):=zd
   obtain ⟨ad486,e486,hx486_0⟩:=Kd.at_int HR0.out x22_1 p486 q486
   cases e486
   replace hx486_0:=(HB.out.cell (World.block_lt_of_cell? w _ hx486_0)).trans hx486_0
   replace p486:=eq_true p486
   replace q486:=eq_true q486
   have p487:0≤(x22_1:Int):=zd
   have q487:x22_1<(l1.length:Int):=zd
   obtain ⟨ad487,e487,hx487_0⟩:=Kd.at_int HR1.out x22_1 p487 q487
   cases e487
   replace hx487_0:=(HB.out.cell (World.block_lt_of_cell? w _ hx487_0)).trans hx487_0
   replace p487:=eq_true p487
   replace q487:=eq_true q487
   go_wp2_with (first|((with_reducible refine gate_builtin (b:=.append) (xs:=#[.tmp 42,.tmp 45]) rfl ?_);at_builtin;refine Kd.R_append (Kd.int .u32) (w0:=w) w.heap.size rfl (.tmp 42) (.tmp 45) 101 97 (.int .u32 0) 4 rfl underlying101 info97 rfl (by decide) (by omega) u5 x5_1 ((((rd l0 x22_1)+x6_1+(rd l1 x22_1))%4294967296)%1000000000) [.int .u32 ((((rd l0 x22_1)+x6_1+(rd l1 x22_1))%4294967296)%1000000000)] (fun _=>True) (fun _=>False) rfl rfl ?aP (fun _ hk=>hk.elim) ?aF ?aO ?aB ?aS ?aL ?_;(case aP=>exact rfl);(case aB=>exact bw);(case aF=>exact (fun _ _=>trivial));(case aO=>exact (zR HO_5));(case aS=>exact bs);(case aL=>have:=LMc7.out;omega);intro v489 w8 ho hb hg hat;rw [← Ny488.out] at ho;replace HB:=aZ (hb);have HO490:=aZ (ho);clear HO_5;clear ho hb hg hat))
   go_roundg k1
   case measure=>have:=HK1.out;omega
   case rel=>exact ⟨(y488),((((rd l0 x22_1)+x6_1+(rd l1 x22_1))%4294967296)/1000000000),(wrap64 (x22_1+1)),zs,zs,H',⟨by have:=HK1.out;omega⟩,⟨zR HO490⟩,⟨bw⟩⟩
theorem nat_Add_core.calls2 (k:Nat) (A0:Option Addr) (c0:Nat) (l0:List Int) (A1:Option Addr) (c1:Nat) (l1:List Int) (r:List Int) (w:World) (hr0:Kd.C (Kd.int .u32) w A0 l0.length l0) (hc0:l0.length≤c0) (hr1:Kd.C (Kd.int .u32) w A1 l1.length l1) (hc1:l1.length≤c1) (hb0_:l0.length<35184372088832) (hlt_:l1.length<l0.length) (h:nat_Add_core.f k l0 l1=some r) :
  Calls Tryz.prog 152 #[.slice A1 l1.length c1,.slice A0 l0.length c0] w fun e w'=>∃ v0_:Value,e = .returned (v0_)∧Kd.R (Kd.int .u32) 97 w' w.heap.size (fun _=>True) v0_ r∧Below w.heap.size w w':=by
 have HR0:=aZ hr0
 have HC0:=aZ hc0
 clear hr0 hc0
 have HR1:=aZ hr1
 have HC1:=aZ hc1
 clear hr1 hc1
 have HB:=aZ (Below.refl w.heap.size w)
 have H:=h
 unfold nat_Add_core.f at H
 clear h
 have H':=aZ H
 clear H
 have hsw1:decide ((l1.length:Int)<(l0.length:Int))=true:=decide_eq_true (by omega)
 have hsw2:decide (l1.length<l0.length)=true:=decide_eq_true (by omega)
 clear hlt_
 go_enter func152,ntmps152
 go_wp2_with (((with_reducible refine gate_dst (N:=19) rfl ?_);refine R_make0 (Kd.int .u32) (w0:=w) w.heap.size 97 rfl (N:=19) rfl 101 _ _ rfl (l0.length+1) ?hx ?hy underlying101 (.int .u32 0) 4 info97 (by decide) (ok:=fun _=>True) trivial ?hl ?hB ?hS ?_;(case hx=>rfl);(case hy=>rfl);(case hl=>omega);(case hB=>exact bw);(case hS=>exact bs);intro v5_ w5_ HO5_ hb_ _ _;have n0_:=aZ HO5_;have n1_:=aZ hb_;clear HB HO5_ hb_;have HO5_:=n0_;have HB:=n1_;clear n0_ n1_))
 go_loopg [5,6,22] k (fun kq v5 v6 v22 w'=>∃ (x5_1:List Int) (x6_1:Int) (x22_1:Int),v6 = .int .u32 x6_1∧v22 = .int .i64 x22_1∧Aside0 (nat_Add_core.l0 kq l1 x5_1 x6_1 l0 (l0.length:Int) x22_1=some r)∧Aside0 (kq≤k)∧Aside0 (Kd.R (Kd.int .u32) 97 w' w.heap.size (fun _=>True) v5 x5_1)∧Aside0 (Below w.heap.size w w'))
 case atStart=>exact ⟨(([]:List Int)),(0),(0),zs,zs,H',⟨Nat.le_refl _⟩,⟨HO5_.out⟩,⟨bw⟩⟩
 case round =>
  clear HO5_ HB H'
  try clear c1
  obtain ⟨x5_1,x6_1,x22_1,rfl,rfl,HA,HK1,HO_5,HB⟩:=hrel
  cases gk with
  | zero=>exact absurd HA.out (by simp [nat_Add_core.l0])
  | succ k1 =>
   have H:=HA.out
   clear HA
   simp only [nat_Add_core.l0] at H
   by_cases c3:x22_1<(l0.length:Int)
   case neg=>
    rw [if_neg c3] at H
    have c3b0:=decide_eq_false c3
    clear c3
    by_cases c11:x6_1 > 0
    case neg=>
     rw [if_neg c11] at H
     have c11b0:=decide_eq_false c11
     clear c11
     obtain rfl:=Option.some.inj H
     go_wp2
     go_ret
     exact ⟨_,ze,zR HO_5,bw⟩
    rw [if_pos c11] at H
    have c11b0:=decide_eq_true c11
    clear c11
    by_cases c12:x5_1.length<35184372088832
    case neg=>
     rw [if_neg c12] at H
     cases H
    rw [if_pos c12] at H
    have LMc12:=aZ c12
    clear c12
    obtain ⟨y494,hy494⟩:∃ y_:List Int,y_=(x5_1++[x6_1]):=⟨_,rfl⟩
    replace H:(some y494)=some r:=zy hy494 H
    have Ny494:=aZ hy494
    clear hy494
    obtain rfl:=Option.some.inj H
    go_wp2_with (first|((with_reducible refine gate_builtin (b:=.append) (xs:=#[.tmp 50,.tmp 52]) rfl ?_);at_builtin;refine Kd.R_append (Kd.int .u32) (w0:=w) w.heap.size rfl (.tmp 50) (.tmp 52) 101 97 (.int .u32 0) 4 rfl underlying101 info97 rfl (by decide) (by omega) u5 x5_1 x6_1 [.int .u32 x6_1] (fun _=>True) (fun _=>False) rfl rfl ?aP (fun _ hk=>hk.elim) ?aF ?aO ?aB ?aS ?aL ?_;(case aP=>exact rfl);(case aB=>exact bw);(case aF=>exact (fun _ _=>trivial));(case aO=>exact (zR HO_5));(case aS=>exact bs);(case aL=>have:=LMc12.out;omega);intro v495 w13 ho hb hg hat;rw [← Ny494.out] at ho;replace HB:=aZ (hb);have HO496:=aZ (ho);clear HO_5;clear ho hb hg hat))
    go_ret
    exact ⟨_,ze,zR HO496,bw⟩
   rw [if_pos c3] at H
   have c3b0:=decide_eq_true c3
   clear c3
   by_cases c4:0≤x22_1
   case neg=>
    rw [if_neg c4] at H
    cases H
   rw [if_pos c4] at H
   have c4b0:=decide_eq_true c4
   clear c4
   by_cases c5:x22_1<(l0.length:Int)
   case neg=>
    rw [if_neg c5] at H
    cases H
   rw [if_pos c5] at H
   have c5b0:=decide_eq_true c5
   clear c5
   by_cases c6:x22_1<(l1.length:Int)
   case neg=>
    rw [if_neg c6] at H
    have c6b0:=decide_eq_false c6
    clear c6
    by_cases c9:x5_1.length<35184372088832
    case neg=>
     rw [if_neg c9] at H
     cases H
    rw [if_pos c9] at H
    have LMc9:=aZ c9
    clear c9
    obtain ⟨y491,hy491⟩:∃ y_:List Int,y_=(x5_1++[(((rd l0 x22_1)+x6_1)%4294967296)%1000000000]):=⟨_,rfl⟩
    replace H:(nat_Add_core.l0 k1 l1 y491 ((((rd l0 x22_1)+x6_1)%4294967296)/1000000000) l0 (l0.length:Int) (wrap64 (x22_1+1)))=some r:=zy hy491 H
    have Ny491:=aZ hy491
    clear hy491
    have H':=aZ H
    clear H
    have p486:0≤(x22_1:Int):=zd
    have q486:x22_1<(l0.length:Int):=zd
    obtain ⟨ad486,e486,hx486_0⟩:=Kd.at_int HR0.out x22_1 p486 q486
    cases e486
    replace hx486_0:=(HB.out.cell (World.block_lt_of_cell? w _ hx486_0)).trans hx486_0
    replace p486:=eq_true p486
    replace q486:=eq_true q486
    go_wp2_with (first|((with_reducible refine gate_builtin (b:=.append) (xs:=#[.tmp 42,.tmp 45]) rfl ?_);at_builtin;refine Kd.R_append (Kd.int .u32) (w0:=w) w.heap.size rfl (.tmp 42) (.tmp 45) 101 97 (.int .u32 0) 4 rfl underlying101 info97 rfl (by decide) (by omega) u5 x5_1 ((((rd l0 x22_1)+x6_1)%4294967296)%1000000000) [.int .u32 ((((rd l0 x22_1)+x6_1)%4294967296)%1000000000)] (fun _=>True) (fun _=>False) rfl rfl ?aP (fun _ hk=>hk.elim) ?aF ?aO ?aB ?aS ?aL ?_;(case aP=>exact rfl);(case aB=>exact bw);(case aF=>exact (fun _ _=>trivial));(case aO=>exact (zR HO_5));(case aS=>exact bs);(case aL=>have:=LMc9.out;omega);intro v492 w10 ho hb hg hat;rw [← Ny491.out] at ho;replace HB:=aZ (hb);have HO493:=aZ (ho);clear HO_5;clear ho hb hg hat))
    go_roundg k1
    case measure=>have:=HK1.out;omega
    case rel=>exact ⟨(y491),((((rd l0 x22_1)+x6_1)%4294967296)/1000000000),(wrap64 (x22_1+1)),zs,zs,H',⟨by have:=HK1.out;omega⟩,⟨zR HO493⟩,⟨bw⟩⟩
   rw [if_pos c6] at H
   have c6b0:=decide_eq_true c6
   clear c6
   by_cases c7:x5_1.length<35184372088832
   case neg=>
    rw [if_neg c7] at H
    cases H
   rw [if_pos c7] at H
   have LMc7:=aZ c7
   clear c7
   obtain ⟨y488,hy488⟩:∃ y_:List Int,y_=(x5_1++[(((rd l0 x22_1)+x6_1+(rd l1 x22_1))%4294967296)%1000000000]):=⟨_,rfl⟩
   replace H:(nat_Add_core.l0 k1 l1 y488 ((((rd l0 x22_1)+x6_1+(rd l1 x22_1))%4294967296)/1000000000) l0 (l0.length:Int) (wrap64 (x22_1+1)))=some r:=zy hy488 H
   have Ny488:=aZ hy488
   clear hy488
   have H':=aZ H
   clear H
   have p486:0≤(x22_1:Int):=zd
   have q486:x22_1<(l0.length:Int):=zd
   obtain ⟨ad486,e486,hx486_0⟩:=Kd.at_int HR0.out x22_1 p486 q486
   cases e486
   replace hx486_0:=(HB.out.cell (World.block_lt_of_cell? w _ hx486_0)).trans hx486_0
   replace p486:=eq_true p486
   replace q486:=eq_true q486
   have p487:0≤(x22_1:Int):=zd
   have q487:x22_1<(l1.length:Int):=zd
   obtain ⟨ad487,e487,hx487_0⟩:=Kd.at_int HR1.out x22_1 p487 q487
   cases e487
   replace hx487_0:=(HB.out.cell (World.block_lt_of_cell? w _ hx487_0)).trans hx487_0
   replace p487:=eq_true p487
   replace q487:=eq_true q487
   go_wp2_with (first|((with_reducible refine gate_builtin (b:=.append) (xs:=#[.tmp 42,.tmp 45]) rfl ?_);at_builtin;refine Kd.R_append (Kd.int .u32) (w0:=w) w.heap.size rfl (.tmp 42) (.tmp 45) 101 97 (.int .u32 0) 4 rfl underlying101 info97 rfl (by decide) (by omega) u5 x5_1 ((((rd l0 x22_1)+x6_1+(rd l1 x22_1))%4294967296)%1000000000) [.int .u32 ((((rd l0 x22_1)+x6_1+(rd l1 x22_1))%4294967296)%1000000000)] (fun _=>True) (fun _=>False) rfl rfl ?aP (fun _ hk=>hk.elim) ?aF ?aO ?aB ?aS ?aL ?_;(case aP=>exact rfl);(case aB=>exact bw);(case aF=>exact (fun _ _=>trivial));(case aO=>exact (zR HO_5));(case aS=>exact bs);(case aL=>have:=LMc7.out;omega);intro v489 w8 ho hb hg hat;rw [← Ny488.out] at ho;replace HB:=aZ (hb);have HO490:=aZ (ho);clear HO_5;clear ho hb hg hat))
   go_roundg k1
   case measure=>have:=HK1.out;omega
   case rel=>exact ⟨(y488),((((rd l0 x22_1)+x6_1+(rd l1 x22_1))%4294967296)/1000000000),(wrap64 (x22_1+1)),zs,zs,H',⟨by have:=HK1.out;omega⟩,⟨zR HO490⟩,⟨bw⟩⟩
def nat_Add.f (k:Nat) (l0:List Int) (l1:List Int):Option (List Int):=if l0.length<35184372088832∧l1.length<35184372088832 then (if l0.length<l1.length then nat_Add_core.f k l1 l0 else nat_Add_core.f k l0 l1) else none
theorem nat_Add.calls (k:Nat) (A0:Option Addr) (c0:Nat) (l0:List Int) (A1:Option Addr) (c1:Nat) (l1:List Int) (r:List Int) (w:World) (hr0:Kd.C (Kd.int .u32) w A0 l0.length l0) (hc0:l0.length≤c0) (hr1:Kd.C (Kd.int .u32) w A1 l1.length l1) (hc1:l1.length≤c1) (h:nat_Add.f k l0 l1=some r) :
  Calls Tryz.prog 152 #[.slice A0 l0.length c0,.slice A1 l1.length c1] w fun e w'=>∃ v0_:Value,e = .returned (v0_)∧Kd.R (Kd.int .u32) 97 w' w.heap.size (fun _=>True) v0_ r∧Below w.heap.size w w':=by
 unfold nat_Add.f at h
 by_cases hb:l0.length<35184372088832∧l1.length<35184372088832
 case neg=>rw [if_neg hb] at h;cases h
 rw [if_pos hb] at h
 by_cases hs:l0.length<l1.length
 case neg=>
  rw [if_neg hs] at h
  exact nat_Add_core.calls1 k A0 c0 l0 A1 c1 l1 r w hr0 hc0 hr1 hc1 hb.1 hs h
 rw [if_pos hs] at h
 exact nat_Add_core.calls2 k A1 c1 l1 A0 c0 l0 r w hr1 hc1 hr0 hc0 hb.2 hs h
end
def nat_Sub.l0:Nat→List Int→List Int→Int→List Int→Int→Int→Option (List Int)
 | 0,_,_,_,_,_,_=>none
 | k+1,x1,x5,x6,x13,x14,x15=>if x15<x14 then (if 0≤x15 then (if x15<(x13.length:Int) then (if x15<(x1.length:Int) then (if (rd x13 x15)<((x6+(rd x1 x15))%4294967296) then (if x15<(x5.length:Int) then (nat_Sub.l0 k x1 (x5.set (x15:Int).toNat (((((rd x13 x15)+1000000000)%4294967296)-((x6+(rd x1 x15))%4294967296))%4294967296)) 1 x13 x14 (wrap64 (x15+1))) else (none)) else (if x15<(x5.length:Int) then (nat_Sub.l0 k x1 (x5.set (x15:Int).toNat (((rd x13 x15)-((x6+(rd x1 x15))%4294967296))%4294967296)) 0 x13 x14 (wrap64 (x15+1))) else (none))) else (if (rd x13 x15)<x6 then (if x15<(x5.length:Int) then (nat_Sub.l0 k x1 (x5.set (x15:Int).toNat (((((rd x13 x15)+1000000000)%4294967296)-x6)%4294967296)) 1 x13 x14 (wrap64 (x15+1))) else (none)) else (if x15<(x5.length:Int) then (nat_Sub.l0 k x1 (x5.set (x15:Int).toNat (((rd x13 x15)-x6)%4294967296)) 0 x13 x14 (wrap64 (x15+1))) else (none)))) else (none)) else (none)) else ((nat_trim.f k x5).bind fun t489=>(some t489))
def nat_Sub.f (k:Nat) (l0:List Int) (l1:List Int):Option (List Int):=if 0≤(l0.length:Int) then (if ((l0.length:Int):Int).toNat≤70368744177664 then (nat_Sub.l0 k l1 (List.replicate ((l0.length:Int):Int).toNat 0) 0 l0 (l0.length:Int) 0) else (none)) else (none)
theorem nat_Sub.calls (k:Nat) (A0:Option Addr) (c0:Nat) (l0:List Int) (A1:Option Addr) (c1:Nat) (l1:List Int) (r:List Int) (w:World) (hr0:Kd.C (Kd.int .u32) w A0 l0.length l0) (hc0:l0.length≤c0) (hr1:Kd.C (Kd.int .u32) w A1 l1.length l1) (hc1:l1.length≤c1) (h:nat_Sub.f k l0 l1=some r) :
  Calls Tryz.prog 154 #[.slice A0 l0.length c0,.slice A1 l1.length c1] w fun e w'=>∃ v0_:Value,e = .returned (v0_)∧Kd.V (Kd.int .u32) 97 w' w.heap.size (fun k_=>(w.heap.size≤k_)) v0_ r∧Below w.heap.size w w':=by
 have HR0:=aZ hr0
 have HC0:=aZ hc0
 clear hr0 hc0
 have HR1:=aZ hr1
 have HC1:=aZ hc1
 clear hr1 hc1
 have HB:=aZ (Below.refl w.heap.size w)
 have H:=h
 unfold nat_Sub.f at H
 clear h
 by_cases c3:0≤(l0.length:Int)
 case neg=>
  rw [if_neg c3] at H
  cases H
 rw [if_pos c3] at H
 have c3b0:=eq_true c3
 have c3b1:=decide_eq_true c3
 clear c3
 by_cases c4:((l0.length:Int):Int).toNat≤70368744177664
 case neg=>
  rw [if_neg c4] at H
  cases H
 rw [if_pos c4] at H
 have c4b0:=eq_true c4
 have c4b1:=decide_eq_true c4
 clear c4
 obtain ⟨y486,hy486⟩:∃ y_:List Int,y_=(List.replicate ((l0.length:Int):Int).toNat 0):=⟨_,rfl⟩
 replace H:(nat_Sub.l0 k l1 y486 0 l0 (l0.length:Int) 0)=some r:=zy hy486 H
 have Ny486:=aZ hy486
 clear hy486
 have H':=aZ H
 clear H
 go_enter func154,ntmps154
 go_wp2_with (first|((with_reducible refine gate_dst (N:=12) rfl ?_);refine Kd.R_make (Kd.int .u32) _ 97 rfl (N:=12) rfl 101 _ _ rfl (l0.length:Int) rfl rfl underlying101 (.int .u32 0) 4 info97 rfl (by decide) (by omega) 0 (ok:=fun _=>True) (okp:=fun _=>True) rfl (fun _ hk=>hk) trivial (zd) (Nat.le_trans (Nat.mul_le_mul_right _ (zd:(l0.length:Int).toNat≤70368744177664)) (by omega)) (Below.refl _ _) (Nat.le_refl _) ?_;intro v487 w5 ho6 hb hg_ hnew_;clear hg_ hnew_;(first|rw [← Ny486.out] at ho6|(simp only [Int.reduceToNat] at ho6;rw [← Ny486.out] at ho6));have HO488:=aZ (Kd.R_lower (Kd.R_newM (M:=fun k_=>(w.heap.size≤k_)) ho6 bs (fun k_ h_=>h_)) bs);replace HB:=sB hb;clear hb ho6))
 go_loopg [6,15] k (fun kq v6 v15 w'=>∃ (x5_1:List Int) (x6_1:Int) (x15_1:Int),v6 = .int .u32 x6_1∧v15 = .int .i64 x15_1∧Aside0 (nat_Sub.l0 kq l1 x5_1 x6_1 l0 (l0.length:Int) x15_1=some r)∧Aside0 (kq≤k)∧Aside0 (Kd.R (Kd.int .u32) 97 w' w.heap.size (fun k_=>(w.heap.size≤k_)) v487 x5_1)∧Aside0 (Below w.heap.size w w'))
 case atStart=>exact ⟨(y486),(0),(0),zs,zs,H',⟨Nat.le_refl _⟩,⟨by (with_reducible repeat (first|apply Kd.R_alloc|apply Kd.R_drewN|apply Kd.R_drew));exact Kd.R_mono HO488.out (fun _ hk=>hk.1)⟩,⟨bw⟩⟩
 case round =>
  clear H'
  try clear c1
  try clear c3
  try clear c3b0
  try clear c3b1
  try clear c4
  try clear c4b0
  try clear c4b1
  obtain ⟨x5_1,x6_1,x15_1,rfl,rfl,HA,HK1,HO_5,HB⟩:=hrel
  cases gk with
  | zero=>exact absurd HA.out (by simp [nat_Sub.l0])
  | succ k1 =>
   have H:=HA.out
   clear HA
   simp only [nat_Sub.l0] at H
   by_cases c7:x15_1<(l0.length:Int)
   case neg=>
    rw [if_neg c7] at H
    have c7b0:=decide_eq_false c7
    clear c7
    obtain ⟨t489,A29,H⟩:=zB H
    obtain rfl:=Option.some.inj H
    obtain ⟨Ao30,co30,rfl⟩:=Kd.R_slice HO_5.out
    go_wp2_with (first|(refine zg (some 44) func147 #[.slice Ao30 x5_1.length co30] ?_;(with_reducible refine (nat_trim.calls k1 (fun k_=>some k_=(.slice Ao30 x5_1.length co30:Value).ownBlock) _ _ x5_1 t489 _ ?side1 A29.out).mono ?_);(case side1=>exact Kd.R_V (Kd.R_tight rfl (HO_5.out)));rintro e w31 ⟨v490,rfl,ho0,hb⟩;refine ⟨_,rfl,?_⟩;have HO491:=yL (fun k_=>(w.heap.size≤k_)) ho0 (fun k_ hk_=>Or.elim hk_ (fun hs_=>((HO_5.out).1 k_ hs_.symm)) (fun hn_=>(Nat.le_trans bs hn_)));replace HO_5:=yR HO_5 hb;replace HB:=sB hb;clear hb ho0))
    go_ret
    exact ⟨_,ze,zV HO491,bw⟩
   rw [if_pos c7] at H
   have c7b0:=decide_eq_true c7
   clear c7
   by_cases c8:0≤x15_1
   case neg=>
    rw [if_neg c8] at H
    cases H
   rw [if_pos c8] at H
   have c8b0:=decide_eq_true c8
   clear c8
   by_cases c9:x15_1<(l0.length:Int)
   case neg=>
    rw [if_neg c9] at H
    cases H
   rw [if_pos c9] at H
   have c9b0:=decide_eq_true c9
   clear c9
   by_cases c10:x15_1<(l1.length:Int)
   case neg=>
    rw [if_neg c10] at H
    have c10b0:=decide_eq_false c10
    clear c10
    by_cases c20:(rd l0 x15_1)<x6_1
    case neg=>
     rw [if_neg c20] at H
     have c20b0:=decide_eq_false c20
     clear c20
     by_cases c25:x15_1<(x5_1.length:Int)
     case neg=>
      rw [if_neg c25] at H
      cases H
     rw [if_pos c25] at H
     have c25b0:=decide_eq_true c25
     clear c25
     obtain ⟨y497,hy497⟩:∃ y_:List Int,y_=(x5_1.set (x15_1:Int).toNat (((rd l0 x15_1)-x6_1)%4294967296)):=⟨_,rfl⟩
     replace H:(nat_Sub.l0 k1 l1 y497 0 l0 (l0.length:Int) (wrap64 (x15_1+1)))=some r:=zy hy497 H
     have Ny497:=aZ hy497
     clear hy497
     have H':=aZ H
     clear H
     have p492:0≤(x15_1:Int):=zd
     have q492:x15_1<(l0.length:Int):=zd
     obtain ⟨ad492,e492,hx492_0⟩:=Kd.at_int HR0.out x15_1 p492 q492
     cases e492
     replace hx492_0:=(HB.out.cell (World.block_lt_of_cell? w _ hx492_0)).trans hx492_0
     replace p492:=eq_true p492
     replace q492:=eq_true q492
     have p26:0≤(x15_1:Int):=zd
     have q26:(x15_1:Int)<((x5_1.length:Int):Int):=zd
     obtain ⟨go26,co26,eo26,gb26,gl26,cl26,HG26⟩:=Kd.R_form HO_5.out (by omega)
     (first|cases eo26|(injection eo26 with ea_ en_ ec_;(first|subst ea_|(injection ea_ with ea_;subst ea_));subst ec_;clear en_))
     have GB26:=aZ gb26
     have GG26:=aZ HG26
     clear gb26 gl26 HG26
     obtain ⟨hx26_0,hf26_0⟩:=Kd.R_celln 0 HO_5.out (x15_1:Int) p26 q26
     replace p26:=eq_true p26
     replace q26:=eq_true q26
     have HP27:=Kd.R_putg HO_5.out (x15_1:Int) (((rd l0 x15_1)-x6_1)%4294967296)
     go_wp2_with (first|((with_reducible refine gate_store (t:=97) (p:=41) rfl ?_);refine store_event (t:=97) (p:=41) (v:=?vo_w28) (w1:=(wr.setCell ⟨go26,(x15_1:Int).toNat,none⟩ (.int .u32 (((rd l0 x15_1)-x6_1)%4294967296)))) ?hg ?ho ?hn ?hr ?_;(case ho=>rfl);(case hg=>rfl);(case hn=>rfl);(case hr=>first|(go_simp;done)|(go_simp;rfl));intro w28 hw;have hg:wr.grownBy w28 (some go26):=(by rw [hw];exact HP27.2);have hp_:Kd.R (Kd.int .u32) 97 w28 w.heap.size (fun k_=>(w.heap.size≤k_)) (.slice (some ⟨go26,0,none⟩) x5_1.length co26) y497:=(by rw [hw,Ny497.out];exact HP27.1);clear HP27;replace HO_5:=aZ (hp_);replace HB:=aZ ((by rw [hw];exact below_set (HB.out) GB26.out:Below w.heap.size w w28));clear hg hw hp_))
     go_roundg k1
     case measure=>have:=HK1.out;omega
     case rel=>exact ⟨(y497),(0),(wrap64 (x15_1+1)),zs,zs,H',⟨by have:=HK1.out;omega⟩,⟨zR HO_5⟩,⟨bw⟩⟩
    rw [if_pos c20] at H
    have c20b0:=decide_eq_true c20
    clear c20
    by_cases c21:x15_1<(x5_1.length:Int)
    case neg=>
     rw [if_neg c21] at H
     cases H
    rw [if_pos c21] at H
    have c21b0:=decide_eq_true c21
    clear c21
    obtain ⟨y496,hy496⟩:∃ y_:List Int,y_=(x5_1.set (x15_1:Int).toNat (((((rd l0 x15_1)+1000000000)%4294967296)-x6_1)%4294967296)):=⟨_,rfl⟩
    replace H:(nat_Sub.l0 k1 l1 y496 1 l0 (l0.length:Int) (wrap64 (x15_1+1)))=some r:=zy hy496 H
    have Ny496:=aZ hy496
    clear hy496
    have H':=aZ H
    clear H
    have p492:0≤(x15_1:Int):=zd
    have q492:x15_1<(l0.length:Int):=zd
    obtain ⟨ad492,e492,hx492_0⟩:=Kd.at_int HR0.out x15_1 p492 q492
    cases e492
    replace hx492_0:=(HB.out.cell (World.block_lt_of_cell? w _ hx492_0)).trans hx492_0
    replace p492:=eq_true p492
    replace q492:=eq_true q492
    have p22:0≤(x15_1:Int):=zd
    have q22:(x15_1:Int)<((x5_1.length:Int):Int):=zd
    obtain ⟨go22,co22,eo22,gb22,gl22,cl22,HG22⟩:=Kd.R_form HO_5.out (by omega)
    (first|cases eo22|(injection eo22 with ea_ en_ ec_;(first|subst ea_|(injection ea_ with ea_;subst ea_));subst ec_;clear en_))
    have GB22:=aZ gb22
    have GG22:=aZ HG22
    clear gb22 gl22 HG22
    obtain ⟨hx22_0,hf22_0⟩:=Kd.R_celln 0 HO_5.out (x15_1:Int) p22 q22
    replace p22:=eq_true p22
    replace q22:=eq_true q22
    have HP23:=Kd.R_putg HO_5.out (x15_1:Int) (((((rd l0 x15_1)+1000000000)%4294967296)-x6_1)%4294967296)
    go_wp2_with (first|((with_reducible refine gate_store (t:=97) (p:=41) rfl ?_);refine store_event (t:=97) (p:=41) (v:=?vo_w24) (w1:=(wr.setCell ⟨go22,(x15_1:Int).toNat,none⟩ (.int .u32 (((((rd l0 x15_1)+1000000000)%4294967296)-x6_1)%4294967296)))) ?hg ?ho ?hn ?hr ?_;(case ho=>rfl);(case hg=>rfl);(case hn=>rfl);(case hr=>first|(go_simp;done)|(go_simp;rfl));intro w24 hw;have hg:wr.grownBy w24 (some go22):=(by rw [hw];exact HP23.2);have hp_:Kd.R (Kd.int .u32) 97 w24 w.heap.size (fun k_=>(w.heap.size≤k_)) (.slice (some ⟨go22,0,none⟩) x5_1.length co22) y496:=(by rw [hw,Ny496.out];exact HP23.1);clear HP23;replace HO_5:=aZ (hp_);replace HB:=aZ ((by rw [hw];exact below_set (HB.out) GB22.out:Below w.heap.size w w24));clear hg hw hp_))
    go_roundg k1
    case measure=>have:=HK1.out;omega
    case rel=>exact ⟨(y496),(1),(wrap64 (x15_1+1)),zs,zs,H',⟨by have:=HK1.out;omega⟩,⟨zR HO_5⟩,⟨bw⟩⟩
   rw [if_pos c10] at H
   have c10b0:=decide_eq_true c10
   clear c10
   by_cases c11:(rd l0 x15_1)<((x6_1+(rd l1 x15_1))%4294967296)
   case neg=>
    rw [if_neg c11] at H
    have c11b0:=decide_eq_false c11
    clear c11
    by_cases c16:x15_1<(x5_1.length:Int)
    case neg=>
     rw [if_neg c16] at H
     cases H
    rw [if_pos c16] at H
    have c16b0:=decide_eq_true c16
    clear c16
    obtain ⟨y495,hy495⟩:∃ y_:List Int,y_=(x5_1.set (x15_1:Int).toNat (((rd l0 x15_1)-((x6_1+(rd l1 x15_1))%4294967296))%4294967296)):=⟨_,rfl⟩
    replace H:(nat_Sub.l0 k1 l1 y495 0 l0 (l0.length:Int) (wrap64 (x15_1+1)))=some r:=zy hy495 H
    have Ny495:=aZ hy495
    clear hy495
    have H':=aZ H
    clear H
    have p492:0≤(x15_1:Int):=zd
    have q492:x15_1<(l0.length:Int):=zd
    obtain ⟨ad492,e492,hx492_0⟩:=Kd.at_int HR0.out x15_1 p492 q492
    cases e492
    replace hx492_0:=(HB.out.cell (World.block_lt_of_cell? w _ hx492_0)).trans hx492_0
    replace p492:=eq_true p492
    replace q492:=eq_true q492
    have p493:0≤(x15_1:Int):=zd
    have q493:x15_1<(l1.length:Int):=zd
    obtain ⟨ad493,e493,hx493_0⟩:=Kd.at_int HR1.out x15_1 p493 q493
    cases e493
    replace hx493_0:=(HB.out.cell (World.block_lt_of_cell? w _ hx493_0)).trans hx493_0
    replace p493:=eq_true p493
    replace q493:=eq_true q493
    have p17:0≤(x15_1:Int):=zd
    have q17:(x15_1:Int)<((x5_1.length:Int):Int):=zd
    obtain ⟨go17,co17,eo17,gb17,gl17,cl17,HG17⟩:=Kd.R_form HO_5.out (by omega)
    (first|cases eo17|(injection eo17 with ea_ en_ ec_;(first|subst ea_|(injection ea_ with ea_;subst ea_));subst ec_;clear en_))
    have GB17:=aZ gb17
    have GG17:=aZ HG17
    clear gb17 gl17 HG17
    obtain ⟨hx17_0,hf17_0⟩:=Kd.R_celln 0 HO_5.out (x15_1:Int) p17 q17
    replace p17:=eq_true p17
    replace q17:=eq_true q17
    have HP18:=Kd.R_putg HO_5.out (x15_1:Int) (((rd l0 x15_1)-((x6_1+(rd l1 x15_1))%4294967296))%4294967296)
    go_wp2_with (first|((with_reducible refine gate_store (t:=97) (p:=41) rfl ?_);refine store_event (t:=97) (p:=41) (v:=?vo_w19) (w1:=(wr.setCell ⟨go17,(x15_1:Int).toNat,none⟩ (.int .u32 (((rd l0 x15_1)-((x6_1+(rd l1 x15_1))%4294967296))%4294967296)))) ?hg ?ho ?hn ?hr ?_;(case ho=>rfl);(case hg=>rfl);(case hn=>rfl);(case hr=>first|(go_simp;done)|(go_simp;rfl));intro w19 hw;have hg:wr.grownBy w19 (some go17):=(by rw [hw];exact HP18.2);have hp_:Kd.R (Kd.int .u32) 97 w19 w.heap.size (fun k_=>(w.heap.size≤k_)) (.slice (some ⟨go17,0,none⟩) x5_1.length co17) y495:=(by rw [hw,Ny495.out];exact HP18.1);clear HP18;replace HO_5:=aZ (hp_);replace HB:=aZ ((by rw [hw];exact below_set (HB.out) GB17.out:Below w.heap.size w w19));clear hg hw hp_))
    go_roundg k1
    case measure=>have:=HK1.out;omega
    case rel=>exact ⟨(y495),(0),(wrap64 (x15_1+1)),zs,zs,H',⟨by have:=HK1.out;omega⟩,⟨zR HO_5⟩,⟨bw⟩⟩
   rw [if_pos c11] at H
   have c11b0:=decide_eq_true c11
   clear c11
   by_cases c12:x15_1<(x5_1.length:Int)
   case neg=>
    rw [if_neg c12] at H
    cases H
   rw [if_pos c12] at H
   have c12b0:=decide_eq_true c12
   clear c12
   obtain ⟨y494,hy494⟩:∃ y_:List Int,y_=(x5_1.set (x15_1:Int).toNat (((((rd l0 x15_1)+1000000000)%4294967296)-((x6_1+(rd l1 x15_1))%4294967296))%4294967296)):=⟨_,rfl⟩
   replace H:(nat_Sub.l0 k1 l1 y494 1 l0 (l0.length:Int) (wrap64 (x15_1+1)))=some r:=zy hy494 H
   have Ny494:=aZ hy494
   clear hy494
   have H':=aZ H
   clear H
   have p492:0≤(x15_1:Int):=zd
   have q492:x15_1<(l0.length:Int):=zd
   obtain ⟨ad492,e492,hx492_0⟩:=Kd.at_int HR0.out x15_1 p492 q492
   cases e492
   replace hx492_0:=(HB.out.cell (World.block_lt_of_cell? w _ hx492_0)).trans hx492_0
   replace p492:=eq_true p492
   replace q492:=eq_true q492
   have p493:0≤(x15_1:Int):=zd
   have q493:x15_1<(l1.length:Int):=zd
   obtain ⟨ad493,e493,hx493_0⟩:=Kd.at_int HR1.out x15_1 p493 q493
   cases e493
   replace hx493_0:=(HB.out.cell (World.block_lt_of_cell? w _ hx493_0)).trans hx493_0
   replace p493:=eq_true p493
   replace q493:=eq_true q493
   have p13:0≤(x15_1:Int):=zd
   have q13:(x15_1:Int)<((x5_1.length:Int):Int):=zd
   obtain ⟨go13,co13,eo13,gb13,gl13,cl13,HG13⟩:=Kd.R_form HO_5.out (by omega)
   (first|cases eo13|(injection eo13 with ea_ en_ ec_;(first|subst ea_|(injection ea_ with ea_;subst ea_));subst ec_;clear en_))
   have GB13:=aZ gb13
   have GG13:=aZ HG13
   clear gb13 gl13 HG13
   obtain ⟨hx13_0,hf13_0⟩:=Kd.R_celln 0 HO_5.out (x15_1:Int) p13 q13
   replace p13:=eq_true p13
   replace q13:=eq_true q13
   have HP14:=Kd.R_putg HO_5.out (x15_1:Int) (((((rd l0 x15_1)+1000000000)%4294967296)-((x6_1+(rd l1 x15_1))%4294967296))%4294967296)
   go_wp2_with (first|((with_reducible refine gate_store (t:=97) (p:=41) rfl ?_);refine store_event (t:=97) (p:=41) (v:=?vo_w15) (w1:=(wr.setCell ⟨go13,(x15_1:Int).toNat,none⟩ (.int .u32 (((((rd l0 x15_1)+1000000000)%4294967296)-((x6_1+(rd l1 x15_1))%4294967296))%4294967296)))) ?hg ?ho ?hn ?hr ?_;(case ho=>rfl);(case hg=>rfl);(case hn=>rfl);(case hr=>first|(go_simp;done)|(go_simp;rfl));intro w15 hw;have hg:wr.grownBy w15 (some go13):=(by rw [hw];exact HP14.2);have hp_:Kd.R (Kd.int .u32) 97 w15 w.heap.size (fun k_=>(w.heap.size≤k_)) (.slice (some ⟨go13,0,none⟩) x5_1.length co13) y494:=(by rw [hw,Ny494.out];exact HP14.1);clear HP14;replace HO_5:=aZ (hp_);replace HB:=aZ ((by rw [hw];exact below_set (HB.out) GB13.out:Below w.heap.size w w15));clear hg hw hp_))
   go_roundg k1
   case measure=>have:=HK1.out;omega
   case rel=>exact ⟨(y494),(1),(wrap64 (x15_1+1)),zs,zs,H',⟨by have:=HK1.out;omega⟩,⟨zR HO_5⟩,⟨bw⟩⟩
mutual
def frac_Add.j0:Nat→List Int→List Int→List Int→Bool→Bool→List Int→List Int→Bool→List Int→List Int→Option (Bool×List Int×List Int)
 | 0,_,_,_,_,_,_,_,_,_,_=>none
 | k+1,x5,x6,x7,x23,x499000,x499001,x499002,x500000,x500001,x500002=>if x23=true then ((nat_Mul.f k x499001 x500002).bind fun t503=>((nat_Mul.f k x500001 x499002).bind fun t506=>((nat_Mul.f k x499002 x500002).bind fun t509=>(frac_Add.j1 k t503 t506 t509 x499000 x499001 x499002 x500000 x500001 x500002)))) else (frac_Add.j1 k x5 x6 x7 x499000 x499001 x499002 x500000 x500001 x500002)
def frac_Add.j1:Nat→List Int→List Int→List Int→Bool→List Int→List Int→Bool→List Int→List Int→Option (Bool×List Int×List Int)
 | 0,_,_,_,_,_,_,_,_,_=>none
 | k+1,x5,x6,x7,x499000,x499001,x499002,x500000,x500001,x500002=>if (x499000==x500000)=true then ((nat_Add.f k x5 x6).bind fun t512=>((frac_Reduced.f k x499000 t512 x7).bind fun bt515=>(some (bt515.1,bt515.2.1,bt515.2.2)))) else ((nat_Cmp.f k x5 x6).bind fun t522=>(if t522≥0 then ((nat_Sub.f k x5 x6).bind fun t523=>((frac_Reduced.f k x499000 t523 x7).bind fun bt526=>(some (bt526.1,bt526.2.1,bt526.2.2)))) else ((nat_Sub.f k x6 x5).bind fun t533=>((frac_Reduced.f k x500000 t533 x7).bind fun bt536=>(some (bt536.1,bt536.2.1,bt536.2.2))))))
end
def frac_Add.f (k:Nat) (a0_0:Bool) (l0_1:List Int) (l0_2:List Int) (a1_0:Bool) (l1_1:List Int) (l1_2:List Int):Option (Bool×List Int×List Int):=(nat_Nat_One.f l0_2).bind fun t501=>(if t501=true then ((nat_Nat_One.f l1_2).bind fun t502=>(frac_Add.j0 k l0_1 l1_1 l0_2 (!t502) a0_0 l0_1 l0_2 a1_0 l1_1 l1_2)) else (frac_Add.j0 k l0_1 l1_1 l0_2 true a0_0 l0_1 l0_2 a1_0 l1_1 l1_2))
def frac_Add.T4:Bool×List (List Nat×List Nat):=(true,[([],[]),([0],[0]),([],[]),([2],[2]),([1,3],[1,3]),([],[]),([5],[5]),([],[]),([7],[7]),([6,8,4],[6,8]),([],[]),([10],[10]),([],[]),([12],[12]),([11,13,9],[11,13]),([4,14,0,1,2,3,4],[4]),([9,15,0,1,2,3,4,5,6,7,8,9,15],[9]),([14,16,0,1,2,3,4,5,6,7,8,9,10,11,12,13,14,15,16],[14])])
def frac_Add.B4:List Nat:=[0,1,0,4,15,0,32,0,128,511,0,1024,0,4096,16383,32767,65535,131071]
theorem frac_Add.tab4:rtab .any (opsOf Tryz.f117 4)=frac_Add.T4:=by kernel_rfl
theorem frac_Add.bits4:waitsOk frac_Add.T4.2 frac_Add.B4=true:=by kernel_rfl
def frac_Add.T6:Bool×List (List Nat×List Nat):=(true,[([],[]),([0],[0]),([],[]),([],[]),([2,3],[2,3]),([],[]),([1,4,5,4],[1,4,5]),([6,6,0,1,2,3,4,5,6],[6])])
def frac_Add.B6:List Nat:=[0,1,0,0,12,0,63,127]
theorem frac_Add.tab6:rtab .any (opsOf Tryz.f117 6)=frac_Add.T6:=by kernel_rfl
theorem frac_Add.bits6:waitsOk frac_Add.T6.2 frac_Add.B6=true:=by kernel_rfl
def frac_Add.T8:Bool×List (List Nat×List Nat):=(true,[([],[]),([0],[0]),([],[]),([],[]),([2,3],[2,3]),([],[]),([1,4,5,4],[1,4,5]),([6,6,0,1,2,3,4,5,6],[6])])
def frac_Add.B8:List Nat:=[0,1,0,0,12,0,63,127]
theorem frac_Add.tab8:rtab .any (opsOf Tryz.f117 8)=frac_Add.T8:=by kernel_rfl
theorem frac_Add.bits8:waitsOk frac_Add.T8.2 frac_Add.B8=true:=by kernel_rfl
def frac_Add.T9:Bool×List (List Nat×List Nat):=(true,[([],[]),([0],[0]),([],[]),([],[]),([2,3],[2,3]),([],[]),([1,4,5,4],[1,4,5]),([6,6,0,1,2,3,4,5,6],[6])])
def frac_Add.B9:List Nat:=[0,1,0,0,12,0,63,127]
theorem frac_Add.tab9:rtab .any (opsOf Tryz.f117 9)=frac_Add.T9:=by kernel_rfl
theorem frac_Add.bits9:waitsOk frac_Add.T9.2 frac_Add.B9=true:=by kernel_rfl
theorem frac_Add.calls (k:Nat) (a0_0:Bool) (P0_1_:Nat→Prop) (A0_1:Option Addr) (c0_1:Nat) (l0_1:List Int) (P0_2_:Nat→Prop) (A0_2:Option Addr) (c0_2:Nat) (l0_2:List Int) (a1_0:Bool) (P1_1_:Nat→Prop) (A1_1:Option Addr) (c1_1:Nat) (l1_1:List Int) (A1_2:Option Addr) (c1_2:Nat) (l1_2:List Int) (r1:Bool) (r2:List Int) (r3:List Int) (w:World) (hs0_1:Kd.V (Kd.int .u32) 97 w w.heap.size (fun k_=>P0_1_ k_) (.slice A0_1 l0_1.length c0_1) l0_1) (hs0_2:Kd.V (Kd.int .u32) 97 w w.heap.size (fun k_=>P0_2_ k_) (.slice A0_2 l0_2.length c0_2) l0_2) (hs1_1:Kd.V (Kd.int .u32) 97 w w.heap.size (fun k_=>P1_1_ k_) (.slice A1_1 l1_1.length c1_1) l1_1) (hr1_2:Kd.C (Kd.int .u32) w A1_2 l1_2.length l1_2) (hc1_2:l1_2.length≤c1_2) (h:frac_Add.f k a0_0 l0_1 l0_2 a1_0 l1_1 l1_2=some (r1,r2,r3)) :
  Calls Tryz.prog 117 #[.agg #[.bool a0_0,.slice A0_1 l0_1.length c0_1,.slice A0_2 l0_2.length c0_2],.agg #[.bool a1_0,.slice A1_1 l1_1.length c1_1,.slice A1_2 l1_2.length c1_2]] w fun e w'=>∃ v1_ v2_:Value,e = .returned (.agg #[.bool r1,v1_,v2_])∧Kd.V (Kd.int .u32) 97 w' w.heap.size (fun k_=>((P0_1_ k_∨P0_2_ k_∨P1_1_ k_)∨w.heap.size≤k_)) v1_ r2∧Kd.V (Kd.int .u32) 97 w' w.heap.size (fun k_=>((P0_1_ k_∨P0_2_ k_∨P1_1_ k_)∨w.heap.size≤k_)) v2_ r3∧Below w.heap.size w w':=by
 have hu103:=underlying103
 have HO0_1:=aZ (show Kd.V (Kd.int .u32) 97 w w.heap.size (fun k_=>((P0_1_ k_∨P0_2_ k_∨P1_1_ k_)∨w.heap.size≤k_)) (.slice A0_1 l0_1.length c0_1) l0_1 from Kd.V_mono hs0_1 (fun k_ hk=>.inl (.inl hk)))
 have HO0_2:=aZ (show Kd.V (Kd.int .u32) 97 w w.heap.size (fun k_=>((P0_1_ k_∨P0_2_ k_∨P1_1_ k_)∨w.heap.size≤k_)) (.slice A0_2 l0_2.length c0_2) l0_2 from Kd.V_mono hs0_2 (fun k_ hk=>.inl (.inr (.inl hk))))
 have HO1_1:=aZ (show Kd.V (Kd.int .u32) 97 w w.heap.size (fun k_=>((P0_1_ k_∨P0_2_ k_∨P1_1_ k_)∨w.heap.size≤k_)) (.slice A1_1 l1_1.length c1_1) l1_1 from Kd.V_mono hs1_1 (fun k_ hk=>.inl (.inr (.inr hk))))
 have HR1_2:=aZ hr1_2
 have HC1_2:=aZ hc1_2
 clear hr1_2 hc1_2
 have HB:=aZ (Below.refl w.heap.size w)
 have H:=h
 unfold frac_Add.f at H
 clear h
 have HC3:=aZ H
 clear H
 go_enter func117,ntmps117
 try go_wp2_with (first|(refine box_ev 2 #[.bool a0_0,.slice A0_1 l0_1.length c0_1,.slice A0_2 l0_2.length c0_2] 103 ?_;intro gb498 hg w4 hbox hb;replace HO0_1:=yE HO0_1 hg hb;replace HO0_2:=yE HO0_2 hg hb;replace HO1_1:=yE HO1_1 hg hb;have BK498:=aZ hbox;have GE498:=sG hg;replace HB:=sB hb;clear hb hbox hg)|(refine box_ev 3 #[.bool a1_0,.slice A1_1 l1_1.length c1_1,.slice A1_2 l1_2.length c1_2] 103 ?_;intro gb499 hg w5 hbox hb;replace HO0_1:=yE HO0_1 hg hb;replace HO0_2:=yE HO0_2 hg hb;replace HO1_1:=yE HO1_1 hg hb;have BK499:=aZ hbox;have GE499:=sG hg;replace HB:=sB hb;have NB498_499:=sl hg BK498;have NB499_498:=sg hg BK498;replace BK498:=sK BK498 hb;clear hb hbox hg)|(refine box_ev 4 #[.bool false,.slice none 0 0,.slice none 0 0] 103 ?_;intro gb500 hg w6 hbox hb;replace HO0_1:=yE HO0_1 hg hb;replace HO0_2:=yE HO0_2 hg hb;replace HO1_1:=yE HO1_1 hg hb;have BK500:=aZ hbox;have GE500:=sG hg;replace HB:=sB hb;have NB498_500:=sl hg BK498;have NB500_498:=sg hg BK498;replace BK498:=sK BK498 hb;have NB499_500:=sl hg BK499;have NB500_499:=sg hg BK499;replace BK499:=sK BK499 hb;clear hb hbox hg))
 replace HO0_1:=aZ (Kd.V_drew HO0_1.out)
 replace HO0_2:=aZ (Kd.V_drew HO0_2.out)
 replace HO1_1:=aZ (Kd.V_drew HO1_1.out)
 replace BK498:=aZ (blk_drew BK498.out)
 replace BK499:=aZ (blk_drew BK499.out)
 replace BK500:=aZ (blk_drew BK500.out)
 replace HB:=aZ (below_drew1 HB.out)
 refine start_ (n:=6) (S:=fun w'=>w'.cell? ⟨gb498,0,none⟩=some (.bool a0_0)∧w'.cell? ⟨gb498,1,none⟩=some (.slice A0_1 l0_1.length c0_1)∧w'.cell? ⟨gb498,2,none⟩=some (.slice A0_2 l0_2.length c0_2)∧w'.cell? ⟨gb499,0,none⟩=some (.bool a1_0)∧w'.cell? ⟨gb499,1,none⟩=some (.slice A1_1 l1_1.length c1_1)∧w'.cell? ⟨gb499,2,none⟩=some (.slice A1_2 l1_2.length c1_2)) (ds:=[]) #[false,false,false,false,false,false] (by kernel_rfl) rfl rfl ⟨zh BK498 0,zh BK498 1,zh BK498 2,zh BK499 0,zh BK499 1,zh BK499 2⟩ (fun hHeld=>?_)
 generalize w6.drew=w7 at HO0_1 HO0_2 HO1_1 BK498 BK499 BK500 HB hHeld ⊢
 refine pure_ (i:=0) (N:=some 8) (v:=?_) (a':=?_) #[true,false,false,false,false,false] rfl rfl (by kernel_rfl) (fun _ _ _ h=>h) (Or.inl ⟨by rfl,?_⟩) ?_ ?_
 rotate_left
 ·intro w'
  go_simp
  with_reducible rfl
 rotate_left
 ·simp only [Act.put,List.setIfInBounds_toArray,List.set_cons_zero,List.set_cons_succ,i64_w,i32_w]
  rfl
 refine pure_ (i:=2) (N:=some 10) (v:=?_) (a':=?_) #[true,false,true,false,false,false] rfl rfl (by kernel_rfl) (fun _ _ _ h=>h) (Or.inl ⟨by rfl,?_⟩) ?_ ?_
 rotate_left
 ·intro w'
  go_simp
  with_reducible rfl
 rotate_left
 ·simp only [Act.put,List.setIfInBounds_toArray,List.set_cons_zero,List.set_cons_succ,i64_w,i32_w]
  rfl
 refine take_ (i:=1) (N:=some 9) (v:=?_) (a':=?_) #[true,true,true,false,false,false] rfl rfl (by kernel_rfl) (fun _ _ _ h=>h) (Or.inl ⟨by rfl,?_⟩) hHeld ?_ ?_
 rotate_left
 ·rintro w' ⟨s0,s1,s2,s3,s4,s5⟩
  go_simp
  with_reducible rfl
 rotate_left
 ·simp only [Act.put,List.setIfInBounds_toArray,List.set_cons_zero,List.set_cons_succ,i64_w,i32_w]
  rfl
 refine pure_ (i:=4) (N:=some 5) (v:=?_) (a':=?_) #[true,true,true,false,true,false] rfl rfl (by kernel_rfl) (fun _ _ _ h=>h) (Or.inl ⟨by rfl,?_⟩) ?_ ?_
 rotate_left
 ·intro w'
  go_simp
  with_reducible rfl
 rotate_left
 ·simp only [Act.put,List.setIfInBounds_toArray,List.set_cons_zero,List.set_cons_succ,i64_w,i32_w]
  rfl
 refine take_ (i:=3) (N:=some 11) (v:=?_) (a':=?_) #[true,true,true,true,true,false] rfl rfl (by kernel_rfl) (fun _ _ _ h=>h) (Or.inl ⟨by rfl,?_⟩) hHeld ?_ ?_
 rotate_left
 ·rintro w' ⟨s0,s1,s2,s3,s4,s5⟩
  go_simp
  with_reducible rfl
 rotate_left
 ·simp only [Act.put,List.setIfInBounds_toArray,List.set_cons_zero,List.set_cons_succ,i64_w,i32_w]
  rfl
 refine pure_ (i:=5) (N:=some 6) (v:=?_) (a':=?_) #[true,true,true,true,true,true] rfl rfl (by kernel_rfl) (fun _ _ _ h=>h) (Or.inl ⟨by rfl,?_⟩) ?_ ?_
 rotate_left
 ·intro w'
  go_simp
  with_reducible rfl
 rotate_left
 ·simp only [Act.put,List.setIfInBounds_toArray,List.set_cons_zero,List.set_cons_succ,i64_w,i32_w]
  rfl
 refine done_ (by kernel_rfl) ?_
 have hnb8:=NB498_499.out
 have hnc8:=NB499_498.out
 have hnb9:=NB498_500.out
 have hnc9:=NB500_498.out
 have hcz10_0:w7.cell? ⟨gb498,0,none⟩=some (.bool a0_0):=(blk_cell BK498.out 0).trans rfl
 have hcz10_1:w7.cell? ⟨gb498,1,none⟩=some (.slice A0_1 l0_1.length c0_1):=(blk_cell BK498.out 1).trans rfl
 have hcz10_2:w7.cell? ⟨gb498,2,none⟩=some (.slice A0_2 l0_2.length c0_2):=(blk_cell BK498.out 2).trans rfl
 have hfz10_0:=blk_frozen BK498.out 0
 have hfz10_1:=blk_frozen BK498.out 1
 have hfz10_2:=blk_frozen BK498.out 2
 go_upto_region 3 with (fail)
 go_cut [23] (fun v23 wc=>∃ (kq:Nat) (x23_2:Bool),v23 = .bool x23_2∧Aside0 (frac_Add.j0 kq l0_1 l1_1 l0_2 x23_2 a0_0 l0_1 l0_2 a1_0 l1_1 l1_2=some (r1,r2,r3))∧Aside0 (kq≤k)∧Aside0 (Kd.V (Kd.int .u32) 97 wc w.heap.size (fun k_=>((P0_1_ k_∨P0_2_ k_∨P1_1_ k_)∨w.heap.size≤k_)∧k_≠gb498∧k_≠gb499∧k_≠gb500) (.slice A0_1 l0_1.length c0_1) l0_1)∧Aside0 (Kd.V (Kd.int .u32) 97 wc w.heap.size (fun k_=>((P0_1_ k_∨P0_2_ k_∨P1_1_ k_)∨w.heap.size≤k_)∧k_≠gb498∧k_≠gb499∧k_≠gb500) (.slice A1_1 l1_1.length c1_1) l1_1)∧Aside0 (Kd.V (Kd.int .u32) 97 wc w.heap.size (fun k_=>((P0_1_ k_∨P0_2_ k_∨P1_1_ k_)∨w.heap.size≤k_)∧k_≠gb498∧k_≠gb499∧k_≠gb500) (.slice A0_2 l0_2.length c0_2) l0_2)∧Aside0 (Kd.V (Kd.int .u32) 97 wc w.heap.size (fun k_=>((P0_1_ k_∨P0_2_ k_∨P1_1_ k_)∨w.heap.size≤k_)∧k_≠gb498∧k_≠gb499∧k_≠gb500) (.slice A0_1 l0_1.length c0_1) l0_1)∧Aside0 (Kd.V (Kd.int .u32) 97 wc w.heap.size (fun k_=>((P0_1_ k_∨P0_2_ k_∨P1_1_ k_)∨w.heap.size≤k_)∧k_≠gb498∧k_≠gb499∧k_≠gb500) (.slice A0_2 l0_2.length c0_2) l0_2)∧Aside0 (Kd.V (Kd.int .u32) 97 wc w.heap.size (fun k_=>((P0_1_ k_∨P0_2_ k_∨P1_1_ k_)∨w.heap.size≤k_)∧k_≠gb498∧k_≠gb499∧k_≠gb500) (.slice A1_1 l1_1.length c1_1) l1_1)∧Aside0 (wc.heap[gb498]? = some (.cells #[.bool a0_0,(.slice A0_1 l0_1.length c0_1),(.slice A0_2 l0_2.length c0_2)] 103 (0,0)))∧Aside0 (wc.heap[gb499]? = some (.cells #[.bool a1_0,(.slice A1_1 l1_1.length c1_1),(.slice A1_2 l1_2.length c1_2)] 103 (0,0)))∧Aside0 (wc.heap[gb500]? = some (.cells #[.bool false,(.slice none 0 0),(.slice none 0 0)] 103 (0,0)))∧Aside0 (Below w.heap.size w wc))
 case first =>
  have H:=HC3.out
  clear HC3
  obtain ⟨t501,A11,H⟩:=zB H
  by_cases c12:t501=true
  case neg=>
   replace c12:=Bool.eq_false_iff.mpr c12
   subst c12
   have H1:(frac_Add.j0 k l0_1 l1_1 l0_2 true a0_0 l0_1 l0_2 a1_0 l1_1 l1_2)=some (r1,r2,r3):=by rw [if_neg (show ¬ (false=true) by decide)] at H;exact H
   clear H
   have H:=H1
   clear H1
   have H':=aZ H
   clear H
   have hnb19:=NB498_499.out
   have hnc19:=NB499_498.out
   have hnb20:=NB498_500.out
   have hnc20:=NB500_498.out
   have hcz21_0:w7.cell? ⟨gb498,0,none⟩=some (.bool a0_0):=(blk_cell BK498.out 0).trans rfl
   have hcz21_1:w7.cell? ⟨gb498,1,none⟩=some (.slice A0_1 l0_1.length c0_1):=(blk_cell BK498.out 1).trans rfl
   have hcz21_2:w7.cell? ⟨gb498,2,none⟩=some (.slice A0_2 l0_2.length c0_2):=(blk_cell BK498.out 2).trans rfl
   have hfz21_0:=blk_frozen BK498.out 0
   have hfz21_1:=blk_frozen BK498.out 1
   have hfz21_2:=blk_frozen BK498.out 2
   go_wp2_with (first|(refine zg (some 16) func109 #[.slice A0_2 l0_2.length c0_2] ?_;(with_reducible refine (nat_Nat_One.calls _ _ l0_2 false _ ?side1 ?side2 A11.out).mono ?_);(case side1=>exact zr HO0_2);(case side2=>exact zk HO0_2);rintro e w' ⟨rfl,⟨nd,rfl⟩⟩;refine ⟨_,rfl,?_⟩))
   go_meet
   case rel=>exact ⟨_,(true),zs,H',⟨by first|omega|exact Nat.le_refl _⟩,⟨by (with_reducible repeat (first|apply Kd.V_alloc|apply Kd.V_drewN|apply Kd.V_drew));exact Kd.V_mono HO0_1.out (fun _ hk=>⟨hk.1.1.1,⟨hk.1.1.2,⟨hk.1.2,hk.2⟩⟩⟩)⟩,⟨by (with_reducible repeat (first|apply Kd.V_alloc|apply Kd.V_drewN|apply Kd.V_drew));exact Kd.V_mono HO1_1.out (fun _ hk=>⟨hk.1.1.1,⟨hk.1.1.2,⟨hk.1.2,hk.2⟩⟩⟩)⟩,⟨by (with_reducible repeat (first|apply Kd.V_alloc|apply Kd.V_drewN|apply Kd.V_drew));exact Kd.V_mono HO0_2.out (fun _ hk=>⟨hk.1.1.1,⟨hk.1.1.2,⟨hk.1.2,hk.2⟩⟩⟩)⟩,⟨by (with_reducible repeat (first|apply Kd.V_alloc|apply Kd.V_drewN|apply Kd.V_drew));exact Kd.V_mono HO0_1.out (fun _ hk=>⟨hk.1.1.1,⟨hk.1.1.2,⟨hk.1.2,hk.2⟩⟩⟩)⟩,⟨by (with_reducible repeat (first|apply Kd.V_alloc|apply Kd.V_drewN|apply Kd.V_drew));exact Kd.V_mono HO0_2.out (fun _ hk=>⟨hk.1.1.1,⟨hk.1.1.2,⟨hk.1.2,hk.2⟩⟩⟩)⟩,⟨by (with_reducible repeat (first|apply Kd.V_alloc|apply Kd.V_drewN|apply Kd.V_drew));exact Kd.V_mono HO1_1.out (fun _ hk=>⟨hk.1.1.1,⟨hk.1.1.2,⟨hk.1.2,hk.2⟩⟩⟩)⟩,⟨zb BK498⟩,⟨zb BK499⟩,⟨zb BK500⟩,⟨bw⟩⟩
  subst c12
  have H1:((nat_Nat_One.f l1_2).bind fun t502=>(frac_Add.j0 k l0_1 l1_1 l0_2 (!t502) a0_0 l0_1 l0_2 a1_0 l1_1 l1_2))=some (r1,r2,r3):=by rw [if_pos rfl] at H;exact H
  clear H
  have H:=H1
  clear H1
  obtain ⟨t502,A13,H⟩:=zB H
  have H':=aZ H
  clear H
  have hnb14:=NB498_499.out
  have hnc14:=NB499_498.out
  have hnb15:=NB498_500.out
  have hnc15:=NB500_498.out
  have hcz16_0:w7.cell? ⟨gb498,0,none⟩=some (.bool a0_0):=(blk_cell BK498.out 0).trans rfl
  have hcz16_1:w7.cell? ⟨gb498,1,none⟩=some (.slice A0_1 l0_1.length c0_1):=(blk_cell BK498.out 1).trans rfl
  have hcz16_2:w7.cell? ⟨gb498,2,none⟩=some (.slice A0_2 l0_2.length c0_2):=(blk_cell BK498.out 2).trans rfl
  have hfz16_0:=blk_frozen BK498.out 0
  have hfz16_1:=blk_frozen BK498.out 1
  have hfz16_2:=blk_frozen BK498.out 2
  go_wp2_with (first|(refine zg (some 16) func109 #[.slice A0_2 l0_2.length c0_2] ?_;(with_reducible refine (nat_Nat_One.calls _ _ l0_2 true _ ?side1 ?side2 A11.out).mono ?_);(case side1=>exact zr HO0_2);(case side2=>exact zk HO0_2);rintro e w' ⟨rfl,⟨nd,rfl⟩⟩;refine ⟨_,rfl,?_⟩;have hnb17:=NB499_500.out;have hnc17:=NB500_499.out;obtain ⟨hcz18_0,hfz18_0⟩:=zc BK499 0 (.bool a1_0) rfl;obtain ⟨hcz18_1,hfz18_1⟩:=zc BK499 1 (.slice A1_1 l1_1.length c1_1) rfl;obtain ⟨hcz18_2,hfz18_2⟩:=zc BK499 2 (.slice A1_2 l1_2.length c1_2) rfl)|(go_at_call 109;(with_reducible refine (nat_Nat_One.calls _ _ l1_2 t502 _ ?side1 ?side2 A13.out).mono ?_);(case side1=>exact zC (Kd.C_below HR1_2.out bw));(case side2=>exact HC1_2.out);rintro e w' ⟨rfl,⟨nd,rfl⟩⟩))
  go_meet
  case rel=>exact ⟨_,(!t502),zs,H',⟨by first|omega|exact Nat.le_refl _⟩,⟨by (with_reducible repeat (first|apply Kd.V_alloc|apply Kd.V_drewN|apply Kd.V_drew));exact Kd.V_mono HO0_1.out (fun _ hk=>⟨hk.1.1.1,⟨hk.1.1.2,⟨hk.1.2,hk.2⟩⟩⟩)⟩,⟨by (with_reducible repeat (first|apply Kd.V_alloc|apply Kd.V_drewN|apply Kd.V_drew));exact Kd.V_mono HO1_1.out (fun _ hk=>⟨hk.1.1.1,⟨hk.1.1.2,⟨hk.1.2,hk.2⟩⟩⟩)⟩,⟨by (with_reducible repeat (first|apply Kd.V_alloc|apply Kd.V_drewN|apply Kd.V_drew));exact Kd.V_mono HO0_2.out (fun _ hk=>⟨hk.1.1.1,⟨hk.1.1.2,⟨hk.1.2,hk.2⟩⟩⟩)⟩,⟨by (with_reducible repeat (first|apply Kd.V_alloc|apply Kd.V_drewN|apply Kd.V_drew));exact Kd.V_mono HO0_1.out (fun _ hk=>⟨hk.1.1.1,⟨hk.1.1.2,⟨hk.1.2,hk.2⟩⟩⟩)⟩,⟨by (with_reducible repeat (first|apply Kd.V_alloc|apply Kd.V_drewN|apply Kd.V_drew));exact Kd.V_mono HO0_2.out (fun _ hk=>⟨hk.1.1.1,⟨hk.1.1.2,⟨hk.1.2,hk.2⟩⟩⟩)⟩,⟨by (with_reducible repeat (first|apply Kd.V_alloc|apply Kd.V_drewN|apply Kd.V_drew));exact Kd.V_mono HO1_1.out (fun _ hk=>⟨hk.1.1.1,⟨hk.1.1.2,⟨hk.1.2,hk.2⟩⟩⟩)⟩,⟨zb BK498⟩,⟨zb BK499⟩,⟨zb BK500⟩,⟨bw⟩⟩
 case rest =>
  clear HC3
  try clear c1
  try clear c2
  try clear c8
  try clear c9
  try clear c10
  try clear c11
  try clear c12
  try clear c14
  try clear c15
  try clear c17
  try clear c19
  try clear c20
  try clear hcz10_0
  try clear hcz10_1
  try clear hcz10_2
  try clear hcz16_0
  try clear hcz16_1
  try clear hcz16_2
  try clear hcz18_0
  try clear hcz18_1
  try clear hcz18_2
  try clear hcz21_0
  try clear hcz21_1
  try clear hcz21_2
  try clear hfz10_0
  try clear hfz10_1
  try clear hfz10_2
  try clear hfz16_0
  try clear hfz16_1
  try clear hfz16_2
  try clear hfz18_0
  try clear hfz18_1
  try clear hfz18_2
  try clear hfz21_0
  try clear hfz21_1
  try clear hfz21_2
  obtain ⟨kq,x23_2,rfl,HA,HJ2,HO_5,HO_6,HO_7,HO_499001,HO_499002,HO_500001,BK498,BK499,BK500,HB⟩:=hcut
  cases kq with
  | zero=>exact absurd HA.out (by simp [frac_Add.j0])
  | succ kj2 =>
   have H:=HA.out
   clear HA
   simp only [frac_Add.j0] at H
   have HC22:=aZ H
   clear H
   go_upto_if 23 with (fail)
   go_cut [5,6,7] (fun v5 v6 v7 wc=>∃ (kq:Nat) (x5_21:List Int) (x6_21:List Int) (x7_21:List Int),Aside0 (frac_Add.j1 kq x5_21 x6_21 x7_21 a0_0 l0_1 l0_2 a1_0 l1_1 l1_2=some (r1,r2,r3))∧Aside0 (kq≤kj2)∧Aside0 (Kd.V (Kd.int .u32) 97 wc w.heap.size (fun k_=>((P0_1_ k_∨P0_2_ k_∨P1_1_ k_)∨w.heap.size≤k_)∧k_≠gb498∧k_≠gb499∧k_≠gb500) v5 x5_21)∧Aside0 (Kd.V (Kd.int .u32) 97 wc w.heap.size (fun k_=>((P0_1_ k_∨P0_2_ k_∨P1_1_ k_)∨w.heap.size≤k_)∧k_≠gb498∧k_≠gb499∧k_≠gb500) v6 x6_21)∧Aside0 (Kd.V (Kd.int .u32) 97 wc w.heap.size (fun k_=>((P0_1_ k_∨P0_2_ k_∨P1_1_ k_)∨w.heap.size≤k_)∧k_≠gb498∧k_≠gb499∧k_≠gb500) v7 x7_21)∧Aside0 (Kd.V (Kd.int .u32) 97 wc w.heap.size (fun k_=>((P0_1_ k_∨P0_2_ k_∨P1_1_ k_)∨w.heap.size≤k_)∧k_≠gb498∧k_≠gb499∧k_≠gb500) (.slice A0_1 l0_1.length c0_1) l0_1)∧Aside0 (Kd.V (Kd.int .u32) 97 wc w.heap.size (fun k_=>((P0_1_ k_∨P0_2_ k_∨P1_1_ k_)∨w.heap.size≤k_)∧k_≠gb498∧k_≠gb499∧k_≠gb500) (.slice A0_2 l0_2.length c0_2) l0_2)∧Aside0 (Kd.V (Kd.int .u32) 97 wc w.heap.size (fun k_=>((P0_1_ k_∨P0_2_ k_∨P1_1_ k_)∨w.heap.size≤k_)∧k_≠gb498∧k_≠gb499∧k_≠gb500) (.slice A1_1 l1_1.length c1_1) l1_1)∧Aside0 (wc.heap[gb498]? = some (.cells #[.bool a0_0,(.slice A0_1 l0_1.length c0_1),(.slice A0_2 l0_2.length c0_2)] 103 (0,0)))∧Aside0 (wc.heap[gb499]? = some (.cells #[.bool a1_0,(.slice A1_1 l1_1.length c1_1),(.slice A1_2 l1_2.length c1_2)] 103 (0,0)))∧Aside0 (wc.heap[gb500]? = some (.cells #[.bool false,(.slice none 0 0),(.slice none 0 0)] 103 (0,0)))∧Aside0 (Below w.heap.size w wc))
   case first =>
    have H:=HC22.out
    clear HC22
    by_cases c23:x23_2=true
    case neg=>
     replace c23:=Bool.eq_false_iff.mpr c23
     subst c23
     have H1:(frac_Add.j1 kj2 l0_1 l1_1 l0_2 a0_0 l0_1 l0_2 a1_0 l1_1 l1_2)=some (r1,r2,r3):=by rw [if_neg (show ¬ (false=true) by decide)] at H;exact H
     clear H
     have H:=H1
     clear H1
     have H':=aZ H
     clear H
     go_wp2
     go_meet
     case rel=>exact ⟨_,(l0_1),(l1_1),(l0_2),H',⟨by have:=HJ2.out;first|omega|exact Nat.le_refl _⟩,⟨zV HO_5⟩,⟨zV HO_6⟩,⟨zV HO_7⟩,⟨zV HO_499001⟩,⟨zV HO_499002⟩,⟨zV HO_500001⟩,⟨zb BK498⟩,⟨zb BK499⟩,⟨zb BK500⟩,⟨bw⟩⟩
    subst c23
    have H1:((nat_Mul.f kj2 l0_1 l1_2).bind fun t503=>((nat_Mul.f kj2 l1_1 l0_2).bind fun t506=>((nat_Mul.f kj2 l0_2 l1_2).bind fun t509=>(frac_Add.j1 kj2 t503 t506 t509 a0_0 l0_1 l0_2 a1_0 l1_1 l1_2))))=some (r1,r2,r3):=by rw [if_pos rfl] at H;exact H
    clear H
    have H:=H1
    clear H1
    obtain ⟨t503,A24,H⟩:=zB H
    obtain ⟨t506,A25,H⟩:=zB H
    obtain ⟨t509,A26,H⟩:=zB H
    have H':=aZ H
    clear H
    try go_wp2
    replace HO_5:=aZ (Kd.V_drew HO_5.out)
    replace HO_6:=aZ (Kd.V_drew HO_6.out)
    replace HO_7:=aZ (Kd.V_drew HO_7.out)
    replace HO_499001:=aZ (Kd.V_drew HO_499001.out)
    replace HO_499002:=aZ (Kd.V_drew HO_499002.out)
    replace HO_500001:=aZ (Kd.V_drew HO_500001.out)
    replace BK498:=aZ (blk_drew BK498.out)
    replace BK499:=aZ (blk_drew BK499.out)
    replace BK500:=aZ (blk_drew BK500.out)
    replace HB:=aZ (below_drew1 HB.out)
    refine start_ (n:=18) (S:=fun w'=>w'.cell? ⟨gb498,0,none⟩=some (.bool a0_0)∧w'.cell? ⟨gb498,1,none⟩=some (.slice A0_1 l0_1.length c0_1)∧w'.cell? ⟨gb498,2,none⟩=some (.slice A0_2 l0_2.length c0_2)∧w'.cell? ⟨gb499,0,none⟩=some (.bool a1_0)∧w'.cell? ⟨gb499,1,none⟩=some (.slice A1_1 l1_1.length c1_1)∧w'.cell? ⟨gb499,2,none⟩=some (.slice A1_2 l1_2.length c1_2)) (ds:=[]) #[false,false,false,false,false,false,false,false,false,false,false,false,false,false,false,false,false,false] (by kernel_rfl) rfl rfl ⟨zh BK498 0,zh BK498 1,zh BK498 2,zh BK499 0,zh BK499 1,zh BK499 2⟩ (fun hHeld=>?_);refine with_tabW frac_Add.tab4 frac_Add.bits4 (fun HT_ HW_=>?_)
    generalize wc.drew=w27 at HO_5 HO_6 HO_7 HO_499001 HO_499002 HO_500001 BK498 BK499 BK500 HB hHeld ⊢
    refine pu 0 (some 24) HT_ ?_
    refine pu 2 (some 26) HT_ ?_
    refine pu 5 (some 29) HT_ ?_
    refine pu 7 (some 31) HT_ ?_
    refine pu 10 (some 34) HT_ ?_
    refine pu 12 (some 36) HT_ ?_
    refine tk 1 (some 25) HT_ HW_ hHeld ?_
    refine tk 3 (some 27) HT_ HW_ hHeld ?_
    refine tk 6 (some 30) HT_ HW_ hHeld ?_
    refine tk 8 (some 32) HT_ HW_ hHeld ?_
    refine tk 11 (some 35) HT_ HW_ hHeld ?_
    refine tk 13 (some 37) HT_ HW_ hHeld ?_
    refine one_ (i:=4) (N:=some 28) #[true,true,true,true,true,true,true,true,true,false,true,true,true,true,false,false,false,false] rfl rfl (one_of HT_.out (by kernel_rfl)) (by decide) (fun K hK=>?_)
    refine goes_ func149 (by kernel_rfl) rfl #[.slice A0_1 l0_1.length c0_1,.slice A1_2 l1_2.length c1_2] (by rfl) rfl rfl zm ?_
    with_reducible refine (nat_Mul.calls kj2 _ _ l0_1 _ _ l1_2 t503 _ ?side1 ?side2 ?side3 ?side4 A24.out).mono ?_
    (case side1=>exact zr HO_499001)
    (case side2=>exact zk HO_499001)
    (case side3=>exact zC (Kd.C_below HR1_2.out HB.out))
    (case side4=>exact HC1_2.out)
    rintro e w28 ⟨v504,rfl,ho0,hb⟩
    refine ⟨_,rfl,?_⟩
    replace HO_5:=yV HO_5 hb
    replace HO_6:=yV HO_6 hb
    replace HO_7:=yV HO_7 hb
    replace HO_499001:=yV HO_499001 hb
    replace HO_499002:=yV HO_499002 hb
    replace HO_500001:=yV HO_500001 hb
    have HO505:=yL (fun k_=>((P0_1_ k_∨P0_2_ k_∨P1_1_ k_)∨w.heap.size≤k_)∧k_≠gb498∧k_≠gb499∧k_≠gb500) ho0 (fun k_ hk_=>⟨(.inr (Nat.le_trans bs hk_)),(zf BK498 hk_),(zf BK499 hk_),(zf BK500 hk_)⟩)
    replace BK498:=sK BK498 hb
    replace BK499:=sK BK499 hb
    replace BK500:=sK BK500 hb
    replace HB:=sB hb
    clear hb ho0
    refine hK.out _ _ ⟨zh BK498 0,zh BK498 1,zh BK498 2,zh BK499 0,zh BK499 1,zh BK499 2⟩ (fun hHeld=>?_)
    clear hK K
    refine nm ?_
    refine one_ (i:=9) (N:=some 33) #[true,true,true,true,true,true,true,true,true,true,true,true,true,true,false,false,false,false] rfl rfl (one_of HT_.out (by kernel_rfl)) (by decide) (fun K hK=>?_)
    refine goes_ func149 (by kernel_rfl) rfl #[.slice A1_1 l1_1.length c1_1,.slice A0_2 l0_2.length c0_2] (by rfl) rfl rfl zm ?_
    with_reducible refine (nat_Mul.calls kj2 _ _ l1_1 _ _ l0_2 t506 _ ?side1 ?side2 ?side3 ?side4 A25.out).mono ?_
    (case side1=>exact zr HO_500001)
    (case side2=>exact zk HO_500001)
    (case side3=>exact zr HO_499002)
    (case side4=>exact zk HO_499002)
    rintro e w29 ⟨v507,rfl,ho0,hb⟩
    refine ⟨_,rfl,?_⟩
    replace HO_5:=yV HO_5 hb
    replace HO_6:=yV HO_6 hb
    replace HO_7:=yV HO_7 hb
    replace HO_499001:=yV HO_499001 hb
    replace HO_499002:=yV HO_499002 hb
    replace HO_500001:=yV HO_500001 hb
    replace HO505:=yV HO505 hb
    have HO508:=yL (fun k_=>((P0_1_ k_∨P0_2_ k_∨P1_1_ k_)∨w.heap.size≤k_)∧k_≠gb498∧k_≠gb499∧k_≠gb500) ho0 (fun k_ hk_=>⟨(.inr (Nat.le_trans bs hk_)),(zf BK498 hk_),(zf BK499 hk_),(zf BK500 hk_)⟩)
    replace BK498:=sK BK498 hb
    replace BK499:=sK BK499 hb
    replace BK500:=sK BK500 hb
    replace HB:=sB hb
    clear hb ho0
    refine hK.out _ _ ⟨zh BK498 0,zh BK498 1,zh BK498 2,zh BK499 0,zh BK499 1,zh BK499 2⟩ (fun hHeld=>?_)
    clear hK K
    refine nm ?_
    refine one_ (i:=14) (N:=some 38) #[true,true,true,true,true,true,true,true,true,true,true,true,true,true,true,false,false,false] rfl rfl (one_of HT_.out (by kernel_rfl)) (by decide) (fun K hK=>?_)
    refine goes_ func149 (by kernel_rfl) rfl #[.slice A0_2 l0_2.length c0_2,.slice A1_2 l1_2.length c1_2] (by rfl) rfl rfl zm ?_
    with_reducible refine (nat_Mul.calls kj2 _ _ l0_2 _ _ l1_2 t509 _ ?side1 ?side2 ?side3 ?side4 A26.out).mono ?_
    (case side1=>exact zr HO_499002)
    (case side2=>exact zk HO_499002)
    (case side3=>exact zC (Kd.C_below HR1_2.out HB.out))
    (case side4=>exact HC1_2.out)
    rintro e w30 ⟨v510,rfl,ho0,hb⟩
    refine ⟨_,rfl,?_⟩
    replace HO_5:=yV HO_5 hb
    replace HO_6:=yV HO_6 hb
    replace HO_7:=yV HO_7 hb
    replace HO_499001:=yV HO_499001 hb
    replace HO_499002:=yV HO_499002 hb
    replace HO_500001:=yV HO_500001 hb
    replace HO505:=yV HO505 hb
    replace HO508:=yV HO508 hb
    have HO511:=yL (fun k_=>((P0_1_ k_∨P0_2_ k_∨P1_1_ k_)∨w.heap.size≤k_)∧k_≠gb498∧k_≠gb499∧k_≠gb500) ho0 (fun k_ hk_=>⟨(.inr (Nat.le_trans bs hk_)),(zf BK498 hk_),(zf BK499 hk_),(zf BK500 hk_)⟩)
    replace BK498:=sK BK498 hb
    replace BK499:=sK BK499 hb
    replace BK500:=sK BK500 hb
    replace HB:=sB hb
    clear hb ho0
    refine hK.out _ _ ⟨zh BK498 0,zh BK498 1,zh BK498 2,zh BK499 0,zh BK499 1,zh BK499 2⟩ (fun hHeld=>?_)
    clear hK K
    refine nm ?_
    refine pu 15 (some 5) HT_ ?_
    refine pu 16 (some 6) HT_ ?_
    refine pu 17 (some 7) HT_ ?_
    refine done_ (done_of HT_.out (by kernel_rfl)) ?_
    try go_wp2
    go_meet
    case rel=>exact ⟨_,(t503),(t506),(t509),H',⟨by have:=HJ2.out;first|omega|exact Nat.le_refl _⟩,⟨zV HO505⟩,⟨zV HO508⟩,⟨zV HO511⟩,⟨zV HO_499001⟩,⟨zV HO_499002⟩,⟨zV HO_500001⟩,⟨zb BK498⟩,⟨zb BK499⟩,⟨zb BK500⟩,⟨bw⟩⟩
   case rest =>
    clear HC22
    try clear c1
    try clear c2
    try clear c8
    try clear c9
    try clear c10
    try clear c11
    try clear c12
    try clear c14
    try clear c15
    try clear c17
    try clear c19
    try clear c20
    try clear c23
    try clear hcz10_0
    try clear hcz10_1
    try clear hcz10_2
    try clear hcz16_0
    try clear hcz16_1
    try clear hcz16_2
    try clear hcz18_0
    try clear hcz18_1
    try clear hcz18_2
    try clear hcz21_0
    try clear hcz21_1
    try clear hcz21_2
    try clear hfz10_0
    try clear hfz10_1
    try clear hfz10_2
    try clear hfz16_0
    try clear hfz16_1
    try clear hfz16_2
    try clear hfz18_0
    try clear hfz18_1
    try clear hfz18_2
    try clear hfz21_0
    try clear hfz21_1
    try clear hfz21_2
    obtain ⟨kq,x5_21,x6_21,x7_21,HA,HJ21,HO_5,HO_6,HO_7,HO_499001,HO_499002,HO_500001,BK498,BK499,BK500,HB⟩:=hcut
    cases kq with
    | zero=>exact absurd HA.out (by simp [frac_Add.j1])
    | succ kj21 =>
     have H:=HA.out
     clear HA
     simp only [frac_Add.j1] at H
     by_cases c31:(a0_0==a1_0)=true
     case neg=>
      rw [if_neg c31] at H
      have c31b0:(a0_0==a1_0)=false:=by simpa using c31
      (try (have c31b1:decide (a0_0=a1_0)=false:=by simpa using c31))
      (try (have c31b2:(a0_0==a1_0)=false:=by simpa using c31))
      (try (have c31b3:¬ (a0_0=a1_0):=by simpa using c31))
      clear c31
      obtain ⟨t522,A51,H⟩:=zB H
      by_cases c52:t522≥0
      case neg=>
       rw [if_neg c52] at H
       have c52b0:=decide_eq_false c52
       clear c52
       obtain ⟨t533,A72,H⟩:=zB H
       obtain ⟨⟨t536,t537,t540⟩,A73,H⟩:=zB H
       (try dsimp only at H)
       simp only [Option.some.injEq,Prod.mk.injEq] at H
       obtain ⟨rfl,rfl,rfl⟩:=H
       have hnb74:=NB498_499.out
       have hnc74:=NB499_498.out
       have hnb75:=NB498_500.out
       have hnc75:=NB500_498.out
       have hcz76_0:wc.cell? ⟨gb498,0,none⟩=some (.bool a0_0):=(blk_cell BK498.out 0).trans rfl
       have hcz76_1:wc.cell? ⟨gb498,1,none⟩=some (.slice A0_1 l0_1.length c0_1):=(blk_cell BK498.out 1).trans rfl
       have hcz76_2:wc.cell? ⟨gb498,2,none⟩=some (.slice A0_2 l0_2.length c0_2):=(blk_cell BK498.out 2).trans rfl
       have hfz76_0:=blk_frozen BK498.out 0
       have hfz76_1:=blk_frozen BK498.out 1
       have hfz76_2:=blk_frozen BK498.out 2
       have hnb77:=NB499_500.out
       have hnc77:=NB500_499.out
       have hcz78_0:wc.cell? ⟨gb499,0,none⟩=some (.bool a1_0):=(blk_cell BK499.out 0).trans rfl
       have hcz78_1:wc.cell? ⟨gb499,1,none⟩=some (.slice A1_1 l1_1.length c1_1):=(blk_cell BK499.out 1).trans rfl
       have hcz78_2:wc.cell? ⟨gb499,2,none⟩=some (.slice A1_2 l1_2.length c1_2):=(blk_cell BK499.out 2).trans rfl
       have hfz78_0:=blk_frozen BK499.out 0
       have hfz78_1:=blk_frozen BK499.out 1
       have hfz78_2:=blk_frozen BK499.out 2
       obtain ⟨Ao79,co79,rfl⟩:=Kd.V_slice HO_5.out
       obtain ⟨Ao80,co80,rfl⟩:=Kd.V_slice HO_6.out
       try go_wp2_with (first|(refine zg (some 55) func153 #[.slice Ao79 x5_21.length co79,.slice Ao80 x6_21.length co80] ?_;(with_reducible refine (nat_Cmp.calls kj21 _ _ x5_21 _ _ x6_21 t522 _ ?side1 ?side2 ?side3 ?side4 A51.out).mono ?_);(case side1=>exact zr HO_5);(case side2=>exact zk HO_5);(case side3=>exact zr HO_6);(case side4=>exact zk HO_6);rintro e w' ⟨rfl,⟨nd,rfl⟩⟩;refine ⟨_,rfl,?_⟩;(try (rw [drewN_self wc];generalize hq_:World.drewN wc _=wc;have n0_:Aside0 (Kd.V (Kd.int .u32) 97 wc w.heap.size (fun k_=>((P0_1_ k_∨P0_2_ k_∨P1_1_ k_)∨w.heap.size≤k_)∧k_≠gb498∧k_≠gb499∧k_≠gb500) (.slice A0_1 l0_1.length c0_1) l0_1):=⟨by rw [← hq_];exact (zV HO_499001)⟩;have n1_:Aside0 (Kd.V (Kd.int .u32) 97 wc w.heap.size (fun k_=>((P0_1_ k_∨P0_2_ k_∨P1_1_ k_)∨w.heap.size≤k_)∧k_≠gb498∧k_≠gb499∧k_≠gb500) (.slice A0_2 l0_2.length c0_2) l0_2):=⟨by rw [← hq_];exact (zV HO_499002)⟩;have n2_:Aside0 (Kd.V (Kd.int .u32) 97 wc w.heap.size (fun k_=>((P0_1_ k_∨P0_2_ k_∨P1_1_ k_)∨w.heap.size≤k_)∧k_≠gb498∧k_≠gb499∧k_≠gb500) (.slice Ao79 x5_21.length co79) x5_21):=⟨by rw [← hq_];exact (zV HO_5)⟩;have n3_:Aside0 (Kd.V (Kd.int .u32) 97 wc w.heap.size (fun k_=>((P0_1_ k_∨P0_2_ k_∨P1_1_ k_)∨w.heap.size≤k_)∧k_≠gb498∧k_≠gb499∧k_≠gb500) (.slice A1_1 l1_1.length c1_1) l1_1):=⟨by rw [← hq_];exact (zV HO_500001)⟩;have n4_:Aside0 (Kd.V (Kd.int .u32) 97 wc w.heap.size (fun k_=>((P0_1_ k_∨P0_2_ k_∨P1_1_ k_)∨w.heap.size≤k_)∧k_≠gb498∧k_≠gb499∧k_≠gb500) (.slice Ao80 x6_21.length co80) x6_21):=⟨by rw [← hq_];exact (zV HO_6)⟩;have n5_:Aside0 (Kd.V (Kd.int .u32) 97 wc w.heap.size (fun k_=>((P0_1_ k_∨P0_2_ k_∨P1_1_ k_)∨w.heap.size≤k_)∧k_≠gb498∧k_≠gb499∧k_≠gb500) u7 x7_21):=⟨by rw [← hq_];exact (zV HO_7)⟩;have n6_:Aside0 (wc.heap[gb498]? = some (.cells #[.bool a0_0,.slice A0_1 l0_1.length c0_1,.slice A0_2 l0_2.length c0_2] 103 (0,0))):=⟨by rw [← hq_];exact (zb BK498)⟩;have n7_:Aside0 (wc.heap[gb499]? = some (.cells #[.bool a1_0,.slice A1_1 l1_1.length c1_1,.slice A1_2 l1_2.length c1_2] 103 (0,0))):=⟨by rw [← hq_];exact (zb BK499)⟩;have n8_:Aside0 (wc.heap[gb500]? = some (.cells #[.bool false,.slice none 0 0,.slice none 0 0] 103 (0,0))):=⟨by rw [← hq_];exact (zb BK500)⟩;have n9_:Aside0 (Below w.heap.size w wc):=⟨by rw [← hq_];exact bw⟩;clear HO_499001 HO_499002 HO_5 HO_500001 HO_6 HO_7 BK498 BK499 BK500 HB hq_;have HO_499001:=n0_;have HO_499002:=n1_;have HO_5:=n2_;have HO_500001:=n3_;have HO_6:=n4_;have HO_7:=n5_;have BK498:=n6_;have BK499:=n7_;have BK500:=n8_;have HB:=n9_;clear n0_ n1_ n2_ n3_ n4_ n5_ n6_ n7_ n8_ n9_))))
       replace HO_5:=aZ (Kd.V_drew HO_5.out)
       replace HO_6:=aZ (Kd.V_drew HO_6.out)
       replace HO_7:=aZ (Kd.V_drew HO_7.out)
       replace HO_499001:=aZ (Kd.V_drew HO_499001.out)
       replace HO_499002:=aZ (Kd.V_drew HO_499002.out)
       replace HO_500001:=aZ (Kd.V_drew HO_500001.out)
       replace BK498:=aZ (blk_drew BK498.out)
       replace BK499:=aZ (blk_drew BK499.out)
       replace BK500:=aZ (blk_drew BK500.out)
       replace HB:=aZ (below_drew1 HB.out)
       refine start_ (n:=8) (S:=fun w'=>w'.cell? ⟨gb499,0,none⟩=some (.bool a1_0)∧w'.cell? ⟨gb499,1,none⟩=some (.slice A1_1 l1_1.length c1_1)∧w'.cell? ⟨gb499,2,none⟩=some (.slice A1_2 l1_2.length c1_2)) (ds:=[]) #[false,false,false,false,false,false,false,false] (by kernel_rfl) rfl rfl ⟨zh BK499 0,zh BK499 1,zh BK499 2⟩ (fun hHeld=>?_);refine with_tabW frac_Add.tab9 frac_Add.bits9 (fun HT_ HW_=>?_)
       generalize wc.drew=w81 at HO_5 HO_6 HO_7 HO_499001 HO_499002 HO_500001 BK498 BK499 BK500 HB hHeld ⊢
       refine pu 0 (some 64) HT_ ?_
       refine pu 2 (some 66) HT_ ?_
       refine pu 3 (some 67) HT_ ?_
       refine pu 5 (some 69) HT_ ?_
       refine tk 1 (some 65) HT_ HW_ hHeld ?_
       refine one_ (i:=4) (N:=some 68) #[true,true,true,true,true,true,false,false] rfl rfl (one_of HT_.out (by kernel_rfl)) (by decide) (fun K hK=>?_)
       refine goes_ func154 (by kernel_rfl) rfl #[.slice Ao80 x6_21.length co80,.slice Ao79 x5_21.length co79] (by rfl) rfl rfl zm ?_
       with_reducible refine (nat_Sub.calls kj21 _ _ x6_21 _ _ x5_21 t533 _ ?side1 ?side2 ?side3 ?side4 A72.out).mono ?_
       (case side1=>exact zr HO_6)
       (case side2=>exact zk HO_6)
       (case side3=>exact zr HO_5)
       (case side4=>exact zk HO_5)
       rintro e w82 ⟨v534,rfl,ho0,hb⟩
       refine ⟨_,rfl,?_⟩
       replace HO_5:=yV HO_5 hb
       replace HO_6:=yV HO_6 hb
       replace HO_7:=yV HO_7 hb
       replace HO_499001:=yV HO_499001 hb
       replace HO_499002:=yV HO_499002 hb
       replace HO_500001:=yV HO_500001 hb
       have HO535:=yL (fun k_=>((P0_1_ k_∨P0_2_ k_∨P1_1_ k_)∨w.heap.size≤k_)∧k_≠gb498∧k_≠gb499∧k_≠gb500) ho0 (fun k_ hk_=>⟨(.inr (Nat.le_trans bs hk_)),(zf BK498 hk_),(zf BK499 hk_),(zf BK500 hk_)⟩)
       replace BK498:=sK BK498 hb
       replace BK499:=sK BK499 hb
       replace BK500:=sK BK500 hb
       replace HB:=sB hb
       clear hb ho0
       obtain ⟨Ao83,co83,eo83⟩:=Kd.V_slice HO535.out
       (first|subst eo83|(injection eo83 with f1_ f2_ f3_;have f4_:=f1_.symm;have f5_:=f3_.symm;clear f1_ f2_ f3_;subst f4_;subst f5_))
       obtain ⟨Ao84,co84,eo84⟩:=Kd.V_slice HO_7.out
       (first|subst eo84|(injection eo84 with f1_ f2_ f3_;have f4_:=f1_.symm;have f5_:=f3_.symm;clear f1_ f2_ f3_;subst f4_;subst f5_))
       refine hK.out _ _ ⟨zh BK499 0,zh BK499 1,zh BK499 2⟩ (fun hHeld=>?_)
       clear hK K
       refine nm ?_
       refine one_ (i:=6) (N:=some 70) #[true,true,true,true,true,true,true,false] rfl rfl (one_of HT_.out (by kernel_rfl)) (by decide) (fun K hK=>?_)
       refine goes_ func148 (by kernel_rfl) rfl #[.bool a1_0,.slice Ao83 t533.length co83,.slice Ao84 x7_21.length co84] (by rfl) rfl rfl zm ?_
       with_reducible refine (frac_Reduced.calls kj21 a1_0 (fun k_=>(((P0_1_ k_∨P0_2_ k_∨P1_1_ k_)∨w.heap.size≤k_)∧(k_≠gb498∧(k_≠gb499∧k_≠gb500)))) _ _ t533 (fun k_=>(((P0_1_ k_∨P0_2_ k_∨P1_1_ k_)∨w.heap.size≤k_)∧(k_≠gb498∧(k_≠gb499∧k_≠gb500)))) _ _ x7_21 t536 t537 t540 _ ?side1 ?side2 A73.out).mono ?_
       (case side1=>exact HO535.out)
       (case side2=>exact HO_7.out)
       rintro e w85 ⟨v538,v541,rfl,ho0,ho1,hb⟩
       refine ⟨_,rfl,?_⟩
       replace HO_5:=yV HO_5 hb
       replace HO_6:=yV HO_6 hb
       replace HO_7:=yV HO_7 hb
       replace HO_499001:=yV HO_499001 hb
       replace HO_499002:=yV HO_499002 hb
       replace HO_500001:=yV HO_500001 hb
       replace HO535:=yV HO535 hb
       have HO539:=yL (fun k_=>((P0_1_ k_∨P0_2_ k_∨P1_1_ k_)∨w.heap.size≤k_)∧k_≠gb498∧k_≠gb499∧k_≠gb500) ho0 (fun k_ hk_=>⟨Or.elim hk_ (fun hs_=>Or.elim hs_ (fun hs_=>hs_.1) (fun hs_=>hs_.1)) (fun hn_=>(.inr (Nat.le_trans bs hn_))),Or.elim hk_ (fun hs_=>Or.elim hs_ (fun hs_=>hs_.2.1) (fun hs_=>hs_.2.1)) (fun hn_=>(zf BK498 hn_)),Or.elim hk_ (fun hs_=>Or.elim hs_ (fun hs_=>hs_.2.2.1) (fun hs_=>hs_.2.2.1)) (fun hn_=>(zf BK499 hn_)),Or.elim hk_ (fun hs_=>Or.elim hs_ (fun hs_=>hs_.2.2.2) (fun hs_=>hs_.2.2.2)) (fun hn_=>(zf BK500 hn_))⟩)
       have HO542:=yL (fun k_=>((P0_1_ k_∨P0_2_ k_∨P1_1_ k_)∨w.heap.size≤k_)∧k_≠gb498∧k_≠gb499∧k_≠gb500) ho1 (fun k_ hk_=>⟨Or.elim hk_ (fun hs_=>Or.elim hs_ (fun hs_=>hs_.1) (fun hs_=>hs_.1)) (fun hn_=>(.inr (Nat.le_trans bs hn_))),Or.elim hk_ (fun hs_=>Or.elim hs_ (fun hs_=>hs_.2.1) (fun hs_=>hs_.2.1)) (fun hn_=>(zf BK498 hn_)),Or.elim hk_ (fun hs_=>Or.elim hs_ (fun hs_=>hs_.2.2.1) (fun hs_=>hs_.2.2.1)) (fun hn_=>(zf BK499 hn_)),Or.elim hk_ (fun hs_=>Or.elim hs_ (fun hs_=>hs_.2.2.2) (fun hs_=>hs_.2.2.2)) (fun hn_=>(zf BK500 hn_))⟩)
       replace BK498:=sK BK498 hb
       replace BK499:=sK BK499 hb
       replace BK500:=sK BK500 hb
       replace HB:=sB hb
       clear hb ho0 ho1
       obtain ⟨Ao87,co87,eo87⟩:=Kd.V_slice HO539.out
       (first|subst eo87|(injection eo87 with f1_ f2_ f3_;have f4_:=f1_.symm;have f5_:=f3_.symm;clear f1_ f2_ f3_;subst f4_;subst f5_))
       obtain ⟨Ao89,co89,eo89⟩:=Kd.V_slice HO542.out
       (first|subst eo89|(injection eo89 with f1_ f2_ f3_;have f4_:=f1_.symm;have f5_:=f3_.symm;clear f1_ f2_ f3_;subst f4_;subst f5_))
       refine hK.out _ _ ⟨zh BK499 0,zh BK499 1,zh BK499 2⟩ (fun hHeld=>?_)
       clear hK K
       refine nm ?_
       refine one_ (i:=7) (N:=none) #[true,true,true,true,true,true,true,true] rfl rfl (one_of HT_.out (by kernel_rfl)) (by decide) (fun K hK=>?_)
       have hs86:w85.cell? ⟨gb500,0,none⟩=some (.bool false):=(blk_cell BK500.out 0).trans rfl
       have hfs86:=blk_frozen BK500.out 0
       have hns86_0:=NB498_500.out
       have hns86_1:=NB499_500.out
       have hms86_0:=NB500_498.out
       have hms86_1:=NB500_499.out
       have hs88:w85.cell? ⟨gb500,1,none⟩=some (.slice none 0 0):=(blk_cell BK500.out 1).trans rfl
       have hfs88:=blk_frozen BK500.out 1
       have hns88_0:=NB498_500.out
       have hns88_1:=NB499_500.out
       have hms88_0:=NB500_498.out
       have hms88_1:=NB500_499.out
       have hs90:w85.cell? ⟨gb500,2,none⟩=some (.slice none 0 0):=(blk_cell BK500.out 2).trans rfl
       have hfs90:=blk_frozen BK500.out 2
       have hns90_0:=NB498_500.out
       have hns90_1:=NB499_500.out
       have hms90_0:=NB500_498.out
       have hms90_1:=NB500_499.out
       refine skip_ (w1:=?_) (by rfl) rfl ?_ ?_
       rotate_left
       ·go_simp
        rfl
       refine hK.out _ _ ⟨((cell_far (p:=⟨gb500,_,none⟩) NB499_500.out _).trans (((cell_far (p:=⟨gb500,_,none⟩) NB499_500.out _).trans (((cell_far (p:=⟨gb500,_,none⟩) NB499_500.out _).trans (hHeld.1)))))),((cell_far (p:=⟨gb500,_,none⟩) NB499_500.out _).trans (((cell_far (p:=⟨gb500,_,none⟩) NB499_500.out _).trans (((cell_far (p:=⟨gb500,_,none⟩) NB499_500.out _).trans (hHeld.2.1)))))),((cell_far (p:=⟨gb500,_,none⟩) NB499_500.out _).trans (((cell_far (p:=⟨gb500,_,none⟩) NB499_500.out _).trans (((cell_far (p:=⟨gb500,_,none⟩) NB499_500.out _).trans (hHeld.2.2))))))⟩ (fun hHeld=>?_)
       clear hK K
       refine done_ (done_of HT_.out (by kernel_rfl)) ?_
       try go_wp2
       refine bodyPost_ret (results_cell_row rfl _ _ gb500 103 #[.bool t536,.slice Ao87 t537.length co87,.slice Ao89 t540.length co89] (0,0) _ rfl (zp BK500) underlying103 rfl (by kernel_rfl)) rfl ?_
       exact ⟨_,_,ze,zF HO539,zF HO542,bw⟩
      rw [if_pos c52] at H
      have c52b0:=decide_eq_true c52
      clear c52
      obtain ⟨t523,A53,H⟩:=zB H
      obtain ⟨⟨t526,t527,t530⟩,A54,H⟩:=zB H
      (try dsimp only at H)
      simp only [Option.some.injEq,Prod.mk.injEq] at H
      obtain ⟨rfl,rfl,rfl⟩:=H
      have hnb55:=NB498_499.out
      have hnc55:=NB499_498.out
      have hnb56:=NB498_500.out
      have hnc56:=NB500_498.out
      have hcz57_0:wc.cell? ⟨gb498,0,none⟩=some (.bool a0_0):=(blk_cell BK498.out 0).trans rfl
      have hcz57_1:wc.cell? ⟨gb498,1,none⟩=some (.slice A0_1 l0_1.length c0_1):=(blk_cell BK498.out 1).trans rfl
      have hcz57_2:wc.cell? ⟨gb498,2,none⟩=some (.slice A0_2 l0_2.length c0_2):=(blk_cell BK498.out 2).trans rfl
      have hfz57_0:=blk_frozen BK498.out 0
      have hfz57_1:=blk_frozen BK498.out 1
      have hfz57_2:=blk_frozen BK498.out 2
      have hnb58:=NB499_500.out
      have hnc58:=NB500_499.out
      have hcz59_0:wc.cell? ⟨gb499,0,none⟩=some (.bool a1_0):=(blk_cell BK499.out 0).trans rfl
      have hcz59_1:wc.cell? ⟨gb499,1,none⟩=some (.slice A1_1 l1_1.length c1_1):=(blk_cell BK499.out 1).trans rfl
      have hcz59_2:wc.cell? ⟨gb499,2,none⟩=some (.slice A1_2 l1_2.length c1_2):=(blk_cell BK499.out 2).trans rfl
      have hfz59_0:=blk_frozen BK499.out 0
      have hfz59_1:=blk_frozen BK499.out 1
      have hfz59_2:=blk_frozen BK499.out 2
      obtain ⟨Ao60,co60,rfl⟩:=Kd.V_slice HO_5.out
      obtain ⟨Ao61,co61,rfl⟩:=Kd.V_slice HO_6.out
      try go_wp2_with (first|(refine zg (some 55) func153 #[.slice Ao60 x5_21.length co60,.slice Ao61 x6_21.length co61] ?_;(with_reducible refine (nat_Cmp.calls kj21 _ _ x5_21 _ _ x6_21 t522 _ ?side1 ?side2 ?side3 ?side4 A51.out).mono ?_);(case side1=>exact zr HO_5);(case side2=>exact zk HO_5);(case side3=>exact zr HO_6);(case side4=>exact zk HO_6);rintro e w' ⟨rfl,⟨nd,rfl⟩⟩;refine ⟨_,rfl,?_⟩;(try (rw [drewN_self wc];generalize hq_:World.drewN wc _=wc;have n0_:Aside0 (Kd.V (Kd.int .u32) 97 wc w.heap.size (fun k_=>((P0_1_ k_∨P0_2_ k_∨P1_1_ k_)∨w.heap.size≤k_)∧k_≠gb498∧k_≠gb499∧k_≠gb500) (.slice A0_1 l0_1.length c0_1) l0_1):=⟨by rw [← hq_];exact (zV HO_499001)⟩;have n1_:Aside0 (Kd.V (Kd.int .u32) 97 wc w.heap.size (fun k_=>((P0_1_ k_∨P0_2_ k_∨P1_1_ k_)∨w.heap.size≤k_)∧k_≠gb498∧k_≠gb499∧k_≠gb500) (.slice A0_2 l0_2.length c0_2) l0_2):=⟨by rw [← hq_];exact (zV HO_499002)⟩;have n2_:Aside0 (Kd.V (Kd.int .u32) 97 wc w.heap.size (fun k_=>((P0_1_ k_∨P0_2_ k_∨P1_1_ k_)∨w.heap.size≤k_)∧k_≠gb498∧k_≠gb499∧k_≠gb500) (.slice Ao60 x5_21.length co60) x5_21):=⟨by rw [← hq_];exact (zV HO_5)⟩;have n3_:Aside0 (Kd.V (Kd.int .u32) 97 wc w.heap.size (fun k_=>((P0_1_ k_∨P0_2_ k_∨P1_1_ k_)∨w.heap.size≤k_)∧k_≠gb498∧k_≠gb499∧k_≠gb500) (.slice A1_1 l1_1.length c1_1) l1_1):=⟨by rw [← hq_];exact (zV HO_500001)⟩;have n4_:Aside0 (Kd.V (Kd.int .u32) 97 wc w.heap.size (fun k_=>((P0_1_ k_∨P0_2_ k_∨P1_1_ k_)∨w.heap.size≤k_)∧k_≠gb498∧k_≠gb499∧k_≠gb500) (.slice Ao61 x6_21.length co61) x6_21):=⟨by rw [← hq_];exact (zV HO_6)⟩;have n5_:Aside0 (Kd.V (Kd.int .u32) 97 wc w.heap.size (fun k_=>((P0_1_ k_∨P0_2_ k_∨P1_1_ k_)∨w.heap.size≤k_)∧k_≠gb498∧k_≠gb499∧k_≠gb500) u7 x7_21):=⟨by rw [← hq_];exact (zV HO_7)⟩;have n6_:Aside0 (wc.heap[gb498]? = some (.cells #[.bool a0_0,.slice A0_1 l0_1.length c0_1,.slice A0_2 l0_2.length c0_2] 103 (0,0))):=⟨by rw [← hq_];exact (zb BK498)⟩;have n7_:Aside0 (wc.heap[gb499]? = some (.cells #[.bool a1_0,.slice A1_1 l1_1.length c1_1,.slice A1_2 l1_2.length c1_2] 103 (0,0))):=⟨by rw [← hq_];exact (zb BK499)⟩;have n8_:Aside0 (wc.heap[gb500]? = some (.cells #[.bool false,.slice none 0 0,.slice none 0 0] 103 (0,0))):=⟨by rw [← hq_];exact (zb BK500)⟩;have n9_:Aside0 (Below w.heap.size w wc):=⟨by rw [← hq_];exact bw⟩;clear HO_499001 HO_499002 HO_5 HO_500001 HO_6 HO_7 BK498 BK499 BK500 HB hq_;have HO_499001:=n0_;have HO_499002:=n1_;have HO_5:=n2_;have HO_500001:=n3_;have HO_6:=n4_;have HO_7:=n5_;have BK498:=n6_;have BK499:=n7_;have BK500:=n8_;have HB:=n9_;clear n0_ n1_ n2_ n3_ n4_ n5_ n6_ n7_ n8_ n9_))))
      replace HO_5:=aZ (Kd.V_drew HO_5.out)
      replace HO_6:=aZ (Kd.V_drew HO_6.out)
      replace HO_7:=aZ (Kd.V_drew HO_7.out)
      replace HO_499001:=aZ (Kd.V_drew HO_499001.out)
      replace HO_499002:=aZ (Kd.V_drew HO_499002.out)
      replace HO_500001:=aZ (Kd.V_drew HO_500001.out)
      replace BK498:=aZ (blk_drew BK498.out)
      replace BK499:=aZ (blk_drew BK499.out)
      replace BK500:=aZ (blk_drew BK500.out)
      replace HB:=aZ (below_drew1 HB.out)
      refine start_ (n:=8) (S:=fun w'=>w'.cell? ⟨gb498,0,none⟩=some (.bool a0_0)∧w'.cell? ⟨gb498,1,none⟩=some (.slice A0_1 l0_1.length c0_1)∧w'.cell? ⟨gb498,2,none⟩=some (.slice A0_2 l0_2.length c0_2)) (ds:=[]) #[false,false,false,false,false,false,false,false] (by kernel_rfl) rfl rfl ⟨zh BK498 0,zh BK498 1,zh BK498 2⟩ (fun hHeld=>?_);refine with_tabW frac_Add.tab8 frac_Add.bits8 (fun HT_ HW_=>?_)
      generalize wc.drew=w62 at HO_5 HO_6 HO_7 HO_499001 HO_499002 HO_500001 BK498 BK499 BK500 HB hHeld ⊢
      refine pu 0 (some 57) HT_ ?_
      refine pu 2 (some 59) HT_ ?_
      refine pu 3 (some 60) HT_ ?_
      refine pu 5 (some 62) HT_ ?_
      refine tk 1 (some 58) HT_ HW_ hHeld ?_
      refine one_ (i:=4) (N:=some 61) #[true,true,true,true,true,true,false,false] rfl rfl (one_of HT_.out (by kernel_rfl)) (by decide) (fun K hK=>?_)
      refine goes_ func154 (by kernel_rfl) rfl #[.slice Ao60 x5_21.length co60,.slice Ao61 x6_21.length co61] (by rfl) rfl rfl zm ?_
      with_reducible refine (nat_Sub.calls kj21 _ _ x5_21 _ _ x6_21 t523 _ ?side1 ?side2 ?side3 ?side4 A53.out).mono ?_
      (case side1=>exact zr HO_5)
      (case side2=>exact zk HO_5)
      (case side3=>exact zr HO_6)
      (case side4=>exact zk HO_6)
      rintro e w63 ⟨v524,rfl,ho0,hb⟩
      refine ⟨_,rfl,?_⟩
      replace HO_5:=yV HO_5 hb
      replace HO_6:=yV HO_6 hb
      replace HO_7:=yV HO_7 hb
      replace HO_499001:=yV HO_499001 hb
      replace HO_499002:=yV HO_499002 hb
      replace HO_500001:=yV HO_500001 hb
      have HO525:=yL (fun k_=>((P0_1_ k_∨P0_2_ k_∨P1_1_ k_)∨w.heap.size≤k_)∧k_≠gb498∧k_≠gb499∧k_≠gb500) ho0 (fun k_ hk_=>⟨(.inr (Nat.le_trans bs hk_)),(zf BK498 hk_),(zf BK499 hk_),(zf BK500 hk_)⟩)
      replace BK498:=sK BK498 hb
      replace BK499:=sK BK499 hb
      replace BK500:=sK BK500 hb
      replace HB:=sB hb
      clear hb ho0
      obtain ⟨Ao64,co64,eo64⟩:=Kd.V_slice HO525.out
      (first|subst eo64|(injection eo64 with f1_ f2_ f3_;have f4_:=f1_.symm;have f5_:=f3_.symm;clear f1_ f2_ f3_;subst f4_;subst f5_))
      obtain ⟨Ao65,co65,eo65⟩:=Kd.V_slice HO_7.out
      (first|subst eo65|(injection eo65 with f1_ f2_ f3_;have f4_:=f1_.symm;have f5_:=f3_.symm;clear f1_ f2_ f3_;subst f4_;subst f5_))
      refine hK.out _ _ ⟨zh BK498 0,zh BK498 1,zh BK498 2⟩ (fun hHeld=>?_)
      clear hK K
      refine nm ?_
      refine one_ (i:=6) (N:=some 63) #[true,true,true,true,true,true,true,false] rfl rfl (one_of HT_.out (by kernel_rfl)) (by decide) (fun K hK=>?_)
      refine goes_ func148 (by kernel_rfl) rfl #[.bool a0_0,.slice Ao64 t523.length co64,.slice Ao65 x7_21.length co65] (by rfl) rfl rfl zm ?_
      with_reducible refine (frac_Reduced.calls kj21 a0_0 (fun k_=>(((P0_1_ k_∨P0_2_ k_∨P1_1_ k_)∨w.heap.size≤k_)∧(k_≠gb498∧(k_≠gb499∧k_≠gb500)))) _ _ t523 (fun k_=>(((P0_1_ k_∨P0_2_ k_∨P1_1_ k_)∨w.heap.size≤k_)∧(k_≠gb498∧(k_≠gb499∧k_≠gb500)))) _ _ x7_21 t526 t527 t530 _ ?side1 ?side2 A54.out).mono ?_
      (case side1=>exact HO525.out)
      (case side2=>exact HO_7.out)
      rintro e w66 ⟨v528,v531,rfl,ho0,ho1,hb⟩
      refine ⟨_,rfl,?_⟩
      replace HO_5:=yV HO_5 hb
      replace HO_6:=yV HO_6 hb
      replace HO_7:=yV HO_7 hb
      replace HO_499001:=yV HO_499001 hb
      replace HO_499002:=yV HO_499002 hb
      replace HO_500001:=yV HO_500001 hb
      replace HO525:=yV HO525 hb
      have HO529:=yL (fun k_=>((P0_1_ k_∨P0_2_ k_∨P1_1_ k_)∨w.heap.size≤k_)∧k_≠gb498∧k_≠gb499∧k_≠gb500) ho0 (fun k_ hk_=>⟨Or.elim hk_ (fun hs_=>Or.elim hs_ (fun hs_=>hs_.1) (fun hs_=>hs_.1)) (fun hn_=>(.inr (Nat.le_trans bs hn_))),Or.elim hk_ (fun hs_=>Or.elim hs_ (fun hs_=>hs_.2.1) (fun hs_=>hs_.2.1)) (fun hn_=>(zf BK498 hn_)),Or.elim hk_ (fun hs_=>Or.elim hs_ (fun hs_=>hs_.2.2.1) (fun hs_=>hs_.2.2.1)) (fun hn_=>(zf BK499 hn_)),Or.elim hk_ (fun hs_=>Or.elim hs_ (fun hs_=>hs_.2.2.2) (fun hs_=>hs_.2.2.2)) (fun hn_=>(zf BK500 hn_))⟩)
      have HO532:=yL (fun k_=>((P0_1_ k_∨P0_2_ k_∨P1_1_ k_)∨w.heap.size≤k_)∧k_≠gb498∧k_≠gb499∧k_≠gb500) ho1 (fun k_ hk_=>⟨Or.elim hk_ (fun hs_=>Or.elim hs_ (fun hs_=>hs_.1) (fun hs_=>hs_.1)) (fun hn_=>(.inr (Nat.le_trans bs hn_))),Or.elim hk_ (fun hs_=>Or.elim hs_ (fun hs_=>hs_.2.1) (fun hs_=>hs_.2.1)) (fun hn_=>(zf BK498 hn_)),Or.elim hk_ (fun hs_=>Or.elim hs_ (fun hs_=>hs_.2.2.1) (fun hs_=>hs_.2.2.1)) (fun hn_=>(zf BK499 hn_)),Or.elim hk_ (fun hs_=>Or.elim hs_ (fun hs_=>hs_.2.2.2) (fun hs_=>hs_.2.2.2)) (fun hn_=>(zf BK500 hn_))⟩)
      replace BK498:=sK BK498 hb
      replace BK499:=sK BK499 hb
      replace BK500:=sK BK500 hb
      replace HB:=sB hb
      clear hb ho0 ho1
      obtain ⟨Ao68,co68,eo68⟩:=Kd.V_slice HO529.out
      (first|subst eo68|(injection eo68 with f1_ f2_ f3_;have f4_:=f1_.symm;have f5_:=f3_.symm;clear f1_ f2_ f3_;subst f4_;subst f5_))
      obtain ⟨Ao70,co70,eo70⟩:=Kd.V_slice HO532.out
      (first|subst eo70|(injection eo70 with f1_ f2_ f3_;have f4_:=f1_.symm;have f5_:=f3_.symm;clear f1_ f2_ f3_;subst f4_;subst f5_))
      refine hK.out _ _ ⟨zh BK498 0,zh BK498 1,zh BK498 2⟩ (fun hHeld=>?_)
      clear hK K
      refine nm ?_
      refine one_ (i:=7) (N:=none) #[true,true,true,true,true,true,true,true] rfl rfl (one_of HT_.out (by kernel_rfl)) (by decide) (fun K hK=>?_)
      have hs67:w66.cell? ⟨gb500,0,none⟩=some (.bool false):=(blk_cell BK500.out 0).trans rfl
      have hfs67:=blk_frozen BK500.out 0
      have hns67_0:=NB498_500.out
      have hns67_1:=NB499_500.out
      have hms67_0:=NB500_498.out
      have hms67_1:=NB500_499.out
      have hs69:w66.cell? ⟨gb500,1,none⟩=some (.slice none 0 0):=(blk_cell BK500.out 1).trans rfl
      have hfs69:=blk_frozen BK500.out 1
      have hns69_0:=NB498_500.out
      have hns69_1:=NB499_500.out
      have hms69_0:=NB500_498.out
      have hms69_1:=NB500_499.out
      have hs71:w66.cell? ⟨gb500,2,none⟩=some (.slice none 0 0):=(blk_cell BK500.out 2).trans rfl
      have hfs71:=blk_frozen BK500.out 2
      have hns71_0:=NB498_500.out
      have hns71_1:=NB499_500.out
      have hms71_0:=NB500_498.out
      have hms71_1:=NB500_499.out
      refine skip_ (w1:=?_) (by rfl) rfl ?_ ?_
      rotate_left
      ·go_simp
       rfl
      refine hK.out _ _ ⟨((cell_far (p:=⟨gb500,_,none⟩) NB498_500.out _).trans (((cell_far (p:=⟨gb500,_,none⟩) NB498_500.out _).trans (((cell_far (p:=⟨gb500,_,none⟩) NB498_500.out _).trans (hHeld.1)))))),((cell_far (p:=⟨gb500,_,none⟩) NB498_500.out _).trans (((cell_far (p:=⟨gb500,_,none⟩) NB498_500.out _).trans (((cell_far (p:=⟨gb500,_,none⟩) NB498_500.out _).trans (hHeld.2.1)))))),((cell_far (p:=⟨gb500,_,none⟩) NB498_500.out _).trans (((cell_far (p:=⟨gb500,_,none⟩) NB498_500.out _).trans (((cell_far (p:=⟨gb500,_,none⟩) NB498_500.out _).trans (hHeld.2.2))))))⟩ (fun hHeld=>?_)
      clear hK K
      refine done_ (done_of HT_.out (by kernel_rfl)) ?_
      try go_wp2
      refine bodyPost_ret (results_cell_row rfl _ _ gb500 103 #[.bool t526,.slice Ao68 t527.length co68,.slice Ao70 t530.length co70] (0,0) _ rfl (zp BK500) underlying103 rfl (by kernel_rfl)) rfl ?_
      exact ⟨_,_,ze,zF HO529,zF HO532,bw⟩
     rw [if_pos c31] at H
     have c31b0:(a0_0==a1_0)=true:=c31
     (try (have c31b1:decide (a0_0=a1_0)=true:=by simpa using c31))
     (try (have c31b2:(a0_0==a1_0)=true:=by simpa using c31))
     clear c31
     obtain ⟨t512,A32,H⟩:=zB H
     obtain ⟨⟨t515,t516,t519⟩,A33,H⟩:=zB H
     (try dsimp only at H)
     simp only [Option.some.injEq,Prod.mk.injEq] at H
     obtain ⟨rfl,rfl,rfl⟩:=H
     have hnb34:=NB498_499.out
     have hnc34:=NB499_498.out
     have hnb35:=NB498_500.out
     have hnc35:=NB500_498.out
     have hcz36_0:wc.cell? ⟨gb498,0,none⟩=some (.bool a0_0):=(blk_cell BK498.out 0).trans rfl
     have hcz36_1:wc.cell? ⟨gb498,1,none⟩=some (.slice A0_1 l0_1.length c0_1):=(blk_cell BK498.out 1).trans rfl
     have hcz36_2:wc.cell? ⟨gb498,2,none⟩=some (.slice A0_2 l0_2.length c0_2):=(blk_cell BK498.out 2).trans rfl
     have hfz36_0:=blk_frozen BK498.out 0
     have hfz36_1:=blk_frozen BK498.out 1
     have hfz36_2:=blk_frozen BK498.out 2
     have hnb37:=NB499_500.out
     have hnc37:=NB500_499.out
     have hcz38_0:wc.cell? ⟨gb499,0,none⟩=some (.bool a1_0):=(blk_cell BK499.out 0).trans rfl
     have hcz38_1:wc.cell? ⟨gb499,1,none⟩=some (.slice A1_1 l1_1.length c1_1):=(blk_cell BK499.out 1).trans rfl
     have hcz38_2:wc.cell? ⟨gb499,2,none⟩=some (.slice A1_2 l1_2.length c1_2):=(blk_cell BK499.out 2).trans rfl
     have hfz38_0:=blk_frozen BK499.out 0
     have hfz38_1:=blk_frozen BK499.out 1
     have hfz38_2:=blk_frozen BK499.out 2
     try go_wp2
     replace HO_5:=aZ (Kd.V_drew HO_5.out)
     replace HO_6:=aZ (Kd.V_drew HO_6.out)
     replace HO_7:=aZ (Kd.V_drew HO_7.out)
     replace HO_499001:=aZ (Kd.V_drew HO_499001.out)
     replace HO_499002:=aZ (Kd.V_drew HO_499002.out)
     replace HO_500001:=aZ (Kd.V_drew HO_500001.out)
     replace BK498:=aZ (blk_drew BK498.out)
     replace BK499:=aZ (blk_drew BK499.out)
     replace BK500:=aZ (blk_drew BK500.out)
     replace HB:=aZ (below_drew1 HB.out)
     obtain ⟨Ao40,co40,eo40⟩:=Kd.V_slice HO_5.out
     (first|subst eo40|(injection eo40 with f1_ f2_ f3_;have f4_:=f1_.symm;have f5_:=f3_.symm;clear f1_ f2_ f3_;subst f4_;subst f5_))
     obtain ⟨Ao41,co41,eo41⟩:=Kd.V_slice HO_6.out
     (first|subst eo41|(injection eo41 with f1_ f2_ f3_;have f4_:=f1_.symm;have f5_:=f3_.symm;clear f1_ f2_ f3_;subst f4_;subst f5_))
     refine start_ (n:=8) (S:=fun w'=>w'.cell? ⟨gb498,0,none⟩=some (.bool a0_0)∧w'.cell? ⟨gb498,1,none⟩=some (.slice A0_1 l0_1.length c0_1)∧w'.cell? ⟨gb498,2,none⟩=some (.slice A0_2 l0_2.length c0_2)) (ds:=[]) #[false,false,false,false,false,false,false,false] (by kernel_rfl) rfl rfl ⟨zh BK498 0,zh BK498 1,zh BK498 2⟩ (fun hHeld=>?_);refine with_tabW frac_Add.tab6 frac_Add.bits6 (fun HT_ HW_=>?_)
     generalize wc.drew=w39 at HO_5 HO_6 HO_7 HO_499001 HO_499002 HO_500001 BK498 BK499 BK500 HB hHeld ⊢
     refine pu 0 (some 45) HT_ ?_
     refine pu 2 (some 47) HT_ ?_
     refine pu 3 (some 48) HT_ ?_
     refine pu 5 (some 50) HT_ ?_
     refine tk 1 (some 46) HT_ HW_ hHeld ?_
     refine one_ (i:=4) (N:=some 49) #[true,true,true,true,true,true,false,false] rfl rfl (one_of HT_.out (by kernel_rfl)) (by decide) (fun K hK=>?_)
     refine goes_ func152 (by kernel_rfl) rfl #[.slice Ao40 x5_21.length co40,.slice Ao41 x6_21.length co41] (by rfl) rfl rfl zm ?_
     with_reducible refine (nat_Add.calls kj21 _ _ x5_21 _ _ x6_21 t512 _ ?side1 ?side2 ?side3 ?side4 A32.out).mono ?_
     (case side1=>exact zr HO_5)
     (case side2=>exact zk HO_5)
     (case side3=>exact zr HO_6)
     (case side4=>exact zk HO_6)
     rintro e w42 ⟨v513,rfl,ho0,hb⟩
     refine ⟨_,rfl,?_⟩
     replace HO_5:=aZ (Kd.V_elder' (zV HO_5) (Kd.R_base ho0) hb)
     replace HO_6:=aZ (Kd.V_elder' (zV HO_6) (Kd.R_base ho0) hb)
     replace HO_7:=aZ (Kd.V_elder' (zV HO_7) (Kd.R_base ho0) hb)
     replace HO_499001:=aZ (Kd.V_elder' (zV HO_499001) (Kd.R_base ho0) hb)
     replace HO_499002:=aZ (Kd.V_elder' (zV HO_499002) (Kd.R_base ho0) hb)
     replace HO_500001:=aZ (Kd.V_elder' (zV HO_500001) (Kd.R_base ho0) hb)
     have HO514:=aZ (Kd.R_lower (Kd.R_newM (M:=fun k_=>(w.heap.size≤k_)) ho0 bs (fun k_ h_=>h_)) bs)
     replace BK498:=sK BK498 hb
     replace BK499:=sK BK499 hb
     replace BK500:=sK BK500 hb
     replace HB:=sB hb
     clear hb ho0
     obtain ⟨Ao43,co43,eo43⟩:=Kd.R_slice HO514.out
     (first|subst eo43|(injection eo43 with f1_ f2_ f3_;have f4_:=f1_.symm;have f5_:=f3_.symm;clear f1_ f2_ f3_;subst f4_;subst f5_))
     obtain ⟨Ao44,co44,eo44⟩:=Kd.V_slice HO_7.out
     (first|subst eo44|(injection eo44 with f1_ f2_ f3_;have f4_:=f1_.symm;have f5_:=f3_.symm;clear f1_ f2_ f3_;subst f4_;subst f5_))
     refine hK.out _ _ ⟨zh BK498 0,zh BK498 1,zh BK498 2⟩ (fun hHeld=>?_)
     clear hK K
     refine nm ?_
     refine one_ (i:=6) (N:=some 51) #[true,true,true,true,true,true,true,false] rfl rfl (one_of HT_.out (by kernel_rfl)) (by decide) (fun K hK=>?_)
     refine goes_ func148 (by kernel_rfl) rfl #[.bool a0_0,.slice Ao43 t512.length co43,.slice Ao44 x7_21.length co44] (by rfl) rfl rfl zm ?_
     with_reducible refine (frac_Reduced.calls kj21 a0_0 (fun k_=>some k_=(.slice Ao43 t512.length co43:Value).ownBlock) _ _ t512 (fun k_=>((((P0_1_ k_∨P0_2_ k_∨P1_1_ k_)∨w.heap.size≤k_)∧(k_≠gb498∧(k_≠gb499∧k_≠gb500)))∧some k_≠(.slice Ao43 t512.length co43:Value).ownBlock)) _ _ x7_21 t515 t516 t519 _ ?side1 ?side2 A33.out).mono ?_
     (case side1=>exact Kd.R_V (Kd.R_tight rfl (Kd.R_types (Kd.R_types (Kd.R_types (HO514.out) BK498.out (by decide)) BK499.out (by decide)) BK500.out (by decide))))
     (case side2=>exact HO_7.out)
     rintro e w45 ⟨v517,v520,rfl,ho0,ho1,hb⟩
     refine ⟨_,rfl,?_⟩
     replace HO_5:=yV HO_5 hb
     replace HO_6:=yV HO_6 hb
     replace HO_7:=yV HO_7 hb
     replace HO_499001:=yV HO_499001 hb
     replace HO_499002:=yV HO_499002 hb
     replace HO_500001:=yV HO_500001 hb
     have HO518:=yL (fun k_=>((P0_1_ k_∨P0_2_ k_∨P1_1_ k_)∨w.heap.size≤k_)∧k_≠gb498∧k_≠gb499∧k_≠gb500) ho0 (fun k_ hk_=>⟨Or.elim hk_ (fun hs_=>Or.elim hs_ (fun hs_=>(.inr (((Kd.R_types (Kd.R_types (Kd.R_types (HO514.out) BK498.out (by decide)) BK499.out (by decide)) BK500.out (by decide)).1 k_ hs_.symm).1.1.1.1))) (fun hs_=>hs_.1.1)) (fun hn_=>(.inr (Nat.le_trans bs hn_))),Or.elim hk_ (fun hs_=>Or.elim hs_ (fun hs_=>((Kd.R_types (Kd.R_types (Kd.R_types (HO514.out) BK498.out (by decide)) BK499.out (by decide)) BK500.out (by decide)).1 k_ hs_.symm).1.1.2) (fun hs_=>hs_.1.2.1)) (fun hn_=>(zf BK498 hn_)),Or.elim hk_ (fun hs_=>Or.elim hs_ (fun hs_=>((Kd.R_types (Kd.R_types (Kd.R_types (HO514.out) BK498.out (by decide)) BK499.out (by decide)) BK500.out (by decide)).1 k_ hs_.symm).1.2) (fun hs_=>hs_.1.2.2.1)) (fun hn_=>(zf BK499 hn_)),Or.elim hk_ (fun hs_=>Or.elim hs_ (fun hs_=>((Kd.R_types (Kd.R_types (Kd.R_types (HO514.out) BK498.out (by decide)) BK499.out (by decide)) BK500.out (by decide)).1 k_ hs_.symm).2) (fun hs_=>hs_.1.2.2.2)) (fun hn_=>(zf BK500 hn_))⟩)
     have HO521:=yL (fun k_=>((P0_1_ k_∨P0_2_ k_∨P1_1_ k_)∨w.heap.size≤k_)∧k_≠gb498∧k_≠gb499∧k_≠gb500) ho1 (fun k_ hk_=>⟨Or.elim hk_ (fun hs_=>Or.elim hs_ (fun hs_=>(.inr (((Kd.R_types (Kd.R_types (Kd.R_types (HO514.out) BK498.out (by decide)) BK499.out (by decide)) BK500.out (by decide)).1 k_ hs_.symm).1.1.1.1))) (fun hs_=>hs_.1.1)) (fun hn_=>(.inr (Nat.le_trans bs hn_))),Or.elim hk_ (fun hs_=>Or.elim hs_ (fun hs_=>((Kd.R_types (Kd.R_types (Kd.R_types (HO514.out) BK498.out (by decide)) BK499.out (by decide)) BK500.out (by decide)).1 k_ hs_.symm).1.1.2) (fun hs_=>hs_.1.2.1)) (fun hn_=>(zf BK498 hn_)),Or.elim hk_ (fun hs_=>Or.elim hs_ (fun hs_=>((Kd.R_types (Kd.R_types (Kd.R_types (HO514.out) BK498.out (by decide)) BK499.out (by decide)) BK500.out (by decide)).1 k_ hs_.symm).1.2) (fun hs_=>hs_.1.2.2.1)) (fun hn_=>(zf BK499 hn_)),Or.elim hk_ (fun hs_=>Or.elim hs_ (fun hs_=>((Kd.R_types (Kd.R_types (Kd.R_types (HO514.out) BK498.out (by decide)) BK499.out (by decide)) BK500.out (by decide)).1 k_ hs_.symm).2) (fun hs_=>hs_.1.2.2.2)) (fun hn_=>(zf BK500 hn_))⟩)
     replace HO514:=yR HO514 hb
     replace BK498:=sK BK498 hb
     replace BK499:=sK BK499 hb
     replace BK500:=sK BK500 hb
     replace HB:=sB hb
     clear hb ho0 ho1
     obtain ⟨Ao47,co47,eo47⟩:=Kd.V_slice HO518.out
     (first|subst eo47|(injection eo47 with f1_ f2_ f3_;have f4_:=f1_.symm;have f5_:=f3_.symm;clear f1_ f2_ f3_;subst f4_;subst f5_))
     obtain ⟨Ao49,co49,eo49⟩:=Kd.V_slice HO521.out
     (first|subst eo49|(injection eo49 with f1_ f2_ f3_;have f4_:=f1_.symm;have f5_:=f3_.symm;clear f1_ f2_ f3_;subst f4_;subst f5_))
     refine hK.out _ _ ⟨zh BK498 0,zh BK498 1,zh BK498 2⟩ (fun hHeld=>?_)
     clear hK K
     refine nm ?_
     refine one_ (i:=7) (N:=none) #[true,true,true,true,true,true,true,true] rfl rfl (one_of HT_.out (by kernel_rfl)) (by decide) (fun K hK=>?_)
     have hs46:w45.cell? ⟨gb500,0,none⟩=some (.bool false):=(blk_cell BK500.out 0).trans rfl
     have hfs46:=blk_frozen BK500.out 0
     have hns46_0:=NB498_500.out
     have hns46_1:=NB499_500.out
     have hms46_0:=NB500_498.out
     have hms46_1:=NB500_499.out
     have hs48:w45.cell? ⟨gb500,1,none⟩=some (.slice none 0 0):=(blk_cell BK500.out 1).trans rfl
     have hfs48:=blk_frozen BK500.out 1
     have hns48_0:=NB498_500.out
     have hns48_1:=NB499_500.out
     have hms48_0:=NB500_498.out
     have hms48_1:=NB500_499.out
     have hs50:w45.cell? ⟨gb500,2,none⟩=some (.slice none 0 0):=(blk_cell BK500.out 2).trans rfl
     have hfs50:=blk_frozen BK500.out 2
     have hns50_0:=NB498_500.out
     have hns50_1:=NB499_500.out
     have hms50_0:=NB500_498.out
     have hms50_1:=NB500_499.out
     refine skip_ (w1:=?_) (by rfl) rfl ?_ ?_
     rotate_left
     ·go_simp
      rfl
     refine hK.out _ _ ⟨((cell_far (p:=⟨gb500,_,none⟩) NB498_500.out _).trans (((cell_far (p:=⟨gb500,_,none⟩) NB498_500.out _).trans (((cell_far (p:=⟨gb500,_,none⟩) NB498_500.out _).trans (hHeld.1)))))),((cell_far (p:=⟨gb500,_,none⟩) NB498_500.out _).trans (((cell_far (p:=⟨gb500,_,none⟩) NB498_500.out _).trans (((cell_far (p:=⟨gb500,_,none⟩) NB498_500.out _).trans (hHeld.2.1)))))),((cell_far (p:=⟨gb500,_,none⟩) NB498_500.out _).trans (((cell_far (p:=⟨gb500,_,none⟩) NB498_500.out _).trans (((cell_far (p:=⟨gb500,_,none⟩) NB498_500.out _).trans (hHeld.2.2))))))⟩ (fun hHeld=>?_)
     clear hK K
     refine done_ (done_of HT_.out (by kernel_rfl)) ?_
     try go_wp2
     refine bodyPost_ret (results_cell_row rfl _ _ gb500 103 #[.bool t515,.slice Ao47 t516.length co47,.slice Ao49 t519.length co49] (0,0) _ rfl (zp BK500) underlying103 rfl (by kernel_rfl)) rfl ?_
     exact ⟨_,_,ze,zF HO518,zF HO521,bw⟩
def num_two_at_frac_Add.f (k:Nat) (a0_0:ByteArray) (a0_1:ByteArray) (a1_0:ByteArray) (a1_1:ByteArray):Option (ByteArray×ByteArray×Int):=(num_Check.f k a0_0 a0_1).bind fun t546=>(if t546=0 then ((num_Check.f k a1_0 a1_1).bind fun t547=>(if t547=0 then ((frac_Of.f k a0_0 a0_1).bind fun bt548=>((frac_Of.f k a1_0 a1_1).bind fun bt555=>((frac_Add.f k bt548.1 bt548.2.1 bt548.2.2 bt555.1 bt555.2.1 bt555.2.2).bind fun bt562=>((frac_Frac_Rat.f bt562.1 bt562.2.1 bt562.2.2).bind fun bt569=>(some (bt569.1,bt569.2,0)))))) else (some ((⟨#[]⟩:ByteArray),(⟨#[]⟩:ByteArray),t547)))) else (some ((⟨#[]⟩:ByteArray),(⟨#[]⟩:ByteArray),t546)))
def num_two_at_frac_Add.T7:Bool×List (List Nat×List Nat):=(true,[([],[]),([],[]),([1],[1]),([],[]),([3,2],[3]),([0,2,4,4],[0,2,4]),([5,5],[5]),([6,6,0,1,2,3,4,5,6],[6]),([7,0,1,2,3,4,5,6,7],[])])
def num_two_at_frac_Add.B7:List Nat:=[0,0,2,0,14,31,63,127,255]
theorem num_two_at_frac_Add.tab7:rtab .any (opsOf Tryz.f110 7)=num_two_at_frac_Add.T7:=by kernel_rfl
theorem num_two_at_frac_Add.bits7:waitsOk num_two_at_frac_Add.T7.2 num_two_at_frac_Add.B7=true:=by kernel_rfl
theorem num_two_at_frac_Add.calls (k:Nat) (a0_0:ByteArray) (a0_1:ByteArray) (a1_0:ByteArray) (a1_1:ByteArray) (r1:ByteArray) (r2:ByteArray) (r3:Int) (w:World) (hG:Tryz.Gl w) (h:num_two_at_frac_Add.f k a0_0 a0_1 a1_0 a1_1=some (r1,r2,r3)) :
  Calls Tryz.prog 110 #[.agg #[.string a0_0,.string a0_1],.agg #[.string a1_0,.string a1_1],.func (.func 117) #[] #[]] w fun e w'=>e = .returned (.tuple #[.agg #[.string r1,.string r2],.int .i64 r3])∧Below w.heap.size w w':=by
 have hu61:=underlying61
 have HG:=aZ hG
 clear hG
 have HB:=aZ (Below.refl w.heap.size w)
 have H:=h
 unfold num_two_at_frac_Add.f at H
 clear h
 obtain ⟨t546,A3,H⟩:=zB H
 by_cases c4:t546=0
 case neg=>
  rw [if_neg c4] at H
  obtain ⟨c4b0,c4b1⟩:=zX c4
  simp only [Option.some.injEq,Prod.mk.injEq] at H
  obtain ⟨rfl,rfl,rfl⟩:=H
  go_enter func110,ntmps110
  go_wp2_with (first|(refine box_ev 3 #[.string a0_0,.string a0_1] 61 ?_;intro gb543 hg w45 hbox hb;have BK543:=aZ hbox;have GE543:=sG hg;replace HB:=sB hb;clear hb hbox hg)|(refine box_ev 4 #[.string a1_0,.string a1_1] 61 ?_;intro gb544 hg w46 hbox hb;have BK544:=aZ hbox;have GE544:=sG hg;replace HB:=sB hb;have NB543_544:=sl hg BK543;have NB544_543:=sg hg BK543;replace BK543:=sK BK543 hb;clear hb hbox hg)|(refine box_ev 6 #[.string ⟨#[]⟩,.string ⟨#[]⟩] 61 ?_;intro gb545 hg w47 hbox hb;have BK545:=aZ hbox;have GE545:=sG hg;replace HB:=sB hb;have NB543_545:=sl hg BK543;have NB545_543:=sg hg BK543;replace BK543:=sK BK543 hb;have NB544_545:=sl hg BK544;have NB545_544:=sg hg BK544;replace BK544:=sK BK544 hb;clear hb hbox hg;have hnb48:=NB543_544.out;have hnc48:=NB544_543.out;have hnb49:=NB543_545.out;have hnc49:=NB545_543.out;obtain ⟨hcz50_0,hfz50_0⟩:=zc BK543 0 (.string a0_0) rfl;obtain ⟨hcz50_1,hfz50_1⟩:=zc BK543 1 (.string a0_1) rfl)|(refine zg (some 11) func56 #[.agg #[.string a0_0,.string a0_1]] ?_;(with_reducible refine (num_Check.calls k a0_0 a0_1 t546 _ A3.out).mono ?_);rintro e w51 ⟨rfl,hb⟩;refine ⟨_,rfl,?_⟩;replace BK543:=sK BK543 hb;replace BK544:=sK BK544 hb;replace BK545:=sK BK545 hb;replace HB:=sB hb;clear hb;have hnb52:=NB545_544.out;have hnc52:=NB544_545.out;obtain ⟨hcz53_0,hfz53_0⟩:=zc BK545 0 (.string ⟨#[]⟩) rfl;obtain ⟨hcz53_1,hfz53_1⟩:=zc BK545 1 (.string ⟨#[]⟩) rfl))
  refine bodyPost_ret (results_ct rfl _ _ gb545 61 #[.string ⟨#[]⟩,.string ⟨#[]⟩] (0,0) _ rfl (zp BK545) underlying61 rfl (by kernel_rfl)) rfl ?_
  exact ⟨ze,bw⟩
 rw [if_pos c4] at H
 obtain ⟨c4b0,c4b1⟩:=zY c4
 clear c4
 obtain ⟨t547,A5,H⟩:=zB H
 by_cases c6:t547=0
 case neg=>
  rw [if_neg c6] at H
  obtain ⟨c6b0,c6b1⟩:=zX c6
  simp only [Option.some.injEq,Prod.mk.injEq] at H
  obtain ⟨rfl,rfl,rfl⟩:=H
  go_enter func110,ntmps110
  go_wp2_with (first|(refine box_ev 3 #[.string a0_0,.string a0_1] 61 ?_;intro gb543 hg w34 hbox hb;have BK543:=aZ hbox;have GE543:=sG hg;replace HB:=sB hb;clear hb hbox hg)|(refine box_ev 4 #[.string a1_0,.string a1_1] 61 ?_;intro gb544 hg w35 hbox hb;have BK544:=aZ hbox;have GE544:=sG hg;replace HB:=sB hb;have NB543_544:=sl hg BK543;have NB544_543:=sg hg BK543;replace BK543:=sK BK543 hb;clear hb hbox hg)|(refine box_ev 6 #[.string ⟨#[]⟩,.string ⟨#[]⟩] 61 ?_;intro gb545 hg w36 hbox hb;have BK545:=aZ hbox;have GE545:=sG hg;replace HB:=sB hb;have NB543_545:=sl hg BK543;have NB545_543:=sg hg BK543;replace BK543:=sK BK543 hb;have NB544_545:=sl hg BK544;have NB545_544:=sg hg BK544;replace BK544:=sK BK544 hb;clear hb hbox hg;have hnb37:=NB543_544.out;have hnc37:=NB544_543.out;have hnb38:=NB543_545.out;have hnc38:=NB545_543.out;obtain ⟨hcz39_0,hfz39_0⟩:=zc BK543 0 (.string a0_0) rfl;obtain ⟨hcz39_1,hfz39_1⟩:=zc BK543 1 (.string a0_1) rfl)|(refine zg (some 11) func56 #[.agg #[.string a0_0,.string a0_1]] ?_;(with_reducible refine (num_Check.calls k a0_0 a0_1 t546 _ A3.out).mono ?_);rintro e w40 ⟨rfl,hb⟩;refine ⟨_,rfl,?_⟩;replace BK543:=sK BK543 hb;replace BK544:=sK BK544 hb;replace BK545:=sK BK545 hb;replace HB:=sB hb;clear hb;have hnb41:=NB544_545.out;have hnc41:=NB545_544.out;obtain ⟨hcz42_0,hfz42_0⟩:=zc BK544 0 (.string a1_0) rfl;obtain ⟨hcz42_1,hfz42_1⟩:=zc BK544 1 (.string a1_1) rfl)|(refine zg (some 17) func56 #[.agg #[.string a1_0,.string a1_1]] ?_;(with_reducible refine (num_Check.calls k a1_0 a1_1 t547 _ A5.out).mono ?_);rintro e w43 ⟨rfl,hb⟩;refine ⟨_,rfl,?_⟩;replace BK543:=sK BK543 hb;replace BK544:=sK BK544 hb;replace BK545:=sK BK545 hb;replace HB:=sB hb;clear hb;obtain ⟨hcz44_0,hfz44_0⟩:=zc BK545 0 (.string ⟨#[]⟩) rfl;obtain ⟨hcz44_1,hfz44_1⟩:=zc BK545 1 (.string ⟨#[]⟩) rfl))
  refine bodyPost_ret (results_ct rfl _ _ gb545 61 #[.string ⟨#[]⟩,.string ⟨#[]⟩] (0,0) _ rfl (zp BK545) underlying61 rfl (by kernel_rfl)) rfl ?_
  exact ⟨ze,bw⟩
 rw [if_pos c6] at H
 obtain ⟨c6b0,c6b1⟩:=zY c6
 clear c6
 obtain ⟨⟨t548,t549,t552⟩,A7,H⟩:=zB H
 (try dsimp only at H)
 obtain ⟨⟨t555,t556,t559⟩,A8,H⟩:=zB H
 (try dsimp only at H)
 obtain ⟨⟨t562,t563,t566⟩,A9,H⟩:=zB H
 (try dsimp only at H)
 obtain ⟨⟨t569,t570⟩,A10,H⟩:=zB H
 (try dsimp only at H)
 simp only [Option.some.injEq,Prod.mk.injEq] at H
 obtain ⟨rfl,rfl,rfl⟩:=H
 go_enter func110,ntmps110
 try go_wp2_with (first|(refine box_ev 3 #[.string a0_0,.string a0_1] 61 ?_;intro gb543 hg w11 hbox hb;have BK543:=aZ hbox;have GE543:=sG hg;replace HB:=sB hb;clear hb hbox hg)|(refine box_ev 4 #[.string a1_0,.string a1_1] 61 ?_;intro gb544 hg w12 hbox hb;have BK544:=aZ hbox;have GE544:=sG hg;replace HB:=sB hb;have NB543_544:=sl hg BK543;have NB544_543:=sg hg BK543;replace BK543:=sK BK543 hb;clear hb hbox hg)|(refine box_ev 6 #[.string ⟨#[]⟩,.string ⟨#[]⟩] 61 ?_;intro gb545 hg w13 hbox hb;have BK545:=aZ hbox;have GE545:=sG hg;replace HB:=sB hb;have NB543_545:=sl hg BK543;have NB545_543:=sg hg BK543;replace BK543:=sK BK543 hb;have NB544_545:=sl hg BK544;have NB545_544:=sg hg BK544;replace BK544:=sK BK544 hb;clear hb hbox hg;have hnb14:=NB543_544.out;have hnc14:=NB544_543.out;have hnb15:=NB543_545.out;have hnc15:=NB545_543.out;obtain ⟨hcz16_0,hfz16_0⟩:=zc BK543 0 (.string a0_0) rfl;obtain ⟨hcz16_1,hfz16_1⟩:=zc BK543 1 (.string a0_1) rfl)|(refine zg (some 11) func56 #[.agg #[.string a0_0,.string a0_1]] ?_;(with_reducible refine (num_Check.calls k a0_0 a0_1 t546 _ A3.out).mono ?_);rintro e w17 ⟨rfl,hb⟩;refine ⟨_,rfl,?_⟩;replace BK543:=sK BK543 hb;replace BK544:=sK BK544 hb;replace BK545:=sK BK545 hb;replace HB:=sB hb;clear hb;have hnb18:=NB544_545.out;have hnc18:=NB545_544.out;obtain ⟨hcz19_0,hfz19_0⟩:=zc BK544 0 (.string a1_0) rfl;obtain ⟨hcz19_1,hfz19_1⟩:=zc BK544 1 (.string a1_1) rfl)|(refine zg (some 17) func56 #[.agg #[.string a1_0,.string a1_1]] ?_;(with_reducible refine (num_Check.calls k a1_0 a1_1 t547 _ A5.out).mono ?_);rintro e w20 ⟨rfl,hb⟩;refine ⟨_,rfl,?_⟩;replace BK543:=sK BK543 hb;replace BK544:=sK BK544 hb;replace BK545:=sK BK545 hb;replace HB:=sB hb;clear hb))
 replace BK543:=aZ (blk_drew BK543.out)
 replace BK544:=aZ (blk_drew BK544.out)
 replace BK545:=aZ (blk_drew BK545.out)
 replace HB:=aZ (below_drew1 HB.out)
 refine start_ (n:=9) (S:=fun w'=>w'.cell? ⟨gb543,0,none⟩=some (.string a0_0)∧w'.cell? ⟨gb543,1,none⟩=some (.string a0_1)∧w'.cell? ⟨gb544,0,none⟩=some (.string a1_0)∧w'.cell? ⟨gb544,1,none⟩=some (.string a1_1)) (ds:=[]) #[false,false,false,false,false,false,false,false,false] (by kernel_rfl) rfl rfl ⟨zh BK543 0,zh BK543 1,zh BK544 0,zh BK544 1⟩ (fun hHeld=>?_);refine with_tabW num_two_at_frac_Add.tab7 num_two_at_frac_Add.bits7 (fun HT_ HW_=>?_)
 generalize w20.drew=w21 at BK543 BK544 BK545 HB hHeld ⊢
 refine pu 0 (some 22) HT_ ?_
 refine tk 1 (some 23) HT_ HW_ hHeld ?_
 refine tk 3 (some 25) HT_ HW_ hHeld ?_
 refine one_ (i:=2) (N:=some 24) #[true,true,true,true,false,false,false,false,false] rfl rfl (one_of HT_.out (by kernel_rfl)) (by decide) (fun K hK=>?_)
 refine goes_ func127 (by kernel_rfl) rfl #[.agg #[.string a0_0,.string a0_1]] (by rfl) rfl rfl zm ?_
 with_reducible refine (frac_Of.calls k a0_0 a0_1 t548 t549 t552 _ A7.out).mono ?_
 rintro e w22 ⟨v550,v553,rfl,ho0,ho1,hb⟩
 refine ⟨_,rfl,?_⟩
 have HO551:=yL (fun k_=>k_≠gb543∧k_≠gb544∧k_≠gb545) ho0 (fun k_ hk_=>⟨(zf BK543 hk_),(zf BK544 hk_),(zf BK545 hk_)⟩)
 have HO554:=yL (fun k_=>k_≠gb543∧k_≠gb544∧k_≠gb545) ho1 (fun k_ hk_=>⟨(zf BK543 hk_),(zf BK544 hk_),(zf BK545 hk_)⟩)
 replace BK543:=sK BK543 hb
 replace BK544:=sK BK544 hb
 replace BK545:=sK BK545 hb
 replace HB:=sB hb
 clear hb ho0 ho1
 refine hK.out _ _ ⟨zh BK543 0,zh BK543 1,zh BK544 0,zh BK544 1⟩ (fun hHeld=>?_)
 clear hK K
 refine nm ?_
 refine one_ (i:=4) (N:=some 26) #[true,true,true,true,true,false,false,false,false] rfl rfl (one_of HT_.out (by kernel_rfl)) (by decide) (fun K hK=>?_)
 refine goes_ func127 (by kernel_rfl) rfl #[.agg #[.string a1_0,.string a1_1]] (by rfl) rfl rfl zm ?_
 with_reducible refine (frac_Of.calls k a1_0 a1_1 t555 t556 t559 _ A8.out).mono ?_
 rintro e w23 ⟨v557,v560,rfl,ho0,ho1,hb⟩
 refine ⟨_,rfl,?_⟩
 replace HO551:=yV HO551 hb
 replace HO554:=yV HO554 hb
 have HO558:=yL (fun k_=>k_≠gb543∧k_≠gb544∧k_≠gb545) ho0 (fun k_ hk_=>⟨(zf BK543 hk_),(zf BK544 hk_),(zf BK545 hk_)⟩)
 have HO561:=yL (fun k_=>k_≠gb543∧k_≠gb544∧k_≠gb545) ho1 (fun k_ hk_=>⟨(zf BK543 hk_),(zf BK544 hk_),(zf BK545 hk_)⟩)
 replace BK543:=sK BK543 hb
 replace BK544:=sK BK544 hb
 replace BK545:=sK BK545 hb
 replace HB:=sB hb
 clear hb ho0 ho1
 obtain ⟨Ao24,co24,eo24⟩:=Kd.V_slice HO551.out
 (first|subst eo24|(injection eo24 with f1_ f2_ f3_;have f4_:=f1_.symm;have f5_:=f3_.symm;clear f1_ f2_ f3_;subst f4_;subst f5_))
 obtain ⟨Ao25,co25,eo25⟩:=Kd.V_slice HO554.out
 (first|subst eo25|(injection eo25 with f1_ f2_ f3_;have f4_:=f1_.symm;have f5_:=f3_.symm;clear f1_ f2_ f3_;subst f4_;subst f5_))
 obtain ⟨Ao26,co26,eo26⟩:=Kd.V_slice HO558.out
 (first|subst eo26|(injection eo26 with f1_ f2_ f3_;have f4_:=f1_.symm;have f5_:=f3_.symm;clear f1_ f2_ f3_;subst f4_;subst f5_))
 obtain ⟨Ao27,co27,eo27⟩:=Kd.V_slice HO561.out
 (first|subst eo27|(injection eo27 with f1_ f2_ f3_;have f4_:=f1_.symm;have f5_:=f3_.symm;clear f1_ f2_ f3_;subst f4_;subst f5_))
 refine hK.out _ _ ⟨zh BK543 0,zh BK543 1,zh BK544 0,zh BK544 1⟩ (fun hHeld=>?_)
 clear hK K
 refine nm ?_
 refine one_ (i:=5) (N:=some 27) #[true,true,true,true,true,true,false,false,false] rfl rfl (one_of HT_.out (by kernel_rfl)) (by decide) (fun K hK=>?_)
 refine goesU_ (t:=22) (by rfl) func117 (by kernel_rfl) rfl #[.agg #[.bool t548,.slice Ao24 t549.length co24,.slice Ao25 t552.length co25],.agg #[.bool t555,.slice Ao26 t556.length co26,.slice Ao27 t559.length co27]] (by rfl) rfl rfl zm ?_
 with_reducible refine (frac_Add.calls k t548 (fun k_=>(k_≠gb543∧(k_≠gb544∧k_≠gb545))) _ _ t549 (fun k_=>(k_≠gb543∧(k_≠gb544∧k_≠gb545))) _ _ t552 t555 (fun k_=>(k_≠gb543∧(k_≠gb544∧k_≠gb545))) _ _ t556 _ _ t559 t562 t563 t566 _ ?side1 ?side2 ?side3 ?side4 ?side5 A9.out).mono ?_
 (case side1=>exact HO551.out)
 (case side2=>exact HO554.out)
 (case side3=>exact HO558.out)
 (case side4=>exact zr HO561)
 (case side5=>exact zk HO561)
 rintro e w28 ⟨v564,v567,rfl,ho0,ho1,hb⟩
 refine ⟨_,rfl,?_⟩
 replace HO551:=yV HO551 hb
 replace HO554:=yV HO554 hb
 replace HO558:=yV HO558 hb
 replace HO561:=yV HO561 hb
 have HO565:=yL (fun k_=>k_≠gb543∧k_≠gb544∧k_≠gb545) ho0 (fun k_ hk_=>⟨Or.elim hk_ (fun hs_=>Or.elim hs_ (fun hs_=>hs_.1) (fun hs_=>Or.elim hs_ (fun hs_=>hs_.1) (fun hs_=>hs_.1))) (fun hn_=>(zf BK543 hn_)),Or.elim hk_ (fun hs_=>Or.elim hs_ (fun hs_=>hs_.2.1) (fun hs_=>Or.elim hs_ (fun hs_=>hs_.2.1) (fun hs_=>hs_.2.1))) (fun hn_=>(zf BK544 hn_)),Or.elim hk_ (fun hs_=>Or.elim hs_ (fun hs_=>hs_.2.2) (fun hs_=>Or.elim hs_ (fun hs_=>hs_.2.2) (fun hs_=>hs_.2.2))) (fun hn_=>(zf BK545 hn_))⟩)
 have HO568:=yL (fun k_=>k_≠gb543∧k_≠gb544∧k_≠gb545) ho1 (fun k_ hk_=>⟨Or.elim hk_ (fun hs_=>Or.elim hs_ (fun hs_=>hs_.1) (fun hs_=>Or.elim hs_ (fun hs_=>hs_.1) (fun hs_=>hs_.1))) (fun hn_=>(zf BK543 hn_)),Or.elim hk_ (fun hs_=>Or.elim hs_ (fun hs_=>hs_.2.1) (fun hs_=>Or.elim hs_ (fun hs_=>hs_.2.1) (fun hs_=>hs_.2.1))) (fun hn_=>(zf BK544 hn_)),Or.elim hk_ (fun hs_=>Or.elim hs_ (fun hs_=>hs_.2.2) (fun hs_=>Or.elim hs_ (fun hs_=>hs_.2.2) (fun hs_=>hs_.2.2))) (fun hn_=>(zf BK545 hn_))⟩)
 replace BK543:=sK BK543 hb
 replace BK544:=sK BK544 hb
 replace BK545:=sK BK545 hb
 replace HB:=sB hb
 clear hb ho0 ho1
 obtain ⟨Ao29,co29,eo29⟩:=Kd.V_slice HO565.out
 (first|subst eo29|(injection eo29 with f1_ f2_ f3_;have f4_:=f1_.symm;have f5_:=f3_.symm;clear f1_ f2_ f3_;subst f4_;subst f5_))
 obtain ⟨Ao30,co30,eo30⟩:=Kd.V_slice HO568.out
 (first|subst eo30|(injection eo30 with f1_ f2_ f3_;have f4_:=f1_.symm;have f5_:=f3_.symm;clear f1_ f2_ f3_;subst f4_;subst f5_))
 refine hK.out _ _ ⟨zh BK543 0,zh BK543 1,zh BK544 0,zh BK544 1⟩ (fun hHeld=>?_)
 clear hK K
 refine nm ?_
 refine one_ (i:=6) (N:=some 28) #[true,true,true,true,true,true,true,false,false] rfl rfl (one_of HT_.out (by kernel_rfl)) (by decide) (fun K hK=>?_)
 refine goes_ func96 (by kernel_rfl) rfl #[.agg #[.bool t562,.slice Ao29 t563.length co29,.slice Ao30 t566.length co30]] (by rfl) rfl rfl zm ?_
 with_reducible refine (frac_Frac_Rat.calls t562 _ _ t563 _ _ t566 t569 t570 _ ?side1 ?side2 ?side3 ?side4 ?side5 A10.out).mono ?_
 (case side1=>exact zr HO565)
 (case side2=>exact zk HO565)
 (case side3=>exact zr HO568)
 (case side4=>exact zk HO568)
 (case side5=>exact Tryz.Gl.below HG.out bw)
 rintro e w31 ⟨rfl,hb⟩
 refine ⟨_,rfl,?_⟩
 replace HO551:=yV HO551 hb
 replace HO554:=yV HO554 hb
 replace HO558:=yV HO558 hb
 replace HO561:=yV HO561 hb
 replace HO565:=yV HO565 hb
 replace HO568:=yV HO568 hb
 replace BK543:=sK BK543 hb
 replace BK544:=sK BK544 hb
 replace BK545:=sK BK545 hb
 replace HB:=sB hb
 clear hb
 refine hK.out _ _ ⟨zh BK543 0,zh BK543 1,zh BK544 0,zh BK544 1⟩ (fun hHeld=>?_)
 clear hK K
 refine nm ?_
 refine one_ (i:=7) (N:=none) #[true,true,true,true,true,true,true,true,false] rfl rfl (one_of HT_.out (by kernel_rfl)) (by decide) (fun K hK=>?_)
 have hs32:w31.cell? ⟨gb545,0,none⟩=some (.string (⟨#[]⟩:ByteArray)):=(blk_cell BK545.out 0).trans rfl
 have hfs32:=blk_frozen BK545.out 0
 have hns32_0:=NB543_545.out
 have hns32_1:=NB544_545.out
 have hms32_0:=NB545_543.out
 have hms32_1:=NB545_544.out
 have hs33:w31.cell? ⟨gb545,1,none⟩=some (.string (⟨#[]⟩:ByteArray)):=(blk_cell BK545.out 1).trans rfl
 have hfs33:=blk_frozen BK545.out 1
 have hns33_0:=NB543_545.out
 have hns33_1:=NB544_545.out
 have hms33_0:=NB545_543.out
 have hms33_1:=NB545_544.out
 refine skip_ (w1:=?_) (by rfl) rfl ?_ ?_
 rotate_left
 ·go_simp
  rfl
 refine hK.out _ _ ⟨((cell_far (p:=⟨gb545,_,none⟩) NB543_545.out _).trans (((cell_far (p:=⟨gb545,_,none⟩) NB543_545.out _).trans (hHeld.1)))),((cell_far (p:=⟨gb545,_,none⟩) NB543_545.out _).trans (((cell_far (p:=⟨gb545,_,none⟩) NB543_545.out _).trans (hHeld.2.1)))),((cell_far (p:=⟨gb545,_,none⟩) NB544_545.out _).trans (((cell_far (p:=⟨gb545,_,none⟩) NB544_545.out _).trans (hHeld.2.2.1)))),((cell_far (p:=⟨gb545,_,none⟩) NB544_545.out _).trans (((cell_far (p:=⟨gb545,_,none⟩) NB544_545.out _).trans (hHeld.2.2.2))))⟩ (fun hHeld=>?_)
 clear hK K
 refine pu 8 (some 7) HT_ ?_
 refine done_ (done_of HT_.out (by kernel_rfl)) ?_
 try go_wp2
 refine bodyPost_ret (results_ct rfl _ _ gb545 61 #[.string t569,.string t570] (0,0) _ rfl (zp BK545) underlying61 rfl (by kernel_rfl)) rfl ?_
 exact ⟨ze,bw⟩
def num_Add.f (k:Nat) (a0_0:ByteArray) (a0_1:ByteArray) (a1_0:ByteArray) (a1_1:ByteArray):Option (ByteArray×ByteArray×Int):=(num_two_at_frac_Add.f k a0_0 a0_1 a1_0 a1_1).bind fun bt574=>(some (bt574.1,bt574.2.1,bt574.2.2))
theorem num_Add.calls (k:Nat) (a0_0:ByteArray) (a0_1:ByteArray) (a1_0:ByteArray) (a1_1:ByteArray) (r1:ByteArray) (r2:ByteArray) (r3:Int) (w:World) (hG:Tryz.Gl w) (h:num_Add.f k a0_0 a0_1 a1_0 a1_1=some (r1,r2,r3)) :
  Calls Tryz.prog 66 #[.agg #[.string a0_0,.string a0_1],.agg #[.string a1_0,.string a1_1]] w fun e w'=>e = .returned (.tuple #[.agg #[.string r1,.string r2],.int .i64 r3])∧Below w.heap.size w w':=by
 have hu61:=underlying61
 have HG:=aZ hG
 clear hG
 have HB:=aZ (Below.refl w.heap.size w)
 have H:=h
 unfold num_Add.f at H
 clear h
 obtain ⟨⟨t574,t575,t576⟩,A3,H⟩:=zB H
 (try dsimp only at H)
 simp only [Option.some.injEq,Prod.mk.injEq] at H
 obtain ⟨rfl,rfl,rfl⟩:=H
 go_enter func66,ntmps66
 go_wp2_with (first|(refine box_ev 2 #[.string a0_0,.string a0_1] 61 ?_;intro gb571 hg w4 hbox hb;have BK571:=aZ hbox;have GE571:=sG hg;replace HB:=sB hb;clear hb hbox hg)|(refine box_ev 3 #[.string a1_0,.string a1_1] 61 ?_;intro gb572 hg w5 hbox hb;have BK572:=aZ hbox;have GE572:=sG hg;replace HB:=sB hb;have NB571_572:=sl hg BK571;have NB572_571:=sg hg BK571;replace BK571:=sK BK571 hb;clear hb hbox hg)|(refine box_ev 4 #[.string ⟨#[]⟩,.string ⟨#[]⟩] 61 ?_;intro gb573 hg w6 hbox hb;have BK573:=aZ hbox;have GE573:=sG hg;replace HB:=sB hb;have NB571_573:=sl hg BK571;have NB573_571:=sg hg BK571;replace BK571:=sK BK571 hb;have NB572_573:=sl hg BK572;have NB573_572:=sg hg BK572;replace BK572:=sK BK572 hb;clear hb hbox hg;have hnb7:=NB571_572.out;have hnc7:=NB572_571.out;have hnb8:=NB571_573.out;have hnc8:=NB573_571.out;obtain ⟨hcz9_0,hfz9_0⟩:=zc BK571 0 (.string a0_0) rfl;obtain ⟨hcz9_1,hfz9_1⟩:=zc BK571 1 (.string a0_1) rfl;have hnb10:=NB572_573.out;have hnc10:=NB573_572.out;obtain ⟨hcz11_0,hfz11_0⟩:=zc BK572 0 (.string a1_0) rfl;obtain ⟨hcz11_1,hfz11_1⟩:=zc BK572 1 (.string a1_1) rfl)|(refine zg (some 8) func110 #[.agg #[.string a0_0,.string a0_1],.agg #[.string a1_0,.string a1_1],.func (.func 117) #[] #[]] ?_;(with_reducible refine (num_two_at_frac_Add.calls k a0_0 a0_1 a1_0 a1_1 t574 t575 t576 _ ?side1 A3.out).mono ?_);(case side1=>exact Tryz.Gl.below HG.out bw);rintro e w12 ⟨rfl,hb⟩;refine ⟨_,rfl,?_⟩;replace BK571:=sK BK571 hb;replace BK572:=sK BK572 hb;replace BK573:=sK BK573 hb;replace HB:=sB hb;clear hb;obtain ⟨hcz13_0,hfz13_0⟩:=zc BK573 0 (.string ⟨#[]⟩) rfl;obtain ⟨hcz13_1,hfz13_1⟩:=zc BK573 1 (.string ⟨#[]⟩) rfl))
 refine bodyPost_ret (results_ct rfl _ _ gb573 61 #[.string t574,.string t575] (0,0) _ rfl (zp BK573) underlying61 rfl (by kernel_rfl)) rfl ?_
 exact ⟨ze,bw⟩
def frac_Neg.f (a0_0:Bool) (l0_1:List Int) (l0_2:List Int):Option (Bool×List Int×List Int):=if a0_0=true then (some (false,l0_1,l0_2)) else ((nat_Nat_Zero.f l0_1).bind fun t579=>(some (!t579,l0_1,l0_2)))
theorem frac_Neg.calls (a0_0:Bool) (P0_1_:Nat→Prop) (A0_1:Option Addr) (c0_1:Nat) (l0_1:List Int) (P0_2_:Nat→Prop) (A0_2:Option Addr) (c0_2:Nat) (l0_2:List Int) (r1:Bool) (r2:List Int) (r3:List Int) (w:World) (hs0_1:Kd.V (Kd.int .u32) 97 w w.heap.size (fun k_=>P0_1_ k_) (.slice A0_1 l0_1.length c0_1) l0_1) (hs0_2:Kd.V (Kd.int .u32) 97 w w.heap.size (fun k_=>P0_2_ k_) (.slice A0_2 l0_2.length c0_2) l0_2) (h:frac_Neg.f a0_0 l0_1 l0_2=some (r1,r2,r3)) :
  Calls Tryz.prog 121 #[.agg #[.bool a0_0,.slice A0_1 l0_1.length c0_1,.slice A0_2 l0_2.length c0_2]] w fun e w'=>∃ v1_ v2_:Value,e = .returned (.agg #[.bool r1,v1_,v2_])∧Kd.V (Kd.int .u32) 97 w' w.heap.size (fun k_=>((P0_1_ k_∨P0_2_ k_)∨w.heap.size≤k_)) v1_ r2∧Kd.V (Kd.int .u32) 97 w' w.heap.size (fun k_=>((P0_1_ k_∨P0_2_ k_)∨w.heap.size≤k_)) v2_ r3∧Below w.heap.size w w':=by
 have hu103:=underlying103
 have HO0_1:=aZ (show Kd.V (Kd.int .u32) 97 w w.heap.size (fun k_=>((P0_1_ k_∨P0_2_ k_)∨w.heap.size≤k_)) (.slice A0_1 l0_1.length c0_1) l0_1 from Kd.V_mono hs0_1 (fun k_ hk=>.inl (.inl hk)))
 have HO0_2:=aZ (show Kd.V (Kd.int .u32) 97 w w.heap.size (fun k_=>((P0_1_ k_∨P0_2_ k_)∨w.heap.size≤k_)) (.slice A0_2 l0_2.length c0_2) l0_2 from Kd.V_mono hs0_2 (fun k_ hk=>.inl (.inr hk)))
 have HB:=aZ (Below.refl w.heap.size w)
 have H:=h
 unfold frac_Neg.f at H
 clear h
 by_cases c2:a0_0=true
 case neg=>
  replace c2:=Bool.eq_false_iff.mpr c2
  subst c2
  have H1:((nat_Nat_Zero.f l0_1).bind fun t579=>(some (!t579,l0_1,l0_2)))=some (r1,r2,r3):=by rw [if_neg (show ¬ (false=true) by decide)] at H;exact H
  clear H
  have H:=H1
  clear H1
  obtain ⟨t579,A8,H⟩:=zB H
  simp only [Option.some.injEq,Prod.mk.injEq] at H
  obtain ⟨rfl,rfl,rfl⟩:=H
  go_enter func121,ntmps121
  go_wp2_with (first|(refine box_ev 1 #[.bool false,.slice A0_1 l0_1.length c0_1,.slice A0_2 l0_2.length c0_2] 103 ?_;intro gb577 hg w9 hbox hb;replace HO0_1:=yE HO0_1 hg hb;replace HO0_2:=yE HO0_2 hg hb;have BK577:=aZ hbox;have GE577:=sG hg;replace HB:=sB hb;clear hb hbox hg)|(refine box_ev 2 #[.bool false,.slice none 0 0,.slice none 0 0] 103 ?_;intro gb578 hg w10 hbox hb;replace HO0_1:=yE HO0_1 hg hb;replace HO0_2:=yE HO0_2 hg hb;have BK578:=aZ hbox;have GE578:=sG hg;replace HB:=sB hb;have NB577_578:=sl hg BK577;have NB578_577:=sg hg BK577;replace BK577:=sK BK577 hb;clear hb hbox hg;have hnb11:=NB577_578.out;have hnc11:=NB578_577.out;obtain ⟨hcz12_0,hfz12_0⟩:=zc BK577 0 (.bool false) rfl;obtain ⟨hcz12_1,hfz12_1⟩:=zc BK577 1 (.slice A0_1 l0_1.length c0_1) rfl;obtain ⟨hcz12_2,hfz12_2⟩:=zc BK577 2 (.slice A0_2 l0_2.length c0_2) rfl)|(go_at_call 151;(with_reducible refine (nat_Nat_Zero.calls _ _ l0_1 t579 _ ?side1 ?side2 A8.out).mono ?_);(case side1=>exact zr HO0_1);(case side2=>exact zk HO0_1);rintro e w' ⟨rfl,⟨nd,rfl⟩⟩;(try (rw [drewN_self w10];generalize hq_:World.drewN w10 _=w10;have n0_:Aside0 (Kd.V (Kd.int .u32) 97 w10 w.heap.size (fun k_=>((P0_1_ k_∨P0_2_ k_)∨w.heap.size≤k_)∧k_≠gb577∧k_≠gb578) (.slice A0_1 l0_1.length c0_1) l0_1):=⟨by rw [← hq_];exact (by (with_reducible repeat (first|apply Kd.V_alloc|apply Kd.V_drewN|apply Kd.V_drew));exact Kd.V_mono HO0_1.out (fun _ hk=>⟨hk.1.1,⟨hk.1.2,hk.2⟩⟩))⟩;have n1_:Aside0 (Kd.V (Kd.int .u32) 97 w10 w.heap.size (fun k_=>((P0_1_ k_∨P0_2_ k_)∨w.heap.size≤k_)∧k_≠gb577∧k_≠gb578) (.slice A0_2 l0_2.length c0_2) l0_2):=⟨by rw [← hq_];exact (by (with_reducible repeat (first|apply Kd.V_alloc|apply Kd.V_drewN|apply Kd.V_drew));exact Kd.V_mono HO0_2.out (fun _ hk=>⟨hk.1.1,⟨hk.1.2,hk.2⟩⟩))⟩;have n2_:Aside0 (w10.heap[gb577]? = some (.cells #[.bool false,.slice A0_1 l0_1.length c0_1,.slice A0_2 l0_2.length c0_2] 103 (0,0))):=⟨by rw [← hq_];exact (zb BK577)⟩;have n3_:Aside0 (w10.heap[gb578]? = some (.cells #[.bool false,.slice none 0 0,.slice none 0 0] 103 (0,0))):=⟨by rw [← hq_];exact (zb BK578)⟩;have n4_:Aside0 (Below w.heap.size w w10):=⟨by rw [← hq_];exact bw⟩;clear HO0_1 HO0_2 BK577 BK578 HB hq_;have HO0_1:=n0_;have HO0_2:=n1_;have BK577:=n2_;have BK578:=n3_;have HB:=n4_;clear n0_ n1_ n2_ n3_ n4_));obtain ⟨hczD577_0,hfzD577_0⟩:=zc BK577 0 (.bool false) rfl;obtain ⟨hczD577_1,hfzD577_1⟩:=zc BK577 1 (.slice A0_1 l0_1.length c0_1) rfl;obtain ⟨hczD577_2,hfzD577_2⟩:=zc BK577 2 (.slice A0_2 l0_2.length c0_2) rfl;obtain ⟨hczD578_0,hfzD578_0⟩:=zc BK578 0 (.bool false) rfl;obtain ⟨hczD578_1,hfzD578_1⟩:=zc BK578 1 (.slice none 0 0) rfl;obtain ⟨hczD578_2,hfzD578_2⟩:=zc BK578 2 (.slice none 0 0) rfl;obtain ⟨hcz13_0,hfz13_0⟩:=zc BK578 0 (.bool false) rfl;obtain ⟨hcz13_1,hfz13_1⟩:=zc BK578 1 (.slice none 0 0) rfl;obtain ⟨hcz13_2,hfz13_2⟩:=zc BK578 2 (.slice none 0 0) rfl))
  refine bodyPost_ret (results_cell_row rfl _ _ gb578 103 #[.bool (!t579),.slice A0_1 l0_1.length c0_1,.slice A0_2 l0_2.length c0_2] (0,0) _ rfl (zq BK578) underlying103 rfl (by kernel_rfl)) rfl ?_
  exact ⟨_,_,ze,zF HO0_1,zF HO0_2,bw⟩
 subst c2
 have H1:(some (false,l0_1,l0_2))=some (r1,r2,r3):=by rw [if_pos rfl] at H;exact H
 clear H
 have H:=H1
 clear H1
 simp only [Option.some.injEq,Prod.mk.injEq] at H
 obtain ⟨rfl,rfl,rfl⟩:=H
 go_enter func121,ntmps121
 go_wp2_with (first|(refine box_ev 1 #[.bool true,.slice A0_1 l0_1.length c0_1,.slice A0_2 l0_2.length c0_2] 103 ?_;intro gb577 hg w3 hbox hb;replace HO0_1:=yE HO0_1 hg hb;replace HO0_2:=yE HO0_2 hg hb;have BK577:=aZ hbox;have GE577:=sG hg;replace HB:=sB hb;clear hb hbox hg)|(refine box_ev 2 #[.bool false,.slice none 0 0,.slice none 0 0] 103 ?_;intro gb578 hg w4 hbox hb;replace HO0_1:=yE HO0_1 hg hb;replace HO0_2:=yE HO0_2 hg hb;have BK578:=aZ hbox;have GE578:=sG hg;replace HB:=sB hb;have NB577_578:=sl hg BK577;have NB578_577:=sg hg BK577;replace BK577:=sK BK577 hb;clear hb hbox hg;have hnb5:=NB577_578.out;have hnc5:=NB578_577.out;obtain ⟨hcz6_0,hfz6_0⟩:=zc BK577 0 (.bool true) rfl;obtain ⟨hcz6_1,hfz6_1⟩:=zc BK577 1 (.slice A0_1 l0_1.length c0_1) rfl;obtain ⟨hcz6_2,hfz6_2⟩:=zc BK577 2 (.slice A0_2 l0_2.length c0_2) rfl;obtain ⟨hcz7_0,hfz7_0⟩:=zc BK578 0 (.bool false) rfl;obtain ⟨hcz7_1,hfz7_1⟩:=zc BK578 1 (.slice none 0 0) rfl;obtain ⟨hcz7_2,hfz7_2⟩:=zc BK578 2 (.slice none 0 0) rfl))
 refine bodyPost_ret (results_cell_row rfl _ _ gb578 103 #[.bool false,.slice A0_1 l0_1.length c0_1,.slice A0_2 l0_2.length c0_2] (0,0) _ rfl (zq BK578) underlying103 rfl (by kernel_rfl)) rfl ?_
 exact ⟨_,_,ze,zF HO0_1,zF HO0_2,bw⟩
def frac_Sub.f (k:Nat) (a0_0:Bool) (l0_1:List Int) (l0_2:List Int) (a1_0:Bool) (l1_1:List Int) (l1_2:List Int):Option (Bool×List Int×List Int):=(frac_Neg.f a1_0 l1_1 l1_2).bind fun bt583=>((frac_Add.f k a0_0 l0_1 l0_2 bt583.1 bt583.2.1 bt583.2.2).bind fun bt590=>(some (bt590.1,bt590.2.1,bt590.2.2)))
theorem frac_Sub.calls (k:Nat) (a0_0:Bool) (P0_1_:Nat→Prop) (A0_1:Option Addr) (c0_1:Nat) (l0_1:List Int) (P0_2_:Nat→Prop) (A0_2:Option Addr) (c0_2:Nat) (l0_2:List Int) (a1_0:Bool) (P1_1_:Nat→Prop) (A1_1:Option Addr) (c1_1:Nat) (l1_1:List Int) (P1_2_:Nat→Prop) (A1_2:Option Addr) (c1_2:Nat) (l1_2:List Int) (r1:Bool) (r2:List Int) (r3:List Int) (w:World) (hs0_1:Kd.V (Kd.int .u32) 97 w w.heap.size (fun k_=>P0_1_ k_) (.slice A0_1 l0_1.length c0_1) l0_1) (hs0_2:Kd.V (Kd.int .u32) 97 w w.heap.size (fun k_=>P0_2_ k_) (.slice A0_2 l0_2.length c0_2) l0_2) (hs1_1:Kd.V (Kd.int .u32) 97 w w.heap.size (fun k_=>P1_1_ k_) (.slice A1_1 l1_1.length c1_1) l1_1) (hs1_2:Kd.V (Kd.int .u32) 97 w w.heap.size (fun k_=>P1_2_ k_) (.slice A1_2 l1_2.length c1_2) l1_2) (h:frac_Sub.f k a0_0 l0_1 l0_2 a1_0 l1_1 l1_2=some (r1,r2,r3)) :
  Calls Tryz.prog 118 #[.agg #[.bool a0_0,.slice A0_1 l0_1.length c0_1,.slice A0_2 l0_2.length c0_2],.agg #[.bool a1_0,.slice A1_1 l1_1.length c1_1,.slice A1_2 l1_2.length c1_2]] w fun e w'=>∃ v1_ v2_:Value,e = .returned (.agg #[.bool r1,v1_,v2_])∧Kd.V (Kd.int .u32) 97 w' w.heap.size (fun k_=>((P0_1_ k_∨P0_2_ k_∨P1_1_ k_∨P1_2_ k_)∨w.heap.size≤k_)) v1_ r2∧Kd.V (Kd.int .u32) 97 w' w.heap.size (fun k_=>((P0_1_ k_∨P0_2_ k_∨P1_1_ k_∨P1_2_ k_)∨w.heap.size≤k_)) v2_ r3∧Below w.heap.size w w':=by
 have hu103:=underlying103
 have HO0_1:=aZ (show Kd.V (Kd.int .u32) 97 w w.heap.size (fun k_=>((P0_1_ k_∨P0_2_ k_∨P1_1_ k_∨P1_2_ k_)∨w.heap.size≤k_)) (.slice A0_1 l0_1.length c0_1) l0_1 from Kd.V_mono hs0_1 (fun k_ hk=>.inl (.inl hk)))
 have HO0_2:=aZ (show Kd.V (Kd.int .u32) 97 w w.heap.size (fun k_=>((P0_1_ k_∨P0_2_ k_∨P1_1_ k_∨P1_2_ k_)∨w.heap.size≤k_)) (.slice A0_2 l0_2.length c0_2) l0_2 from Kd.V_mono hs0_2 (fun k_ hk=>.inl (.inr (.inl hk))))
 have HO1_1:=aZ (show Kd.V (Kd.int .u32) 97 w w.heap.size (fun k_=>((P0_1_ k_∨P0_2_ k_∨P1_1_ k_∨P1_2_ k_)∨w.heap.size≤k_)) (.slice A1_1 l1_1.length c1_1) l1_1 from Kd.V_mono hs1_1 (fun k_ hk=>.inl (.inr (.inr (.inl hk)))))
 have HO1_2:=aZ (show Kd.V (Kd.int .u32) 97 w w.heap.size (fun k_=>((P0_1_ k_∨P0_2_ k_∨P1_1_ k_∨P1_2_ k_)∨w.heap.size≤k_)) (.slice A1_2 l1_2.length c1_2) l1_2 from Kd.V_mono hs1_2 (fun k_ hk=>.inl (.inr (.inr (.inr hk)))))
 have HB:=aZ (Below.refl w.heap.size w)
 have H:=h
 unfold frac_Sub.f at H
 clear h
 obtain ⟨⟨t583,t584,t587⟩,A3,H⟩:=zB H
 (try dsimp only at H)
 obtain ⟨⟨t590,t591,t594⟩,A4,H⟩:=zB H
 (try dsimp only at H)
 simp only [Option.some.injEq,Prod.mk.injEq] at H
 obtain ⟨rfl,rfl,rfl⟩:=H
 go_enter func118,ntmps118
 try go_wp2_with (first|(refine box_ev 2 #[.bool a0_0,.slice A0_1 l0_1.length c0_1,.slice A0_2 l0_2.length c0_2] 103 ?_;intro gb580 hg w5 hbox hb;replace HO0_1:=yE HO0_1 hg hb;replace HO0_2:=yE HO0_2 hg hb;replace HO1_1:=yE HO1_1 hg hb;replace HO1_2:=yE HO1_2 hg hb;have BK580:=aZ hbox;have GE580:=sG hg;replace HB:=sB hb;clear hb hbox hg)|(refine box_ev 3 #[.bool a1_0,.slice A1_1 l1_1.length c1_1,.slice A1_2 l1_2.length c1_2] 103 ?_;intro gb581 hg w6 hbox hb;replace HO0_1:=yE HO0_1 hg hb;replace HO0_2:=yE HO0_2 hg hb;replace HO1_1:=yE HO1_1 hg hb;replace HO1_2:=yE HO1_2 hg hb;have BK581:=aZ hbox;have GE581:=sG hg;replace HB:=sB hb;have NB580_581:=sl hg BK580;have NB581_580:=sg hg BK580;replace BK580:=sK BK580 hb;clear hb hbox hg)|(refine box_ev 4 #[.bool false,.slice none 0 0,.slice none 0 0] 103 ?_;intro gb582 hg w7 hbox hb;replace HO0_1:=yE HO0_1 hg hb;replace HO0_2:=yE HO0_2 hg hb;replace HO1_1:=yE HO1_1 hg hb;replace HO1_2:=yE HO1_2 hg hb;have BK582:=aZ hbox;have GE582:=sG hg;replace HB:=sB hb;have NB580_582:=sl hg BK580;have NB582_580:=sg hg BK580;replace BK580:=sK BK580 hb;have NB581_582:=sl hg BK581;have NB582_581:=sg hg BK581;replace BK581:=sK BK581 hb;clear hb hbox hg))
 replace HO0_1:=aZ (Kd.V_drew HO0_1.out)
 replace HO0_2:=aZ (Kd.V_drew HO0_2.out)
 replace HO1_1:=aZ (Kd.V_drew HO1_1.out)
 replace HO1_2:=aZ (Kd.V_drew HO1_2.out)
 replace BK580:=aZ (blk_drew BK580.out)
 replace BK581:=aZ (blk_drew BK581.out)
 replace BK582:=aZ (blk_drew BK582.out)
 replace HB:=aZ (below_drew1 HB.out)
 refine start_ (n:=5) (S:=fun w'=>w'.cell? ⟨gb580,0,none⟩=some (.bool a0_0)∧w'.cell? ⟨gb580,1,none⟩=some (.slice A0_1 l0_1.length c0_1)∧w'.cell? ⟨gb580,2,none⟩=some (.slice A0_2 l0_2.length c0_2)∧w'.cell? ⟨gb581,0,none⟩=some (.bool a1_0)∧w'.cell? ⟨gb581,1,none⟩=some (.slice A1_1 l1_1.length c1_1)∧w'.cell? ⟨gb581,2,none⟩=some (.slice A1_2 l1_2.length c1_2)) (ds:=[]) #[false,false,false,false,false] (by kernel_rfl) rfl rfl ⟨zh BK580 0,zh BK580 1,zh BK580 2,zh BK581 0,zh BK581 1,zh BK581 2⟩ (fun hHeld=>?_)
 generalize w7.drew=w8 at HO0_1 HO0_2 HO1_1 HO1_2 BK580 BK581 BK582 HB hHeld ⊢
 refine take_ (i:=0) (N:=some 5) (v:=?_) (a':=?_) #[true,false,false,false,false] rfl rfl (by kernel_rfl) (fun _ _ _ h=>h) (Or.inl ⟨by rfl,?_⟩) hHeld ?_ ?_
 rotate_left
 ·rintro w' ⟨s0,s1,s2,s3,s4,s5⟩
  go_simp
  with_reducible rfl
 rotate_left
 ·simp only [Act.put,List.setIfInBounds_toArray,List.set_cons_zero,List.set_cons_succ,i64_w,i32_w]
  rfl
 refine take_ (i:=1) (N:=some 6) (v:=?_) (a':=?_) #[true,true,false,false,false] rfl rfl (by kernel_rfl) (fun _ _ _ h=>h) (Or.inl ⟨by rfl,?_⟩) hHeld ?_ ?_
 rotate_left
 ·rintro w' ⟨s0,s1,s2,s3,s4,s5⟩
  go_simp
  with_reducible rfl
 rotate_left
 ·simp only [Act.put,List.setIfInBounds_toArray,List.set_cons_zero,List.set_cons_succ,i64_w,i32_w]
  rfl
 refine one_ (i:=2) (N:=some 7) #[true,true,true,false,false] rfl rfl (by kernel_rfl) (by decide) (fun K hK=>?_)
 refine goes_ func121 (by kernel_rfl) rfl #[.agg #[.bool a1_0,.slice A1_1 l1_1.length c1_1,.slice A1_2 l1_2.length c1_2]] (by rfl) rfl rfl zm ?_
 with_reducible refine (frac_Neg.calls a1_0 (fun k_=>(((((P0_1_ k_∨P0_2_ k_∨P1_1_ k_∨P1_2_ k_)∨w.heap.size≤k_)∧k_≠gb580)∧k_≠gb581)∧k_≠gb582)) _ _ l1_1 (fun k_=>(((((P0_1_ k_∨P0_2_ k_∨P1_1_ k_∨P1_2_ k_)∨w.heap.size≤k_)∧k_≠gb580)∧k_≠gb581)∧k_≠gb582)) _ _ l1_2 t583 t584 t587 _ ?side1 ?side2 A3.out).mono ?_
 (case side1=>exact HO1_1.out)
 (case side2=>exact HO1_2.out)
 rintro e w9 ⟨v585,v588,rfl,ho0,ho1,hb⟩
 refine ⟨_,rfl,?_⟩
 replace HO0_1:=yV HO0_1 hb
 replace HO0_2:=yV HO0_2 hb
 replace HO1_1:=yV HO1_1 hb
 replace HO1_2:=yV HO1_2 hb
 have HO586:=yL (fun k_=>((P0_1_ k_∨P0_2_ k_∨P1_1_ k_∨P1_2_ k_)∨w.heap.size≤k_)∧k_≠gb580∧k_≠gb581∧k_≠gb582) ho0 (fun k_ hk_=>⟨Or.elim hk_ (fun hs_=>Or.elim hs_ (fun hs_=>hs_.1.1.1) (fun hs_=>hs_.1.1.1)) (fun hn_=>(.inr (Nat.le_trans bs hn_))),Or.elim hk_ (fun hs_=>Or.elim hs_ (fun hs_=>hs_.1.1.2) (fun hs_=>hs_.1.1.2)) (fun hn_=>(zf BK580 hn_)),Or.elim hk_ (fun hs_=>Or.elim hs_ (fun hs_=>hs_.1.2) (fun hs_=>hs_.1.2)) (fun hn_=>(zf BK581 hn_)),Or.elim hk_ (fun hs_=>Or.elim hs_ (fun hs_=>hs_.2) (fun hs_=>hs_.2)) (fun hn_=>(zf BK582 hn_))⟩)
 have HO589:=yL (fun k_=>((P0_1_ k_∨P0_2_ k_∨P1_1_ k_∨P1_2_ k_)∨w.heap.size≤k_)∧k_≠gb580∧k_≠gb581∧k_≠gb582) ho1 (fun k_ hk_=>⟨Or.elim hk_ (fun hs_=>Or.elim hs_ (fun hs_=>hs_.1.1.1) (fun hs_=>hs_.1.1.1)) (fun hn_=>(.inr (Nat.le_trans bs hn_))),Or.elim hk_ (fun hs_=>Or.elim hs_ (fun hs_=>hs_.1.1.2) (fun hs_=>hs_.1.1.2)) (fun hn_=>(zf BK580 hn_)),Or.elim hk_ (fun hs_=>Or.elim hs_ (fun hs_=>hs_.1.2) (fun hs_=>hs_.1.2)) (fun hn_=>(zf BK581 hn_)),Or.elim hk_ (fun hs_=>Or.elim hs_ (fun hs_=>hs_.2) (fun hs_=>hs_.2)) (fun hn_=>(zf BK582 hn_))⟩)
 replace BK580:=sK BK580 hb
 replace BK581:=sK BK581 hb
 replace BK582:=sK BK582 hb
 replace HB:=sB hb
 clear hb ho0 ho1
 obtain ⟨Ao10,co10,eo10⟩:=Kd.V_slice HO586.out
 (first|subst eo10|(injection eo10 with f1_ f2_ f3_;have f4_:=f1_.symm;have f5_:=f3_.symm;clear f1_ f2_ f3_;subst f4_;subst f5_))
 obtain ⟨Ao11,co11,eo11⟩:=Kd.V_slice HO589.out
 (first|subst eo11|(injection eo11 with f1_ f2_ f3_;have f4_:=f1_.symm;have f5_:=f3_.symm;clear f1_ f2_ f3_;subst f4_;subst f5_))
 refine hK.out _ _ ⟨zh BK580 0,zh BK580 1,zh BK580 2,zh BK581 0,zh BK581 1,zh BK581 2⟩ (fun hHeld=>?_)
 clear hK K
 refine nm ?_
 refine one_ (i:=3) (N:=some 8) #[true,true,true,true,false] rfl rfl (by kernel_rfl) (by decide) (fun K hK=>?_)
 refine goes_ func117 (by kernel_rfl) rfl #[.agg #[.bool a0_0,.slice A0_1 l0_1.length c0_1,.slice A0_2 l0_2.length c0_2],.agg #[.bool t583,.slice Ao10 t584.length co10,.slice Ao11 t587.length co11]] (by rfl) rfl rfl zm ?_
 with_reducible refine (frac_Add.calls k a0_0 (fun k_=>(((((P0_1_ k_∨P0_2_ k_∨P1_1_ k_∨P1_2_ k_)∨w.heap.size≤k_)∧k_≠gb580)∧k_≠gb581)∧k_≠gb582)) _ _ l0_1 (fun k_=>(((((P0_1_ k_∨P0_2_ k_∨P1_1_ k_∨P1_2_ k_)∨w.heap.size≤k_)∧k_≠gb580)∧k_≠gb581)∧k_≠gb582)) _ _ l0_2 t583 (fun k_=>(((P0_1_ k_∨P0_2_ k_∨P1_1_ k_∨P1_2_ k_)∨w.heap.size≤k_)∧(k_≠gb580∧(k_≠gb581∧k_≠gb582)))) _ _ t584 _ _ t587 t590 t591 t594 _ ?side1 ?side2 ?side3 ?side4 ?side5 A4.out).mono ?_
 (case side1=>exact HO0_1.out)
 (case side2=>exact HO0_2.out)
 (case side3=>exact HO586.out)
 (case side4=>exact zr HO589)
 (case side5=>exact zk HO589)
 rintro e w12 ⟨v592,v595,rfl,ho0,ho1,hb⟩
 refine ⟨_,rfl,?_⟩
 replace HO0_1:=yV HO0_1 hb
 replace HO0_2:=yV HO0_2 hb
 replace HO1_1:=yV HO1_1 hb
 replace HO1_2:=yV HO1_2 hb
 replace HO586:=yV HO586 hb
 replace HO589:=yV HO589 hb
 have HO593:=yL (fun k_=>((P0_1_ k_∨P0_2_ k_∨P1_1_ k_∨P1_2_ k_)∨w.heap.size≤k_)∧k_≠gb580∧k_≠gb581∧k_≠gb582) ho0 (fun k_ hk_=>⟨Or.elim hk_ (fun hs_=>Or.elim hs_ (fun hs_=>hs_.1.1.1) (fun hs_=>Or.elim hs_ (fun hs_=>hs_.1.1.1) (fun hs_=>hs_.1))) (fun hn_=>(.inr (Nat.le_trans bs hn_))),Or.elim hk_ (fun hs_=>Or.elim hs_ (fun hs_=>hs_.1.1.2) (fun hs_=>Or.elim hs_ (fun hs_=>hs_.1.1.2) (fun hs_=>hs_.2.1))) (fun hn_=>(zf BK580 hn_)),Or.elim hk_ (fun hs_=>Or.elim hs_ (fun hs_=>hs_.1.2) (fun hs_=>Or.elim hs_ (fun hs_=>hs_.1.2) (fun hs_=>hs_.2.2.1))) (fun hn_=>(zf BK581 hn_)),Or.elim hk_ (fun hs_=>Or.elim hs_ (fun hs_=>hs_.2) (fun hs_=>Or.elim hs_ (fun hs_=>hs_.2) (fun hs_=>hs_.2.2.2))) (fun hn_=>(zf BK582 hn_))⟩)
 have HO596:=yL (fun k_=>((P0_1_ k_∨P0_2_ k_∨P1_1_ k_∨P1_2_ k_)∨w.heap.size≤k_)∧k_≠gb580∧k_≠gb581∧k_≠gb582) ho1 (fun k_ hk_=>⟨Or.elim hk_ (fun hs_=>Or.elim hs_ (fun hs_=>hs_.1.1.1) (fun hs_=>Or.elim hs_ (fun hs_=>hs_.1.1.1) (fun hs_=>hs_.1))) (fun hn_=>(.inr (Nat.le_trans bs hn_))),Or.elim hk_ (fun hs_=>Or.elim hs_ (fun hs_=>hs_.1.1.2) (fun hs_=>Or.elim hs_ (fun hs_=>hs_.1.1.2) (fun hs_=>hs_.2.1))) (fun hn_=>(zf BK580 hn_)),Or.elim hk_ (fun hs_=>Or.elim hs_ (fun hs_=>hs_.1.2) (fun hs_=>Or.elim hs_ (fun hs_=>hs_.1.2) (fun hs_=>hs_.2.2.1))) (fun hn_=>(zf BK581 hn_)),Or.elim hk_ (fun hs_=>Or.elim hs_ (fun hs_=>hs_.2) (fun hs_=>Or.elim hs_ (fun hs_=>hs_.2) (fun hs_=>hs_.2.2.2))) (fun hn_=>(zf BK582 hn_))⟩)
 replace BK580:=sK BK580 hb
 replace BK581:=sK BK581 hb
 replace BK582:=sK BK582 hb
 replace HB:=sB hb
 clear hb ho0 ho1
 obtain ⟨Ao14,co14,eo14⟩:=Kd.V_slice HO593.out
 (first|subst eo14|(injection eo14 with f1_ f2_ f3_;have f4_:=f1_.symm;have f5_:=f3_.symm;clear f1_ f2_ f3_;subst f4_;subst f5_))
 obtain ⟨Ao16,co16,eo16⟩:=Kd.V_slice HO596.out
 (first|subst eo16|(injection eo16 with f1_ f2_ f3_;have f4_:=f1_.symm;have f5_:=f3_.symm;clear f1_ f2_ f3_;subst f4_;subst f5_))
 refine hK.out _ _ ⟨zh BK580 0,zh BK580 1,zh BK580 2,zh BK581 0,zh BK581 1,zh BK581 2⟩ (fun hHeld=>?_)
 clear hK K
 refine nm ?_
 refine one_ (i:=4) (N:=none) #[true,true,true,true,true] rfl rfl (by kernel_rfl) (by decide) (fun K hK=>?_)
 have hs13:w12.cell? ⟨gb582,0,none⟩=some (.bool false):=(blk_cell BK582.out 0).trans rfl
 have hfs13:=blk_frozen BK582.out 0
 have hns13_0:=NB580_582.out
 have hns13_1:=NB581_582.out
 have hms13_0:=NB582_580.out
 have hms13_1:=NB582_581.out
 have hs15:w12.cell? ⟨gb582,1,none⟩=some (.slice none 0 0):=(blk_cell BK582.out 1).trans rfl
 have hfs15:=blk_frozen BK582.out 1
 have hns15_0:=NB580_582.out
 have hns15_1:=NB581_582.out
 have hms15_0:=NB582_580.out
 have hms15_1:=NB582_581.out
 have hs17:w12.cell? ⟨gb582,2,none⟩=some (.slice none 0 0):=(blk_cell BK582.out 2).trans rfl
 have hfs17:=blk_frozen BK582.out 2
 have hns17_0:=NB580_582.out
 have hns17_1:=NB581_582.out
 have hms17_0:=NB582_580.out
 have hms17_1:=NB582_581.out
 refine skip_ (w1:=?_) (by rfl) rfl ?_ ?_
 rotate_left
 ·go_simp
  rfl
 refine hK.out _ _ ⟨((cell_far (p:=⟨gb582,_,none⟩) NB580_582.out _).trans (((cell_far (p:=⟨gb582,_,none⟩) NB580_582.out _).trans (((cell_far (p:=⟨gb582,_,none⟩) NB580_582.out _).trans (hHeld.1)))))),((cell_far (p:=⟨gb582,_,none⟩) NB580_582.out _).trans (((cell_far (p:=⟨gb582,_,none⟩) NB580_582.out _).trans (((cell_far (p:=⟨gb582,_,none⟩) NB580_582.out _).trans (hHeld.2.1)))))),((cell_far (p:=⟨gb582,_,none⟩) NB580_582.out _).trans (((cell_far (p:=⟨gb582,_,none⟩) NB580_582.out _).trans (((cell_far (p:=⟨gb582,_,none⟩) NB580_582.out _).trans (hHeld.2.2.1)))))),((cell_far (p:=⟨gb582,_,none⟩) NB581_582.out _).trans (((cell_far (p:=⟨gb582,_,none⟩) NB581_582.out _).trans (((cell_far (p:=⟨gb582,_,none⟩) NB581_582.out _).trans (hHeld.2.2.2.1)))))),((cell_far (p:=⟨gb582,_,none⟩) NB581_582.out _).trans (((cell_far (p:=⟨gb582,_,none⟩) NB581_582.out _).trans (((cell_far (p:=⟨gb582,_,none⟩) NB581_582.out _).trans (hHeld.2.2.2.2.1)))))),((cell_far (p:=⟨gb582,_,none⟩) NB581_582.out _).trans (((cell_far (p:=⟨gb582,_,none⟩) NB581_582.out _).trans (((cell_far (p:=⟨gb582,_,none⟩) NB581_582.out _).trans (hHeld.2.2.2.2.2))))))⟩ (fun hHeld=>?_)
 clear hK K
 refine done_ (by kernel_rfl) ?_
 try go_wp2
 refine bodyPost_ret (results_cell_row rfl _ _ gb582 103 #[.bool t590,.slice Ao14 t591.length co14,.slice Ao16 t594.length co16] (0,0) _ rfl (zp BK582) underlying103 rfl (by kernel_rfl)) rfl ?_
 exact ⟨_,_,ze,zF HO593,zF HO596,bw⟩
end Go.Proofs.YtaffkbemjbfajaaGreatDoor.PNumSums
