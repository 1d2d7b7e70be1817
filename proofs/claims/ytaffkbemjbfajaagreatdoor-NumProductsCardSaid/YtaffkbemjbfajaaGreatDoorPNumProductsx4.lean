-- By a program of this session: functions as plain Lean functions, each with its proof over the machine.
import Derived.Test.YtaffkbemjbfajaaGreatDoorPNumProductsx0
import Derived.Test.YtaffkbemjbfajaaGreatDoorPNumProductsx1
import Derived.Test.YtaffkbemjbfajaaGreatDoorPNumProductsx2
import Derived.Test.YtaffkbemjbfajaaGreatDoorPNumProductsx3
namespace Go.Proofs.YtaffkbemjbfajaaGreatDoor.PNumProducts
open Go.RowKit Go.Proofs.Tryz Go.Proofs.YtaffkbemjbfajaaGreatDoorW.PrintWords Go.Proofs.YtaffkbemjbfajaaGreatDoorW.PrintLast Go.Proofs.YtaffkbemjbfajaaGreatDoorW.PrintMore
attribute [local go_sem] max2_int min2_int max_two min_two max_three min_three max_four min_four
set_option linter.unusedVariables false
set_option linter.unusedSimpArgs false
set_option maxHeartbeats 8000000
set_option maxRecDepth 100000
def weftref1_Of.f (k:Nat) (a0_0:ByteArray) (a0_1:ByteArray):Option (Bool×List Int×List Int):=(strings_CutPrefix.f a0_0 (⟨#[45]⟩:ByteArray)).bind fun bt468=>((weftref1_natRead.f k bt468.1).bind fun t470=>((weftref1_natRead.f k a0_1).bind fun t473=>(some (bt468.2,t470,t473))))
def weftref1_Of.T2:Bool×List (List Nat×List Nat):=(true,[([],[]),([],[]),([1],[1]),([],[]),([3],[3]),([4,2],[4]),([0,2,5],[0,2,5]),([6,5,0,1,2,3,4,5,6],[6])])
def weftref1_Of.B2:List Nat:=[0,0,2,0,8,30,63,127]
theorem weftref1_Of.tab2:rtab .any (opsOf Tryz.f58 2)=weftref1_Of.T2:=by kernel_rfl
theorem weftref1_Of.bits2:waitsOk weftref1_Of.T2.2 weftref1_Of.B2=true:=by kernel_rfl
theorem weftref1_Of.calls (k:Nat) (a0_0:ByteArray) (a0_1:ByteArray) (r1:Bool) (r2:List Int) (r3:List Int) (w:World) (h:weftref1_Of.f k a0_0 a0_1=some (r1,r2,r3)) :
  Calls Tryz.prog 58 #[.agg #[.string a0_0,.string a0_1]] w fun e w'=>∃ v1_ v2_:Value,e = .returned (.agg #[.bool r1,v1_,v2_])∧Kd.V (Kd.int .i64) 3 w' w.heap.size (fun k_=>(w.heap.size≤k_)) v1_ r2∧Kd.V (Kd.int .i64) 3 w' w.heap.size (fun k_=>(w.heap.size≤k_)) v2_ r3∧Below w.heap.size w w':=by
 have hu61:=underlying61
 have hu67:=underlying67
 have HB:=aZ (Below.refl w.heap.size w)
 have H:=h
 unfold weftref1_Of.f at H
 clear h
 obtain ⟨⟨t468,t469⟩,A2,H⟩:=zB H
 (try dsimp only at H)
 obtain ⟨t470,A3,H⟩:=zB H
 obtain ⟨t473,A4,H⟩:=zB H
 simp only [Option.some.injEq,Prod.mk.injEq] at H
 obtain ⟨rfl,rfl,rfl⟩:=H
 go_enter func58,ntmps58
 try go_wp2_with (first|(refine box_ev 1 #[.string a0_0,.string a0_1] 61 ?_;intro gb466 hg w5 hbox hb;have BK466:=aZ hbox;have GE466:=sG hg;replace HB:=sB hb;clear hb hbox hg)|(refine box_ev 2 #[.bool false,.slice none 0 0,.slice none 0 0] 67 ?_;intro gb467 hg w6 hbox hb;have BK467:=aZ hbox;have GE467:=sG hg;replace HB:=sB hb;have NB466_467:=sl hg BK466;have NB467_466:=sg hg BK466;replace BK466:=sK BK466 hb;clear hb hbox hg;have hnb7:=NB466_467.out;have hnc7:=NB467_466.out;obtain ⟨hcz8_0,hfz8_0⟩:=zc BK466 0 (.string a0_0) rfl;obtain ⟨hcz8_1,hfz8_1⟩:=zc BK466 1 (.string a0_1) rfl)|(refine zg (some 8) func102 #[.string a0_0,.string (⟨#[45]⟩:ByteArray)] ?_;(with_reducible refine (strings_CutPrefix.calls a0_0 (⟨#[45]⟩:ByteArray) t468 t469 _ A2.out).mono ?_);rintro e w' ⟨rfl,⟨nd,rfl⟩⟩;refine ⟨_,rfl,?_⟩;(try (rw [drewN_self w6];generalize hq_:World.drewN w6 _=w6;have n0_:Aside0 (w6.heap[gb466]? = some (.cells #[.string a0_0,.string a0_1] 61 (0,0))):=⟨by rw [← hq_];exact (zb BK466)⟩;have n1_:Aside0 (w6.heap[gb467]? = some (.cells #[.bool false,.slice none 0 0,.slice none 0 0] 67 (0,0))):=⟨by rw [← hq_];exact (zb BK467)⟩;have n2_:Aside0 (Below w.heap.size w w6):=⟨by rw [← hq_];exact bw⟩;clear BK466 BK467 HB hq_;have BK466:=n0_;have BK467:=n1_;have HB:=n2_;clear n0_ n1_ n2_))))
 replace BK466:=aZ (blk_drew BK466.out)
 replace BK467:=aZ (blk_drew BK467.out)
 replace HB:=aZ (below_drew1 HB.out)
 refine start_ (n:=8) (S:=fun w'=>w'.cell? ⟨gb466,0,none⟩=some (.string a0_0)∧w'.cell? ⟨gb466,1,none⟩=some (.string a0_1)) (ds:=[]) #[false,false,false,false,false,false,false,false] (by kernel_rfl) rfl rfl ⟨zh BK466 0,zh BK466 1⟩ (fun hHeld=>?_);refine with_tabW weftref1_Of.tab2 weftref1_Of.bits2 (fun HT_ HW_=>?_)
 generalize w6.drew=w9 at BK466 BK467 HB hHeld ⊢
 refine pu 0 (some 11) HT_ ?_
 refine pu 1 (some 12) HT_ ?_
 refine pu 3 (some 14) HT_ ?_
 refine tk 4 (some 15) HT_ HW_ hHeld ?_
 refine one_ (i:=2) (N:=some 13) #[true,true,true,true,true,false,false,false] rfl rfl (one_of HT_.out (by kernel_rfl)) (by decide) (fun K hK=>?_)
 refine goes_ func105 (by kernel_rfl) rfl #[.string t468] (by rfl) rfl rfl zm ?_
 with_reducible refine (weftref1_natRead.calls k t468 t470 _ A3.out).mono ?_
 rintro e w10 ⟨v471,rfl,ho0,hb⟩
 refine ⟨_,rfl,?_⟩
 have HO472:=yL (fun k_=>(w.heap.size≤k_)∧k_≠gb466∧k_≠gb467) ho0 (fun k_ hk_=>⟨(Nat.le_trans bs hk_),(zf BK466 hk_),(zf BK467 hk_)⟩)
 replace BK466:=sK BK466 hb
 replace BK467:=sK BK467 hb
 replace HB:=sB hb
 clear hb ho0
 refine hK.out _ _ ⟨zh BK466 0,zh BK466 1⟩ (fun hHeld=>?_)
 clear hK K
 refine nm ?_
 refine one_ (i:=5) (N:=some 16) #[true,true,true,true,true,true,false,false] rfl rfl (one_of HT_.out (by kernel_rfl)) (by decide) (fun K hK=>?_)
 refine goes_ func105 (by kernel_rfl) rfl #[.string a0_1] (by rfl) rfl rfl zm ?_
 with_reducible refine (weftref1_natRead.calls k a0_1 t473 _ A4.out).mono ?_
 rintro e w11 ⟨v474,rfl,ho0,hb⟩
 refine ⟨_,rfl,?_⟩
 replace HO472:=yV HO472 hb
 have HO475:=yL (fun k_=>(w.heap.size≤k_)∧k_≠gb466∧k_≠gb467) ho0 (fun k_ hk_=>⟨(Nat.le_trans bs hk_),(zf BK466 hk_),(zf BK467 hk_)⟩)
 replace BK466:=sK BK466 hb
 replace BK467:=sK BK467 hb
 replace HB:=sB hb
 clear hb ho0
 obtain ⟨Ao12,co12,eo12⟩:=Kd.V_slice HO475.out
 (first|subst eo12|(injection eo12 with f1_ f2_ f3_;have f4_:=f1_.symm;have f5_:=f3_.symm;clear f1_ f2_ f3_;subst f4_;subst f5_))
 obtain ⟨Ao13,co13,eo13⟩:=Kd.V_slice HO472.out
 (first|subst eo13|(injection eo13 with f1_ f2_ f3_;have f4_:=f1_.symm;have f5_:=f3_.symm;clear f1_ f2_ f3_;subst f4_;subst f5_))
 refine hK.out _ _ ⟨zh BK466 0,zh BK466 1⟩ (fun hHeld=>?_)
 clear hK K
 refine nm ?_
 refine pu 6 (some 17) HT_ ?_
 refine one_ (i:=7) (N:=none) #[true,true,true,true,true,true,true,true] rfl rfl (one_of HT_.out (by kernel_rfl)) (by decide) (fun K hK=>?_)
 have hs14:w11.cell? ⟨gb467,0,none⟩=some (.bool false):=(blk_cell BK467.out 0).trans rfl
 have hfs14:=blk_frozen BK467.out 0
 have hns14_0:=NB466_467.out
 have hms14_0:=NB467_466.out
 have hs15:w11.cell? ⟨gb467,1,none⟩=some (.slice none 0 0):=(blk_cell BK467.out 1).trans rfl
 have hfs15:=blk_frozen BK467.out 1
 have hns15_0:=NB466_467.out
 have hms15_0:=NB467_466.out
 have hs16:w11.cell? ⟨gb467,2,none⟩=some (.slice none 0 0):=(blk_cell BK467.out 2).trans rfl
 have hfs16:=blk_frozen BK467.out 2
 have hns16_0:=NB466_467.out
 have hms16_0:=NB467_466.out
 refine skip_ (w1:=?_) (by rfl) rfl ?_ ?_
 rotate_left
 ·go_simp
  rfl
 refine hK.out _ _ ⟨((cell_far (p:=⟨gb467,_,none⟩) NB466_467.out _).trans (((cell_far (p:=⟨gb467,_,none⟩) NB466_467.out _).trans (((cell_far (p:=⟨gb467,_,none⟩) NB466_467.out _).trans (hHeld.1)))))),((cell_far (p:=⟨gb467,_,none⟩) NB466_467.out _).trans (((cell_far (p:=⟨gb467,_,none⟩) NB466_467.out _).trans (((cell_far (p:=⟨gb467,_,none⟩) NB466_467.out _).trans (hHeld.2))))))⟩ (fun hHeld=>?_)
 clear hK K
 refine done_ (done_of HT_.out (by kernel_rfl)) ?_
 try go_wp2
 refine bodyPost_ret (results_cell_row rfl _ _ gb467 67 #[.bool t469,.slice Ao13 t470.length co13,.slice Ao12 t473.length co12] (0,0) _ rfl (zp BK467) underlying67 rfl (by kernel_rfl)) rfl ?_
 exact ⟨_,_,ze,zF HO472,zF HO475,bw⟩
def frac_Of.f (k:Nat) (a0_0:ByteArray) (a0_1:ByteArray):Option (Bool×List Int×List Int):=(strings_CutPrefix.f a0_0 (⟨#[45]⟩:ByteArray)).bind fun bt478=>((nat_Parse.f k bt478.1).bind fun t480=>((nat_Parse.f k a0_1).bind fun t483=>(some (bt478.2,t480,t483))))
def frac_Of.T2:Bool×List (List Nat×List Nat):=(true,[([],[]),([],[]),([1],[1]),([],[]),([3],[3]),([4,2],[4]),([0,2,5],[0,2,5]),([6,5,0,1,2,3,4,5,6],[6])])
def frac_Of.B2:List Nat:=[0,0,2,0,8,30,63,127]
theorem frac_Of.tab2:rtab .any (opsOf Tryz.f127 2)=frac_Of.T2:=by kernel_rfl
theorem frac_Of.bits2:waitsOk frac_Of.T2.2 frac_Of.B2=true:=by kernel_rfl
theorem frac_Of.calls (k:Nat) (a0_0:ByteArray) (a0_1:ByteArray) (r1:Bool) (r2:List Int) (r3:List Int) (w:World) (h:frac_Of.f k a0_0 a0_1=some (r1,r2,r3)) :
  Calls Tryz.prog 127 #[.agg #[.string a0_0,.string a0_1]] w fun e w'=>∃ v1_ v2_:Value,e = .returned (.agg #[.bool r1,v1_,v2_])∧Kd.V (Kd.int .u32) 97 w' w.heap.size (fun k_=>(w.heap.size≤k_)) v1_ r2∧Kd.V (Kd.int .u32) 97 w' w.heap.size (fun k_=>(w.heap.size≤k_)) v2_ r3∧Below w.heap.size w w':=by
 have hu61:=underlying61
 have hu103:=underlying103
 have HB:=aZ (Below.refl w.heap.size w)
 have H:=h
 unfold frac_Of.f at H
 clear h
 obtain ⟨⟨t478,t479⟩,A2,H⟩:=zB H
 (try dsimp only at H)
 obtain ⟨t480,A3,H⟩:=zB H
 obtain ⟨t483,A4,H⟩:=zB H
 simp only [Option.some.injEq,Prod.mk.injEq] at H
 obtain ⟨rfl,rfl,rfl⟩:=H
 go_enter func127,ntmps127
 try go_wp2_with (first|(refine box_ev 1 #[.string a0_0,.string a0_1] 61 ?_;intro gb476 hg w5 hbox hb;have BK476:=aZ hbox;have GE476:=sG hg;replace HB:=sB hb;clear hb hbox hg)|(refine box_ev 2 #[.bool false,.slice none 0 0,.slice none 0 0] 103 ?_;intro gb477 hg w6 hbox hb;have BK477:=aZ hbox;have GE477:=sG hg;replace HB:=sB hb;have NB476_477:=sl hg BK476;have NB477_476:=sg hg BK476;replace BK476:=sK BK476 hb;clear hb hbox hg;have hnb7:=NB476_477.out;have hnc7:=NB477_476.out;obtain ⟨hcz8_0,hfz8_0⟩:=zc BK476 0 (.string a0_0) rfl;obtain ⟨hcz8_1,hfz8_1⟩:=zc BK476 1 (.string a0_1) rfl)|(refine zg (some 8) func102 #[.string a0_0,.string (⟨#[45]⟩:ByteArray)] ?_;(with_reducible refine (strings_CutPrefix.calls a0_0 (⟨#[45]⟩:ByteArray) t478 t479 _ A2.out).mono ?_);rintro e w' ⟨rfl,⟨nd,rfl⟩⟩;refine ⟨_,rfl,?_⟩;(try (rw [drewN_self w6];generalize hq_:World.drewN w6 _=w6;have n0_:Aside0 (w6.heap[gb476]? = some (.cells #[.string a0_0,.string a0_1] 61 (0,0))):=⟨by rw [← hq_];exact (zb BK476)⟩;have n1_:Aside0 (w6.heap[gb477]? = some (.cells #[.bool false,.slice none 0 0,.slice none 0 0] 103 (0,0))):=⟨by rw [← hq_];exact (zb BK477)⟩;have n2_:Aside0 (Below w.heap.size w w6):=⟨by rw [← hq_];exact bw⟩;clear BK476 BK477 HB hq_;have BK476:=n0_;have BK477:=n1_;have HB:=n2_;clear n0_ n1_ n2_))))
 replace BK476:=aZ (blk_drew BK476.out)
 replace BK477:=aZ (blk_drew BK477.out)
 replace HB:=aZ (below_drew1 HB.out)
 refine start_ (n:=8) (S:=fun w'=>w'.cell? ⟨gb476,0,none⟩=some (.string a0_0)∧w'.cell? ⟨gb476,1,none⟩=some (.string a0_1)) (ds:=[]) #[false,false,false,false,false,false,false,false] (by kernel_rfl) rfl rfl ⟨zh BK476 0,zh BK476 1⟩ (fun hHeld=>?_);refine with_tabW frac_Of.tab2 frac_Of.bits2 (fun HT_ HW_=>?_)
 generalize w6.drew=w9 at BK476 BK477 HB hHeld ⊢
 refine pu 0 (some 11) HT_ ?_
 refine pu 1 (some 12) HT_ ?_
 refine pu 3 (some 14) HT_ ?_
 refine tk 4 (some 15) HT_ HW_ hHeld ?_
 refine one_ (i:=2) (N:=some 13) #[true,true,true,true,true,false,false,false] rfl rfl (one_of HT_.out (by kernel_rfl)) (by decide) (fun K hK=>?_)
 refine goes_ func108 (by kernel_rfl) rfl #[.string t478] (by rfl) rfl rfl zm ?_
 with_reducible refine (nat_Parse.calls k t478 t480 _ A3.out).mono ?_
 rintro e w10 ⟨v481,rfl,ho0,hb⟩
 refine ⟨_,rfl,?_⟩
 have HO482:=yL (fun k_=>(w.heap.size≤k_)∧k_≠gb476∧k_≠gb477) ho0 (fun k_ hk_=>⟨(Nat.le_trans bs hk_),(zf BK476 hk_),(zf BK477 hk_)⟩)
 replace BK476:=sK BK476 hb
 replace BK477:=sK BK477 hb
 replace HB:=sB hb
 clear hb ho0
 refine hK.out _ _ ⟨zh BK476 0,zh BK476 1⟩ (fun hHeld=>?_)
 clear hK K
 refine nm ?_
 refine one_ (i:=5) (N:=some 16) #[true,true,true,true,true,true,false,false] rfl rfl (one_of HT_.out (by kernel_rfl)) (by decide) (fun K hK=>?_)
 refine goes_ func108 (by kernel_rfl) rfl #[.string a0_1] (by rfl) rfl rfl zm ?_
 with_reducible refine (nat_Parse.calls k a0_1 t483 _ A4.out).mono ?_
 rintro e w11 ⟨v484,rfl,ho0,hb⟩
 refine ⟨_,rfl,?_⟩
 replace HO482:=yV HO482 hb
 have HO485:=yL (fun k_=>(w.heap.size≤k_)∧k_≠gb476∧k_≠gb477) ho0 (fun k_ hk_=>⟨(Nat.le_trans bs hk_),(zf BK476 hk_),(zf BK477 hk_)⟩)
 replace BK476:=sK BK476 hb
 replace BK477:=sK BK477 hb
 replace HB:=sB hb
 clear hb ho0
 obtain ⟨Ao12,co12,eo12⟩:=Kd.V_slice HO485.out
 (first|subst eo12|(injection eo12 with f1_ f2_ f3_;have f4_:=f1_.symm;have f5_:=f3_.symm;clear f1_ f2_ f3_;subst f4_;subst f5_))
 obtain ⟨Ao13,co13,eo13⟩:=Kd.V_slice HO482.out
 (first|subst eo13|(injection eo13 with f1_ f2_ f3_;have f4_:=f1_.symm;have f5_:=f3_.symm;clear f1_ f2_ f3_;subst f4_;subst f5_))
 refine hK.out _ _ ⟨zh BK476 0,zh BK476 1⟩ (fun hHeld=>?_)
 clear hK K
 refine nm ?_
 refine pu 6 (some 17) HT_ ?_
 refine one_ (i:=7) (N:=none) #[true,true,true,true,true,true,true,true] rfl rfl (one_of HT_.out (by kernel_rfl)) (by decide) (fun K hK=>?_)
 have hs14:w11.cell? ⟨gb477,0,none⟩=some (.bool false):=(blk_cell BK477.out 0).trans rfl
 have hfs14:=blk_frozen BK477.out 0
 have hns14_0:=NB476_477.out
 have hms14_0:=NB477_476.out
 have hs15:w11.cell? ⟨gb477,1,none⟩=some (.slice none 0 0):=(blk_cell BK477.out 1).trans rfl
 have hfs15:=blk_frozen BK477.out 1
 have hns15_0:=NB476_477.out
 have hms15_0:=NB477_476.out
 have hs16:w11.cell? ⟨gb477,2,none⟩=some (.slice none 0 0):=(blk_cell BK477.out 2).trans rfl
 have hfs16:=blk_frozen BK477.out 2
 have hns16_0:=NB476_477.out
 have hms16_0:=NB477_476.out
 refine skip_ (w1:=?_) (by rfl) rfl ?_ ?_
 rotate_left
 ·go_simp
  rfl
 refine hK.out _ _ ⟨((cell_far (p:=⟨gb477,_,none⟩) NB476_477.out _).trans (((cell_far (p:=⟨gb477,_,none⟩) NB476_477.out _).trans (((cell_far (p:=⟨gb477,_,none⟩) NB476_477.out _).trans (hHeld.1)))))),((cell_far (p:=⟨gb477,_,none⟩) NB476_477.out _).trans (((cell_far (p:=⟨gb477,_,none⟩) NB476_477.out _).trans (((cell_far (p:=⟨gb477,_,none⟩) NB476_477.out _).trans (hHeld.2))))))⟩ (fun hHeld=>?_)
 clear hK K
 refine done_ (done_of HT_.out (by kernel_rfl)) ?_
 try go_wp2
 refine bodyPost_ret (results_cell_row rfl _ _ gb477 103 #[.bool t479,.slice Ao13 t480.length co13,.slice Ao12 t483.length co12] (0,0) _ rfl (zp BK477) underlying103 rfl (by kernel_rfl)) rfl ?_
 exact ⟨_,_,ze,zF HO482,zF HO485,bw⟩
-- NOT PRINTED: function 110 (num_two)
def frac_Mul.f (k:Nat) (a0_0:Bool) (l0_1:List Int) (l0_2:List Int) (a1_0:Bool) (l1_1:List Int) (l1_2:List Int):Option (Bool×List Int×List Int):=(nat_Mul.f k l0_1 l1_1).bind fun t489=>((nat_Mul.f k l0_2 l1_2).bind fun t492=>((frac_Reduced.f k (a0_0 != a1_0) t489 t492).bind fun bt495=>(some (bt495.1,bt495.2.1,bt495.2.2))))
def frac_Mul.T1:Bool×List (List Nat×List Nat):=(true,[([],[]),([0],[0]),([],[]),([2],[2]),([1,3],[1,3]),([],[]),([5],[5]),([],[]),([7],[7]),([6,8],[6,8]),([],[]),([10],[10]),([],[]),([12],[12]),([11,13,9],[11,13]),([4,9,14,14],[4,9,14]),([15,15,0,1,2,3,4,5,6,7,8,9,10,11,12,13,14,15],[15])])
def frac_Mul.B1:List Nat:=[0,1,0,4,15,0,32,0,128,480,0,1024,0,4096,16352,32767,65535]
theorem frac_Mul.tab1:rtab .any (opsOf Tryz.f111 1)=frac_Mul.T1:=by kernel_rfl
theorem frac_Mul.bits1:waitsOk frac_Mul.T1.2 frac_Mul.B1=true:=by kernel_rfl
theorem frac_Mul.calls (k:Nat) (a0_0:Bool) (A0_1:Option Addr) (c0_1:Nat) (l0_1:List Int) (A0_2:Option Addr) (c0_2:Nat) (l0_2:List Int) (a1_0:Bool) (A1_1:Option Addr) (c1_1:Nat) (l1_1:List Int) (A1_2:Option Addr) (c1_2:Nat) (l1_2:List Int) (r1:Bool) (r2:List Int) (r3:List Int) (w:World) (hr0_1:Kd.C (Kd.int .u32) w A0_1 l0_1.length l0_1) (hc0_1:l0_1.length≤c0_1) (hr0_2:Kd.C (Kd.int .u32) w A0_2 l0_2.length l0_2) (hc0_2:l0_2.length≤c0_2) (hr1_1:Kd.C (Kd.int .u32) w A1_1 l1_1.length l1_1) (hc1_1:l1_1.length≤c1_1) (hr1_2:Kd.C (Kd.int .u32) w A1_2 l1_2.length l1_2) (hc1_2:l1_2.length≤c1_2) (h:frac_Mul.f k a0_0 l0_1 l0_2 a1_0 l1_1 l1_2=some (r1,r2,r3)) :
  Calls Tryz.prog 111 #[.agg #[.bool a0_0,.slice A0_1 l0_1.length c0_1,.slice A0_2 l0_2.length c0_2],.agg #[.bool a1_0,.slice A1_1 l1_1.length c1_1,.slice A1_2 l1_2.length c1_2]] w fun e w'=>∃ v1_ v2_:Value,e = .returned (.agg #[.bool r1,v1_,v2_])∧Kd.V (Kd.int .u32) 97 w' w.heap.size (fun k_=>(w.heap.size≤k_)) v1_ r2∧Kd.V (Kd.int .u32) 97 w' w.heap.size (fun k_=>(w.heap.size≤k_)) v2_ r3∧Below w.heap.size w w':=by
 have hu103:=underlying103
 have HR0_1:=aZ hr0_1
 have HC0_1:=aZ hc0_1
 clear hr0_1 hc0_1
 have HR0_2:=aZ hr0_2
 have HC0_2:=aZ hc0_2
 clear hr0_2 hc0_2
 have HR1_1:=aZ hr1_1
 have HC1_1:=aZ hc1_1
 clear hr1_1 hc1_1
 have HR1_2:=aZ hr1_2
 have HC1_2:=aZ hc1_2
 clear hr1_2 hc1_2
 have HB:=aZ (Below.refl w.heap.size w)
 have H:=h
 unfold frac_Mul.f at H
 clear h
 obtain ⟨t489,A3,H⟩:=zB H
 obtain ⟨t492,A4,H⟩:=zB H
 obtain ⟨⟨t495,t496,t499⟩,A5,H⟩:=zB H
 (try dsimp only at H)
 simp only [Option.some.injEq,Prod.mk.injEq] at H
 obtain ⟨rfl,rfl,rfl⟩:=H
 go_enter func111,ntmps111
 try go_wp2_with (first|(refine box_ev 2 #[.bool a0_0,.slice A0_1 l0_1.length c0_1,.slice A0_2 l0_2.length c0_2] 103 ?_;intro gb486 hg w6 hbox hb;have BK486:=aZ hbox;have GE486:=sG hg;replace HB:=sB hb;clear hb hbox hg)|(refine box_ev 3 #[.bool a1_0,.slice A1_1 l1_1.length c1_1,.slice A1_2 l1_2.length c1_2] 103 ?_;intro gb487 hg w7 hbox hb;have BK487:=aZ hbox;have GE487:=sG hg;replace HB:=sB hb;have NB486_487:=sl hg BK486;have NB487_486:=sg hg BK486;replace BK486:=sK BK486 hb;clear hb hbox hg)|(refine box_ev 4 #[.bool false,.slice none 0 0,.slice none 0 0] 103 ?_;intro gb488 hg w8 hbox hb;have BK488:=aZ hbox;have GE488:=sG hg;replace HB:=sB hb;have NB486_488:=sl hg BK486;have NB488_486:=sg hg BK486;replace BK486:=sK BK486 hb;have NB487_488:=sl hg BK487;have NB488_487:=sg hg BK487;replace BK487:=sK BK487 hb;clear hb hbox hg))
 replace BK486:=aZ (blk_drew BK486.out)
 replace BK487:=aZ (blk_drew BK487.out)
 replace BK488:=aZ (blk_drew BK488.out)
 replace HB:=aZ (below_drew1 HB.out)
 refine start_ (n:=17) (S:=fun w'=>w'.cell? ⟨gb486,0,none⟩=some (.bool a0_0)∧w'.cell? ⟨gb486,1,none⟩=some (.slice A0_1 l0_1.length c0_1)∧w'.cell? ⟨gb486,2,none⟩=some (.slice A0_2 l0_2.length c0_2)∧w'.cell? ⟨gb487,0,none⟩=some (.bool a1_0)∧w'.cell? ⟨gb487,1,none⟩=some (.slice A1_1 l1_1.length c1_1)∧w'.cell? ⟨gb487,2,none⟩=some (.slice A1_2 l1_2.length c1_2)) (ds:=[]) #[false,false,false,false,false,false,false,false,false,false,false,false,false,false,false,false,false] (by kernel_rfl) rfl rfl ⟨zh BK486 0,zh BK486 1,zh BK486 2,zh BK487 0,zh BK487 1,zh BK487 2⟩ (fun hHeld=>?_);refine with_tabW frac_Mul.tab1 frac_Mul.bits1 (fun HT_ HW_=>?_)
 generalize w8.drew=w9 at BK486 BK487 BK488 HB hHeld ⊢
 refine pu 0 (some 5) HT_ ?_
 refine pu 2 (some 7) HT_ ?_
 refine pu 5 (some 10) HT_ ?_
 refine pu 7 (some 12) HT_ ?_
 refine pu 10 (some 15) HT_ ?_
 refine pu 12 (some 17) HT_ ?_
 refine tk 1 (some 6) HT_ HW_ hHeld ?_
 refine tk 3 (some 8) HT_ HW_ hHeld ?_
 refine pu 4 (some 9) HT_ ?_
 refine tk 6 (some 11) HT_ HW_ hHeld ?_
 refine tk 8 (some 13) HT_ HW_ hHeld ?_
 refine tk 11 (some 16) HT_ HW_ hHeld ?_
 refine tk 13 (some 18) HT_ HW_ hHeld ?_
 refine one_ (i:=9) (N:=some 14) #[true,true,true,true,true,true,true,true,true,true,true,true,true,true,false,false,false] rfl rfl (one_of HT_.out (by kernel_rfl)) (by decide) (fun K hK=>?_)
 refine goes_ func149 (by kernel_rfl) rfl #[.slice A0_1 l0_1.length c0_1,.slice A1_1 l1_1.length c1_1] (by rfl) rfl rfl zm ?_
 with_reducible refine (nat_Mul.calls k _ _ l0_1 _ _ l1_1 t489 _ ?side1 ?side2 ?side3 ?side4 A3.out).mono ?_
 (case side1=>exact zC (Kd.C_below HR0_1.out HB.out))
 (case side2=>exact HC0_1.out)
 (case side3=>exact zC (Kd.C_below HR1_1.out HB.out))
 (case side4=>exact HC1_1.out)
 rintro e w10 ⟨v490,rfl,ho0,hb⟩
 refine ⟨_,rfl,?_⟩
 have HO491:=yL (fun k_=>(w.heap.size≤k_)∧k_≠gb486∧k_≠gb487∧k_≠gb488) ho0 (fun k_ hk_=>⟨(Nat.le_trans bs hk_),(zf BK486 hk_),(zf BK487 hk_),(zf BK488 hk_)⟩)
 replace BK486:=sK BK486 hb
 replace BK487:=sK BK487 hb
 replace BK488:=sK BK488 hb
 replace HB:=sB hb
 clear hb ho0
 refine hK.out _ _ ⟨zh BK486 0,zh BK486 1,zh BK486 2,zh BK487 0,zh BK487 1,zh BK487 2⟩ (fun hHeld=>?_)
 clear hK K
 refine nm ?_
 refine one_ (i:=14) (N:=some 19) #[true,true,true,true,true,true,true,true,true,true,true,true,true,true,true,false,false] rfl rfl (one_of HT_.out (by kernel_rfl)) (by decide) (fun K hK=>?_)
 refine goes_ func149 (by kernel_rfl) rfl #[.slice A0_2 l0_2.length c0_2,.slice A1_2 l1_2.length c1_2] (by rfl) rfl rfl zm ?_
 with_reducible refine (nat_Mul.calls k _ _ l0_2 _ _ l1_2 t492 _ ?side1 ?side2 ?side3 ?side4 A4.out).mono ?_
 (case side1=>exact zC (Kd.C_below HR0_2.out HB.out))
 (case side2=>exact HC0_2.out)
 (case side3=>exact zC (Kd.C_below HR1_2.out HB.out))
 (case side4=>exact HC1_2.out)
 rintro e w11 ⟨v493,rfl,ho0,hb⟩
 refine ⟨_,rfl,?_⟩
 replace HO491:=yV HO491 hb
 have HO494:=yL (fun k_=>(w.heap.size≤k_)∧k_≠gb486∧k_≠gb487∧k_≠gb488) ho0 (fun k_ hk_=>⟨(Nat.le_trans bs hk_),(zf BK486 hk_),(zf BK487 hk_),(zf BK488 hk_)⟩)
 replace BK486:=sK BK486 hb
 replace BK487:=sK BK487 hb
 replace BK488:=sK BK488 hb
 replace HB:=sB hb
 clear hb ho0
 obtain ⟨Ao12,co12,eo12⟩:=Kd.V_slice HO491.out
 (first|subst eo12|(injection eo12 with f1_ f2_ f3_;have f4_:=f1_.symm;have f5_:=f3_.symm;clear f1_ f2_ f3_;subst f4_;subst f5_))
 obtain ⟨Ao13,co13,eo13⟩:=Kd.V_slice HO494.out
 (first|subst eo13|(injection eo13 with f1_ f2_ f3_;have f4_:=f1_.symm;have f5_:=f3_.symm;clear f1_ f2_ f3_;subst f4_;subst f5_))
 refine hK.out _ _ ⟨zh BK486 0,zh BK486 1,zh BK486 2,zh BK487 0,zh BK487 1,zh BK487 2⟩ (fun hHeld=>?_)
 clear hK K
 refine nm ?_
 refine one_ (i:=15) (N:=some 20) #[true,true,true,true,true,true,true,true,true,true,true,true,true,true,true,true,false] rfl rfl (one_of HT_.out (by kernel_rfl)) (by decide) (fun K hK=>?_)
 refine goes_ func148 (by kernel_rfl) rfl #[.bool (a0_0 != a1_0),.slice Ao12 t489.length co12,.slice Ao13 t492.length co13] (by rfl) rfl rfl zm ?_
 with_reducible refine (frac_Reduced.calls k (a0_0 != a1_0) (fun k_=>((w.heap.size≤k_)∧(k_≠gb486∧(k_≠gb487∧k_≠gb488)))) _ _ t489 (fun k_=>((w.heap.size≤k_)∧(k_≠gb486∧(k_≠gb487∧k_≠gb488)))) _ _ t492 t495 t496 t499 _ ?side1 ?side2 A5.out).mono ?_
 (case side1=>exact HO491.out)
 (case side2=>exact HO494.out)
 rintro e w14 ⟨v497,v500,rfl,ho0,ho1,hb⟩
 refine ⟨_,rfl,?_⟩
 replace HO491:=yV HO491 hb
 replace HO494:=yV HO494 hb
 have HO498:=yL (fun k_=>(w.heap.size≤k_)∧k_≠gb486∧k_≠gb487∧k_≠gb488) ho0 (fun k_ hk_=>⟨Or.elim hk_ (fun hs_=>Or.elim hs_ (fun hs_=>hs_.1) (fun hs_=>hs_.1)) (fun hn_=>(Nat.le_trans bs hn_)),Or.elim hk_ (fun hs_=>Or.elim hs_ (fun hs_=>hs_.2.1) (fun hs_=>hs_.2.1)) (fun hn_=>(zf BK486 hn_)),Or.elim hk_ (fun hs_=>Or.elim hs_ (fun hs_=>hs_.2.2.1) (fun hs_=>hs_.2.2.1)) (fun hn_=>(zf BK487 hn_)),Or.elim hk_ (fun hs_=>Or.elim hs_ (fun hs_=>hs_.2.2.2) (fun hs_=>hs_.2.2.2)) (fun hn_=>(zf BK488 hn_))⟩)
 have HO501:=yL (fun k_=>(w.heap.size≤k_)∧k_≠gb486∧k_≠gb487∧k_≠gb488) ho1 (fun k_ hk_=>⟨Or.elim hk_ (fun hs_=>Or.elim hs_ (fun hs_=>hs_.1) (fun hs_=>hs_.1)) (fun hn_=>(Nat.le_trans bs hn_)),Or.elim hk_ (fun hs_=>Or.elim hs_ (fun hs_=>hs_.2.1) (fun hs_=>hs_.2.1)) (fun hn_=>(zf BK486 hn_)),Or.elim hk_ (fun hs_=>Or.elim hs_ (fun hs_=>hs_.2.2.1) (fun hs_=>hs_.2.2.1)) (fun hn_=>(zf BK487 hn_)),Or.elim hk_ (fun hs_=>Or.elim hs_ (fun hs_=>hs_.2.2.2) (fun hs_=>hs_.2.2.2)) (fun hn_=>(zf BK488 hn_))⟩)
 replace BK486:=sK BK486 hb
 replace BK487:=sK BK487 hb
 replace BK488:=sK BK488 hb
 replace HB:=sB hb
 clear hb ho0 ho1
 obtain ⟨Ao16,co16,eo16⟩:=Kd.V_slice HO498.out
 (first|subst eo16|(injection eo16 with f1_ f2_ f3_;have f4_:=f1_.symm;have f5_:=f3_.symm;clear f1_ f2_ f3_;subst f4_;subst f5_))
 obtain ⟨Ao18,co18,eo18⟩:=Kd.V_slice HO501.out
 (first|subst eo18|(injection eo18 with f1_ f2_ f3_;have f4_:=f1_.symm;have f5_:=f3_.symm;clear f1_ f2_ f3_;subst f4_;subst f5_))
 refine hK.out _ _ ⟨zh BK486 0,zh BK486 1,zh BK486 2,zh BK487 0,zh BK487 1,zh BK487 2⟩ (fun hHeld=>?_)
 clear hK K
 refine nm ?_
 refine one_ (i:=16) (N:=none) #[true,true,true,true,true,true,true,true,true,true,true,true,true,true,true,true,true] rfl rfl (one_of HT_.out (by kernel_rfl)) (by decide) (fun K hK=>?_)
 have hs15:w14.cell? ⟨gb488,0,none⟩=some (.bool false):=(blk_cell BK488.out 0).trans rfl
 have hfs15:=blk_frozen BK488.out 0
 have hns15_0:=NB486_488.out
 have hns15_1:=NB487_488.out
 have hms15_0:=NB488_486.out
 have hms15_1:=NB488_487.out
 have hs17:w14.cell? ⟨gb488,1,none⟩=some (.slice none 0 0):=(blk_cell BK488.out 1).trans rfl
 have hfs17:=blk_frozen BK488.out 1
 have hns17_0:=NB486_488.out
 have hns17_1:=NB487_488.out
 have hms17_0:=NB488_486.out
 have hms17_1:=NB488_487.out
 have hs19:w14.cell? ⟨gb488,2,none⟩=some (.slice none 0 0):=(blk_cell BK488.out 2).trans rfl
 have hfs19:=blk_frozen BK488.out 2
 have hns19_0:=NB486_488.out
 have hns19_1:=NB487_488.out
 have hms19_0:=NB488_486.out
 have hms19_1:=NB488_487.out
 refine skip_ (w1:=?_) (by rfl) rfl ?_ ?_
 rotate_left
 ·go_simp
  rfl
 refine hK.out _ _ ⟨((cell_far (p:=⟨gb488,_,none⟩) NB486_488.out _).trans (((cell_far (p:=⟨gb488,_,none⟩) NB486_488.out _).trans (((cell_far (p:=⟨gb488,_,none⟩) NB486_488.out _).trans (hHeld.1)))))),((cell_far (p:=⟨gb488,_,none⟩) NB486_488.out _).trans (((cell_far (p:=⟨gb488,_,none⟩) NB486_488.out _).trans (((cell_far (p:=⟨gb488,_,none⟩) NB486_488.out _).trans (hHeld.2.1)))))),((cell_far (p:=⟨gb488,_,none⟩) NB486_488.out _).trans (((cell_far (p:=⟨gb488,_,none⟩) NB486_488.out _).trans (((cell_far (p:=⟨gb488,_,none⟩) NB486_488.out _).trans (hHeld.2.2.1)))))),((cell_far (p:=⟨gb488,_,none⟩) NB487_488.out _).trans (((cell_far (p:=⟨gb488,_,none⟩) NB487_488.out _).trans (((cell_far (p:=⟨gb488,_,none⟩) NB487_488.out _).trans (hHeld.2.2.2.1)))))),((cell_far (p:=⟨gb488,_,none⟩) NB487_488.out _).trans (((cell_far (p:=⟨gb488,_,none⟩) NB487_488.out _).trans (((cell_far (p:=⟨gb488,_,none⟩) NB487_488.out _).trans (hHeld.2.2.2.2.1)))))),((cell_far (p:=⟨gb488,_,none⟩) NB487_488.out _).trans (((cell_far (p:=⟨gb488,_,none⟩) NB487_488.out _).trans (((cell_far (p:=⟨gb488,_,none⟩) NB487_488.out _).trans (hHeld.2.2.2.2.2))))))⟩ (fun hHeld=>?_)
 clear hK K
 refine done_ (done_of HT_.out (by kernel_rfl)) ?_
 try go_wp2
 refine bodyPost_ret (results_cell_row rfl _ _ gb488 103 #[.bool t495,.slice Ao16 t496.length co16,.slice Ao18 t499.length co18] (0,0) _ rfl (zp BK488) underlying103 rfl (by kernel_rfl)) rfl ?_
 exact ⟨_,_,ze,zF HO498,zF HO501,bw⟩
def num_two_at_frac_Mul.f (k:Nat) (a0_0:ByteArray) (a0_1:ByteArray) (a1_0:ByteArray) (a1_1:ByteArray):Option (ByteArray×ByteArray×Int):=(num_Check.f k a0_0 a0_1).bind fun t505=>(if t505=0 then ((num_Check.f k a1_0 a1_1).bind fun t506=>(if t506=0 then ((frac_Of.f k a0_0 a0_1).bind fun bt507=>((frac_Of.f k a1_0 a1_1).bind fun bt514=>((frac_Mul.f k bt507.1 bt507.2.1 bt507.2.2 bt514.1 bt514.2.1 bt514.2.2).bind fun bt521=>((frac_Frac_Rat.f bt521.1 bt521.2.1 bt521.2.2).bind fun bt528=>(some (bt528.1,bt528.2,0)))))) else (some ((⟨#[]⟩:ByteArray),(⟨#[]⟩:ByteArray),t506)))) else (some ((⟨#[]⟩:ByteArray),(⟨#[]⟩:ByteArray),t505)))
def num_two_at_frac_Mul.T7:Bool×List (List Nat×List Nat):=(true,[([],[]),([],[]),([1],[1]),([],[]),([3,2],[3]),([0,2,4,4],[0,2,4]),([5,5],[5]),([6,6,0,1,2,3,4,5,6],[6]),([7,0,1,2,3,4,5,6,7],[])])
def num_two_at_frac_Mul.B7:List Nat:=[0,0,2,0,14,31,63,127,255]
theorem num_two_at_frac_Mul.tab7:rtab .any (opsOf Tryz.f110 7)=num_two_at_frac_Mul.T7:=by kernel_rfl
theorem num_two_at_frac_Mul.bits7:waitsOk num_two_at_frac_Mul.T7.2 num_two_at_frac_Mul.B7=true:=by kernel_rfl
theorem num_two_at_frac_Mul.calls (k:Nat) (a0_0:ByteArray) (a0_1:ByteArray) (a1_0:ByteArray) (a1_1:ByteArray) (r1:ByteArray) (r2:ByteArray) (r3:Int) (w:World) (hG:Tryz.Gl w) (h:num_two_at_frac_Mul.f k a0_0 a0_1 a1_0 a1_1=some (r1,r2,r3)) :
  Calls Tryz.prog 110 #[.agg #[.string a0_0,.string a0_1],.agg #[.string a1_0,.string a1_1],.func (.func 111) #[] #[]] w fun e w'=>e = .returned (.tuple #[.agg #[.string r1,.string r2],.int .i64 r3])∧Below w.heap.size w w':=by
 have hu61:=underlying61
 have HG:=aZ hG
 clear hG
 have HB:=aZ (Below.refl w.heap.size w)
 have H:=h
 unfold num_two_at_frac_Mul.f at H
 clear h
 obtain ⟨t505,A3,H⟩:=zB H
 by_cases c4:t505=0
 case neg=>
  rw [if_neg c4] at H
  have c4b0:(t505==0)=false:=beq_eq_false_iff_ne.mpr c4
  have c4b1:(t505 != 0)=true:=bne_iff_ne.mpr c4
  simp only [Option.some.injEq,Prod.mk.injEq] at H
  obtain ⟨rfl,rfl,rfl⟩:=H
  go_enter func110,ntmps110
  go_wp2_with (first|(refine box_ev 3 #[.string a0_0,.string a0_1] 61 ?_;intro gb502 hg w45 hbox hb;have BK502:=aZ hbox;have GE502:=sG hg;replace HB:=sB hb;clear hb hbox hg)|(refine box_ev 4 #[.string a1_0,.string a1_1] 61 ?_;intro gb503 hg w46 hbox hb;have BK503:=aZ hbox;have GE503:=sG hg;replace HB:=sB hb;have NB502_503:=sl hg BK502;have NB503_502:=sg hg BK502;replace BK502:=sK BK502 hb;clear hb hbox hg)|(refine box_ev 6 #[.string (⟨#[]⟩:ByteArray),.string (⟨#[]⟩:ByteArray)] 61 ?_;intro gb504 hg w47 hbox hb;have BK504:=aZ hbox;have GE504:=sG hg;replace HB:=sB hb;have NB502_504:=sl hg BK502;have NB504_502:=sg hg BK502;replace BK502:=sK BK502 hb;have NB503_504:=sl hg BK503;have NB504_503:=sg hg BK503;replace BK503:=sK BK503 hb;clear hb hbox hg;have hnb48:=NB502_503.out;have hnc48:=NB503_502.out;have hnb49:=NB502_504.out;have hnc49:=NB504_502.out;obtain ⟨hcz50_0,hfz50_0⟩:=zc BK502 0 (.string a0_0) rfl;obtain ⟨hcz50_1,hfz50_1⟩:=zc BK502 1 (.string a0_1) rfl)|(refine zg (some 11) func56 #[.agg #[.string a0_0,.string a0_1]] ?_;(with_reducible refine (num_Check.calls k a0_0 a0_1 t505 _ A3.out).mono ?_);rintro e w51 ⟨rfl,hb⟩;refine ⟨_,rfl,?_⟩;replace BK502:=sK BK502 hb;replace BK503:=sK BK503 hb;replace BK504:=sK BK504 hb;replace HB:=sB hb;clear hb;have hnb52:=NB504_503.out;have hnc52:=NB503_504.out;obtain ⟨hcz53_0,hfz53_0⟩:=zc BK504 0 (.string (⟨#[]⟩:ByteArray)) rfl;obtain ⟨hcz53_1,hfz53_1⟩:=zc BK504 1 (.string (⟨#[]⟩:ByteArray)) rfl))
  refine bodyPost_ret (results_ct rfl _ _ gb504 61 #[.string (⟨#[]⟩:ByteArray),.string (⟨#[]⟩:ByteArray)] (0,0) _ rfl (zp BK504) underlying61 rfl (by kernel_rfl)) rfl ?_
  exact ⟨ze,bw⟩
 rw [if_pos c4] at H
 have c4b0:(t505==0)=true:=beq_iff_eq.mpr c4
 have c4b1:(t505 != 0)=false:=bne_eq_false_iff_eq.mpr c4
 clear c4
 obtain ⟨t506,A5,H⟩:=zB H
 by_cases c6:t506=0
 case neg=>
  rw [if_neg c6] at H
  have c6b0:(t506==0)=false:=beq_eq_false_iff_ne.mpr c6
  have c6b1:(t506 != 0)=true:=bne_iff_ne.mpr c6
  simp only [Option.some.injEq,Prod.mk.injEq] at H
  obtain ⟨rfl,rfl,rfl⟩:=H
  go_enter func110,ntmps110
  go_wp2_with (first|(refine box_ev 3 #[.string a0_0,.string a0_1] 61 ?_;intro gb502 hg w34 hbox hb;have BK502:=aZ hbox;have GE502:=sG hg;replace HB:=sB hb;clear hb hbox hg)|(refine box_ev 4 #[.string a1_0,.string a1_1] 61 ?_;intro gb503 hg w35 hbox hb;have BK503:=aZ hbox;have GE503:=sG hg;replace HB:=sB hb;have NB502_503:=sl hg BK502;have NB503_502:=sg hg BK502;replace BK502:=sK BK502 hb;clear hb hbox hg)|(refine box_ev 6 #[.string (⟨#[]⟩:ByteArray),.string (⟨#[]⟩:ByteArray)] 61 ?_;intro gb504 hg w36 hbox hb;have BK504:=aZ hbox;have GE504:=sG hg;replace HB:=sB hb;have NB502_504:=sl hg BK502;have NB504_502:=sg hg BK502;replace BK502:=sK BK502 hb;have NB503_504:=sl hg BK503;have NB504_503:=sg hg BK503;replace BK503:=sK BK503 hb;clear hb hbox hg;have hnb37:=NB502_503.out;have hnc37:=NB503_502.out;have hnb38:=NB502_504.out;have hnc38:=NB504_502.out;obtain ⟨hcz39_0,hfz39_0⟩:=zc BK502 0 (.string a0_0) rfl;obtain ⟨hcz39_1,hfz39_1⟩:=zc BK502 1 (.string a0_1) rfl)|(refine zg (some 11) func56 #[.agg #[.string a0_0,.string a0_1]] ?_;(with_reducible refine (num_Check.calls k a0_0 a0_1 t505 _ A3.out).mono ?_);rintro e w40 ⟨rfl,hb⟩;refine ⟨_,rfl,?_⟩;replace BK502:=sK BK502 hb;replace BK503:=sK BK503 hb;replace BK504:=sK BK504 hb;replace HB:=sB hb;clear hb;have hnb41:=NB503_504.out;have hnc41:=NB504_503.out;obtain ⟨hcz42_0,hfz42_0⟩:=zc BK503 0 (.string a1_0) rfl;obtain ⟨hcz42_1,hfz42_1⟩:=zc BK503 1 (.string a1_1) rfl)|(refine zg (some 17) func56 #[.agg #[.string a1_0,.string a1_1]] ?_;(with_reducible refine (num_Check.calls k a1_0 a1_1 t506 _ A5.out).mono ?_);rintro e w43 ⟨rfl,hb⟩;refine ⟨_,rfl,?_⟩;replace BK502:=sK BK502 hb;replace BK503:=sK BK503 hb;replace BK504:=sK BK504 hb;replace HB:=sB hb;clear hb;obtain ⟨hcz44_0,hfz44_0⟩:=zc BK504 0 (.string (⟨#[]⟩:ByteArray)) rfl;obtain ⟨hcz44_1,hfz44_1⟩:=zc BK504 1 (.string (⟨#[]⟩:ByteArray)) rfl))
  refine bodyPost_ret (results_ct rfl _ _ gb504 61 #[.string (⟨#[]⟩:ByteArray),.string (⟨#[]⟩:ByteArray)] (0,0) _ rfl (zp BK504) underlying61 rfl (by kernel_rfl)) rfl ?_
  exact ⟨ze,bw⟩
 rw [if_pos c6] at H
 have c6b0:(t506==0)=true:=beq_iff_eq.mpr c6
 have c6b1:(t506 != 0)=false:=bne_eq_false_iff_eq.mpr c6
 clear c6
 obtain ⟨⟨t507,t508,t511⟩,A7,H⟩:=zB H
 (try dsimp only at H)
 obtain ⟨⟨t514,t515,t518⟩,A8,H⟩:=zB H
 (try dsimp only at H)
 obtain ⟨⟨t521,t522,t525⟩,A9,H⟩:=zB H
 (try dsimp only at H)
 obtain ⟨⟨t528,t529⟩,A10,H⟩:=zB H
 (try dsimp only at H)
 simp only [Option.some.injEq,Prod.mk.injEq] at H
 obtain ⟨rfl,rfl,rfl⟩:=H
 go_enter func110,ntmps110
 try go_wp2_with (first|(refine box_ev 3 #[.string a0_0,.string a0_1] 61 ?_;intro gb502 hg w11 hbox hb;have BK502:=aZ hbox;have GE502:=sG hg;replace HB:=sB hb;clear hb hbox hg)|(refine box_ev 4 #[.string a1_0,.string a1_1] 61 ?_;intro gb503 hg w12 hbox hb;have BK503:=aZ hbox;have GE503:=sG hg;replace HB:=sB hb;have NB502_503:=sl hg BK502;have NB503_502:=sg hg BK502;replace BK502:=sK BK502 hb;clear hb hbox hg)|(refine box_ev 6 #[.string (⟨#[]⟩:ByteArray),.string (⟨#[]⟩:ByteArray)] 61 ?_;intro gb504 hg w13 hbox hb;have BK504:=aZ hbox;have GE504:=sG hg;replace HB:=sB hb;have NB502_504:=sl hg BK502;have NB504_502:=sg hg BK502;replace BK502:=sK BK502 hb;have NB503_504:=sl hg BK503;have NB504_503:=sg hg BK503;replace BK503:=sK BK503 hb;clear hb hbox hg;have hnb14:=NB502_503.out;have hnc14:=NB503_502.out;have hnb15:=NB502_504.out;have hnc15:=NB504_502.out;obtain ⟨hcz16_0,hfz16_0⟩:=zc BK502 0 (.string a0_0) rfl;obtain ⟨hcz16_1,hfz16_1⟩:=zc BK502 1 (.string a0_1) rfl)|(refine zg (some 11) func56 #[.agg #[.string a0_0,.string a0_1]] ?_;(with_reducible refine (num_Check.calls k a0_0 a0_1 t505 _ A3.out).mono ?_);rintro e w17 ⟨rfl,hb⟩;refine ⟨_,rfl,?_⟩;replace BK502:=sK BK502 hb;replace BK503:=sK BK503 hb;replace BK504:=sK BK504 hb;replace HB:=sB hb;clear hb;have hnb18:=NB503_504.out;have hnc18:=NB504_503.out;obtain ⟨hcz19_0,hfz19_0⟩:=zc BK503 0 (.string a1_0) rfl;obtain ⟨hcz19_1,hfz19_1⟩:=zc BK503 1 (.string a1_1) rfl)|(refine zg (some 17) func56 #[.agg #[.string a1_0,.string a1_1]] ?_;(with_reducible refine (num_Check.calls k a1_0 a1_1 t506 _ A5.out).mono ?_);rintro e w20 ⟨rfl,hb⟩;refine ⟨_,rfl,?_⟩;replace BK502:=sK BK502 hb;replace BK503:=sK BK503 hb;replace BK504:=sK BK504 hb;replace HB:=sB hb;clear hb))
 replace BK502:=aZ (blk_drew BK502.out)
 replace BK503:=aZ (blk_drew BK503.out)
 replace BK504:=aZ (blk_drew BK504.out)
 replace HB:=aZ (below_drew1 HB.out)
 refine start_ (n:=9) (S:=fun w'=>w'.cell? ⟨gb502,0,none⟩=some (.string a0_0)∧w'.cell? ⟨gb502,1,none⟩=some (.string a0_1)∧w'.cell? ⟨gb503,0,none⟩=some (.string a1_0)∧w'.cell? ⟨gb503,1,none⟩=some (.string a1_1)) (ds:=[]) #[false,false,false,false,false,false,false,false,false] (by kernel_rfl) rfl rfl ⟨zh BK502 0,zh BK502 1,zh BK503 0,zh BK503 1⟩ (fun hHeld=>?_);refine with_tabW num_two_at_frac_Mul.tab7 num_two_at_frac_Mul.bits7 (fun HT_ HW_=>?_)
 generalize w20.drew=w21 at BK502 BK503 BK504 HB hHeld ⊢
 refine pu 0 (some 22) HT_ ?_
 refine tk 1 (some 23) HT_ HW_ hHeld ?_
 refine tk 3 (some 25) HT_ HW_ hHeld ?_
 refine one_ (i:=2) (N:=some 24) #[true,true,true,true,false,false,false,false,false] rfl rfl (one_of HT_.out (by kernel_rfl)) (by decide) (fun K hK=>?_)
 refine goes_ func127 (by kernel_rfl) rfl #[.agg #[.string a0_0,.string a0_1]] (by rfl) rfl rfl zm ?_
 with_reducible refine (frac_Of.calls k a0_0 a0_1 t507 t508 t511 _ A7.out).mono ?_
 rintro e w22 ⟨v509,v512,rfl,ho0,ho1,hb⟩
 refine ⟨_,rfl,?_⟩
 have HO510:=yL (fun k_=>k_≠gb502∧k_≠gb503∧k_≠gb504) ho0 (fun k_ hk_=>⟨(zf BK502 hk_),(zf BK503 hk_),(zf BK504 hk_)⟩)
 have HO513:=yL (fun k_=>k_≠gb502∧k_≠gb503∧k_≠gb504) ho1 (fun k_ hk_=>⟨(zf BK502 hk_),(zf BK503 hk_),(zf BK504 hk_)⟩)
 replace BK502:=sK BK502 hb
 replace BK503:=sK BK503 hb
 replace BK504:=sK BK504 hb
 replace HB:=sB hb
 clear hb ho0 ho1
 refine hK.out _ _ ⟨zh BK502 0,zh BK502 1,zh BK503 0,zh BK503 1⟩ (fun hHeld=>?_)
 clear hK K
 refine nm ?_
 refine one_ (i:=4) (N:=some 26) #[true,true,true,true,true,false,false,false,false] rfl rfl (one_of HT_.out (by kernel_rfl)) (by decide) (fun K hK=>?_)
 refine goes_ func127 (by kernel_rfl) rfl #[.agg #[.string a1_0,.string a1_1]] (by rfl) rfl rfl zm ?_
 with_reducible refine (frac_Of.calls k a1_0 a1_1 t514 t515 t518 _ A8.out).mono ?_
 rintro e w23 ⟨v516,v519,rfl,ho0,ho1,hb⟩
 refine ⟨_,rfl,?_⟩
 replace HO510:=yV HO510 hb
 replace HO513:=yV HO513 hb
 have HO517:=yL (fun k_=>k_≠gb502∧k_≠gb503∧k_≠gb504) ho0 (fun k_ hk_=>⟨(zf BK502 hk_),(zf BK503 hk_),(zf BK504 hk_)⟩)
 have HO520:=yL (fun k_=>k_≠gb502∧k_≠gb503∧k_≠gb504) ho1 (fun k_ hk_=>⟨(zf BK502 hk_),(zf BK503 hk_),(zf BK504 hk_)⟩)
 replace BK502:=sK BK502 hb
 replace BK503:=sK BK503 hb
 replace BK504:=sK BK504 hb
 replace HB:=sB hb
 clear hb ho0 ho1
 obtain ⟨Ao24,co24,eo24⟩:=Kd.V_slice HO510.out
 (first|subst eo24|(injection eo24 with f1_ f2_ f3_;have f4_:=f1_.symm;have f5_:=f3_.symm;clear f1_ f2_ f3_;subst f4_;subst f5_))
 obtain ⟨Ao25,co25,eo25⟩:=Kd.V_slice HO513.out
 (first|subst eo25|(injection eo25 with f1_ f2_ f3_;have f4_:=f1_.symm;have f5_:=f3_.symm;clear f1_ f2_ f3_;subst f4_;subst f5_))
 obtain ⟨Ao26,co26,eo26⟩:=Kd.V_slice HO517.out
 (first|subst eo26|(injection eo26 with f1_ f2_ f3_;have f4_:=f1_.symm;have f5_:=f3_.symm;clear f1_ f2_ f3_;subst f4_;subst f5_))
 obtain ⟨Ao27,co27,eo27⟩:=Kd.V_slice HO520.out
 (first|subst eo27|(injection eo27 with f1_ f2_ f3_;have f4_:=f1_.symm;have f5_:=f3_.symm;clear f1_ f2_ f3_;subst f4_;subst f5_))
 refine hK.out _ _ ⟨zh BK502 0,zh BK502 1,zh BK503 0,zh BK503 1⟩ (fun hHeld=>?_)
 clear hK K
 refine nm ?_
 refine one_ (i:=5) (N:=some 27) #[true,true,true,true,true,true,false,false,false] rfl rfl (one_of HT_.out (by kernel_rfl)) (by decide) (fun K hK=>?_)
 refine goesU_ (t:=22) (by rfl) func111 (by kernel_rfl) rfl #[.agg #[.bool t507,.slice Ao24 t508.length co24,.slice Ao25 t511.length co25],.agg #[.bool t514,.slice Ao26 t515.length co26,.slice Ao27 t518.length co27]] (by rfl) rfl rfl zm ?_
 with_reducible refine (frac_Mul.calls k t507 _ _ t508 _ _ t511 t514 _ _ t515 _ _ t518 t521 t522 t525 _ ?side1 ?side2 ?side3 ?side4 ?side5 ?side6 ?side7 ?side8 A9.out).mono ?_
 (case side1=>exact zr HO510)
 (case side2=>exact zk HO510)
 (case side3=>exact zr HO513)
 (case side4=>exact zk HO513)
 (case side5=>exact zr HO517)
 (case side6=>exact zk HO517)
 (case side7=>exact zr HO520)
 (case side8=>exact zk HO520)
 rintro e w28 ⟨v523,v526,rfl,ho0,ho1,hb⟩
 refine ⟨_,rfl,?_⟩
 replace HO510:=yV HO510 hb
 replace HO513:=yV HO513 hb
 replace HO517:=yV HO517 hb
 replace HO520:=yV HO520 hb
 have HO524:=yL (fun k_=>k_≠gb502∧k_≠gb503∧k_≠gb504) ho0 (fun k_ hk_=>⟨(zf BK502 hk_),(zf BK503 hk_),(zf BK504 hk_)⟩)
 have HO527:=yL (fun k_=>k_≠gb502∧k_≠gb503∧k_≠gb504) ho1 (fun k_ hk_=>⟨(zf BK502 hk_),(zf BK503 hk_),(zf BK504 hk_)⟩)
 replace BK502:=sK BK502 hb
 replace BK503:=sK BK503 hb
 replace BK504:=sK BK504 hb
 replace HB:=sB hb
 clear hb ho0 ho1
 obtain ⟨Ao29,co29,eo29⟩:=Kd.V_slice HO524.out
 (first|subst eo29|(injection eo29 with f1_ f2_ f3_;have f4_:=f1_.symm;have f5_:=f3_.symm;clear f1_ f2_ f3_;subst f4_;subst f5_))
 obtain ⟨Ao30,co30,eo30⟩:=Kd.V_slice HO527.out
 (first|subst eo30|(injection eo30 with f1_ f2_ f3_;have f4_:=f1_.symm;have f5_:=f3_.symm;clear f1_ f2_ f3_;subst f4_;subst f5_))
 refine hK.out _ _ ⟨zh BK502 0,zh BK502 1,zh BK503 0,zh BK503 1⟩ (fun hHeld=>?_)
 clear hK K
 refine nm ?_
 refine one_ (i:=6) (N:=some 28) #[true,true,true,true,true,true,true,false,false] rfl rfl (one_of HT_.out (by kernel_rfl)) (by decide) (fun K hK=>?_)
 refine goes_ func96 (by kernel_rfl) rfl #[.agg #[.bool t521,.slice Ao29 t522.length co29,.slice Ao30 t525.length co30]] (by rfl) rfl rfl zm ?_
 with_reducible refine (frac_Frac_Rat.calls t521 _ _ t522 _ _ t525 t528 t529 _ ?side1 ?side2 ?side3 ?side4 ?side5 A10.out).mono ?_
 (case side1=>exact zr HO524)
 (case side2=>exact zk HO524)
 (case side3=>exact zr HO527)
 (case side4=>exact zk HO527)
 (case side5=>exact Tryz.Gl.below HG.out bw)
 rintro e w31 ⟨rfl,hb⟩
 refine ⟨_,rfl,?_⟩
 replace HO510:=yV HO510 hb
 replace HO513:=yV HO513 hb
 replace HO517:=yV HO517 hb
 replace HO520:=yV HO520 hb
 replace HO524:=yV HO524 hb
 replace HO527:=yV HO527 hb
 replace BK502:=sK BK502 hb
 replace BK503:=sK BK503 hb
 replace BK504:=sK BK504 hb
 replace HB:=sB hb
 clear hb
 refine hK.out _ _ ⟨zh BK502 0,zh BK502 1,zh BK503 0,zh BK503 1⟩ (fun hHeld=>?_)
 clear hK K
 refine nm ?_
 refine one_ (i:=7) (N:=none) #[true,true,true,true,true,true,true,true,false] rfl rfl (one_of HT_.out (by kernel_rfl)) (by decide) (fun K hK=>?_)
 have hs32:w31.cell? ⟨gb504,0,none⟩=some (.string (⟨#[]⟩:ByteArray)):=(blk_cell BK504.out 0).trans rfl
 have hfs32:=blk_frozen BK504.out 0
 have hns32_0:=NB502_504.out
 have hns32_1:=NB503_504.out
 have hms32_0:=NB504_502.out
 have hms32_1:=NB504_503.out
 have hs33:w31.cell? ⟨gb504,1,none⟩=some (.string (⟨#[]⟩:ByteArray)):=(blk_cell BK504.out 1).trans rfl
 have hfs33:=blk_frozen BK504.out 1
 have hns33_0:=NB502_504.out
 have hns33_1:=NB503_504.out
 have hms33_0:=NB504_502.out
 have hms33_1:=NB504_503.out
 refine skip_ (w1:=?_) (by rfl) rfl ?_ ?_
 rotate_left
 ·go_simp
  rfl
 refine hK.out _ _ ⟨((cell_far (p:=⟨gb504,_,none⟩) NB502_504.out _).trans (((cell_far (p:=⟨gb504,_,none⟩) NB502_504.out _).trans (hHeld.1)))),((cell_far (p:=⟨gb504,_,none⟩) NB502_504.out _).trans (((cell_far (p:=⟨gb504,_,none⟩) NB502_504.out _).trans (hHeld.2.1)))),((cell_far (p:=⟨gb504,_,none⟩) NB503_504.out _).trans (((cell_far (p:=⟨gb504,_,none⟩) NB503_504.out _).trans (hHeld.2.2.1)))),((cell_far (p:=⟨gb504,_,none⟩) NB503_504.out _).trans (((cell_far (p:=⟨gb504,_,none⟩) NB503_504.out _).trans (hHeld.2.2.2))))⟩ (fun hHeld=>?_)
 clear hK K
 refine pu 8 (some 7) HT_ ?_
 refine done_ (done_of HT_.out (by kernel_rfl)) ?_
 try go_wp2
 refine bodyPost_ret (results_ct rfl _ _ gb504 61 #[.string t528,.string t529] (0,0) _ rfl (zp BK504) underlying61 rfl (by kernel_rfl)) rfl ?_
 exact ⟨ze,bw⟩
def num_Mul.f (k:Nat) (a0_0:ByteArray) (a0_1:ByteArray) (a1_0:ByteArray) (a1_1:ByteArray):Option (ByteArray×ByteArray×Int):=(num_two_at_frac_Mul.f k a0_0 a0_1 a1_0 a1_1).bind fun bt533=>(some (bt533.1,bt533.2.1,bt533.2.2))
theorem num_Mul.calls (k:Nat) (a0_0:ByteArray) (a0_1:ByteArray) (a1_0:ByteArray) (a1_1:ByteArray) (r1:ByteArray) (r2:ByteArray) (r3:Int) (w:World) (hG:Tryz.Gl w) (h:num_Mul.f k a0_0 a0_1 a1_0 a1_1=some (r1,r2,r3)) :
  Calls Tryz.prog 59 #[.agg #[.string a0_0,.string a0_1],.agg #[.string a1_0,.string a1_1]] w fun e w'=>e = .returned (.tuple #[.agg #[.string r1,.string r2],.int .i64 r3])∧Below w.heap.size w w':=by
 have hu61:=underlying61
 have HG:=aZ hG
 clear hG
 have HB:=aZ (Below.refl w.heap.size w)
 have H:=h
 unfold num_Mul.f at H
 clear h
 obtain ⟨⟨t533,t534,t535⟩,A3,H⟩:=zB H
 (try dsimp only at H)
 simp only [Option.some.injEq,Prod.mk.injEq] at H
 obtain ⟨rfl,rfl,rfl⟩:=H
 go_enter func59,ntmps59
 go_wp2_with (first|(refine box_ev 2 #[.string a0_0,.string a0_1] 61 ?_;intro gb530 hg w4 hbox hb;have BK530:=aZ hbox;have GE530:=sG hg;replace HB:=sB hb;clear hb hbox hg)|(refine box_ev 3 #[.string a1_0,.string a1_1] 61 ?_;intro gb531 hg w5 hbox hb;have BK531:=aZ hbox;have GE531:=sG hg;replace HB:=sB hb;have NB530_531:=sl hg BK530;have NB531_530:=sg hg BK530;replace BK530:=sK BK530 hb;clear hb hbox hg)|(refine box_ev 4 #[.string (⟨#[]⟩:ByteArray),.string (⟨#[]⟩:ByteArray)] 61 ?_;intro gb532 hg w6 hbox hb;have BK532:=aZ hbox;have GE532:=sG hg;replace HB:=sB hb;have NB530_532:=sl hg BK530;have NB532_530:=sg hg BK530;replace BK530:=sK BK530 hb;have NB531_532:=sl hg BK531;have NB532_531:=sg hg BK531;replace BK531:=sK BK531 hb;clear hb hbox hg;have hnb7:=NB530_531.out;have hnc7:=NB531_530.out;have hnb8:=NB530_532.out;have hnc8:=NB532_530.out;obtain ⟨hcz9_0,hfz9_0⟩:=zc BK530 0 (.string a0_0) rfl;obtain ⟨hcz9_1,hfz9_1⟩:=zc BK530 1 (.string a0_1) rfl;have hnb10:=NB531_532.out;have hnc10:=NB532_531.out;obtain ⟨hcz11_0,hfz11_0⟩:=zc BK531 0 (.string a1_0) rfl;obtain ⟨hcz11_1,hfz11_1⟩:=zc BK531 1 (.string a1_1) rfl)|(refine zg (some 8) func110 #[.agg #[.string a0_0,.string a0_1],.agg #[.string a1_0,.string a1_1],.func (.func 111) #[] #[]] ?_;(with_reducible refine (num_two_at_frac_Mul.calls k a0_0 a0_1 a1_0 a1_1 t533 t534 t535 _ ?side1 A3.out).mono ?_);(case side1=>exact Tryz.Gl.below HG.out bw);rintro e w12 ⟨rfl,hb⟩;refine ⟨_,rfl,?_⟩;replace BK530:=sK BK530 hb;replace BK531:=sK BK531 hb;replace BK532:=sK BK532 hb;replace HB:=sB hb;clear hb;obtain ⟨hcz13_0,hfz13_0⟩:=zc BK532 0 (.string (⟨#[]⟩:ByteArray)) rfl;obtain ⟨hcz13_1,hfz13_1⟩:=zc BK532 1 (.string (⟨#[]⟩:ByteArray)) rfl))
 refine bodyPost_ret (results_ct rfl _ _ gb532 61 #[.string t533,.string t534] (0,0) _ rfl (zp BK532) underlying61 rfl (by kernel_rfl)) rfl ?_
 exact ⟨ze,bw⟩
def weftref1_numOf.j0:Nat→Bool→List Int→List Int→List Int→Bool→Option (Bool×List Int×List Int)
 | 0,_,_,_,_,_=>none
 | k+1,x0,x1,x2,x7,x19=>if x19=true then ((weftref1_natDiv.f k x1 x7).bind fun bt541=>((weftref1_natDiv.f k x2 x7).bind fun bt547=>(if x0=true then (some (decide (0<bt541.1.length),bt541.1,bt547.1)) else (some (false,bt541.1,bt547.1))))) else (if x0=true then (some (decide (0<x1.length),x1,x2)) else (some (false,x1,x2)))
def weftref1_numOf.f (k:Nat) (a0:Bool) (l1:List Int) (l2:List Int):Option (Bool×List Int×List Int):=(weftref1_natGCD.f k l1 l2).bind fun t537=>(if (t537.length:Int)=1 then (if 0<(t537.length:Int) then (weftref1_numOf.j0 k a0 l1 l2 t537 ((rd t537 0) != 1)) else (none)) else (weftref1_numOf.j0 k a0 l1 l2 t537 true))
theorem weftref1_numOf.calls (k:Nat) (a0:Bool) (P1_:Nat→Prop) (A1:Option Addr) (c1:Nat) (l1:List Int) (P2_:Nat→Prop) (A2:Option Addr) (c2:Nat) (l2:List Int) (r1:Bool) (r2:List Int) (r3:List Int) (w:World) (hs1:Kd.V (Kd.int .i64) 3 w w.heap.size (fun k_=>P1_ k_) (.slice A1 l1.length c1) l1) (hs2:Kd.V (Kd.int .i64) 3 w w.heap.size (fun k_=>P2_ k_) (.slice A2 l2.length c2) l2) (h:weftref1_numOf.f k a0 l1 l2=some (r1,r2,r3)) :
  Calls Tryz.prog 101 #[.bool a0,.slice A1 l1.length c1,.slice A2 l2.length c2] w fun e w'=>∃ v1_ v2_:Value,e = .returned (.agg #[.bool r1,v1_,v2_])∧Kd.V (Kd.int .i64) 3 w' w.heap.size (fun k_=>((P1_ k_∨P2_ k_)∨w.heap.size≤k_)) v1_ r2∧Kd.V (Kd.int .i64) 3 w' w.heap.size (fun k_=>((P1_ k_∨P2_ k_)∨w.heap.size≤k_)) v2_ r3∧Below w.heap.size w w':=by
 have hu67:=underlying67
 have HO1:=aZ (show Kd.V (Kd.int .i64) 3 w w.heap.size (fun k_=>((P1_ k_∨P2_ k_)∨w.heap.size≤k_)) (.slice A1 l1.length c1) l1 from Kd.V_mono hs1 (fun k_ hk=>.inl (.inl hk)))
 have HO2:=aZ (show Kd.V (Kd.int .i64) 3 w w.heap.size (fun k_=>((P1_ k_∨P2_ k_)∨w.heap.size≤k_)) (.slice A2 l2.length c2) l2 from Kd.V_mono hs2 (fun k_ hk=>.inl (.inr hk)))
 have HB:=aZ (Below.refl w.heap.size w)
 have H:=h
 unfold weftref1_numOf.f at H
 clear h
 obtain ⟨t537,A4,H⟩:=zB H
 have HC5:=aZ H
 clear H
 go_enter func101,ntmps101
 go_upto_region 2 with (first|((with_reducible refine gate_dst (N:=6) rfl ?_);(try (refine gate_guard (by rfl) ?_;dsimp only));refine box_ev 6 #[.bool false,.slice none 0 0,.slice none 0 0] 67 ?_;intro gb536 hg w6 hbox hb;replace HO1:=yE HO1 hg hb;replace HO2:=yE HO2 hg hb;have BK536:=aZ hbox;have GE536:=sG hg;replace HB:=sB hb;clear hb hbox hg)|(refine zg (some 10) func104 #[.slice A1 l1.length c1,.slice A2 l2.length c2] ?_;(with_reducible refine (weftref1_natGCD.calls k (fun k_=>(((P1_ k_∨P2_ k_)∨w.heap.size≤k_)∧k_≠gb536)) _ _ l1 (fun k_=>(((P1_ k_∨P2_ k_)∨w.heap.size≤k_)∧k_≠gb536)) _ _ l2 t537 _ ?side1 ?side2 A4.out).mono ?_);(case side1=>exact HO1.out);(case side2=>exact HO2.out);rintro e w7 ⟨v538,rfl,ho0,hb⟩;refine ⟨_,rfl,?_⟩;replace HO1:=yV HO1 hb;replace HO2:=yV HO2 hb;have HO539:=yL (fun k_=>((P1_ k_∨P2_ k_)∨w.heap.size≤k_)∧k_≠gb536) ho0 (fun k_ hk_=>⟨Or.elim hk_ (fun hs_=>Or.elim hs_ (fun hs_=>hs_.1) (fun hs_=>hs_.1)) (fun hn_=>(.inr (Nat.le_trans bs hn_))),Or.elim hk_ (fun hs_=>Or.elim hs_ (fun hs_=>hs_.2) (fun hs_=>hs_.2)) (fun hn_=>(zf BK536 hn_))⟩);replace BK536:=sK BK536 hb;replace HB:=sB hb;clear hb ho0))
 (try simp only [Act.put,List.setIfInBounds_toArray,List.set_cons_zero,List.set_cons_succ])
 go_cut [19] (fun v19 wc=>∃ (kq:Nat) (x19_4:Bool),v19 = .bool x19_4∧Aside0 (weftref1_numOf.j0 kq a0 l1 l2 t537 x19_4=some (r1,r2,r3))∧Aside0 (kq≤k)∧Aside0 (Kd.V (Kd.int .i64) 3 wc w.heap.size (fun k_=>((P1_ k_∨P2_ k_)∨w.heap.size≤k_)∧k_≠gb536) (.slice A1 l1.length c1) l1)∧Aside0 (Kd.V (Kd.int .i64) 3 wc w.heap.size (fun k_=>((P1_ k_∨P2_ k_)∨w.heap.size≤k_)∧k_≠gb536) (.slice A2 l2.length c2) l2)∧Aside0 (Kd.V (Kd.int .i64) 3 wc w.heap.size (fun k_=>((P1_ k_∨P2_ k_)∨w.heap.size≤k_)∧k_≠gb536) v538 t537)∧Aside0 (wc.heap[gb536]? = some (.cells #[.bool false,(.slice none 0 0),(.slice none 0 0)] 67 (0,0)))∧Aside0 (Below w.heap.size w wc))
 case first =>
  have H:=HC5.out
  clear HC5
  by_cases c8:(t537.length:Int)=1
  case neg=>
   rw [if_neg c8] at H
   have c8b0:((t537.length:Int)==1)=false:=beq_eq_false_iff_ne.mpr c8
   have c8b1:((t537.length:Int) != 1)=true:=bne_iff_ne.mpr c8
   (first|rw [c8b0]|(simp only [i64_w,i32_w];rw [c8b0])|skip)
   have H':=aZ H
   clear H
   obtain ⟨Ao11,co11,rfl⟩:=Kd.V_slice HO539.out
   go_wp2
   go_meet
   case rel=>exact ⟨_,(true),zs,H',⟨by first|omega|exact Nat.le_refl _⟩,⟨zV HO1⟩,⟨zV HO2⟩,⟨zV HO539⟩,⟨zb BK536⟩,⟨bw⟩⟩
  rw [if_pos c8] at H
  have c8b0:((t537.length:Int)==1)=true:=beq_iff_eq.mpr c8
  have c8b1:((t537.length:Int) != 1)=false:=bne_eq_false_iff_eq.mpr c8
  clear c8
  (first|rw [c8b0]|(simp only [i64_w,i32_w];rw [c8b0])|skip)
  by_cases c9:0<(t537.length:Int)
  case neg=>
   rw [if_neg c9] at H
   cases H
  rw [if_pos c9] at H
  have c9b0:decide (0<(t537.length:Int))=true:=decide_eq_true c9
  have c9b1:decide (0<t537.length)=true:=decide_eq_true (by omega)
  clear c9
  have H':=aZ H
  clear H
  obtain ⟨Ao10,co10,rfl⟩:=Kd.V_slice HO539.out
  have p540:0≤(0:Int):=(by omega)
  have q540:0<(t537.length:Int):=zd
  obtain ⟨ad540,e540,hx540_0⟩:=Kd.at_int (Kd.V_reads' HO539.out).2.2 0 p540 q540
  cases e540
  have qi540:(0<t537.length)=True:=eq_true (by omega)
  (try rw [show ((0:Int)).toNat=0 from rfl] at hx540_0)
  (try rw [Addr.add_zero'] at hx540_0)
  replace p540:=eq_true p540
  replace q540:=eq_true q540
  go_wp2
  go_meet
  case rel=>exact ⟨_,(((rd t537 0) != 1)),zs,H',⟨by first|omega|exact Nat.le_refl _⟩,⟨zV HO1⟩,⟨zV HO2⟩,⟨zV HO539⟩,⟨zb BK536⟩,⟨bw⟩⟩
 case rest =>
  clear HC5
  try clear c1
  try clear c2
  try clear q5
  try clear hx5
  try clear qi5
  try clear c8
  try clear c8b0
  try clear c8b1
  try clear c9
  try clear c9b0
  try clear c9b1
  try clear c10
  try clear hx540_0
  try clear q540
  obtain ⟨kq,x19_4,rfl,HA,HJ4,HO_1,HO_2,HO_7,BK536,HB⟩:=hcut
  cases kq with
  | zero=>exact absurd HA.out (by simp [weftref1_numOf.j0])
  | succ kj4 =>
   have H:=HA.out
   clear HA
   simp only [weftref1_numOf.j0] at H
   by_cases c12:x19_4=true
   case neg=>
    replace c12:=Bool.eq_false_iff.mpr c12
    subst c12
    have H1:(if a0=true then (some (decide (0<l1.length),l1,l2)) else (some (false,l1,l2)))=some (r1,r2,r3):=by rw [if_neg (show ¬ (false=true) by decide)] at H;exact H
    clear H
    have H:=H1
    clear H1
    by_cases c28:a0=true
    case neg=>
     replace c28:=Bool.eq_false_iff.mpr c28
     subst c28
     have H1:(some (false,l1,l2))=some (r1,r2,r3):=by rw [if_neg (show ¬ (false=true) by decide)] at H;exact H
     clear H
     have H:=H1
     clear H1
     simp only [Option.some.injEq,Prod.mk.injEq] at H
     obtain ⟨rfl,rfl,rfl⟩:=H
     have hcz30_0:wc.cell? ⟨gb536,0,none⟩=some (.bool false):=(blk_cell BK536.out 0).trans rfl
     have hcz30_1:wc.cell? ⟨gb536,1,none⟩=some (.slice none 0 0):=(blk_cell BK536.out 1).trans rfl
     have hcz30_2:wc.cell? ⟨gb536,2,none⟩=some (.slice none 0 0):=(blk_cell BK536.out 2).trans rfl
     have hfz30_0:=blk_frozen BK536.out 0
     have hfz30_1:=blk_frozen BK536.out 1
     have hfz30_2:=blk_frozen BK536.out 2
     go_wp2
     refine bodyPost_ret (results_cell_row rfl _ _ gb536 67 #[.bool false,.slice A1 l1.length c1,.slice A2 l2.length c2] (0,0) _ rfl (zp BK536) underlying67 rfl (by kernel_rfl)) rfl ?_
     exact ⟨_,_,ze,zF HO_1,zF HO_2,bw⟩
    subst c28
    have H1:(some (decide (0<l1.length),l1,l2))=some (r1,r2,r3):=by rw [if_pos rfl] at H;exact H
    clear H
    have H:=H1
    clear H1
    simp only [Option.some.injEq,Prod.mk.injEq] at H
    obtain ⟨rfl,rfl,rfl⟩:=H
    have hcz29_0:wc.cell? ⟨gb536,0,none⟩=some (.bool false):=(blk_cell BK536.out 0).trans rfl
    have hcz29_1:wc.cell? ⟨gb536,1,none⟩=some (.slice none 0 0):=(blk_cell BK536.out 1).trans rfl
    have hcz29_2:wc.cell? ⟨gb536,2,none⟩=some (.slice none 0 0):=(blk_cell BK536.out 2).trans rfl
    have hfz29_0:=blk_frozen BK536.out 0
    have hfz29_1:=blk_frozen BK536.out 1
    have hfz29_2:=blk_frozen BK536.out 2
    go_wp2
    refine bodyPost_ret (results_cell_row rfl _ _ gb536 67 #[.bool (decide (0<l1.length)),.slice A1 l1.length c1,.slice A2 l2.length c2] (0,0) _ rfl (zp BK536) underlying67 rfl (by kernel_rfl)) rfl ?_
    exact ⟨_,_,ze,zF HO_1,zF HO_2,bw⟩
   subst c12
   have H1:((weftref1_natDiv.f kj4 l1 t537).bind fun bt541=>((weftref1_natDiv.f kj4 l2 t537).bind fun bt547=>(if a0=true then (some (decide (0<bt541.1.length),bt541.1,bt547.1)) else (some (false,bt541.1,bt547.1)))))=some (r1,r2,r3):=by rw [if_pos rfl] at H;exact H
   clear H
   have H:=H1
   clear H1
   obtain ⟨⟨t541,t544⟩,A13,H⟩:=zB H
   (try dsimp only at H)
   obtain ⟨⟨t547,t550⟩,A14,H⟩:=zB H
   (try dsimp only at H)
   by_cases c15:a0=true
   case neg=>
    replace c15:=Bool.eq_false_iff.mpr c15
    subst c15
    have H1:(some (false,t541,t547))=some (r1,r2,r3):=by rw [if_neg (show ¬ (false=true) by decide)] at H;exact H
    clear H
    have H:=H1
    clear H1
    simp only [Option.some.injEq,Prod.mk.injEq] at H
    obtain ⟨rfl,rfl,rfl⟩:=H
    obtain ⟨Ao22,co22,rfl⟩:=Kd.V_slice HO_7.out
    go_wp2_with (first|(refine zg (some 23) func134 #[.slice A1 l1.length c1,.slice Ao22 t537.length co22] ?_;(with_reducible refine (weftref1_natDiv.calls kj4 (fun k_=>(((P1_ k_∨P2_ k_)∨w.heap.size≤k_)∧k_≠gb536)) _ _ l1 _ _ t537 t541 t544 _ ?side1 ?side2 ?side3 A13.out).mono ?_);(case side1=>exact HO_1.out);(case side2=>exact zr HO_7);(case side3=>exact zk HO_7);rintro e w23 ⟨v542,v545,rfl,ho0,ho1,hb⟩;refine ⟨_,rfl,?_⟩;replace HO_1:=yV HO_1 hb;replace HO_2:=yV HO_2 hb;replace HO_7:=yV HO_7 hb;have HO543:=yL (fun k_=>((P1_ k_∨P2_ k_)∨w.heap.size≤k_)∧k_≠gb536) ho0 (fun k_ hk_=>⟨Or.elim hk_ (fun hs_=>hs_.1) (fun hn_=>(.inr (Nat.le_trans bs hn_))),Or.elim hk_ (fun hs_=>hs_.2) (fun hn_=>(zf BK536 hn_))⟩);have HO546:=yL (fun k_=>((P1_ k_∨P2_ k_)∨w.heap.size≤k_)∧k_≠gb536) ho1 (fun k_ hk_=>⟨Or.elim hk_ (fun hs_=>hs_.1) (fun hn_=>(.inr (Nat.le_trans bs hn_))),Or.elim hk_ (fun hs_=>hs_.2) (fun hn_=>(zf BK536 hn_))⟩);replace BK536:=sK BK536 hb;replace HB:=sB hb;clear hb ho0 ho1)|(refine zg (some 29) func134 #[.slice A2 l2.length c2,.slice Ao22 t537.length co22] ?_;(with_reducible refine (weftref1_natDiv.calls kj4 (fun k_=>(((P1_ k_∨P2_ k_)∨w.heap.size≤k_)∧k_≠gb536)) _ _ l2 _ _ t537 t547 t550 _ ?side1 ?side2 ?side3 A14.out).mono ?_);(case side1=>exact HO_2.out);(case side2=>exact zr HO_7);(case side3=>exact zk HO_7);rintro e w24 ⟨v548,v551,rfl,ho0,ho1,hb⟩;refine ⟨_,rfl,?_⟩;replace HO_1:=yV HO_1 hb;replace HO_2:=yV HO_2 hb;replace HO_7:=yV HO_7 hb;replace HO543:=yV HO543 hb;replace HO546:=yV HO546 hb;have HO549:=yL (fun k_=>((P1_ k_∨P2_ k_)∨w.heap.size≤k_)∧k_≠gb536) ho0 (fun k_ hk_=>⟨Or.elim hk_ (fun hs_=>hs_.1) (fun hn_=>(.inr (Nat.le_trans bs hn_))),Or.elim hk_ (fun hs_=>hs_.2) (fun hn_=>(zf BK536 hn_))⟩);have HO552:=yL (fun k_=>((P1_ k_∨P2_ k_)∨w.heap.size≤k_)∧k_≠gb536) ho1 (fun k_ hk_=>⟨Or.elim hk_ (fun hs_=>hs_.1) (fun hn_=>(.inr (Nat.le_trans bs hn_))),Or.elim hk_ (fun hs_=>hs_.2) (fun hn_=>(zf BK536 hn_))⟩);replace BK536:=sK BK536 hb;replace HB:=sB hb;clear hb ho0 ho1;obtain ⟨Ao25,co25,rfl⟩:=Kd.V_slice HO549.out;obtain ⟨Ao26,co26,rfl⟩:=Kd.V_slice HO543.out;obtain ⟨hcz27_0,hfz27_0⟩:=zc BK536 0 (.bool false) rfl;obtain ⟨hcz27_1,hfz27_1⟩:=zc BK536 1 (.slice none 0 0) rfl;obtain ⟨hcz27_2,hfz27_2⟩:=zc BK536 2 (.slice none 0 0) rfl))
    refine bodyPost_ret (results_cell_row rfl _ _ gb536 67 #[.bool false,.slice Ao26 t541.length co26,.slice Ao25 t547.length co25] (0,0) _ rfl (zp BK536) underlying67 rfl (by kernel_rfl)) rfl ?_
    exact ⟨_,_,ze,zF HO543,zF HO549,bw⟩
   subst c15
   have H1:(some (decide (0<t541.length),t541,t547))=some (r1,r2,r3):=by rw [if_pos rfl] at H;exact H
   clear H
   have H:=H1
   clear H1
   simp only [Option.some.injEq,Prod.mk.injEq] at H
   obtain ⟨rfl,rfl,rfl⟩:=H
   obtain ⟨Ao16,co16,rfl⟩:=Kd.V_slice HO_7.out
   go_wp2_with (first|(refine zg (some 23) func134 #[.slice A1 l1.length c1,.slice Ao16 t537.length co16] ?_;(with_reducible refine (weftref1_natDiv.calls kj4 (fun k_=>(((P1_ k_∨P2_ k_)∨w.heap.size≤k_)∧k_≠gb536)) _ _ l1 _ _ t537 t541 t544 _ ?side1 ?side2 ?side3 A13.out).mono ?_);(case side1=>exact HO_1.out);(case side2=>exact zr HO_7);(case side3=>exact zk HO_7);rintro e w17 ⟨v542,v545,rfl,ho0,ho1,hb⟩;refine ⟨_,rfl,?_⟩;replace HO_1:=yV HO_1 hb;replace HO_2:=yV HO_2 hb;replace HO_7:=yV HO_7 hb;have HO543:=yL (fun k_=>((P1_ k_∨P2_ k_)∨w.heap.size≤k_)∧k_≠gb536) ho0 (fun k_ hk_=>⟨Or.elim hk_ (fun hs_=>hs_.1) (fun hn_=>(.inr (Nat.le_trans bs hn_))),Or.elim hk_ (fun hs_=>hs_.2) (fun hn_=>(zf BK536 hn_))⟩);have HO546:=yL (fun k_=>((P1_ k_∨P2_ k_)∨w.heap.size≤k_)∧k_≠gb536) ho1 (fun k_ hk_=>⟨Or.elim hk_ (fun hs_=>hs_.1) (fun hn_=>(.inr (Nat.le_trans bs hn_))),Or.elim hk_ (fun hs_=>hs_.2) (fun hn_=>(zf BK536 hn_))⟩);replace BK536:=sK BK536 hb;replace HB:=sB hb;clear hb ho0 ho1)|(refine zg (some 29) func134 #[.slice A2 l2.length c2,.slice Ao16 t537.length co16] ?_;(with_reducible refine (weftref1_natDiv.calls kj4 (fun k_=>(((P1_ k_∨P2_ k_)∨w.heap.size≤k_)∧k_≠gb536)) _ _ l2 _ _ t537 t547 t550 _ ?side1 ?side2 ?side3 A14.out).mono ?_);(case side1=>exact HO_2.out);(case side2=>exact zr HO_7);(case side3=>exact zk HO_7);rintro e w18 ⟨v548,v551,rfl,ho0,ho1,hb⟩;refine ⟨_,rfl,?_⟩;replace HO_1:=yV HO_1 hb;replace HO_2:=yV HO_2 hb;replace HO_7:=yV HO_7 hb;replace HO543:=yV HO543 hb;replace HO546:=yV HO546 hb;have HO549:=yL (fun k_=>((P1_ k_∨P2_ k_)∨w.heap.size≤k_)∧k_≠gb536) ho0 (fun k_ hk_=>⟨Or.elim hk_ (fun hs_=>hs_.1) (fun hn_=>(.inr (Nat.le_trans bs hn_))),Or.elim hk_ (fun hs_=>hs_.2) (fun hn_=>(zf BK536 hn_))⟩);have HO552:=yL (fun k_=>((P1_ k_∨P2_ k_)∨w.heap.size≤k_)∧k_≠gb536) ho1 (fun k_ hk_=>⟨Or.elim hk_ (fun hs_=>hs_.1) (fun hn_=>(.inr (Nat.le_trans bs hn_))),Or.elim hk_ (fun hs_=>hs_.2) (fun hn_=>(zf BK536 hn_))⟩);replace BK536:=sK BK536 hb;replace HB:=sB hb;clear hb ho0 ho1;obtain ⟨Ao19,co19,rfl⟩:=Kd.V_slice HO543.out;obtain ⟨Ao20,co20,rfl⟩:=Kd.V_slice HO549.out;obtain ⟨hcz21_0,hfz21_0⟩:=zc BK536 0 (.bool false) rfl;obtain ⟨hcz21_1,hfz21_1⟩:=zc BK536 1 (.slice none 0 0) rfl;obtain ⟨hcz21_2,hfz21_2⟩:=zc BK536 2 (.slice none 0 0) rfl))
   refine bodyPost_ret (results_cell_row rfl _ _ gb536 67 #[.bool (decide (0<t541.length)),.slice Ao19 t541.length co19,.slice Ao20 t547.length co20] (0,0) _ rfl (zp BK536) underlying67 rfl (by kernel_rfl)) rfl ?_
   exact ⟨_,_,ze,zF HO543,zF HO549,bw⟩
def weftref1_Num_Mul.f (k:Nat) (a0_0:Bool) (l0_1:List Int) (l0_2:List Int) (a1_0:Bool) (l1_1:List Int) (l1_2:List Int):Option (Bool×List Int×List Int):=(weftref1_natMul.f k l0_1 l1_1).bind fun t556=>((weftref1_natMul.f k l0_2 l1_2).bind fun t559=>((weftref1_numOf.f k (a0_0 != a1_0) t556 t559).bind fun bt562=>(some (bt562.1,bt562.2.1,bt562.2.2))))
def weftref1_Num_Mul.T1:Bool×List (List Nat×List Nat):=(true,[([],[]),([0],[0]),([],[]),([2],[2]),([1,3],[1,3]),([],[]),([5],[5]),([],[]),([7],[7]),([6,8],[6,8]),([],[]),([10],[10]),([],[]),([12],[12]),([11,13,9],[11,13]),([4,9,14,14],[4,9,14]),([15,15,0,1,2,3,4,5,6,7,8,9,10,11,12,13,14,15],[15])])
def weftref1_Num_Mul.B1:List Nat:=[0,1,0,4,15,0,32,0,128,480,0,1024,0,4096,16352,32767,65535]
theorem weftref1_Num_Mul.tab1:rtab .any (opsOf Tryz.f60 1)=weftref1_Num_Mul.T1:=by kernel_rfl
theorem weftref1_Num_Mul.bits1:waitsOk weftref1_Num_Mul.T1.2 weftref1_Num_Mul.B1=true:=by kernel_rfl
theorem weftref1_Num_Mul.calls (k:Nat) (a0_0:Bool) (A0_1:Option Addr) (c0_1:Nat) (l0_1:List Int) (A0_2:Option Addr) (c0_2:Nat) (l0_2:List Int) (a1_0:Bool) (A1_1:Option Addr) (c1_1:Nat) (l1_1:List Int) (A1_2:Option Addr) (c1_2:Nat) (l1_2:List Int) (r1:Bool) (r2:List Int) (r3:List Int) (w:World) (hr0_1:Kd.C (Kd.int .i64) w A0_1 l0_1.length l0_1) (hc0_1:l0_1.length≤c0_1) (hr0_2:Kd.C (Kd.int .i64) w A0_2 l0_2.length l0_2) (hc0_2:l0_2.length≤c0_2) (hr1_1:Kd.C (Kd.int .i64) w A1_1 l1_1.length l1_1) (hc1_1:l1_1.length≤c1_1) (hr1_2:Kd.C (Kd.int .i64) w A1_2 l1_2.length l1_2) (hc1_2:l1_2.length≤c1_2) (h:weftref1_Num_Mul.f k a0_0 l0_1 l0_2 a1_0 l1_1 l1_2=some (r1,r2,r3)) :
  Calls Tryz.prog 60 #[.agg #[.bool a0_0,.slice A0_1 l0_1.length c0_1,.slice A0_2 l0_2.length c0_2],.agg #[.bool a1_0,.slice A1_1 l1_1.length c1_1,.slice A1_2 l1_2.length c1_2]] w fun e w'=>∃ v1_ v2_:Value,e = .returned (.agg #[.bool r1,v1_,v2_])∧Kd.V (Kd.int .i64) 3 w' w.heap.size (fun k_=>(w.heap.size≤k_)) v1_ r2∧Kd.V (Kd.int .i64) 3 w' w.heap.size (fun k_=>(w.heap.size≤k_)) v2_ r3∧Below w.heap.size w w':=by
 have hu67:=underlying67
 have HR0_1:=aZ hr0_1
 have HC0_1:=aZ hc0_1
 clear hr0_1 hc0_1
 have HR0_2:=aZ hr0_2
 have HC0_2:=aZ hc0_2
 clear hr0_2 hc0_2
 have HR1_1:=aZ hr1_1
 have HC1_1:=aZ hc1_1
 clear hr1_1 hc1_1
 have HR1_2:=aZ hr1_2
 have HC1_2:=aZ hc1_2
 clear hr1_2 hc1_2
 have HB:=aZ (Below.refl w.heap.size w)
 have H:=h
 unfold weftref1_Num_Mul.f at H
 clear h
 obtain ⟨t556,A3,H⟩:=zB H
 obtain ⟨t559,A4,H⟩:=zB H
 obtain ⟨⟨t562,t563,t566⟩,A5,H⟩:=zB H
 (try dsimp only at H)
 simp only [Option.some.injEq,Prod.mk.injEq] at H
 obtain ⟨rfl,rfl,rfl⟩:=H
 go_enter func60,ntmps60
 try go_wp2_with (first|(refine box_ev 2 #[.bool a0_0,.slice A0_1 l0_1.length c0_1,.slice A0_2 l0_2.length c0_2] 67 ?_;intro gb553 hg w6 hbox hb;have BK553:=aZ hbox;have GE553:=sG hg;replace HB:=sB hb;clear hb hbox hg)|(refine box_ev 3 #[.bool a1_0,.slice A1_1 l1_1.length c1_1,.slice A1_2 l1_2.length c1_2] 67 ?_;intro gb554 hg w7 hbox hb;have BK554:=aZ hbox;have GE554:=sG hg;replace HB:=sB hb;have NB553_554:=sl hg BK553;have NB554_553:=sg hg BK553;replace BK553:=sK BK553 hb;clear hb hbox hg)|(refine box_ev 4 #[.bool false,.slice none 0 0,.slice none 0 0] 67 ?_;intro gb555 hg w8 hbox hb;have BK555:=aZ hbox;have GE555:=sG hg;replace HB:=sB hb;have NB553_555:=sl hg BK553;have NB555_553:=sg hg BK553;replace BK553:=sK BK553 hb;have NB554_555:=sl hg BK554;have NB555_554:=sg hg BK554;replace BK554:=sK BK554 hb;clear hb hbox hg))
 replace BK553:=aZ (blk_drew BK553.out)
 replace BK554:=aZ (blk_drew BK554.out)
 replace BK555:=aZ (blk_drew BK555.out)
 replace HB:=aZ (below_drew1 HB.out)
 refine start_ (n:=17) (S:=fun w'=>w'.cell? ⟨gb553,0,none⟩=some (.bool a0_0)∧w'.cell? ⟨gb553,1,none⟩=some (.slice A0_1 l0_1.length c0_1)∧w'.cell? ⟨gb553,2,none⟩=some (.slice A0_2 l0_2.length c0_2)∧w'.cell? ⟨gb554,0,none⟩=some (.bool a1_0)∧w'.cell? ⟨gb554,1,none⟩=some (.slice A1_1 l1_1.length c1_1)∧w'.cell? ⟨gb554,2,none⟩=some (.slice A1_2 l1_2.length c1_2)) (ds:=[]) #[false,false,false,false,false,false,false,false,false,false,false,false,false,false,false,false,false] (by kernel_rfl) rfl rfl ⟨zh BK553 0,zh BK553 1,zh BK553 2,zh BK554 0,zh BK554 1,zh BK554 2⟩ (fun hHeld=>?_);refine with_tabW weftref1_Num_Mul.tab1 weftref1_Num_Mul.bits1 (fun HT_ HW_=>?_)
 generalize w8.drew=w9 at BK553 BK554 BK555 HB hHeld ⊢
 refine pu 0 (some 5) HT_ ?_
 refine pu 2 (some 7) HT_ ?_
 refine pu 5 (some 10) HT_ ?_
 refine pu 7 (some 12) HT_ ?_
 refine pu 10 (some 15) HT_ ?_
 refine pu 12 (some 17) HT_ ?_
 refine tk 1 (some 6) HT_ HW_ hHeld ?_
 refine tk 3 (some 8) HT_ HW_ hHeld ?_
 refine pu 4 (some 9) HT_ ?_
 refine tk 6 (some 11) HT_ HW_ hHeld ?_
 refine tk 8 (some 13) HT_ HW_ hHeld ?_
 refine tk 11 (some 16) HT_ HW_ hHeld ?_
 refine tk 13 (some 18) HT_ HW_ hHeld ?_
 refine one_ (i:=9) (N:=some 14) #[true,true,true,true,true,true,true,true,true,true,true,true,true,true,false,false,false] rfl rfl (one_of HT_.out (by kernel_rfl)) (by decide) (fun K hK=>?_)
 refine goes_ func112 (by kernel_rfl) rfl #[.slice A0_1 l0_1.length c0_1,.slice A1_1 l1_1.length c1_1] (by rfl) rfl rfl zm ?_
 with_reducible refine (weftref1_natMul.calls k _ _ l0_1 _ _ l1_1 t556 _ ?side1 ?side2 ?side3 ?side4 A3.out).mono ?_
 (case side1=>exact zC (Kd.C_below HR0_1.out HB.out))
 (case side2=>exact HC0_1.out)
 (case side3=>exact zC (Kd.C_below HR1_1.out HB.out))
 (case side4=>exact HC1_1.out)
 rintro e w10 ⟨v557,rfl,ho0,hb⟩
 refine ⟨_,rfl,?_⟩
 have HO558:=yL (fun k_=>(w.heap.size≤k_)∧k_≠gb553∧k_≠gb554∧k_≠gb555) ho0 (fun k_ hk_=>⟨(Nat.le_trans bs hk_),(zf BK553 hk_),(zf BK554 hk_),(zf BK555 hk_)⟩)
 replace BK553:=sK BK553 hb
 replace BK554:=sK BK554 hb
 replace BK555:=sK BK555 hb
 replace HB:=sB hb
 clear hb ho0
 refine hK.out _ _ ⟨zh BK553 0,zh BK553 1,zh BK553 2,zh BK554 0,zh BK554 1,zh BK554 2⟩ (fun hHeld=>?_)
 clear hK K
 refine nm ?_
 refine one_ (i:=14) (N:=some 19) #[true,true,true,true,true,true,true,true,true,true,true,true,true,true,true,false,false] rfl rfl (one_of HT_.out (by kernel_rfl)) (by decide) (fun K hK=>?_)
 refine goes_ func112 (by kernel_rfl) rfl #[.slice A0_2 l0_2.length c0_2,.slice A1_2 l1_2.length c1_2] (by rfl) rfl rfl zm ?_
 with_reducible refine (weftref1_natMul.calls k _ _ l0_2 _ _ l1_2 t559 _ ?side1 ?side2 ?side3 ?side4 A4.out).mono ?_
 (case side1=>exact zC (Kd.C_below HR0_2.out HB.out))
 (case side2=>exact HC0_2.out)
 (case side3=>exact zC (Kd.C_below HR1_2.out HB.out))
 (case side4=>exact HC1_2.out)
 rintro e w11 ⟨v560,rfl,ho0,hb⟩
 refine ⟨_,rfl,?_⟩
 replace HO558:=yV HO558 hb
 have HO561:=yL (fun k_=>(w.heap.size≤k_)∧k_≠gb553∧k_≠gb554∧k_≠gb555) ho0 (fun k_ hk_=>⟨(Nat.le_trans bs hk_),(zf BK553 hk_),(zf BK554 hk_),(zf BK555 hk_)⟩)
 replace BK553:=sK BK553 hb
 replace BK554:=sK BK554 hb
 replace BK555:=sK BK555 hb
 replace HB:=sB hb
 clear hb ho0
 obtain ⟨Ao12,co12,eo12⟩:=Kd.V_slice HO558.out
 (first|subst eo12|(injection eo12 with f1_ f2_ f3_;have f4_:=f1_.symm;have f5_:=f3_.symm;clear f1_ f2_ f3_;subst f4_;subst f5_))
 obtain ⟨Ao13,co13,eo13⟩:=Kd.V_slice HO561.out
 (first|subst eo13|(injection eo13 with f1_ f2_ f3_;have f4_:=f1_.symm;have f5_:=f3_.symm;clear f1_ f2_ f3_;subst f4_;subst f5_))
 refine hK.out _ _ ⟨zh BK553 0,zh BK553 1,zh BK553 2,zh BK554 0,zh BK554 1,zh BK554 2⟩ (fun hHeld=>?_)
 clear hK K
 refine nm ?_
 refine one_ (i:=15) (N:=some 20) #[true,true,true,true,true,true,true,true,true,true,true,true,true,true,true,true,false] rfl rfl (one_of HT_.out (by kernel_rfl)) (by decide) (fun K hK=>?_)
 refine goes_ func101 (by kernel_rfl) rfl #[.bool (a0_0 != a1_0),.slice Ao12 t556.length co12,.slice Ao13 t559.length co13] (by rfl) rfl rfl zm ?_
 with_reducible refine (weftref1_numOf.calls k (a0_0 != a1_0) (fun k_=>((w.heap.size≤k_)∧(k_≠gb553∧(k_≠gb554∧k_≠gb555)))) _ _ t556 (fun k_=>((w.heap.size≤k_)∧(k_≠gb553∧(k_≠gb554∧k_≠gb555)))) _ _ t559 t562 t563 t566 _ ?side1 ?side2 A5.out).mono ?_
 (case side1=>exact HO558.out)
 (case side2=>exact HO561.out)
 rintro e w14 ⟨v564,v567,rfl,ho0,ho1,hb⟩
 refine ⟨_,rfl,?_⟩
 replace HO558:=yV HO558 hb
 replace HO561:=yV HO561 hb
 have HO565:=yL (fun k_=>(w.heap.size≤k_)∧k_≠gb553∧k_≠gb554∧k_≠gb555) ho0 (fun k_ hk_=>⟨Or.elim hk_ (fun hs_=>Or.elim hs_ (fun hs_=>hs_.1) (fun hs_=>hs_.1)) (fun hn_=>(Nat.le_trans bs hn_)),Or.elim hk_ (fun hs_=>Or.elim hs_ (fun hs_=>hs_.2.1) (fun hs_=>hs_.2.1)) (fun hn_=>(zf BK553 hn_)),Or.elim hk_ (fun hs_=>Or.elim hs_ (fun hs_=>hs_.2.2.1) (fun hs_=>hs_.2.2.1)) (fun hn_=>(zf BK554 hn_)),Or.elim hk_ (fun hs_=>Or.elim hs_ (fun hs_=>hs_.2.2.2) (fun hs_=>hs_.2.2.2)) (fun hn_=>(zf BK555 hn_))⟩)
 have HO568:=yL (fun k_=>(w.heap.size≤k_)∧k_≠gb553∧k_≠gb554∧k_≠gb555) ho1 (fun k_ hk_=>⟨Or.elim hk_ (fun hs_=>Or.elim hs_ (fun hs_=>hs_.1) (fun hs_=>hs_.1)) (fun hn_=>(Nat.le_trans bs hn_)),Or.elim hk_ (fun hs_=>Or.elim hs_ (fun hs_=>hs_.2.1) (fun hs_=>hs_.2.1)) (fun hn_=>(zf BK553 hn_)),Or.elim hk_ (fun hs_=>Or.elim hs_ (fun hs_=>hs_.2.2.1) (fun hs_=>hs_.2.2.1)) (fun hn_=>(zf BK554 hn_)),Or.elim hk_ (fun hs_=>Or.elim hs_ (fun hs_=>hs_.2.2.2) (fun hs_=>hs_.2.2.2)) (fun hn_=>(zf BK555 hn_))⟩)
 replace BK553:=sK BK553 hb
 replace BK554:=sK BK554 hb
 replace BK555:=sK BK555 hb
 replace HB:=sB hb
 clear hb ho0 ho1
 obtain ⟨Ao16,co16,eo16⟩:=Kd.V_slice HO565.out
 (first|subst eo16|(injection eo16 with f1_ f2_ f3_;have f4_:=f1_.symm;have f5_:=f3_.symm;clear f1_ f2_ f3_;subst f4_;subst f5_))
 obtain ⟨Ao18,co18,eo18⟩:=Kd.V_slice HO568.out
 (first|subst eo18|(injection eo18 with f1_ f2_ f3_;have f4_:=f1_.symm;have f5_:=f3_.symm;clear f1_ f2_ f3_;subst f4_;subst f5_))
 refine hK.out _ _ ⟨zh BK553 0,zh BK553 1,zh BK553 2,zh BK554 0,zh BK554 1,zh BK554 2⟩ (fun hHeld=>?_)
 clear hK K
 refine nm ?_
 refine one_ (i:=16) (N:=none) #[true,true,true,true,true,true,true,true,true,true,true,true,true,true,true,true,true] rfl rfl (one_of HT_.out (by kernel_rfl)) (by decide) (fun K hK=>?_)
 have hs15:w14.cell? ⟨gb555,0,none⟩=some (.bool false):=(blk_cell BK555.out 0).trans rfl
 have hfs15:=blk_frozen BK555.out 0
 have hns15_0:=NB553_555.out
 have hns15_1:=NB554_555.out
 have hms15_0:=NB555_553.out
 have hms15_1:=NB555_554.out
 have hs17:w14.cell? ⟨gb555,1,none⟩=some (.slice none 0 0):=(blk_cell BK555.out 1).trans rfl
 have hfs17:=blk_frozen BK555.out 1
 have hns17_0:=NB553_555.out
 have hns17_1:=NB554_555.out
 have hms17_0:=NB555_553.out
 have hms17_1:=NB555_554.out
 have hs19:w14.cell? ⟨gb555,2,none⟩=some (.slice none 0 0):=(blk_cell BK555.out 2).trans rfl
 have hfs19:=blk_frozen BK555.out 2
 have hns19_0:=NB553_555.out
 have hns19_1:=NB554_555.out
 have hms19_0:=NB555_553.out
 have hms19_1:=NB555_554.out
 refine skip_ (w1:=?_) (by rfl) rfl ?_ ?_
 rotate_left
 ·go_simp
  rfl
 refine hK.out _ _ ⟨((cell_far (p:=⟨gb555,_,none⟩) NB553_555.out _).trans (((cell_far (p:=⟨gb555,_,none⟩) NB553_555.out _).trans (((cell_far (p:=⟨gb555,_,none⟩) NB553_555.out _).trans (hHeld.1)))))),((cell_far (p:=⟨gb555,_,none⟩) NB553_555.out _).trans (((cell_far (p:=⟨gb555,_,none⟩) NB553_555.out _).trans (((cell_far (p:=⟨gb555,_,none⟩) NB553_555.out _).trans (hHeld.2.1)))))),((cell_far (p:=⟨gb555,_,none⟩) NB553_555.out _).trans (((cell_far (p:=⟨gb555,_,none⟩) NB553_555.out _).trans (((cell_far (p:=⟨gb555,_,none⟩) NB553_555.out _).trans (hHeld.2.2.1)))))),((cell_far (p:=⟨gb555,_,none⟩) NB554_555.out _).trans (((cell_far (p:=⟨gb555,_,none⟩) NB554_555.out _).trans (((cell_far (p:=⟨gb555,_,none⟩) NB554_555.out _).trans (hHeld.2.2.2.1)))))),((cell_far (p:=⟨gb555,_,none⟩) NB554_555.out _).trans (((cell_far (p:=⟨gb555,_,none⟩) NB554_555.out _).trans (((cell_far (p:=⟨gb555,_,none⟩) NB554_555.out _).trans (hHeld.2.2.2.2.1)))))),((cell_far (p:=⟨gb555,_,none⟩) NB554_555.out _).trans (((cell_far (p:=⟨gb555,_,none⟩) NB554_555.out _).trans (((cell_far (p:=⟨gb555,_,none⟩) NB554_555.out _).trans (hHeld.2.2.2.2.2))))))⟩ (fun hHeld=>?_)
 clear hK K
 refine done_ (done_of HT_.out (by kernel_rfl)) ?_
 try go_wp2
 refine bodyPost_ret (results_cell_row rfl _ _ gb555 67 #[.bool t562,.slice Ao16 t563.length co16,.slice Ao18 t566.length co18] (0,0) _ rfl (zp BK555) underlying67 rfl (by kernel_rfl)) rfl ?_
 exact ⟨_,_,ze,zF HO565,zF HO568,bw⟩
def weftref1_Num_Sign.f (a0_0:Bool) (l0_1:List Int) (l0_2:List Int):Option (Int):=if (l0_1.length:Int)=0 then (some 0) else (if a0_0=true then (some (-1)) else (some 1))
theorem weftref1_Num_Sign.calls (a0_0:Bool) (A0_1:Option Addr) (c0_1:Nat) (l0_1:List Int) (A0_2:Option Addr) (c0_2:Nat) (l0_2:List Int) (r:Int) (w:World) (hr0_1:Kd.C (Kd.int .i64) w A0_1 l0_1.length l0_1) (hc0_1:l0_1.length≤c0_1) (hr0_2:Kd.C (Kd.int .i64) w A0_2 l0_2.length l0_2) (hc0_2:l0_2.length≤c0_2) (h:weftref1_Num_Sign.f a0_0 l0_1 l0_2=some r) :
  Calls Tryz.prog 61 #[.agg #[.bool a0_0,.slice A0_1 l0_1.length c0_1,.slice A0_2 l0_2.length c0_2]] w fun e w'=>e = .returned (.int .i64 r)∧Below w.heap.size w w':=by
 have hu67:=underlying67
 have HR0_1:=aZ hr0_1
 have HC0_1:=aZ hc0_1
 clear hr0_1 hc0_1
 have HR0_2:=aZ hr0_2
 have HC0_2:=aZ hc0_2
 clear hr0_2 hc0_2
 have HB:=aZ (Below.refl w.heap.size w)
 have H:=h
 unfold weftref1_Num_Sign.f at H
 clear h
 by_cases c2:(l0_1.length:Int)=0
 case neg=>
  rw [if_neg c2] at H
  have c2b0:((l0_1.length:Int)==0)=false:=beq_eq_false_iff_ne.mpr c2
  have c2b1:((l0_1.length:Int) != 0)=true:=bne_iff_ne.mpr c2
  have c2b2:¬ (l0_1=[]):=fun h_=>c2 (by rw [h_];rfl)
  by_cases c5:a0_0=true
  case neg=>
   replace c5:=Bool.eq_false_iff.mpr c5
   subst c5
   have H1:(some 1)=some r:=by rw [if_neg (show ¬ (false=true) by decide)] at H;exact H
   clear H
   have H:=H1
   clear H1
   obtain rfl:=Option.some.inj H
   go_enter func61,ntmps61
   go_wp2_with (first|(refine box_ev 1 #[.bool false,.slice A0_1 l0_1.length c0_1,.slice A0_2 l0_2.length c0_2] 67 ?_;intro gb569 hg w8 hbox hb;have BK569:=aZ hbox;have GE569:=sG hg;replace HB:=sB hb;clear hb hbox hg;obtain ⟨hcz9_0,hfz9_0⟩:=zc BK569 0 (.bool false) rfl;obtain ⟨hcz9_1,hfz9_1⟩:=zc BK569 1 (.slice A0_1 l0_1.length c0_1) rfl;obtain ⟨hcz9_2,hfz9_2⟩:=zc BK569 2 (.slice A0_2 l0_2.length c0_2) rfl))
   go_ret
   exact ⟨ze,bw⟩
  subst c5
  have H1:(some (-1))=some r:=by rw [if_pos rfl] at H;exact H
  clear H
  have H:=H1
  clear H1
  obtain rfl:=Option.some.inj H
  go_enter func61,ntmps61
  go_wp2_with (first|(refine box_ev 1 #[.bool true,.slice A0_1 l0_1.length c0_1,.slice A0_2 l0_2.length c0_2] 67 ?_;intro gb569 hg w6 hbox hb;have BK569:=aZ hbox;have GE569:=sG hg;replace HB:=sB hb;clear hb hbox hg;obtain ⟨hcz7_0,hfz7_0⟩:=zc BK569 0 (.bool true) rfl;obtain ⟨hcz7_1,hfz7_1⟩:=zc BK569 1 (.slice A0_1 l0_1.length c0_1) rfl;obtain ⟨hcz7_2,hfz7_2⟩:=zc BK569 2 (.slice A0_2 l0_2.length c0_2) rfl))
  go_ret
  exact ⟨ze,bw⟩
 rw [if_pos c2] at H
 have c2b0:((l0_1.length:Int)==0)=true:=beq_iff_eq.mpr c2
 have c2b1:((l0_1.length:Int) != 0)=false:=bne_eq_false_iff_eq.mpr c2
 clear c2
 obtain rfl:=Option.some.inj H
 go_enter func61,ntmps61
 go_wp2_with (first|(refine box_ev 1 #[.bool a0_0,.slice A0_1 l0_1.length c0_1,.slice A0_2 l0_2.length c0_2] 67 ?_;intro gb569 hg w3 hbox hb;have BK569:=aZ hbox;have GE569:=sG hg;replace HB:=sB hb;clear hb hbox hg;obtain ⟨hcz4_0,hfz4_0⟩:=zc BK569 0 (.bool a0_0) rfl;obtain ⟨hcz4_1,hfz4_1⟩:=zc BK569 1 (.slice A0_1 l0_1.length c0_1) rfl;obtain ⟨hcz4_2,hfz4_2⟩:=zc BK569 2 (.slice A0_2 l0_2.length c0_2) rfl))
 go_ret
 exact ⟨ze,bw⟩
def num_two_at_frac_Div.f (k:Nat) (a0_0:ByteArray) (a0_1:ByteArray) (a1_0:ByteArray) (a1_1:ByteArray):Option (ByteArray×ByteArray×Int):=(num_Check.f k a0_0 a0_1).bind fun t573=>(if t573=0 then ((num_Check.f k a1_0 a1_1).bind fun t574=>(if t574=0 then ((frac_Of.f k a0_0 a0_1).bind fun bt575=>((frac_Of.f k a1_0 a1_1).bind fun bt582=>((frac_Div.f k bt575.1 bt575.2.1 bt575.2.2 bt582.1 bt582.2.1 bt582.2.2).bind fun bt589=>((frac_Frac_Rat.f bt589.1 bt589.2.1 bt589.2.2).bind fun bt596=>(some (bt596.1,bt596.2,0)))))) else (some ((⟨#[]⟩:ByteArray),(⟨#[]⟩:ByteArray),t574)))) else (some ((⟨#[]⟩:ByteArray),(⟨#[]⟩:ByteArray),t573)))
def num_two_at_frac_Div.T7:Bool×List (List Nat×List Nat):=(true,[([],[]),([],[]),([1],[1]),([],[]),([3,2],[3]),([0,2,4,4],[0,2,4]),([5,5],[5]),([6,6,0,1,2,3,4,5,6],[6]),([7,0,1,2,3,4,5,6,7],[])])
def num_two_at_frac_Div.B7:List Nat:=[0,0,2,0,14,31,63,127,255]
theorem num_two_at_frac_Div.tab7:rtab .any (opsOf Tryz.f110 7)=num_two_at_frac_Div.T7:=by kernel_rfl
theorem num_two_at_frac_Div.bits7:waitsOk num_two_at_frac_Div.T7.2 num_two_at_frac_Div.B7=true:=by kernel_rfl
theorem num_two_at_frac_Div.calls (k:Nat) (a0_0:ByteArray) (a0_1:ByteArray) (a1_0:ByteArray) (a1_1:ByteArray) (r1:ByteArray) (r2:ByteArray) (r3:Int) (w:World) (hG:Tryz.Gl w) (h:num_two_at_frac_Div.f k a0_0 a0_1 a1_0 a1_1=some (r1,r2,r3)) :
  Calls Tryz.prog 110 #[.agg #[.string a0_0,.string a0_1],.agg #[.string a1_0,.string a1_1],.func (.func 113) #[] #[]] w fun e w'=>e = .returned (.tuple #[.agg #[.string r1,.string r2],.int .i64 r3])∧Below w.heap.size w w':=by
 have hu61:=underlying61
 have HG:=aZ hG
 clear hG
 have HB:=aZ (Below.refl w.heap.size w)
 have H:=h
 unfold num_two_at_frac_Div.f at H
 clear h
 obtain ⟨t573,A3,H⟩:=zB H
 by_cases c4:t573=0
 case neg=>
  rw [if_neg c4] at H
  have c4b0:(t573==0)=false:=beq_eq_false_iff_ne.mpr c4
  have c4b1:(t573 != 0)=true:=bne_iff_ne.mpr c4
  simp only [Option.some.injEq,Prod.mk.injEq] at H
  obtain ⟨rfl,rfl,rfl⟩:=H
  go_enter func110,ntmps110
  go_wp2_with (first|(refine box_ev 3 #[.string a0_0,.string a0_1] 61 ?_;intro gb570 hg w45 hbox hb;have BK570:=aZ hbox;have GE570:=sG hg;replace HB:=sB hb;clear hb hbox hg)|(refine box_ev 4 #[.string a1_0,.string a1_1] 61 ?_;intro gb571 hg w46 hbox hb;have BK571:=aZ hbox;have GE571:=sG hg;replace HB:=sB hb;have NB570_571:=sl hg BK570;have NB571_570:=sg hg BK570;replace BK570:=sK BK570 hb;clear hb hbox hg)|(refine box_ev 6 #[.string (⟨#[]⟩:ByteArray),.string (⟨#[]⟩:ByteArray)] 61 ?_;intro gb572 hg w47 hbox hb;have BK572:=aZ hbox;have GE572:=sG hg;replace HB:=sB hb;have NB570_572:=sl hg BK570;have NB572_570:=sg hg BK570;replace BK570:=sK BK570 hb;have NB571_572:=sl hg BK571;have NB572_571:=sg hg BK571;replace BK571:=sK BK571 hb;clear hb hbox hg;have hnb48:=NB570_571.out;have hnc48:=NB571_570.out;have hnb49:=NB570_572.out;have hnc49:=NB572_570.out;obtain ⟨hcz50_0,hfz50_0⟩:=zc BK570 0 (.string a0_0) rfl;obtain ⟨hcz50_1,hfz50_1⟩:=zc BK570 1 (.string a0_1) rfl)|(refine zg (some 11) func56 #[.agg #[.string a0_0,.string a0_1]] ?_;(with_reducible refine (num_Check.calls k a0_0 a0_1 t573 _ A3.out).mono ?_);rintro e w51 ⟨rfl,hb⟩;refine ⟨_,rfl,?_⟩;replace BK570:=sK BK570 hb;replace BK571:=sK BK571 hb;replace BK572:=sK BK572 hb;replace HB:=sB hb;clear hb;have hnb52:=NB572_571.out;have hnc52:=NB571_572.out;obtain ⟨hcz53_0,hfz53_0⟩:=zc BK572 0 (.string (⟨#[]⟩:ByteArray)) rfl;obtain ⟨hcz53_1,hfz53_1⟩:=zc BK572 1 (.string (⟨#[]⟩:ByteArray)) rfl))
  refine bodyPost_ret (results_ct rfl _ _ gb572 61 #[.string (⟨#[]⟩:ByteArray),.string (⟨#[]⟩:ByteArray)] (0,0) _ rfl (zp BK572) underlying61 rfl (by kernel_rfl)) rfl ?_
  exact ⟨ze,bw⟩
 rw [if_pos c4] at H
 have c4b0:(t573==0)=true:=beq_iff_eq.mpr c4
 have c4b1:(t573 != 0)=false:=bne_eq_false_iff_eq.mpr c4
 clear c4
 obtain ⟨t574,A5,H⟩:=zB H
 by_cases c6:t574=0
 case neg=>
  rw [if_neg c6] at H
  have c6b0:(t574==0)=false:=beq_eq_false_iff_ne.mpr c6
  have c6b1:(t574 != 0)=true:=bne_iff_ne.mpr c6
  simp only [Option.some.injEq,Prod.mk.injEq] at H
  obtain ⟨rfl,rfl,rfl⟩:=H
  go_enter func110,ntmps110
  go_wp2_with (first|(refine box_ev 3 #[.string a0_0,.string a0_1] 61 ?_;intro gb570 hg w34 hbox hb;have BK570:=aZ hbox;have GE570:=sG hg;replace HB:=sB hb;clear hb hbox hg)|(refine box_ev 4 #[.string a1_0,.string a1_1] 61 ?_;intro gb571 hg w35 hbox hb;have BK571:=aZ hbox;have GE571:=sG hg;replace HB:=sB hb;have NB570_571:=sl hg BK570;have NB571_570:=sg hg BK570;replace BK570:=sK BK570 hb;clear hb hbox hg)|(refine box_ev 6 #[.string (⟨#[]⟩:ByteArray),.string (⟨#[]⟩:ByteArray)] 61 ?_;intro gb572 hg w36 hbox hb;have BK572:=aZ hbox;have GE572:=sG hg;replace HB:=sB hb;have NB570_572:=sl hg BK570;have NB572_570:=sg hg BK570;replace BK570:=sK BK570 hb;have NB571_572:=sl hg BK571;have NB572_571:=sg hg BK571;replace BK571:=sK BK571 hb;clear hb hbox hg;have hnb37:=NB570_571.out;have hnc37:=NB571_570.out;have hnb38:=NB570_572.out;have hnc38:=NB572_570.out;obtain ⟨hcz39_0,hfz39_0⟩:=zc BK570 0 (.string a0_0) rfl;obtain ⟨hcz39_1,hfz39_1⟩:=zc BK570 1 (.string a0_1) rfl)|(refine zg (some 11) func56 #[.agg #[.string a0_0,.string a0_1]] ?_;(with_reducible refine (num_Check.calls k a0_0 a0_1 t573 _ A3.out).mono ?_);rintro e w40 ⟨rfl,hb⟩;refine ⟨_,rfl,?_⟩;replace BK570:=sK BK570 hb;replace BK571:=sK BK571 hb;replace BK572:=sK BK572 hb;replace HB:=sB hb;clear hb;have hnb41:=NB571_572.out;have hnc41:=NB572_571.out;obtain ⟨hcz42_0,hfz42_0⟩:=zc BK571 0 (.string a1_0) rfl;obtain ⟨hcz42_1,hfz42_1⟩:=zc BK571 1 (.string a1_1) rfl)|(refine zg (some 17) func56 #[.agg #[.string a1_0,.string a1_1]] ?_;(with_reducible refine (num_Check.calls k a1_0 a1_1 t574 _ A5.out).mono ?_);rintro e w43 ⟨rfl,hb⟩;refine ⟨_,rfl,?_⟩;replace BK570:=sK BK570 hb;replace BK571:=sK BK571 hb;replace BK572:=sK BK572 hb;replace HB:=sB hb;clear hb;obtain ⟨hcz44_0,hfz44_0⟩:=zc BK572 0 (.string (⟨#[]⟩:ByteArray)) rfl;obtain ⟨hcz44_1,hfz44_1⟩:=zc BK572 1 (.string (⟨#[]⟩:ByteArray)) rfl))
  refine bodyPost_ret (results_ct rfl _ _ gb572 61 #[.string (⟨#[]⟩:ByteArray),.string (⟨#[]⟩:ByteArray)] (0,0) _ rfl (zp BK572) underlying61 rfl (by kernel_rfl)) rfl ?_
  exact ⟨ze,bw⟩
 rw [if_pos c6] at H
 have c6b0:(t574==0)=true:=beq_iff_eq.mpr c6
 have c6b1:(t574 != 0)=false:=bne_eq_false_iff_eq.mpr c6
 clear c6
 obtain ⟨⟨t575,t576,t579⟩,A7,H⟩:=zB H
 (try dsimp only at H)
 obtain ⟨⟨t582,t583,t586⟩,A8,H⟩:=zB H
 (try dsimp only at H)
 obtain ⟨⟨t589,t590,t593⟩,A9,H⟩:=zB H
 (try dsimp only at H)
 obtain ⟨⟨t596,t597⟩,A10,H⟩:=zB H
 (try dsimp only at H)
 simp only [Option.some.injEq,Prod.mk.injEq] at H
 obtain ⟨rfl,rfl,rfl⟩:=H
 go_enter func110,ntmps110
 try go_wp2_with (first|(refine box_ev 3 #[.string a0_0,.string a0_1] 61 ?_;intro gb570 hg w11 hbox hb;have BK570:=aZ hbox;have GE570:=sG hg;replace HB:=sB hb;clear hb hbox hg)|(refine box_ev 4 #[.string a1_0,.string a1_1] 61 ?_;intro gb571 hg w12 hbox hb;have BK571:=aZ hbox;have GE571:=sG hg;replace HB:=sB hb;have NB570_571:=sl hg BK570;have NB571_570:=sg hg BK570;replace BK570:=sK BK570 hb;clear hb hbox hg)|(refine box_ev 6 #[.string (⟨#[]⟩:ByteArray),.string (⟨#[]⟩:ByteArray)] 61 ?_;intro gb572 hg w13 hbox hb;have BK572:=aZ hbox;have GE572:=sG hg;replace HB:=sB hb;have NB570_572:=sl hg BK570;have NB572_570:=sg hg BK570;replace BK570:=sK BK570 hb;have NB571_572:=sl hg BK571;have NB572_571:=sg hg BK571;replace BK571:=sK BK571 hb;clear hb hbox hg;have hnb14:=NB570_571.out;have hnc14:=NB571_570.out;have hnb15:=NB570_572.out;have hnc15:=NB572_570.out;obtain ⟨hcz16_0,hfz16_0⟩:=zc BK570 0 (.string a0_0) rfl;obtain ⟨hcz16_1,hfz16_1⟩:=zc BK570 1 (.string a0_1) rfl)|(refine zg (some 11) func56 #[.agg #[.string a0_0,.string a0_1]] ?_;(with_reducible refine (num_Check.calls k a0_0 a0_1 t573 _ A3.out).mono ?_);rintro e w17 ⟨rfl,hb⟩;refine ⟨_,rfl,?_⟩;replace BK570:=sK BK570 hb;replace BK571:=sK BK571 hb;replace BK572:=sK BK572 hb;replace HB:=sB hb;clear hb;have hnb18:=NB571_572.out;have hnc18:=NB572_571.out;obtain ⟨hcz19_0,hfz19_0⟩:=zc BK571 0 (.string a1_0) rfl;obtain ⟨hcz19_1,hfz19_1⟩:=zc BK571 1 (.string a1_1) rfl)|(refine zg (some 17) func56 #[.agg #[.string a1_0,.string a1_1]] ?_;(with_reducible refine (num_Check.calls k a1_0 a1_1 t574 _ A5.out).mono ?_);rintro e w20 ⟨rfl,hb⟩;refine ⟨_,rfl,?_⟩;replace BK570:=sK BK570 hb;replace BK571:=sK BK571 hb;replace BK572:=sK BK572 hb;replace HB:=sB hb;clear hb))
 replace BK570:=aZ (blk_drew BK570.out)
 replace BK571:=aZ (blk_drew BK571.out)
 replace BK572:=aZ (blk_drew BK572.out)
 replace HB:=aZ (below_drew1 HB.out)
 refine start_ (n:=9) (S:=fun w'=>w'.cell? ⟨gb570,0,none⟩=some (.string a0_0)∧w'.cell? ⟨gb570,1,none⟩=some (.string a0_1)∧w'.cell? ⟨gb571,0,none⟩=some (.string a1_0)∧w'.cell? ⟨gb571,1,none⟩=some (.string a1_1)) (ds:=[]) #[false,false,false,false,false,false,false,false,false] (by kernel_rfl) rfl rfl ⟨zh BK570 0,zh BK570 1,zh BK571 0,zh BK571 1⟩ (fun hHeld=>?_);refine with_tabW num_two_at_frac_Div.tab7 num_two_at_frac_Div.bits7 (fun HT_ HW_=>?_)
 generalize w20.drew=w21 at BK570 BK571 BK572 HB hHeld ⊢
 refine pu 0 (some 22) HT_ ?_
 refine tk 1 (some 23) HT_ HW_ hHeld ?_
 refine tk 3 (some 25) HT_ HW_ hHeld ?_
 refine one_ (i:=2) (N:=some 24) #[true,true,true,true,false,false,false,false,false] rfl rfl (one_of HT_.out (by kernel_rfl)) (by decide) (fun K hK=>?_)
 refine goes_ func127 (by kernel_rfl) rfl #[.agg #[.string a0_0,.string a0_1]] (by rfl) rfl rfl zm ?_
 with_reducible refine (frac_Of.calls k a0_0 a0_1 t575 t576 t579 _ A7.out).mono ?_
 rintro e w22 ⟨v577,v580,rfl,ho0,ho1,hb⟩
 refine ⟨_,rfl,?_⟩
 have HO578:=yL (fun k_=>k_≠gb570∧k_≠gb571∧k_≠gb572) ho0 (fun k_ hk_=>⟨(zf BK570 hk_),(zf BK571 hk_),(zf BK572 hk_)⟩)
 have HO581:=yL (fun k_=>k_≠gb570∧k_≠gb571∧k_≠gb572) ho1 (fun k_ hk_=>⟨(zf BK570 hk_),(zf BK571 hk_),(zf BK572 hk_)⟩)
 replace BK570:=sK BK570 hb
 replace BK571:=sK BK571 hb
 replace BK572:=sK BK572 hb
 replace HB:=sB hb
 clear hb ho0 ho1
 refine hK.out _ _ ⟨zh BK570 0,zh BK570 1,zh BK571 0,zh BK571 1⟩ (fun hHeld=>?_)
 clear hK K
 refine nm ?_
 refine one_ (i:=4) (N:=some 26) #[true,true,true,true,true,false,false,false,false] rfl rfl (one_of HT_.out (by kernel_rfl)) (by decide) (fun K hK=>?_)
 refine goes_ func127 (by kernel_rfl) rfl #[.agg #[.string a1_0,.string a1_1]] (by rfl) rfl rfl zm ?_
 with_reducible refine (frac_Of.calls k a1_0 a1_1 t582 t583 t586 _ A8.out).mono ?_
 rintro e w23 ⟨v584,v587,rfl,ho0,ho1,hb⟩
 refine ⟨_,rfl,?_⟩
 replace HO578:=yV HO578 hb
 replace HO581:=yV HO581 hb
 have HO585:=yL (fun k_=>k_≠gb570∧k_≠gb571∧k_≠gb572) ho0 (fun k_ hk_=>⟨(zf BK570 hk_),(zf BK571 hk_),(zf BK572 hk_)⟩)
 have HO588:=yL (fun k_=>k_≠gb570∧k_≠gb571∧k_≠gb572) ho1 (fun k_ hk_=>⟨(zf BK570 hk_),(zf BK571 hk_),(zf BK572 hk_)⟩)
 replace BK570:=sK BK570 hb
 replace BK571:=sK BK571 hb
 replace BK572:=sK BK572 hb
 replace HB:=sB hb
 clear hb ho0 ho1
 obtain ⟨Ao24,co24,eo24⟩:=Kd.V_slice HO578.out
 (first|subst eo24|(injection eo24 with f1_ f2_ f3_;have f4_:=f1_.symm;have f5_:=f3_.symm;clear f1_ f2_ f3_;subst f4_;subst f5_))
 obtain ⟨Ao25,co25,eo25⟩:=Kd.V_slice HO581.out
 (first|subst eo25|(injection eo25 with f1_ f2_ f3_;have f4_:=f1_.symm;have f5_:=f3_.symm;clear f1_ f2_ f3_;subst f4_;subst f5_))
 obtain ⟨Ao26,co26,eo26⟩:=Kd.V_slice HO585.out
 (first|subst eo26|(injection eo26 with f1_ f2_ f3_;have f4_:=f1_.symm;have f5_:=f3_.symm;clear f1_ f2_ f3_;subst f4_;subst f5_))
 obtain ⟨Ao27,co27,eo27⟩:=Kd.V_slice HO588.out
 (first|subst eo27|(injection eo27 with f1_ f2_ f3_;have f4_:=f1_.symm;have f5_:=f3_.symm;clear f1_ f2_ f3_;subst f4_;subst f5_))
 refine hK.out _ _ ⟨zh BK570 0,zh BK570 1,zh BK571 0,zh BK571 1⟩ (fun hHeld=>?_)
 clear hK K
 refine nm ?_
 refine one_ (i:=5) (N:=some 27) #[true,true,true,true,true,true,false,false,false] rfl rfl (one_of HT_.out (by kernel_rfl)) (by decide) (fun K hK=>?_)
 refine goesU_ (t:=22) (by rfl) func113 (by kernel_rfl) rfl #[.agg #[.bool t575,.slice Ao24 t576.length co24,.slice Ao25 t579.length co25],.agg #[.bool t582,.slice Ao26 t583.length co26,.slice Ao27 t586.length co27]] (by rfl) rfl rfl zm ?_
 with_reducible refine (frac_Div.calls k t575 _ _ t576 _ _ t579 t582 _ _ t583 _ _ t586 t589 t590 t593 _ ?side1 ?side2 ?side3 ?side4 ?side5 ?side6 ?side7 ?side8 A9.out).mono ?_
 (case side1=>exact zr HO578)
 (case side2=>exact zk HO578)
 (case side3=>exact zr HO581)
 (case side4=>exact zk HO581)
 (case side5=>exact zr HO585)
 (case side6=>exact zk HO585)
 (case side7=>exact zr HO588)
 (case side8=>exact zk HO588)
 rintro e w28 ⟨v591,v594,rfl,ho0,ho1,hb⟩
 refine ⟨_,rfl,?_⟩
 replace HO578:=yV HO578 hb
 replace HO581:=yV HO581 hb
 replace HO585:=yV HO585 hb
 replace HO588:=yV HO588 hb
 have HO592:=yL (fun k_=>k_≠gb570∧k_≠gb571∧k_≠gb572) ho0 (fun k_ hk_=>⟨(zf BK570 hk_),(zf BK571 hk_),(zf BK572 hk_)⟩)
 have HO595:=yL (fun k_=>k_≠gb570∧k_≠gb571∧k_≠gb572) ho1 (fun k_ hk_=>⟨(zf BK570 hk_),(zf BK571 hk_),(zf BK572 hk_)⟩)
 replace BK570:=sK BK570 hb
 replace BK571:=sK BK571 hb
 replace BK572:=sK BK572 hb
 replace HB:=sB hb
 clear hb ho0 ho1
 obtain ⟨Ao29,co29,eo29⟩:=Kd.V_slice HO592.out
 (first|subst eo29|(injection eo29 with f1_ f2_ f3_;have f4_:=f1_.symm;have f5_:=f3_.symm;clear f1_ f2_ f3_;subst f4_;subst f5_))
 obtain ⟨Ao30,co30,eo30⟩:=Kd.V_slice HO595.out
 (first|subst eo30|(injection eo30 with f1_ f2_ f3_;have f4_:=f1_.symm;have f5_:=f3_.symm;clear f1_ f2_ f3_;subst f4_;subst f5_))
 refine hK.out _ _ ⟨zh BK570 0,zh BK570 1,zh BK571 0,zh BK571 1⟩ (fun hHeld=>?_)
 clear hK K
 refine nm ?_
 refine one_ (i:=6) (N:=some 28) #[true,true,true,true,true,true,true,false,false] rfl rfl (one_of HT_.out (by kernel_rfl)) (by decide) (fun K hK=>?_)
 refine goes_ func96 (by kernel_rfl) rfl #[.agg #[.bool t589,.slice Ao29 t590.length co29,.slice Ao30 t593.length co30]] (by rfl) rfl rfl zm ?_
 with_reducible refine (frac_Frac_Rat.calls t589 _ _ t590 _ _ t593 t596 t597 _ ?side1 ?side2 ?side3 ?side4 ?side5 A10.out).mono ?_
 (case side1=>exact zr HO592)
 (case side2=>exact zk HO592)
 (case side3=>exact zr HO595)
 (case side4=>exact zk HO595)
 (case side5=>exact Tryz.Gl.below HG.out bw)
 rintro e w31 ⟨rfl,hb⟩
 refine ⟨_,rfl,?_⟩
 replace HO578:=yV HO578 hb
 replace HO581:=yV HO581 hb
 replace HO585:=yV HO585 hb
 replace HO588:=yV HO588 hb
 replace HO592:=yV HO592 hb
 replace HO595:=yV HO595 hb
 replace BK570:=sK BK570 hb
 replace BK571:=sK BK571 hb
 replace BK572:=sK BK572 hb
 replace HB:=sB hb
 clear hb
 refine hK.out _ _ ⟨zh BK570 0,zh BK570 1,zh BK571 0,zh BK571 1⟩ (fun hHeld=>?_)
 clear hK K
 refine nm ?_
 refine one_ (i:=7) (N:=none) #[true,true,true,true,true,true,true,true,false] rfl rfl (one_of HT_.out (by kernel_rfl)) (by decide) (fun K hK=>?_)
 have hs32:w31.cell? ⟨gb572,0,none⟩=some (.string (⟨#[]⟩:ByteArray)):=(blk_cell BK572.out 0).trans rfl
 have hfs32:=blk_frozen BK572.out 0
 have hns32_0:=NB570_572.out
 have hns32_1:=NB571_572.out
 have hms32_0:=NB572_570.out
 have hms32_1:=NB572_571.out
 have hs33:w31.cell? ⟨gb572,1,none⟩=some (.string (⟨#[]⟩:ByteArray)):=(blk_cell BK572.out 1).trans rfl
 have hfs33:=blk_frozen BK572.out 1
 have hns33_0:=NB570_572.out
 have hns33_1:=NB571_572.out
 have hms33_0:=NB572_570.out
 have hms33_1:=NB572_571.out
 refine skip_ (w1:=?_) (by rfl) rfl ?_ ?_
 rotate_left
 ·go_simp
  rfl
 refine hK.out _ _ ⟨((cell_far (p:=⟨gb572,_,none⟩) NB570_572.out _).trans (((cell_far (p:=⟨gb572,_,none⟩) NB570_572.out _).trans (hHeld.1)))),((cell_far (p:=⟨gb572,_,none⟩) NB570_572.out _).trans (((cell_far (p:=⟨gb572,_,none⟩) NB570_572.out _).trans (hHeld.2.1)))),((cell_far (p:=⟨gb572,_,none⟩) NB571_572.out _).trans (((cell_far (p:=⟨gb572,_,none⟩) NB571_572.out _).trans (hHeld.2.2.1)))),((cell_far (p:=⟨gb572,_,none⟩) NB571_572.out _).trans (((cell_far (p:=⟨gb572,_,none⟩) NB571_572.out _).trans (hHeld.2.2.2))))⟩ (fun hHeld=>?_)
 clear hK K
 refine pu 8 (some 7) HT_ ?_
 refine done_ (done_of HT_.out (by kernel_rfl)) ?_
 try go_wp2
 refine bodyPost_ret (results_ct rfl _ _ gb572 61 #[.string t596,.string t597] (0,0) _ rfl (zp BK572) underlying61 rfl (by kernel_rfl)) rfl ?_
 exact ⟨ze,bw⟩
def num_Div.f (k:Nat) (a0_0:ByteArray) (a0_1:ByteArray) (a1_0:ByteArray) (a1_1:ByteArray):Option (ByteArray×ByteArray×Int):=(num_Check.f k a0_0 a0_1).bind fun t601=>(if t601=0 then ((num_Check.f k a1_0 a1_1).bind fun t602=>(if t602=0 then (if a1_0.toList=([48]:List UInt8) then (some ((⟨#[]⟩:ByteArray),(⟨#[]⟩:ByteArray),23)) else ((num_two_at_frac_Div.f k a0_0 a0_1 a1_0 a1_1).bind fun bt603=>(some (bt603.1,bt603.2.1,bt603.2.2)))) else ((num_two_at_frac_Div.f k a0_0 a0_1 a1_0 a1_1).bind fun bt606=>(some (bt606.1,bt606.2.1,bt606.2.2))))) else ((num_two_at_frac_Div.f k a0_0 a0_1 a1_0 a1_1).bind fun bt609=>(some (bt609.1,bt609.2.1,bt609.2.2))))
theorem num_Div.calls (k:Nat) (a0_0:ByteArray) (a0_1:ByteArray) (a1_0:ByteArray) (a1_1:ByteArray) (r1:ByteArray) (r2:ByteArray) (r3:Int) (w:World) (hG:Tryz.Gl w) (h:num_Div.f k a0_0 a0_1 a1_0 a1_1=some (r1,r2,r3)) :
  Calls Tryz.prog 62 #[.agg #[.string a0_0,.string a0_1],.agg #[.string a1_0,.string a1_1]] w fun e w'=>e = .returned (.tuple #[.agg #[.string r1,.string r2],.int .i64 r3])∧Below w.heap.size w w':=by
 have hu61:=underlying61
 have HG:=aZ hG
 clear hG
 have HB:=aZ (Below.refl w.heap.size w)
 have H:=h
 unfold num_Div.f at H
 clear h
 obtain ⟨t601,A3,H⟩:=zB H
 by_cases c4:t601=0
 case neg=>
  rw [if_neg c4] at H
  have c4b0:(t601==0)=false:=beq_eq_false_iff_ne.mpr c4
  have c4b1:(t601 != 0)=true:=bne_iff_ne.mpr c4
  obtain ⟨⟨t609,t610,t611⟩,A50,H⟩:=zB H
  (try dsimp only at H)
  simp only [Option.some.injEq,Prod.mk.injEq] at H
  obtain ⟨rfl,rfl,rfl⟩:=H
  go_enter func62,ntmps62
  go_wp2_with (first|(refine box_ev 2 #[.string a0_0,.string a0_1] 61 ?_;intro gb598 hg w51 hbox hb;have BK598:=aZ hbox;have GE598:=sG hg;replace HB:=sB hb;clear hb hbox hg)|(refine box_ev 3 #[.string a1_0,.string a1_1] 61 ?_;intro gb599 hg w52 hbox hb;have BK599:=aZ hbox;have GE599:=sG hg;replace HB:=sB hb;have NB598_599:=sl hg BK598;have NB599_598:=sg hg BK598;replace BK598:=sK BK598 hb;clear hb hbox hg)|(refine box_ev 4 #[.string (⟨#[]⟩:ByteArray),.string (⟨#[]⟩:ByteArray)] 61 ?_;intro gb600 hg w53 hbox hb;have BK600:=aZ hbox;have GE600:=sG hg;replace HB:=sB hb;have NB598_600:=sl hg BK598;have NB600_598:=sg hg BK598;replace BK598:=sK BK598 hb;have NB599_600:=sl hg BK599;have NB600_599:=sg hg BK599;replace BK599:=sK BK599 hb;clear hb hbox hg;have hnb54:=NB598_599.out;have hnc54:=NB599_598.out;have hnb55:=NB598_600.out;have hnc55:=NB600_598.out;obtain ⟨hcz56_0,hfz56_0⟩:=zc BK598 0 (.string a0_0) rfl;obtain ⟨hcz56_1,hfz56_1⟩:=zc BK598 1 (.string a0_1) rfl)|(refine zg (some 7) func56 #[.agg #[.string a0_0,.string a0_1]] ?_;(with_reducible refine (num_Check.calls k a0_0 a0_1 t601 _ A3.out).mono ?_);rintro e w57 ⟨rfl,hb⟩;refine ⟨_,rfl,?_⟩;replace BK598:=sK BK598 hb;replace BK599:=sK BK599 hb;replace BK600:=sK BK600 hb;replace HB:=sB hb;clear hb;obtain ⟨hcz58_0,hfz58_0⟩:=zc BK598 0 (.string a0_0) rfl;obtain ⟨hcz58_1,hfz58_1⟩:=zc BK598 1 (.string a0_1) rfl;have hnb59:=NB599_600.out;have hnc59:=NB600_599.out;obtain ⟨hcz60_0,hfz60_0⟩:=zc BK599 0 (.string a1_0) rfl;obtain ⟨hcz60_1,hfz60_1⟩:=zc BK599 1 (.string a1_1) rfl)|(refine zg (some 22) func110 #[.agg #[.string a0_0,.string a0_1],.agg #[.string a1_0,.string a1_1],.func (.func 113) #[] #[]] ?_;(with_reducible refine (num_two_at_frac_Div.calls k a0_0 a0_1 a1_0 a1_1 t609 t610 t611 _ ?side1 A50.out).mono ?_);(case side1=>exact Tryz.Gl.below HG.out bw);rintro e w61 ⟨rfl,hb⟩;refine ⟨_,rfl,?_⟩;replace BK598:=sK BK598 hb;replace BK599:=sK BK599 hb;replace BK600:=sK BK600 hb;replace HB:=sB hb;clear hb;obtain ⟨hcz62_0,hfz62_0⟩:=zc BK600 0 (.string (⟨#[]⟩:ByteArray)) rfl;obtain ⟨hcz62_1,hfz62_1⟩:=zc BK600 1 (.string (⟨#[]⟩:ByteArray)) rfl))
  refine bodyPost_ret (results_ct rfl _ _ gb600 61 #[.string t609,.string t610] (0,0) _ rfl (zp BK600) underlying61 rfl (by kernel_rfl)) rfl ?_
  exact ⟨ze,bw⟩
 rw [if_pos c4] at H
 have c4b0:(t601==0)=true:=beq_iff_eq.mpr c4
 have c4b1:(t601 != 0)=false:=bne_eq_false_iff_eq.mpr c4
 clear c4
 obtain ⟨t602,A5,H⟩:=zB H
 by_cases c6:t602=0
 case neg=>
  rw [if_neg c6] at H
  have c6b0:(t602==0)=false:=beq_eq_false_iff_ne.mpr c6
  have c6b1:(t602 != 0)=true:=bne_iff_ne.mpr c6
  obtain ⟨⟨t606,t607,t608⟩,A35,H⟩:=zB H
  (try dsimp only at H)
  simp only [Option.some.injEq,Prod.mk.injEq] at H
  obtain ⟨rfl,rfl,rfl⟩:=H
  go_enter func62,ntmps62
  go_wp2_with (first|(refine box_ev 2 #[.string a0_0,.string a0_1] 61 ?_;intro gb598 hg w36 hbox hb;have BK598:=aZ hbox;have GE598:=sG hg;replace HB:=sB hb;clear hb hbox hg)|(refine box_ev 3 #[.string a1_0,.string a1_1] 61 ?_;intro gb599 hg w37 hbox hb;have BK599:=aZ hbox;have GE599:=sG hg;replace HB:=sB hb;have NB598_599:=sl hg BK598;have NB599_598:=sg hg BK598;replace BK598:=sK BK598 hb;clear hb hbox hg)|(refine box_ev 4 #[.string (⟨#[]⟩:ByteArray),.string (⟨#[]⟩:ByteArray)] 61 ?_;intro gb600 hg w38 hbox hb;have BK600:=aZ hbox;have GE600:=sG hg;replace HB:=sB hb;have NB598_600:=sl hg BK598;have NB600_598:=sg hg BK598;replace BK598:=sK BK598 hb;have NB599_600:=sl hg BK599;have NB600_599:=sg hg BK599;replace BK599:=sK BK599 hb;clear hb hbox hg;have hnb39:=NB598_599.out;have hnc39:=NB599_598.out;have hnb40:=NB598_600.out;have hnc40:=NB600_598.out;obtain ⟨hcz41_0,hfz41_0⟩:=zc BK598 0 (.string a0_0) rfl;obtain ⟨hcz41_1,hfz41_1⟩:=zc BK598 1 (.string a0_1) rfl)|(refine zg (some 7) func56 #[.agg #[.string a0_0,.string a0_1]] ?_;(with_reducible refine (num_Check.calls k a0_0 a0_1 t601 _ A3.out).mono ?_);rintro e w42 ⟨rfl,hb⟩;refine ⟨_,rfl,?_⟩;replace BK598:=sK BK598 hb;replace BK599:=sK BK599 hb;replace BK600:=sK BK600 hb;replace HB:=sB hb;clear hb;have hnb43:=NB599_600.out;have hnc43:=NB600_599.out;obtain ⟨hcz44_0,hfz44_0⟩:=zc BK599 0 (.string a1_0) rfl;obtain ⟨hcz44_1,hfz44_1⟩:=zc BK599 1 (.string a1_1) rfl)|(go_at_call 56;(with_reducible refine (num_Check.calls k a1_0 a1_1 t602 _ A5.out).mono ?_);rintro e w45 ⟨rfl,hb⟩;replace BK598:=sK BK598 hb;replace BK599:=sK BK599 hb;replace BK600:=sK BK600 hb;replace HB:=sB hb;clear hb;obtain ⟨hcz46_0,hfz46_0⟩:=zc BK598 0 (.string a0_0) rfl;obtain ⟨hcz46_1,hfz46_1⟩:=zc BK598 1 (.string a0_1) rfl;obtain ⟨hcz47_0,hfz47_0⟩:=zc BK599 0 (.string a1_0) rfl;obtain ⟨hcz47_1,hfz47_1⟩:=zc BK599 1 (.string a1_1) rfl)|(refine zg (some 22) func110 #[.agg #[.string a0_0,.string a0_1],.agg #[.string a1_0,.string a1_1],.func (.func 113) #[] #[]] ?_;(with_reducible refine (num_two_at_frac_Div.calls k a0_0 a0_1 a1_0 a1_1 t606 t607 t608 _ ?side1 A35.out).mono ?_);(case side1=>exact Tryz.Gl.below HG.out bw);rintro e w48 ⟨rfl,hb⟩;refine ⟨_,rfl,?_⟩;replace BK598:=sK BK598 hb;replace BK599:=sK BK599 hb;replace BK600:=sK BK600 hb;replace HB:=sB hb;clear hb;obtain ⟨hcz49_0,hfz49_0⟩:=zc BK600 0 (.string (⟨#[]⟩:ByteArray)) rfl;obtain ⟨hcz49_1,hfz49_1⟩:=zc BK600 1 (.string (⟨#[]⟩:ByteArray)) rfl))
  refine bodyPost_ret (results_ct rfl _ _ gb600 61 #[.string t606,.string t607] (0,0) _ rfl (zp BK600) underlying61 rfl (by kernel_rfl)) rfl ?_
  exact ⟨ze,bw⟩
 rw [if_pos c6] at H
 have c6b0:(t602==0)=true:=beq_iff_eq.mpr c6
 have c6b1:(t602 != 0)=false:=bne_eq_false_iff_eq.mpr c6
 clear c6
 by_cases c7:a1_0.toList=([48]:List UInt8)
 case neg=>
  rw [if_neg c7] at H
  have c7b0:(a1_0.toList==([48]:List UInt8))=false:=beq_eq_false_iff_ne.mpr c7
  have c7b1:(a1_0.toList != ([48]:List UInt8))=true:=bne_iff_ne.mpr c7
  obtain ⟨⟨t603,t604,t605⟩,A20,H⟩:=zB H
  (try dsimp only at H)
  simp only [Option.some.injEq,Prod.mk.injEq] at H
  obtain ⟨rfl,rfl,rfl⟩:=H
  go_enter func62,ntmps62
  go_wp2_with (first|(refine box_ev 2 #[.string a0_0,.string a0_1] 61 ?_;intro gb598 hg w21 hbox hb;have BK598:=aZ hbox;have GE598:=sG hg;replace HB:=sB hb;clear hb hbox hg)|(refine box_ev 3 #[.string a1_0,.string a1_1] 61 ?_;intro gb599 hg w22 hbox hb;have BK599:=aZ hbox;have GE599:=sG hg;replace HB:=sB hb;have NB598_599:=sl hg BK598;have NB599_598:=sg hg BK598;replace BK598:=sK BK598 hb;clear hb hbox hg)|(refine box_ev 4 #[.string (⟨#[]⟩:ByteArray),.string (⟨#[]⟩:ByteArray)] 61 ?_;intro gb600 hg w23 hbox hb;have BK600:=aZ hbox;have GE600:=sG hg;replace HB:=sB hb;have NB598_600:=sl hg BK598;have NB600_598:=sg hg BK598;replace BK598:=sK BK598 hb;have NB599_600:=sl hg BK599;have NB600_599:=sg hg BK599;replace BK599:=sK BK599 hb;clear hb hbox hg;have hnb24:=NB598_599.out;have hnc24:=NB599_598.out;have hnb25:=NB598_600.out;have hnc25:=NB600_598.out;obtain ⟨hcz26_0,hfz26_0⟩:=zc BK598 0 (.string a0_0) rfl;obtain ⟨hcz26_1,hfz26_1⟩:=zc BK598 1 (.string a0_1) rfl)|(refine zg (some 7) func56 #[.agg #[.string a0_0,.string a0_1]] ?_;(with_reducible refine (num_Check.calls k a0_0 a0_1 t601 _ A3.out).mono ?_);rintro e w27 ⟨rfl,hb⟩;refine ⟨_,rfl,?_⟩;replace BK598:=sK BK598 hb;replace BK599:=sK BK599 hb;replace BK600:=sK BK600 hb;replace HB:=sB hb;clear hb;have hnb28:=NB599_600.out;have hnc28:=NB600_599.out;obtain ⟨hcz29_0,hfz29_0⟩:=zc BK599 0 (.string a1_0) rfl;obtain ⟨hcz29_1,hfz29_1⟩:=zc BK599 1 (.string a1_1) rfl)|(go_at_call 56;(with_reducible refine (num_Check.calls k a1_0 a1_1 t602 _ A5.out).mono ?_);rintro e w30 ⟨rfl,hb⟩;replace BK598:=sK BK598 hb;replace BK599:=sK BK599 hb;replace BK600:=sK BK600 hb;replace HB:=sB hb;clear hb;obtain ⟨hcz31_0,hfz31_0⟩:=zc BK599 0 (.string a1_0) rfl;obtain ⟨hcz31_1,hfz31_1⟩:=zc BK599 1 (.string a1_1) rfl;obtain ⟨hcz32_0,hfz32_0⟩:=zc BK598 0 (.string a0_0) rfl;obtain ⟨hcz32_1,hfz32_1⟩:=zc BK598 1 (.string a0_1) rfl)|(refine zg (some 22) func110 #[.agg #[.string a0_0,.string a0_1],.agg #[.string a1_0,.string a1_1],.func (.func 113) #[] #[]] ?_;(with_reducible refine (num_two_at_frac_Div.calls k a0_0 a0_1 a1_0 a1_1 t603 t604 t605 _ ?side1 A20.out).mono ?_);(case side1=>exact Tryz.Gl.below HG.out bw);rintro e w33 ⟨rfl,hb⟩;refine ⟨_,rfl,?_⟩;replace BK598:=sK BK598 hb;replace BK599:=sK BK599 hb;replace BK600:=sK BK600 hb;replace HB:=sB hb;clear hb;obtain ⟨hcz34_0,hfz34_0⟩:=zc BK600 0 (.string (⟨#[]⟩:ByteArray)) rfl;obtain ⟨hcz34_1,hfz34_1⟩:=zc BK600 1 (.string (⟨#[]⟩:ByteArray)) rfl))
  refine bodyPost_ret (results_ct rfl _ _ gb600 61 #[.string t603,.string t604] (0,0) _ rfl (zp BK600) underlying61 rfl (by kernel_rfl)) rfl ?_
  exact ⟨ze,bw⟩
 rw [if_pos c7] at H
 have c7b0:(a1_0.toList==([48]:List UInt8))=true:=beq_iff_eq.mpr c7
 have c7b1:(a1_0.toList != ([48]:List UInt8))=false:=bne_eq_false_iff_eq.mpr c7
 clear c7
 simp only [Option.some.injEq,Prod.mk.injEq] at H
 obtain ⟨rfl,rfl,rfl⟩:=H
 go_enter func62,ntmps62
 go_wp2_with (first|(refine box_ev 2 #[.string a0_0,.string a0_1] 61 ?_;intro gb598 hg w8 hbox hb;have BK598:=aZ hbox;have GE598:=sG hg;replace HB:=sB hb;clear hb hbox hg)|(refine box_ev 3 #[.string a1_0,.string a1_1] 61 ?_;intro gb599 hg w9 hbox hb;have BK599:=aZ hbox;have GE599:=sG hg;replace HB:=sB hb;have NB598_599:=sl hg BK598;have NB599_598:=sg hg BK598;replace BK598:=sK BK598 hb;clear hb hbox hg)|(refine box_ev 4 #[.string (⟨#[]⟩:ByteArray),.string (⟨#[]⟩:ByteArray)] 61 ?_;intro gb600 hg w10 hbox hb;have BK600:=aZ hbox;have GE600:=sG hg;replace HB:=sB hb;have NB598_600:=sl hg BK598;have NB600_598:=sg hg BK598;replace BK598:=sK BK598 hb;have NB599_600:=sl hg BK599;have NB600_599:=sg hg BK599;replace BK599:=sK BK599 hb;clear hb hbox hg;have hnb11:=NB598_599.out;have hnc11:=NB599_598.out;have hnb12:=NB598_600.out;have hnc12:=NB600_598.out;obtain ⟨hcz13_0,hfz13_0⟩:=zc BK598 0 (.string a0_0) rfl;obtain ⟨hcz13_1,hfz13_1⟩:=zc BK598 1 (.string a0_1) rfl)|(refine zg (some 7) func56 #[.agg #[.string a0_0,.string a0_1]] ?_;(with_reducible refine (num_Check.calls k a0_0 a0_1 t601 _ A3.out).mono ?_);rintro e w14 ⟨rfl,hb⟩;refine ⟨_,rfl,?_⟩;replace BK598:=sK BK598 hb;replace BK599:=sK BK599 hb;replace BK600:=sK BK600 hb;replace HB:=sB hb;clear hb;have hnb15:=NB599_600.out;have hnc15:=NB600_599.out;obtain ⟨hcz16_0,hfz16_0⟩:=zc BK599 0 (.string a1_0) rfl;obtain ⟨hcz16_1,hfz16_1⟩:=zc BK599 1 (.string a1_1) rfl)|(go_at_call 56;(with_reducible refine (num_Check.calls k a1_0 a1_1 t602 _ A5.out).mono ?_);rintro e w17 ⟨rfl,hb⟩;replace BK598:=sK BK598 hb;replace BK599:=sK BK599 hb;replace BK600:=sK BK600 hb;replace HB:=sB hb;clear hb;obtain ⟨hcz18_0,hfz18_0⟩:=zc BK599 0 (.string a1_0) rfl;obtain ⟨hcz18_1,hfz18_1⟩:=zc BK599 1 (.string a1_1) rfl;obtain ⟨hcz19_0,hfz19_0⟩:=zc BK600 0 (.string (⟨#[]⟩:ByteArray)) rfl;obtain ⟨hcz19_1,hfz19_1⟩:=zc BK600 1 (.string (⟨#[]⟩:ByteArray)) rfl))
 refine bodyPost_ret (results_ct rfl _ _ gb600 61 #[.string (⟨#[]⟩:ByteArray),.string (⟨#[]⟩:ByteArray)] (0,0) _ rfl (zp BK600) underlying61 rfl (by kernel_rfl)) rfl ?_
 exact ⟨ze,bw⟩
def weftref1_Num_Div.f (k:Nat) (a0_0:Bool) (l0_1:List Int) (l0_2:List Int) (a1_0:Bool) (l1_1:List Int) (l1_2:List Int):Option (Bool×List Int×List Int):=(weftref1_natMul.f k l0_1 l1_2).bind fun t615=>((weftref1_natMul.f k l0_2 l1_1).bind fun t618=>((weftref1_numOf.f k (a0_0 != a1_0) t615 t618).bind fun bt621=>(some (bt621.1,bt621.2.1,bt621.2.2))))
def weftref1_Num_Div.T1:Bool×List (List Nat×List Nat):=(true,[([],[]),([0],[0]),([],[]),([2],[2]),([1,3],[1,3]),([],[]),([5],[5]),([],[]),([7],[7]),([6,8],[6,8]),([],[]),([10],[10]),([],[]),([12],[12]),([11,13,9],[11,13]),([4,9,14,14],[4,9,14]),([15,15,0,1,2,3,4,5,6,7,8,9,10,11,12,13,14,15],[15])])
def weftref1_Num_Div.B1:List Nat:=[0,1,0,4,15,0,32,0,128,480,0,1024,0,4096,16352,32767,65535]
theorem weftref1_Num_Div.tab1:rtab .any (opsOf Tryz.f63 1)=weftref1_Num_Div.T1:=by kernel_rfl
theorem weftref1_Num_Div.bits1:waitsOk weftref1_Num_Div.T1.2 weftref1_Num_Div.B1=true:=by kernel_rfl
theorem weftref1_Num_Div.calls (k:Nat) (a0_0:Bool) (A0_1:Option Addr) (c0_1:Nat) (l0_1:List Int) (A0_2:Option Addr) (c0_2:Nat) (l0_2:List Int) (a1_0:Bool) (A1_1:Option Addr) (c1_1:Nat) (l1_1:List Int) (A1_2:Option Addr) (c1_2:Nat) (l1_2:List Int) (r1:Bool) (r2:List Int) (r3:List Int) (w:World) (hr0_1:Kd.C (Kd.int .i64) w A0_1 l0_1.length l0_1) (hc0_1:l0_1.length≤c0_1) (hr0_2:Kd.C (Kd.int .i64) w A0_2 l0_2.length l0_2) (hc0_2:l0_2.length≤c0_2) (hr1_1:Kd.C (Kd.int .i64) w A1_1 l1_1.length l1_1) (hc1_1:l1_1.length≤c1_1) (hr1_2:Kd.C (Kd.int .i64) w A1_2 l1_2.length l1_2) (hc1_2:l1_2.length≤c1_2) (h:weftref1_Num_Div.f k a0_0 l0_1 l0_2 a1_0 l1_1 l1_2=some (r1,r2,r3)) :
  Calls Tryz.prog 63 #[.agg #[.bool a0_0,.slice A0_1 l0_1.length c0_1,.slice A0_2 l0_2.length c0_2],.agg #[.bool a1_0,.slice A1_1 l1_1.length c1_1,.slice A1_2 l1_2.length c1_2]] w fun e w'=>∃ v1_ v2_:Value,e = .returned (.agg #[.bool r1,v1_,v2_])∧Kd.V (Kd.int .i64) 3 w' w.heap.size (fun k_=>(w.heap.size≤k_)) v1_ r2∧Kd.V (Kd.int .i64) 3 w' w.heap.size (fun k_=>(w.heap.size≤k_)) v2_ r3∧Below w.heap.size w w':=by
 have hu67:=underlying67
 have HR0_1:=aZ hr0_1
 have HC0_1:=aZ hc0_1
 clear hr0_1 hc0_1
 have HR0_2:=aZ hr0_2
 have HC0_2:=aZ hc0_2
 clear hr0_2 hc0_2
 have HR1_1:=aZ hr1_1
 have HC1_1:=aZ hc1_1
 clear hr1_1 hc1_1
 have HR1_2:=aZ hr1_2
 have HC1_2:=aZ hc1_2
 clear hr1_2 hc1_2
 have HB:=aZ (Below.refl w.heap.size w)
 have H:=h
 unfold weftref1_Num_Div.f at H
 clear h
 obtain ⟨t615,A3,H⟩:=zB H
 obtain ⟨t618,A4,H⟩:=zB H
 obtain ⟨⟨t621,t622,t625⟩,A5,H⟩:=zB H
 (try dsimp only at H)
 simp only [Option.some.injEq,Prod.mk.injEq] at H
 obtain ⟨rfl,rfl,rfl⟩:=H
 go_enter func63,ntmps63
 try go_wp2_with (first|(refine box_ev 2 #[.bool a0_0,.slice A0_1 l0_1.length c0_1,.slice A0_2 l0_2.length c0_2] 67 ?_;intro gb612 hg w6 hbox hb;have BK612:=aZ hbox;have GE612:=sG hg;replace HB:=sB hb;clear hb hbox hg)|(refine box_ev 3 #[.bool a1_0,.slice A1_1 l1_1.length c1_1,.slice A1_2 l1_2.length c1_2] 67 ?_;intro gb613 hg w7 hbox hb;have BK613:=aZ hbox;have GE613:=sG hg;replace HB:=sB hb;have NB612_613:=sl hg BK612;have NB613_612:=sg hg BK612;replace BK612:=sK BK612 hb;clear hb hbox hg)|(refine box_ev 4 #[.bool false,.slice none 0 0,.slice none 0 0] 67 ?_;intro gb614 hg w8 hbox hb;have BK614:=aZ hbox;have GE614:=sG hg;replace HB:=sB hb;have NB612_614:=sl hg BK612;have NB614_612:=sg hg BK612;replace BK612:=sK BK612 hb;have NB613_614:=sl hg BK613;have NB614_613:=sg hg BK613;replace BK613:=sK BK613 hb;clear hb hbox hg))
 replace BK612:=aZ (blk_drew BK612.out)
 replace BK613:=aZ (blk_drew BK613.out)
 replace BK614:=aZ (blk_drew BK614.out)
 replace HB:=aZ (below_drew1 HB.out)
 refine start_ (n:=17) (S:=fun w'=>w'.cell? ⟨gb612,0,none⟩=some (.bool a0_0)∧w'.cell? ⟨gb612,1,none⟩=some (.slice A0_1 l0_1.length c0_1)∧w'.cell? ⟨gb612,2,none⟩=some (.slice A0_2 l0_2.length c0_2)∧w'.cell? ⟨gb613,0,none⟩=some (.bool a1_0)∧w'.cell? ⟨gb613,1,none⟩=some (.slice A1_1 l1_1.length c1_1)∧w'.cell? ⟨gb613,2,none⟩=some (.slice A1_2 l1_2.length c1_2)) (ds:=[]) #[false,false,false,false,false,false,false,false,false,false,false,false,false,false,false,false,false] (by kernel_rfl) rfl rfl ⟨zh BK612 0,zh BK612 1,zh BK612 2,zh BK613 0,zh BK613 1,zh BK613 2⟩ (fun hHeld=>?_);refine with_tabW weftref1_Num_Div.tab1 weftref1_Num_Div.bits1 (fun HT_ HW_=>?_)
 generalize w8.drew=w9 at BK612 BK613 BK614 HB hHeld ⊢
 refine pu 0 (some 5) HT_ ?_
 refine pu 2 (some 7) HT_ ?_
 refine pu 5 (some 10) HT_ ?_
 refine pu 7 (some 12) HT_ ?_
 refine pu 10 (some 15) HT_ ?_
 refine pu 12 (some 17) HT_ ?_
 refine tk 1 (some 6) HT_ HW_ hHeld ?_
 refine tk 3 (some 8) HT_ HW_ hHeld ?_
 refine pu 4 (some 9) HT_ ?_
 refine tk 6 (some 11) HT_ HW_ hHeld ?_
 refine tk 8 (some 13) HT_ HW_ hHeld ?_
 refine tk 11 (some 16) HT_ HW_ hHeld ?_
 refine tk 13 (some 18) HT_ HW_ hHeld ?_
 refine one_ (i:=9) (N:=some 14) #[true,true,true,true,true,true,true,true,true,true,true,true,true,true,false,false,false] rfl rfl (one_of HT_.out (by kernel_rfl)) (by decide) (fun K hK=>?_)
 refine goes_ func112 (by kernel_rfl) rfl #[.slice A0_1 l0_1.length c0_1,.slice A1_2 l1_2.length c1_2] (by rfl) rfl rfl zm ?_
 with_reducible refine (weftref1_natMul.calls k _ _ l0_1 _ _ l1_2 t615 _ ?side1 ?side2 ?side3 ?side4 A3.out).mono ?_
 (case side1=>exact zC (Kd.C_below HR0_1.out HB.out))
 (case side2=>exact HC0_1.out)
 (case side3=>exact zC (Kd.C_below HR1_2.out HB.out))
 (case side4=>exact HC1_2.out)
 rintro e w10 ⟨v616,rfl,ho0,hb⟩
 refine ⟨_,rfl,?_⟩
 have HO617:=yL (fun k_=>(w.heap.size≤k_)∧k_≠gb612∧k_≠gb613∧k_≠gb614) ho0 (fun k_ hk_=>⟨(Nat.le_trans bs hk_),(zf BK612 hk_),(zf BK613 hk_),(zf BK614 hk_)⟩)
 replace BK612:=sK BK612 hb
 replace BK613:=sK BK613 hb
 replace BK614:=sK BK614 hb
 replace HB:=sB hb
 clear hb ho0
 refine hK.out _ _ ⟨zh BK612 0,zh BK612 1,zh BK612 2,zh BK613 0,zh BK613 1,zh BK613 2⟩ (fun hHeld=>?_)
 clear hK K
 refine nm ?_
 refine one_ (i:=14) (N:=some 19) #[true,true,true,true,true,true,true,true,true,true,true,true,true,true,true,false,false] rfl rfl (one_of HT_.out (by kernel_rfl)) (by decide) (fun K hK=>?_)
 refine goes_ func112 (by kernel_rfl) rfl #[.slice A0_2 l0_2.length c0_2,.slice A1_1 l1_1.length c1_1] (by rfl) rfl rfl zm ?_
 with_reducible refine (weftref1_natMul.calls k _ _ l0_2 _ _ l1_1 t618 _ ?side1 ?side2 ?side3 ?side4 A4.out).mono ?_
 (case side1=>exact zC (Kd.C_below HR0_2.out HB.out))
 (case side2=>exact HC0_2.out)
 (case side3=>exact zC (Kd.C_below HR1_1.out HB.out))
 (case side4=>exact HC1_1.out)
 rintro e w11 ⟨v619,rfl,ho0,hb⟩
 refine ⟨_,rfl,?_⟩
 replace HO617:=yV HO617 hb
 have HO620:=yL (fun k_=>(w.heap.size≤k_)∧k_≠gb612∧k_≠gb613∧k_≠gb614) ho0 (fun k_ hk_=>⟨(Nat.le_trans bs hk_),(zf BK612 hk_),(zf BK613 hk_),(zf BK614 hk_)⟩)
 replace BK612:=sK BK612 hb
 replace BK613:=sK BK613 hb
 replace BK614:=sK BK614 hb
 replace HB:=sB hb
 clear hb ho0
 obtain ⟨Ao12,co12,eo12⟩:=Kd.V_slice HO617.out
 (first|subst eo12|(injection eo12 with f1_ f2_ f3_;have f4_:=f1_.symm;have f5_:=f3_.symm;clear f1_ f2_ f3_;subst f4_;subst f5_))
 obtain ⟨Ao13,co13,eo13⟩:=Kd.V_slice HO620.out
 (first|subst eo13|(injection eo13 with f1_ f2_ f3_;have f4_:=f1_.symm;have f5_:=f3_.symm;clear f1_ f2_ f3_;subst f4_;subst f5_))
 refine hK.out _ _ ⟨zh BK612 0,zh BK612 1,zh BK612 2,zh BK613 0,zh BK613 1,zh BK613 2⟩ (fun hHeld=>?_)
 clear hK K
 refine nm ?_
 refine one_ (i:=15) (N:=some 20) #[true,true,true,true,true,true,true,true,true,true,true,true,true,true,true,true,false] rfl rfl (one_of HT_.out (by kernel_rfl)) (by decide) (fun K hK=>?_)
 refine goes_ func101 (by kernel_rfl) rfl #[.bool (a0_0 != a1_0),.slice Ao12 t615.length co12,.slice Ao13 t618.length co13] (by rfl) rfl rfl zm ?_
 with_reducible refine (weftref1_numOf.calls k (a0_0 != a1_0) (fun k_=>((w.heap.size≤k_)∧(k_≠gb612∧(k_≠gb613∧k_≠gb614)))) _ _ t615 (fun k_=>((w.heap.size≤k_)∧(k_≠gb612∧(k_≠gb613∧k_≠gb614)))) _ _ t618 t621 t622 t625 _ ?side1 ?side2 A5.out).mono ?_
 (case side1=>exact HO617.out)
 (case side2=>exact HO620.out)
 rintro e w14 ⟨v623,v626,rfl,ho0,ho1,hb⟩
 refine ⟨_,rfl,?_⟩
 replace HO617:=yV HO617 hb
 replace HO620:=yV HO620 hb
 have HO624:=yL (fun k_=>(w.heap.size≤k_)∧k_≠gb612∧k_≠gb613∧k_≠gb614) ho0 (fun k_ hk_=>⟨Or.elim hk_ (fun hs_=>Or.elim hs_ (fun hs_=>hs_.1) (fun hs_=>hs_.1)) (fun hn_=>(Nat.le_trans bs hn_)),Or.elim hk_ (fun hs_=>Or.elim hs_ (fun hs_=>hs_.2.1) (fun hs_=>hs_.2.1)) (fun hn_=>(zf BK612 hn_)),Or.elim hk_ (fun hs_=>Or.elim hs_ (fun hs_=>hs_.2.2.1) (fun hs_=>hs_.2.2.1)) (fun hn_=>(zf BK613 hn_)),Or.elim hk_ (fun hs_=>Or.elim hs_ (fun hs_=>hs_.2.2.2) (fun hs_=>hs_.2.2.2)) (fun hn_=>(zf BK614 hn_))⟩)
 have HO627:=yL (fun k_=>(w.heap.size≤k_)∧k_≠gb612∧k_≠gb613∧k_≠gb614) ho1 (fun k_ hk_=>⟨Or.elim hk_ (fun hs_=>Or.elim hs_ (fun hs_=>hs_.1) (fun hs_=>hs_.1)) (fun hn_=>(Nat.le_trans bs hn_)),Or.elim hk_ (fun hs_=>Or.elim hs_ (fun hs_=>hs_.2.1) (fun hs_=>hs_.2.1)) (fun hn_=>(zf BK612 hn_)),Or.elim hk_ (fun hs_=>Or.elim hs_ (fun hs_=>hs_.2.2.1) (fun hs_=>hs_.2.2.1)) (fun hn_=>(zf BK613 hn_)),Or.elim hk_ (fun hs_=>Or.elim hs_ (fun hs_=>hs_.2.2.2) (fun hs_=>hs_.2.2.2)) (fun hn_=>(zf BK614 hn_))⟩)
 replace BK612:=sK BK612 hb
 replace BK613:=sK BK613 hb
 replace BK614:=sK BK614 hb
 replace HB:=sB hb
 clear hb ho0 ho1
 obtain ⟨Ao16,co16,eo16⟩:=Kd.V_slice HO624.out
 (first|subst eo16|(injection eo16 with f1_ f2_ f3_;have f4_:=f1_.symm;have f5_:=f3_.symm;clear f1_ f2_ f3_;subst f4_;subst f5_))
 obtain ⟨Ao18,co18,eo18⟩:=Kd.V_slice HO627.out
 (first|subst eo18|(injection eo18 with f1_ f2_ f3_;have f4_:=f1_.symm;have f5_:=f3_.symm;clear f1_ f2_ f3_;subst f4_;subst f5_))
 refine hK.out _ _ ⟨zh BK612 0,zh BK612 1,zh BK612 2,zh BK613 0,zh BK613 1,zh BK613 2⟩ (fun hHeld=>?_)
 clear hK K
 refine nm ?_
 refine one_ (i:=16) (N:=none) #[true,true,true,true,true,true,true,true,true,true,true,true,true,true,true,true,true] rfl rfl (one_of HT_.out (by kernel_rfl)) (by decide) (fun K hK=>?_)
 have hs15:w14.cell? ⟨gb614,0,none⟩=some (.bool false):=(blk_cell BK614.out 0).trans rfl
 have hfs15:=blk_frozen BK614.out 0
 have hns15_0:=NB612_614.out
 have hns15_1:=NB613_614.out
 have hms15_0:=NB614_612.out
 have hms15_1:=NB614_613.out
 have hs17:w14.cell? ⟨gb614,1,none⟩=some (.slice none 0 0):=(blk_cell BK614.out 1).trans rfl
 have hfs17:=blk_frozen BK614.out 1
 have hns17_0:=NB612_614.out
 have hns17_1:=NB613_614.out
 have hms17_0:=NB614_612.out
 have hms17_1:=NB614_613.out
 have hs19:w14.cell? ⟨gb614,2,none⟩=some (.slice none 0 0):=(blk_cell BK614.out 2).trans rfl
 have hfs19:=blk_frozen BK614.out 2
 have hns19_0:=NB612_614.out
 have hns19_1:=NB613_614.out
 have hms19_0:=NB614_612.out
 have hms19_1:=NB614_613.out
 refine skip_ (w1:=?_) (by rfl) rfl ?_ ?_
 rotate_left
 ·go_simp
  rfl
 refine hK.out _ _ ⟨((cell_far (p:=⟨gb614,_,none⟩) NB612_614.out _).trans (((cell_far (p:=⟨gb614,_,none⟩) NB612_614.out _).trans (((cell_far (p:=⟨gb614,_,none⟩) NB612_614.out _).trans (hHeld.1)))))),((cell_far (p:=⟨gb614,_,none⟩) NB612_614.out _).trans (((cell_far (p:=⟨gb614,_,none⟩) NB612_614.out _).trans (((cell_far (p:=⟨gb614,_,none⟩) NB612_614.out _).trans (hHeld.2.1)))))),((cell_far (p:=⟨gb614,_,none⟩) NB612_614.out _).trans (((cell_far (p:=⟨gb614,_,none⟩) NB612_614.out _).trans (((cell_far (p:=⟨gb614,_,none⟩) NB612_614.out _).trans (hHeld.2.2.1)))))),((cell_far (p:=⟨gb614,_,none⟩) NB613_614.out _).trans (((cell_far (p:=⟨gb614,_,none⟩) NB613_614.out _).trans (((cell_far (p:=⟨gb614,_,none⟩) NB613_614.out _).trans (hHeld.2.2.2.1)))))),((cell_far (p:=⟨gb614,_,none⟩) NB613_614.out _).trans (((cell_far (p:=⟨gb614,_,none⟩) NB613_614.out _).trans (((cell_far (p:=⟨gb614,_,none⟩) NB613_614.out _).trans (hHeld.2.2.2.2.1)))))),((cell_far (p:=⟨gb614,_,none⟩) NB613_614.out _).trans (((cell_far (p:=⟨gb614,_,none⟩) NB613_614.out _).trans (((cell_far (p:=⟨gb614,_,none⟩) NB613_614.out _).trans (hHeld.2.2.2.2.2))))))⟩ (fun hHeld=>?_)
 clear hK K
 refine done_ (done_of HT_.out (by kernel_rfl)) ?_
 try go_wp2
 refine bodyPost_ret (results_cell_row rfl _ _ gb614 67 #[.bool t621,.slice Ao16 t622.length co16,.slice Ao18 t625.length co18] (0,0) _ rfl (zp BK614) underlying67 rfl (by kernel_rfl)) rfl ?_
 exact ⟨_,_,ze,zF HO624,zF HO627,bw⟩
def weftref1_Num_Pow.l0:Nat→Int→Int→Bool→List Int→List Int→Bool→List Int→List Int→Option (Bool×List Int×List Int)
 | 0,_,_,_,_,_,_,_,_=>none
 | k+1,x7,x8,x629000,x629001,x629002,x638000,x638001,x638002=>if x8<x7 then ((weftref1_natMul.f k x638001 x629001).bind fun t638=>((weftref1_natMul.f k x638002 x629002).bind fun t641=>(weftref1_Num_Pow.l0 k x7 (wrap64 (x8+1)) x629000 x629001 x629002 (x638000 != x629000) t638 t641))) else (if x638000=true then (some (decide (0<x638001.length),x638001,x638002)) else (some (false,x638001,x638002)))
def weftref1_Num_Pow.f (k:Nat) (a0_0:Bool) (l0_1:List Int) (l0_2:List Int) (a1:Int):Option (Bool×List Int×List Int):=(weftref1_Int.f k 1).bind fun bt630=>(weftref1_Num_Pow.l0 k a1 0 a0_0 l0_1 l0_2 bt630.1 bt630.2.1 bt630.2.2)
def weftref1_Num_Pow.T4:Bool×List (List Nat×List Nat):=(true,[([],[]),([0],[0]),([],[]),([2],[2]),([1,3],[1,3]),([],[]),([5],[5]),([],[]),([7],[7]),([6,8],[6,8]),([],[]),([10],[10]),([],[]),([12],[12]),([11,13,9],[11,13]),([4,9,14],[4,9,14]),([15,14,0,1,2,3,4,5,6,7,8,9,10,11,12,13,14,15],[15])])
def weftref1_Num_Pow.B4:List Nat:=[0,1,0,4,15,0,32,0,128,480,0,1024,0,4096,16352,32767,65535]
theorem weftref1_Num_Pow.tab4:rtab .any (opsOf Tryz.f64 4)=weftref1_Num_Pow.T4:=by kernel_rfl
theorem weftref1_Num_Pow.bits4:waitsOk weftref1_Num_Pow.T4.2 weftref1_Num_Pow.B4=true:=by kernel_rfl
theorem weftref1_Num_Pow.calls (k:Nat) (a0_0:Bool) (A0_1:Option Addr) (c0_1:Nat) (l0_1:List Int) (A0_2:Option Addr) (c0_2:Nat) (l0_2:List Int) (a1:Int) (r1:Bool) (r2:List Int) (r3:List Int) (w:World) (hr0_1:Kd.C (Kd.int .i64) w A0_1 l0_1.length l0_1) (hc0_1:l0_1.length≤c0_1) (hr0_2:Kd.C (Kd.int .i64) w A0_2 l0_2.length l0_2) (hc0_2:l0_2.length≤c0_2) (h:weftref1_Num_Pow.f k a0_0 l0_1 l0_2 a1=some (r1,r2,r3)) :
  Calls Tryz.prog 64 #[.agg #[.bool a0_0,.slice A0_1 l0_1.length c0_1,.slice A0_2 l0_2.length c0_2],.int .i64 a1] w fun e w'=>∃ v1_ v2_:Value,e = .returned (.agg #[.bool r1,v1_,v2_])∧Kd.V (Kd.int .i64) 3 w' w.heap.size (fun k_=>(w.heap.size≤k_)) v1_ r2∧Kd.V (Kd.int .i64) 3 w' w.heap.size (fun k_=>(w.heap.size≤k_)) v2_ r3∧Below w.heap.size w w':=by
 have hu67:=underlying67
 have HR0_1:=aZ hr0_1
 have HC0_1:=aZ hc0_1
 clear hr0_1 hc0_1
 have HR0_2:=aZ hr0_2
 have HC0_2:=aZ hc0_2
 clear hr0_2 hc0_2
 have HB:=aZ (Below.refl w.heap.size w)
 have H:=h
 unfold weftref1_Num_Pow.f at H
 clear h
 obtain ⟨⟨t630,t631,t634⟩,A3,H⟩:=zB H
 (try dsimp only at H)
 have H':=aZ H
 clear H
 go_enter func64,ntmps64
 go_wp2_with (first|((with_reducible refine gate_dst (N:=2) rfl ?_);(try (refine gate_guard (by rfl) ?_;dsimp only));refine box_ev 2 #[.bool a0_0,.slice A0_1 l0_1.length c0_1,.slice A0_2 l0_2.length c0_2] 67 ?_;intro gb628 hg w4 hbox hb;have BK628:=aZ hbox;have GE628:=sG hg;replace HB:=sB hb;clear hb hbox hg)|((with_reducible refine gate_dst (N:=4) rfl ?_);(try (refine gate_guard (by rfl) ?_;dsimp only));refine box_ev 4 #[.bool false,.slice none 0 0,.slice none 0 0] 67 ?_;intro gb629 hg w5 hbox hb;have BK629:=aZ hbox;have GE629:=sG hg;replace HB:=sB hb;have NB628_629:=sl hg BK628;have NB629_628:=sg hg BK628;replace BK628:=sK BK628 hb;clear hb hbox hg)|(refine zg (some 6) func48 #[.int .i64 1] ?_;(with_reducible refine (weftref1_Int.calls k 1 t630 t631 t634 _ A3.out).mono ?_);rintro e w6 ⟨v632,v635,rfl,ho0,ho1,hb⟩;refine ⟨_,rfl,?_⟩;have HO633:=aZ (Kd.R_lower (Kd.R_newM (M:=fun k_=>(w.heap.size≤k_)) ho0 bs (fun k_ h_=>h_)) bs);have HO636:=aZ (Kd.R_lower (Kd.R_newM (M:=fun k_=>(w.heap.size≤k_)) ho1 bs (fun k_ h_=>h_)) bs);replace BK628:=sK BK628 hb;replace BK629:=sK BK629 hb;replace HB:=sB hb;clear hb ho0 ho1)|((with_reducible refine gate_dst (N:=5) rfl ?_);(try (refine gate_guard (by rfl) ?_;dsimp only));refine box_ev 5 #[.bool false,.slice none 0 0,.slice none 0 0] 67 ?_;intro gb637 hg w7 hbox hb;replace HO633:=yR HO633 hb;replace HO636:=yR HO636 hb;have BK637:=aZ hbox;have GE637:=sG hg;replace HB:=sB hb;have NB628_637:=sl hg BK628;have NB637_628:=sg hg BK628;replace BK628:=sK BK628 hb;have NB629_637:=sl hg BK629;have NB637_629:=sg hg BK629;replace BK629:=sK BK629 hb;clear hb hbox hg;have hnb8:=NB637_628.out;have hnc8:=NB628_637.out;have hnb9:=NB637_629.out;have hnc9:=NB629_637.out;obtain ⟨hcz10_0,hfz10_0⟩:=zc BK637 0 (.bool false) rfl;obtain ⟨hcz10_1,hfz10_1⟩:=zc BK637 1 (.slice none 0 0) rfl;obtain ⟨hcz10_2,hfz10_2⟩:=zc BK637 2 (.slice none 0 0) rfl;obtain ⟨Ao11,co11,rfl⟩:=Kd.R_slice HO633.out;obtain ⟨Ao12,co12,rfl⟩:=Kd.R_slice HO636.out))
 go_loopg [8] k (fun kq v8 w'=>∃ (x8_1:Int) (x638000_1:Bool) (x638001_1:List Int) (x638002_1:List Int) (u638001:Value) (u638002:Value),v8 = .int .i64 x8_1∧Aside0 (weftref1_Num_Pow.l0 kq a1 x8_1 a0_0 l0_1 l0_2 x638000_1 x638001_1 x638002_1=some (r1,r2,r3))∧Aside0 (kq≤k)∧Aside0 (Kd.V (Kd.int .i64) 3 w' w.heap.size (fun k_=>(w.heap.size≤k_)∧k_≠gb628∧k_≠gb629∧k_≠gb637) u638001 x638001_1)∧Aside0 (Kd.V (Kd.int .i64) 3 w' w.heap.size (fun k_=>(w.heap.size≤k_)∧k_≠gb628∧k_≠gb629∧k_≠gb637) u638002 x638002_1)∧Aside0 (w'.heap[gb628]? = some (.cells #[.bool a0_0,(.slice A0_1 l0_1.length c0_1),(.slice A0_2 l0_2.length c0_2)] 67 (0,0)))∧Aside0 (w'.heap[gb629]? = some (.cells #[.bool false,(.slice none 0 0),(.slice none 0 0)] 67 (0,0)))∧Aside0 (w'.heap[gb637]? = some (.cells #[.bool x638000_1,u638001,u638002] 67 (0,0)))∧Aside0 (Below w.heap.size w w'))
 case atStart=>exact ⟨(0),(t630),(t631),(t634),(.slice Ao11 t631.length co11),(.slice Ao12 t634.length co12),zs,H',⟨Nat.le_refl _⟩,⟨Kd.R_V (by (with_reducible repeat (first|apply Kd.R_alloc|apply Kd.R_drewN|apply Kd.R_drew));exact Kd.R_mono (Kd.R_far (p:=⟨gb637,2,none⟩) (Kd.R_far (p:=⟨gb637,1,none⟩) (Kd.R_far (p:=⟨gb637,0,none⟩) (Kd.R_types (Kd.R_types (Kd.R_types (Kd.R_types HO633.out BK628.out (by decide)) BK629.out (by decide)) BK637.out (by decide)) BK637.out (by decide)) (fun _ hk=>hk.2) (.bool t630)) (fun _ hk=>hk.2) (.slice Ao11 t631.length co11)) (fun _ hk=>hk.2) (.slice Ao12 t634.length co12)) (fun _ hk=>⟨hk.1.1.1.1.1,⟨hk.1.1.1.2,⟨hk.1.1.2,hk.1.2⟩⟩⟩))⟩,⟨Kd.R_V (by (with_reducible repeat (first|apply Kd.R_alloc|apply Kd.R_drewN|apply Kd.R_drew));exact Kd.R_mono (Kd.R_far (p:=⟨gb637,2,none⟩) (Kd.R_far (p:=⟨gb637,1,none⟩) (Kd.R_far (p:=⟨gb637,0,none⟩) (Kd.R_types (Kd.R_types (Kd.R_types (Kd.R_types HO636.out BK628.out (by decide)) BK629.out (by decide)) BK637.out (by decide)) BK637.out (by decide)) (fun _ hk=>hk.2) (.bool t630)) (fun _ hk=>hk.2) (.slice Ao11 t631.length co11)) (fun _ hk=>hk.2) (.slice Ao12 t634.length co12)) (fun _ hk=>⟨hk.1.1.1.1.1,⟨hk.1.1.1.2,⟨hk.1.1.2,hk.1.2⟩⟩⟩))⟩,⟨zq BK628⟩,⟨zq BK629⟩,⟨zq BK637⟩,⟨bw⟩⟩
 case round =>
  clear H'
  try clear c4
  try clear c6
  try clear c8
  try clear c9
  try clear hcz10_0
  try clear hcz10_1
  try clear hcz10_2
  try clear hfz10_0
  try clear hfz10_1
  try clear hfz10_2
  obtain ⟨x8_1,x638000_1,x638001_1,x638002_1,u638001,u638002,rfl,HA,HK1,HO_638001,HO_638002,BK628,BK629,BK637,HB⟩:=hrel
  cases gk with
  | zero=>exact absurd HA.out (by simp [weftref1_Num_Pow.l0])
  | succ k1 =>
   have H:=HA.out
   clear HA
   simp only [weftref1_Num_Pow.l0] at H
   by_cases c13:x8_1<a1
   case neg=>
    rw [if_neg c13] at H
    have c13b0:decide (x8_1<a1)=false:=decide_eq_false c13
    clear c13
    by_cases c26:x638000_1=true
    case neg=>
     replace c26:=Bool.eq_false_iff.mpr c26
     subst c26
     have H1:(some (false,x638001_1,x638002_1))=some (r1,r2,r3):=by rw [if_neg (show ¬ (false=true) by decide)] at H;exact H
     clear H
     have H:=H1
     clear H1
     simp only [Option.some.injEq,Prod.mk.injEq] at H
     obtain ⟨rfl,rfl,rfl⟩:=H
     have hnb34:=NB637_628.out
     have hnc34:=NB628_637.out
     have hnb35:=NB637_629.out
     have hnc35:=NB629_637.out
     have hcz36_0:wr.cell? ⟨gb637,0,none⟩=some (.bool false):=(blk_cell BK637.out 0).trans rfl
     have hcz36_1:wr.cell? ⟨gb637,1,none⟩=some (u638001):=(blk_cell BK637.out 1).trans rfl
     have hcz36_2:wr.cell? ⟨gb637,2,none⟩=some (u638002):=(blk_cell BK637.out 2).trans rfl
     have hfz36_0:=blk_frozen BK637.out 0
     have hfz36_1:=blk_frozen BK637.out 1
     have hfz36_2:=blk_frozen BK637.out 2
     have hnb37:=NB629_628.out
     have hnc37:=NB628_629.out
     have hcz38_0:wr.cell? ⟨gb629,0,none⟩=some (.bool false):=(blk_cell BK629.out 0).trans rfl
     have hcz38_1:wr.cell? ⟨gb629,1,none⟩=some (.slice none 0 0):=(blk_cell BK629.out 1).trans rfl
     have hcz38_2:wr.cell? ⟨gb629,2,none⟩=some (.slice none 0 0):=(blk_cell BK629.out 2).trans rfl
     have hfz38_0:=blk_frozen BK629.out 0
     have hfz38_1:=blk_frozen BK629.out 1
     have hfz38_2:=blk_frozen BK629.out 2
     obtain ⟨Ao39,co39,rfl⟩:=Kd.V_slice HO_638001.out
     obtain ⟨Ao40,co40,rfl⟩:=Kd.V_slice HO_638002.out
     go_wp2
     refine bodyPost_ret (results_cell_row rfl _ _ gb629 67 #[.bool false,.slice Ao39 x638001_1.length co39,.slice Ao40 x638002_1.length co40] (0,0) _ rfl (zq BK629) underlying67 rfl (by kernel_rfl)) rfl ?_
     exact ⟨_,_,ze,zF HO_638001,zF HO_638002,bw⟩
    subst c26
    have H1:(some (decide (0<x638001_1.length),x638001_1,x638002_1))=some (r1,r2,r3):=by rw [if_pos rfl] at H;exact H
    clear H
    have H:=H1
    clear H1
    simp only [Option.some.injEq,Prod.mk.injEq] at H
    obtain ⟨rfl,rfl,rfl⟩:=H
    have hnb27:=NB637_628.out
    have hnc27:=NB628_637.out
    have hnb28:=NB637_629.out
    have hnc28:=NB629_637.out
    have hcz29_0:wr.cell? ⟨gb637,0,none⟩=some (.bool true):=(blk_cell BK637.out 0).trans rfl
    have hcz29_1:wr.cell? ⟨gb637,1,none⟩=some (u638001):=(blk_cell BK637.out 1).trans rfl
    have hcz29_2:wr.cell? ⟨gb637,2,none⟩=some (u638002):=(blk_cell BK637.out 2).trans rfl
    have hfz29_0:=blk_frozen BK637.out 0
    have hfz29_1:=blk_frozen BK637.out 1
    have hfz29_2:=blk_frozen BK637.out 2
    obtain ⟨Ao30,co30,rfl⟩:=Kd.V_slice HO_638001.out
    have hnb31:=NB629_628.out
    have hnc31:=NB628_629.out
    have hcz32_0:wr.cell? ⟨gb629,0,none⟩=some (.bool false):=(blk_cell BK629.out 0).trans rfl
    have hcz32_1:wr.cell? ⟨gb629,1,none⟩=some (.slice none 0 0):=(blk_cell BK629.out 1).trans rfl
    have hcz32_2:wr.cell? ⟨gb629,2,none⟩=some (.slice none 0 0):=(blk_cell BK629.out 2).trans rfl
    have hfz32_0:=blk_frozen BK629.out 0
    have hfz32_1:=blk_frozen BK629.out 1
    have hfz32_2:=blk_frozen BK629.out 2
    obtain ⟨Ao33,co33,rfl⟩:=Kd.V_slice HO_638002.out
    go_wp2
    refine bodyPost_ret (results_cell_row rfl _ _ gb629 67 #[.bool (decide (0<x638001_1.length)),.slice Ao30 x638001_1.length co30,.slice Ao33 x638002_1.length co33] (0,0) _ rfl (zq BK629) underlying67 rfl (by kernel_rfl)) rfl ?_
    exact ⟨_,_,ze,zF HO_638001,zF HO_638002,bw⟩
   rw [if_pos c13] at H
   have c13b0:decide (x8_1<a1)=true:=decide_eq_true c13
   clear c13
   obtain ⟨t638,A14,H⟩:=zB H
   obtain ⟨t641,A15,H⟩:=zB H
   have H':=aZ H
   clear H
   try go_wp2
   replace HO_638001:=aZ (Kd.V_drew HO_638001.out)
   replace HO_638002:=aZ (Kd.V_drew HO_638002.out)
   replace BK628:=aZ (blk_drew BK628.out)
   replace BK629:=aZ (blk_drew BK629.out)
   replace BK637:=aZ (blk_drew BK637.out)
   replace HB:=aZ (below_drew1 HB.out)
   obtain ⟨Ao17,co17,eo17⟩:=Kd.V_slice HO_638001.out
   (first|subst eo17|(injection eo17 with f1_ f2_ f3_;have f4_:=f1_.symm;have f5_:=f3_.symm;clear f1_ f2_ f3_;subst f4_;subst f5_))
   refine start_ (n:=17) (S:=fun w'=>w'.cell? ⟨gb637,0,none⟩=some (.bool x638000_1)∧w'.cell? ⟨gb637,1,none⟩=some (.slice Ao17 x638001_1.length co17)∧w'.cell? ⟨gb637,2,none⟩=some (u638002)∧w'.cell? ⟨gb628,0,none⟩=some (.bool a0_0)∧w'.cell? ⟨gb628,1,none⟩=some (.slice A0_1 l0_1.length c0_1)∧w'.cell? ⟨gb628,2,none⟩=some (.slice A0_2 l0_2.length c0_2)) (ds:=[16]) #[false,false,false,false,false,false,false,false,false,false,false,false,false,false,false,false,false] (by kernel_rfl) rfl rfl ⟨zh BK637 0,zh BK637 1,zh BK637 2,zh BK628 0,zh BK628 1,zh BK628 2⟩ (fun hHeld=>?_);refine with_tabW weftref1_Num_Pow.tab4 weftref1_Num_Pow.bits4 (fun HT_ HW_=>?_)
   generalize wr.drew=w16 at HO_638001 HO_638002 BK628 BK629 BK637 HB hHeld ⊢
   refine pu 0 (some 10) HT_ ?_
   refine pu 2 (some 12) HT_ ?_
   refine pu 5 (some 15) HT_ ?_
   refine pu 7 (some 17) HT_ ?_
   refine pu 10 (some 20) HT_ ?_
   refine pu 12 (some 22) HT_ ?_
   refine tk 1 (some 11) HT_ HW_ hHeld ?_
   refine tk 3 (some 13) HT_ HW_ hHeld ?_
   refine pu 4 (some 14) HT_ ?_
   refine tk 6 (some 16) HT_ HW_ hHeld ?_
   refine tk 8 (some 18) HT_ HW_ hHeld ?_
   refine tk 11 (some 21) HT_ HW_ hHeld ?_
   refine tk 13 (some 23) HT_ HW_ hHeld ?_
   refine one_ (i:=9) (N:=some 19) #[true,true,true,true,true,true,true,true,true,true,true,true,true,true,false,false,false] rfl rfl (one_of HT_.out (by kernel_rfl)) (by decide) (fun K hK=>?_)
   refine goes_ func112 (by kernel_rfl) rfl #[.slice Ao17 x638001_1.length co17,.slice A0_1 l0_1.length c0_1] (by rfl) rfl rfl zm ?_
   with_reducible refine (weftref1_natMul.calls k1 _ _ x638001_1 _ _ l0_1 t638 _ ?side1 ?side2 ?side3 ?side4 A14.out).mono ?_
   (case side1=>exact zr HO_638001)
   (case side2=>exact zk HO_638001)
   (case side3=>exact zC (Kd.C_below HR0_1.out HB.out))
   (case side4=>exact HC0_1.out)
   rintro e w18 ⟨v639,rfl,ho0,hb⟩
   refine ⟨_,rfl,?_⟩
   replace HO_638001:=yV HO_638001 hb
   replace HO_638002:=yV HO_638002 hb
   have HO640:=yL (fun k_=>(w.heap.size≤k_)∧k_≠gb628∧k_≠gb629∧k_≠gb637) ho0 (fun k_ hk_=>⟨(Nat.le_trans bs hk_),(zf BK628 hk_),(zf BK629 hk_),(zf BK637 hk_)⟩)
   replace BK628:=sK BK628 hb
   replace BK629:=sK BK629 hb
   replace BK637:=sK BK637 hb
   replace HB:=sB hb
   clear hb ho0
   obtain ⟨Ao19,co19,eo19⟩:=Kd.V_slice HO_638002.out
   (first|subst eo19|(injection eo19 with f1_ f2_ f3_;have f4_:=f1_.symm;have f5_:=f3_.symm;clear f1_ f2_ f3_;subst f4_;subst f5_))
   refine hK.out _ _ ⟨zh BK637 0,zh BK637 1,zh BK637 2,zh BK628 0,zh BK628 1,zh BK628 2⟩ (fun hHeld=>?_)
   clear hK K
   refine nm ?_
   refine one_ (i:=14) (N:=some 24) #[true,true,true,true,true,true,true,true,true,true,true,true,true,true,true,false,false] rfl rfl (one_of HT_.out (by kernel_rfl)) (by decide) (fun K hK=>?_)
   refine goes_ func112 (by kernel_rfl) rfl #[.slice Ao19 x638002_1.length co19,.slice A0_2 l0_2.length c0_2] (by rfl) rfl rfl zm ?_
   with_reducible refine (weftref1_natMul.calls k1 _ _ x638002_1 _ _ l0_2 t641 _ ?side1 ?side2 ?side3 ?side4 A15.out).mono ?_
   (case side1=>exact zr HO_638002)
   (case side2=>exact zk HO_638002)
   (case side3=>exact zC (Kd.C_below HR0_2.out HB.out))
   (case side4=>exact HC0_2.out)
   rintro e w20 ⟨v642,rfl,ho0,hb⟩
   refine ⟨_,rfl,?_⟩
   replace HO_638001:=yV HO_638001 hb
   replace HO_638002:=yV HO_638002 hb
   replace HO640:=yV HO640 hb
   have HO643:=yL (fun k_=>(w.heap.size≤k_)∧k_≠gb628∧k_≠gb629∧k_≠gb637) ho0 (fun k_ hk_=>⟨(Nat.le_trans bs hk_),(zf BK628 hk_),(zf BK629 hk_),(zf BK637 hk_)⟩)
   replace BK628:=sK BK628 hb
   replace BK629:=sK BK629 hb
   replace BK637:=sK BK637 hb
   replace HB:=sB hb
   clear hb ho0
   obtain ⟨Ao21,co21,eo21⟩:=Kd.V_slice HO643.out
   (first|subst eo21|(injection eo21 with f1_ f2_ f3_;have f4_:=f1_.symm;have f5_:=f3_.symm;clear f1_ f2_ f3_;subst f4_;subst f5_))
   obtain ⟨Ao22,co22,eo22⟩:=Kd.V_slice HO640.out
   (first|subst eo22|(injection eo22 with f1_ f2_ f3_;have f4_:=f1_.symm;have f5_:=f3_.symm;clear f1_ f2_ f3_;subst f4_;subst f5_))
   refine hK.out _ _ ⟨zh BK637 0,zh BK637 1,zh BK637 2,zh BK628 0,zh BK628 1,zh BK628 2⟩ (fun hHeld=>?_)
   clear hK K
   refine nm ?_
   refine pu 15 (some 25) HT_ ?_
   refine last_ (i:=16) (N:=none) #[true,true,true,true,true,true,true,true,true,true,true,true,true,true,true,true,true] rfl rfl (one_of HT_.out (by kernel_rfl)) (by decide) (fun K hK=>?_)
   have hs23:w20.cell? ⟨gb637,0,none⟩=some (.bool x638000_1):=(blk_cell BK637.out 0).trans rfl
   have hfs23:=blk_frozen BK637.out 0
   have hns23_0:=NB628_637.out
   have hns23_1:=NB629_637.out
   have hms23_0:=NB637_628.out
   have hms23_1:=NB637_629.out
   have hs24:w20.cell? ⟨gb637,1,none⟩=some (.slice Ao17 x638001_1.length co17):=(blk_cell BK637.out 1).trans rfl
   have hfs24:=blk_frozen BK637.out 1
   have hns24_0:=NB628_637.out
   have hns24_1:=NB629_637.out
   have hms24_0:=NB637_628.out
   have hms24_1:=NB637_629.out
   have hs25:w20.cell? ⟨gb637,2,none⟩=some (.slice Ao19 x638002_1.length co19):=(blk_cell BK637.out 2).trans rfl
   have hfs25:=blk_frozen BK637.out 2
   have hns25_0:=NB628_637.out
   have hns25_1:=NB629_637.out
   have hms25_0:=NB637_628.out
   have hms25_1:=NB637_629.out
   refine skip_ (w1:=?_) (by rfl) rfl ?_ ?_
   rotate_left
   ·go_simp
    rfl
   refine hK.out _ _ ?_
   clear hK K
   refine done_ (done_of HT_.out (by kernel_rfl)) ?_
   try go_wp2
   go_roundg k1
   case measure=>have:=HK1.out;omega
   case rel=>exact ⟨(wrap64 (x8_1+1)),((x638000_1 != a0_0)),(t638),(t641),(.slice Ao22 t638.length co22),(.slice Ao21 t641.length co21),zs,H',⟨by have:=HK1.out;omega⟩,⟨zF HO640⟩,⟨zF HO643⟩,⟨zq BK628⟩,⟨zq BK629⟩,⟨zq BK637⟩,⟨bw⟩⟩
end Go.Proofs.YtaffkbemjbfajaaGreatDoor.PNumProducts
