-- By a program of this session: functions as plain Lean functions, each with its proof over the machine.
import Derived.Test.YtaffkbemjbfajaaGreatDoorPNumOrdersx0
import Derived.Test.YtaffkbemjbfajaaGreatDoorPNumOrdersx3
import Derived.Test.YtaffkbemjbfajaaGreatDoorPNumOrdersx1
import Derived.Test.YtaffkbemjbfajaaGreatDoorPNumOrdersx2
namespace Go.Proofs.YtaffkbemjbfajaaGreatDoor.PNumOrders
open Go.RowKit Go.Proofs.Tryz Go.Proofs.YtaffkbemjbfajaaGreatDoorW.PrintWords Go.Proofs.YtaffkbemjbfajaaGreatDoorW.PrintLast Go.Proofs.YtaffkbemjbfajaaGreatDoorW.PrintMore
attribute [local go_sem] max2_int min2_int max_two min_two max_three min_three max_four min_four
set_option linter.unusedVariables false
set_option linter.unusedSimpArgs false
set_option maxHeartbeats 8000000
set_option maxRecDepth 100000
def Y6.f (k:Nat) (a0_0:Bool) (l0_1:List Int) (l0_2:List Int) (a1_0:Bool) (l1_1:List Int) (l1_2:List Int):Option (Bool×List Int×List Int):=(Y3.f k l0_1 l1_2).bind fun t539=>((Y3.f k l1_1 l0_2).bind fun t542=>((Y3.f k l0_2 l1_2).bind fun t545=>(if (a0_0==a1_0)=true then ((Ya.f k t539 t542 1).bind fun t548=>((Yz.f k a0_0 t548 t545).bind fun bt551=>(some (bt551.1,bt551.2.1,bt551.2.2)))) else ((Y9.f k t539 t542).bind fun t558=>(if t558≥0 then ((Ya.f k t539 t542 (-1)).bind fun t559=>((Yz.f k a0_0 t559 t545).bind fun bt562=>(some (bt562.1,bt562.2.1,bt562.2.2)))) else ((Ya.f k t542 t539 (-1)).bind fun t569=>((Yz.f k a1_0 t569 t545).bind fun bt572=>(some (bt572.1,bt572.2.1,bt572.2.2)))))))))
def Y6.T1:Bool×List (List Nat×List Nat):=(true,[([],[]),([0],[0]),([],[]),([2],[2]),([1,3],[1,3]),([],[]),([5],[5]),([],[]),([7],[7]),([6,8,4],[6,8]),([4,9,0,1,2,3,4],[4]),([9,10,0,1,2,3,4,5,6,7,8,9,10],[9])])
def Y6.B1:List Nat:=[0,1,0,4,15,0,32,0,128,511,1023,2047]
theorem Y6.tab1:rtab .any (opsOf Tryz.f68 1)=Y6.T1:=by kernel_rfl
theorem Y6.bits1:waitsOk Y6.T1.2 Y6.B1=true:=by kernel_rfl
def Y6.T4:Bool×List (List Nat×List Nat):=(true,[([],[]),([0],[0]),([],[]),([],[]),([2,3],[2,3]),([],[]),([1,4,5,4],[1,4,5]),([6,6,0,1,2,3,4,5,6],[6])])
def Y6.B4:List Nat:=[0,1,0,0,12,0,63,127]
theorem Y6.tab4:rtab .any (opsOf Tryz.f68 4)=Y6.T4:=by kernel_rfl
theorem Y6.bits4:waitsOk Y6.T4.2 Y6.B4=true:=by kernel_rfl
def Y6.T6:Bool×List (List Nat×List Nat):=(true,[([],[]),([0],[0]),([],[]),([],[]),([2,3],[2,3]),([],[]),([1,4,5,4],[1,4,5]),([6,6,0,1,2,3,4,5,6],[6])])
def Y6.B6:List Nat:=[0,1,0,0,12,0,63,127]
theorem Y6.tab6:rtab .any (opsOf Tryz.f68 6)=Y6.T6:=by kernel_rfl
theorem Y6.bits6:waitsOk Y6.T6.2 Y6.B6=true:=by kernel_rfl
def Y6.T7:Bool×List (List Nat×List Nat):=(true,[([],[]),([0],[0]),([],[]),([],[]),([2,3],[2,3]),([],[]),([1,4,5,4],[1,4,5]),([6,6,0,1,2,3,4,5,6],[6])])
def Y6.B7:List Nat:=[0,1,0,0,12,0,63,127]
theorem Y6.tab7:rtab .any (opsOf Tryz.f68 7)=Y6.T7:=by kernel_rfl
theorem Y6.bits7:waitsOk Y6.T7.2 Y6.B7=true:=by kernel_rfl
theorem Y6.calls (k:Nat) (a0_0:Bool) (A0_1:Option Addr) (c0_1:Nat) (l0_1:List Int) (A0_2:Option Addr) (c0_2:Nat) (l0_2:List Int) (a1_0:Bool) (A1_1:Option Addr) (c1_1:Nat) (l1_1:List Int) (A1_2:Option Addr) (c1_2:Nat) (l1_2:List Int) (r1:Bool) (r2:List Int) (r3:List Int) (w:World) (hr0_1:Kd.C (Kd.int .i64) w A0_1 l0_1.length l0_1) (hc0_1:l0_1.length≤c0_1) (hr0_2:Kd.C (Kd.int .i64) w A0_2 l0_2.length l0_2) (hc0_2:l0_2.length≤c0_2) (hr1_1:Kd.C (Kd.int .i64) w A1_1 l1_1.length l1_1) (hc1_1:l1_1.length≤c1_1) (hr1_2:Kd.C (Kd.int .i64) w A1_2 l1_2.length l1_2) (hc1_2:l1_2.length≤c1_2) (h:Y6.f k a0_0 l0_1 l0_2 a1_0 l1_1 l1_2=some (r1,r2,r3)) :
  Calls Tryz.prog 68 #[.agg #[.bool a0_0,.slice A0_1 l0_1.length c0_1,.slice A0_2 l0_2.length c0_2],.agg #[.bool a1_0,.slice A1_1 l1_1.length c1_1,.slice A1_2 l1_2.length c1_2]] w fun e w'=>∃ v1_ v2_:Value,e = .returned (.agg #[.bool r1,v1_,v2_])∧Kd.V (Kd.int .i64) 3 w' w.heap.size (fun k_=>(w.heap.size≤k_)) v1_ r2∧Kd.V (Kd.int .i64) 3 w' w.heap.size (fun k_=>(w.heap.size≤k_)) v2_ r3∧Below w.heap.size w w':=by
 have hu67:=underlying67
 have HR0_1:=aZ hr0_1
 have HC0_1:=aZ hc0_1
 clear hr0_1 hc0_1
 have HR0_2:=aZ hr0_2
 have HC0_2:=aZ hc0_2
 clear hr0_2 hc0_2
 have HR1_1:=aZ hr1_1
 have HC1_1:=aZ hc1_1
 clear hr1_1 hc1_1
 have HR1_2:=aZ hr1_2
 have HC1_2:=aZ hc1_2
 clear hr1_2 hc1_2
 have HB:=aZ (Below.refl w.heap.size w)
 have H:=h
 unfold Y6.f at H
 clear h
 obtain ⟨t539,A3,H⟩:=zB H
 obtain ⟨t542,A4,H⟩:=zB H
 obtain ⟨t545,A5,H⟩:=zB H
 by_cases c6:(a0_0==a1_0)=true
 case neg=>
  rw [if_neg c6] at H
  have c6b0:(a0_0==a1_0)=false:=by simpa using c6
  (try (have c6b1:decide (a0_0=a1_0)=false:=by simpa using c6))
  (try (have c6b2:(a0_0==a1_0)=false:=by simpa using c6))
  (try (have c6b3:¬ (a0_0=a1_0):=by simpa using c6))
  clear c6
  obtain ⟨t558,A35,H⟩:=zB H
  by_cases c36:t558≥0
  case neg=>
   rw [if_neg c36] at H
   have c36b0:=decide_eq_false c36
   clear c36
   obtain ⟨t569,A65,H⟩:=zB H
   obtain ⟨⟨t572,t573,t576⟩,A66,H⟩:=zB H
   (try dsimp only at H)
   obtain ⟨rfl,rfl,rfl⟩:=zo3 H
   go_enter func68,ntmps68
   try go_wp2_with (first|(refine box_ev 2 #[.bool a0_0,.slice A0_1 l0_1.length c0_1,.slice A0_2 l0_2.length c0_2] 67 ?_;intro gb536 hg w67 hbox hb;have BK536:=aZ hbox;have GE536:=sG hg;replace HB:=sB hb;clear hb hbox hg)|(refine box_ev 3 #[.bool a1_0,.slice A1_1 l1_1.length c1_1,.slice A1_2 l1_2.length c1_2] 67 ?_;intro gb537 hg w68 hbox hb;have BK537:=aZ hbox;have GE537:=sG hg;replace HB:=sB hb;obtain ⟨NB536_537,NB537_536,BK536⟩:=sX hg hb BK536;clear hb hbox hg)|(refine box_ev 4 #[.bool false,.slice none 0 0,.slice none 0 0] 67 ?_;intro gb538 hg w69 hbox hb;have BK538:=aZ hbox;have GE538:=sG hg;replace HB:=sB hb;obtain ⟨NB536_538,NB538_536,BK536⟩:=sX hg hb BK536;obtain ⟨NB537_538,NB538_537,BK537⟩:=sX hg hb BK537;clear hb hbox hg))
   replace BK536:=aZ (blk_drew BK536.out)
   replace BK537:=aZ (blk_drew BK537.out)
   replace BK538:=aZ (blk_drew BK538.out)
   replace HB:=aZ (below_drew1 HB.out)
   refine start_ (n:=12) (S:=fun w'=>w'.cell? ⟨gb536,0,none⟩=some (.bool a0_0)∧w'.cell? ⟨gb536,1,none⟩=some (.slice A0_1 l0_1.length c0_1)∧w'.cell? ⟨gb536,2,none⟩=some (.slice A0_2 l0_2.length c0_2)∧w'.cell? ⟨gb537,0,none⟩=some (.bool a1_0)∧w'.cell? ⟨gb537,1,none⟩=some (.slice A1_1 l1_1.length c1_1)∧w'.cell? ⟨gb537,2,none⟩=some (.slice A1_2 l1_2.length c1_2)) (ds:=[]) #[false,false,false,false,false,false,false,false,false,false,false,false] (by kernel_rfl) rfl rfl ⟨zh BK536 0,zh BK536 1,zh BK536 2,zh BK537 0,zh BK537 1,zh BK537 2⟩ (fun hHeld=>?_);refine with_tabW Y6.tab1 Y6.bits1 (fun HT_ HW_=>?_)
   generalize w69.drew=w70 at BK536 BK537 BK538 HB hHeld ⊢
   refine pu 0 (some 8) HT_ ?_
   refine pu 2 (some 10) HT_ ?_
   refine pu 5 (some 13) HT_ ?_
   refine pu 7 (some 15) HT_ ?_
   refine tk 1 (some 9) HT_ HW_ hHeld ?_
   refine tk 3 (some 11) HT_ HW_ hHeld ?_
   refine tk 6 (some 14) HT_ HW_ hHeld ?_
   refine tk 8 (some 16) HT_ HW_ hHeld ?_
   refine one_ (i:=4) (N:=some 12) #[true,true,true,true,true,true,true,true,true,false,false,false] rfl rfl (one_of HT_.out (by kernel_rfl)) (by decide) (fun K hK=>?_)
   refine goes_ func112 (by kernel_rfl) rfl #[.slice A0_1 l0_1.length c0_1,.slice A1_2 l1_2.length c1_2] (by rfl) rfl rfl zm ?_
   with_reducible refine (Y3.calls k _ _ l0_1 _ _ l1_2 t539 _ (zC (Kd.C_below HR0_1.out HB.out)) HC0_1.out (zC (Kd.C_below HR1_2.out HB.out)) HC1_2.out A3.out).mono ?_
   rintro e w71 ⟨v540,rfl,ho0,hb⟩
   refine ⟨_,rfl,?_⟩
   have HO541:=yL (fun k_=>(w.heap.size≤k_)∧k_≠gb536∧k_≠gb537∧k_≠gb538) ho0 (fun k_ hk_=>⟨(Nat.le_trans bs hk_),(zf BK536 hk_),(zf BK537 hk_),(zf BK538 hk_)⟩)
   replace BK536:=sK BK536 hb
   replace BK537:=sK BK537 hb
   replace BK538:=sK BK538 hb
   replace HB:=sB hb
   clear hb ho0
   refine hK.out _ _ ⟨zh BK536 0,zh BK536 1,zh BK536 2,zh BK537 0,zh BK537 1,zh BK537 2⟩ (fun hHeld=>?_)
   clear hK K
   refine nm ?_
   refine one_ (i:=9) (N:=some 17) #[true,true,true,true,true,true,true,true,true,true,false,false] rfl rfl (one_of HT_.out (by kernel_rfl)) (by decide) (fun K hK=>?_)
   refine goes_ func112 (by kernel_rfl) rfl #[.slice A1_1 l1_1.length c1_1,.slice A0_2 l0_2.length c0_2] (by rfl) rfl rfl zm ?_
   with_reducible refine (Y3.calls k _ _ l1_1 _ _ l0_2 t542 _ (zC (Kd.C_below HR1_1.out HB.out)) HC1_1.out (zC (Kd.C_below HR0_2.out HB.out)) HC0_2.out A4.out).mono ?_
   rintro e w72 ⟨v543,rfl,ho0,hb⟩
   refine ⟨_,rfl,?_⟩
   replace HO541:=yV HO541 hb
   have HO544:=yL (fun k_=>(w.heap.size≤k_)∧k_≠gb536∧k_≠gb537∧k_≠gb538) ho0 (fun k_ hk_=>⟨(Nat.le_trans bs hk_),(zf BK536 hk_),(zf BK537 hk_),(zf BK538 hk_)⟩)
   replace BK536:=sK BK536 hb
   replace BK537:=sK BK537 hb
   replace BK538:=sK BK538 hb
   replace HB:=sB hb
   clear hb ho0
   refine hK.out _ _ ⟨zh BK536 0,zh BK536 1,zh BK536 2,zh BK537 0,zh BK537 1,zh BK537 2⟩ (fun hHeld=>?_)
   clear hK K
   refine nm ?_
   refine pu 10 (some 5) HT_ ?_
   refine pu 11 (some 6) HT_ ?_
   refine done_ (done_of HT_.out (by kernel_rfl)) ?_
   have hnb73:=NB536_537.out
   have hnc73:=NB537_536.out
   have hnb74:=NB536_538.out
   have hnc74:=NB538_536.out
   obtain ⟨hcz75_0,hfz75_0⟩:=zc BK536 0 (.bool a0_0) rfl
   obtain ⟨hcz75_1,hfz75_1⟩:=zc BK536 1 (.slice A0_1 l0_1.length c0_1) rfl
   obtain ⟨hcz75_2,hfz75_2⟩:=zc BK536 2 (.slice A0_2 l0_2.length c0_2) rfl
   have hnb76:=NB537_538.out
   have hnc76:=NB538_537.out
   obtain ⟨hcz77_0,hfz77_0⟩:=zc BK537 0 (.bool a1_0) rfl
   obtain ⟨hcz77_1,hfz77_1⟩:=zc BK537 1 (.slice A1_1 l1_1.length c1_1) rfl
   obtain ⟨hcz77_2,hfz77_2⟩:=zc BK537 2 (.slice A1_2 l1_2.length c1_2) rfl
   try go_wp2_with (first|(refine zg (some 22) func112 #[.slice A0_2 l0_2.length c0_2,.slice A1_2 l1_2.length c1_2] ?_;(with_reducible refine (Y3.calls k _ _ l0_2 _ _ l1_2 t545 _ (zC (Kd.C_below HR0_2.out HB.out)) HC0_2.out (zC (Kd.C_below HR1_2.out HB.out)) HC1_2.out A5.out).mono ?_);rintro e w78 ⟨v546,rfl,ho0,hb⟩;refine ⟨_,rfl,?_⟩;replace HO541:=yV HO541 hb;replace HO544:=yV HO544 hb;have HO547:=yL (fun k_=>(w.heap.size≤k_)∧k_≠gb536∧k_≠gb537∧k_≠gb538) ho0 (fun k_ hk_=>⟨(Nat.le_trans bs hk_),(zf BK536 hk_),(zf BK537 hk_),(zf BK538 hk_)⟩);replace BK536:=sK BK536 hb;replace BK537:=sK BK537 hb;replace BK538:=sK BK538 hb;replace HB:=sB hb;clear hb ho0;obtain ⟨hcz79_0,hfz79_0⟩:=zc BK536 0 (.bool a0_0) rfl;obtain ⟨hcz79_1,hfz79_1⟩:=zc BK536 1 (.slice A0_1 l0_1.length c0_1) rfl;obtain ⟨hcz79_2,hfz79_2⟩:=zc BK536 2 (.slice A0_2 l0_2.length c0_2) rfl;obtain ⟨hcz80_0,hfz80_0⟩:=zc BK537 0 (.bool a1_0) rfl;obtain ⟨hcz80_1,hfz80_1⟩:=zc BK537 1 (.slice A1_1 l1_1.length c1_1) rfl;obtain ⟨hcz80_2,hfz80_2⟩:=zc BK537 2 (.slice A1_2 l1_2.length c1_2) rfl;obtain ⟨Ao81,co81,rfl⟩:=Kd.V_slice HO541.out;obtain ⟨Ao82,co82,rfl⟩:=Kd.V_slice HO544.out)|(refine zg (some 39) func120 #[.slice Ao81 t539.length co81,.slice Ao82 t542.length co82] ?_;(with_reducible refine (Y9.calls k _ _ t539 _ _ t542 t558 _ (zC (Kd.V_reads' HO541.out).2.2) ((Kd.V_reads' HO541.out).2.1) (zC (Kd.V_reads' HO544.out).2.2) ((Kd.V_reads' HO544.out).2.1) A35.out).mono ?_);rintro e w' ⟨rfl,⟨nd,rfl⟩⟩;refine ⟨_,rfl,?_⟩;(try (rw [drewN_self w78];generalize hq_:World.drewN w78 _=w78;have n0_:Aside0 (Kd.V (Kd.int .i64) 3 w78 w.heap.size (fun k_=>(w.heap.size≤k_)∧k_≠gb536∧k_≠gb537∧k_≠gb538) (.slice Ao81 t539.length co81) t539):=⟨by rw [← hq_];exact (zV HO541)⟩;have n1_:Aside0 (Kd.V (Kd.int .i64) 3 w78 w.heap.size (fun k_=>(w.heap.size≤k_)∧k_≠gb536∧k_≠gb537∧k_≠gb538) (.slice Ao82 t542.length co82) t542):=⟨by rw [← hq_];exact (zV HO544)⟩;have n2_:Aside0 (Kd.V (Kd.int .i64) 3 w78 w.heap.size (fun k_=>(w.heap.size≤k_)∧k_≠gb536∧k_≠gb537∧k_≠gb538) v546 t545):=⟨by rw [← hq_];exact (zV HO547)⟩;have n3_:Aside0 (w78.heap[gb536]? = some (.cells #[.bool a0_0,.slice A0_1 l0_1.length c0_1,.slice A0_2 l0_2.length c0_2] 67 (0,0))):=⟨by rw [← hq_];exact (zb BK536)⟩;have n4_:Aside0 (w78.heap[gb537]? = some (.cells #[.bool a1_0,.slice A1_1 l1_1.length c1_1,.slice A1_2 l1_2.length c1_2] 67 (0,0))):=⟨by rw [← hq_];exact (zb BK537)⟩;have n5_:Aside0 (w78.heap[gb538]? = some (.cells #[.bool false,.slice none 0 0,.slice none 0 0] 67 (0,0))):=⟨by rw [← hq_];exact (zb BK538)⟩;have n6_:Aside0 (Below w.heap.size w w78):=⟨by rw [← hq_];exact bw⟩;clear HO541 HO544 HO547 BK536 BK537 BK538 HB hq_;have HO541:=n0_;have HO544:=n1_;have HO547:=n2_;have BK536:=n3_;have BK537:=n4_;have BK538:=n5_;have HB:=n6_;clear n0_ n1_ n2_ n3_ n4_ n5_ n6_))))
   replace HO541:=aZ (Kd.V_drew HO541.out)
   replace HO544:=aZ (Kd.V_drew HO544.out)
   replace HO547:=aZ (Kd.V_drew HO547.out)
   replace BK536:=aZ (blk_drew BK536.out)
   replace BK537:=aZ (blk_drew BK537.out)
   replace BK538:=aZ (blk_drew BK538.out)
   replace HB:=aZ (below_drew1 HB.out)
   refine start_ (n:=8) (S:=fun w'=>w'.cell? ⟨gb537,0,none⟩=some (.bool a1_0)∧w'.cell? ⟨gb537,1,none⟩=some (.slice A1_1 l1_1.length c1_1)∧w'.cell? ⟨gb537,2,none⟩=some (.slice A1_2 l1_2.length c1_2)) (ds:=[]) #[false,false,false,false,false,false,false,false] (by kernel_rfl) rfl rfl ⟨zh BK537 0,zh BK537 1,zh BK537 2⟩ (fun hHeld=>?_);refine with_tabW Y6.tab7 Y6.bits7 (fun HT_ HW_=>?_)
   generalize w78.drew=w83 at HO541 HO544 HO547 BK536 BK537 BK538 HB hHeld ⊢
   refine pu 0 (some 48) HT_ ?_
   refine pu 2 (some 50) HT_ ?_
   refine pu 3 (some 51) HT_ ?_
   refine pu 5 (some 53) HT_ ?_
   refine tk 1 (some 49) HT_ HW_ hHeld ?_
   refine one_ (i:=4) (N:=some 52) #[true,true,true,true,true,true,false,false] rfl rfl (one_of HT_.out (by kernel_rfl)) (by decide) (fun K hK=>?_)
   refine goes_ func119 (by kernel_rfl) rfl #[.slice Ao82 t542.length co82,.slice Ao81 t539.length co81,.int .i64 (-1)] (by rfl) rfl rfl zm ?_
   with_reducible refine (Ya.calls k _ _ t542 _ _ t539 (-1) t569 _ (zC (Kd.V_reads' HO544.out).2.2) ((Kd.V_reads' HO544.out).2.1) (zC (Kd.V_reads' HO541.out).2.2) ((Kd.V_reads' HO541.out).2.1) A65.out).mono ?_
   rintro e w84 ⟨v570,rfl,ho0,hb⟩
   refine ⟨_,rfl,?_⟩
   replace HO541:=yV HO541 hb
   replace HO544:=yV HO544 hb
   replace HO547:=yV HO547 hb
   have HO571:=yL (fun k_=>(w.heap.size≤k_)∧k_≠gb536∧k_≠gb537∧k_≠gb538) ho0 (fun k_ hk_=>⟨(Nat.le_trans bs hk_),(zf BK536 hk_),(zf BK537 hk_),(zf BK538 hk_)⟩)
   replace BK536:=sK BK536 hb
   replace BK537:=sK BK537 hb
   replace BK538:=sK BK538 hb
   replace HB:=sB hb
   clear hb ho0
   obtain ⟨Ao85,co85,eo85⟩:=Kd.V_slice HO571.out
   (first|subst eo85|(injection eo85 with f1_ f2_ f3_;have f4_:=f1_.symm;have f5_:=f3_.symm;clear f1_ f2_ f3_;subst f4_;subst f5_))
   obtain ⟨Ao86,co86,eo86⟩:=Kd.V_slice HO547.out
   (first|subst eo86|(injection eo86 with f1_ f2_ f3_;have f4_:=f1_.symm;have f5_:=f3_.symm;clear f1_ f2_ f3_;subst f4_;subst f5_))
   refine hK.out _ _ ⟨zh BK537 0,zh BK537 1,zh BK537 2⟩ (fun hHeld=>?_)
   clear hK K
   refine nm ?_
   refine one_ (i:=6) (N:=some 54) #[true,true,true,true,true,true,true,false] rfl rfl (one_of HT_.out (by kernel_rfl)) (by decide) (fun K hK=>?_)
   refine goes_ func101 (by kernel_rfl) rfl #[.bool a1_0,.slice Ao85 t569.length co85,.slice Ao86 t545.length co86] (by rfl) rfl rfl zm ?_
   with_reducible refine (Yz.calls k a1_0 (fun k_=>((w.heap.size≤k_)∧(k_≠gb536∧(k_≠gb537∧k_≠gb538)))) _ _ t569 (fun k_=>((w.heap.size≤k_)∧(k_≠gb536∧(k_≠gb537∧k_≠gb538)))) _ _ t545 t572 t573 t576 _ HO571.out HO547.out A66.out).mono ?_
   rintro e w87 ⟨v574,v577,rfl,ho0,ho1,hb⟩
   refine ⟨_,rfl,?_⟩
   replace HO541:=yV HO541 hb
   replace HO544:=yV HO544 hb
   replace HO547:=yV HO547 hb
   replace HO571:=yV HO571 hb
   have HO575:=yL (fun k_=>(w.heap.size≤k_)∧k_≠gb536∧k_≠gb537∧k_≠gb538) ho0 (fun k_ hk_=>⟨Or.elim hk_ (fun hs_=>Or.elim hs_ (fun hs_=>hs_.1) (fun hs_=>hs_.1)) (fun hn_=>(Nat.le_trans bs hn_)),Or.elim hk_ (fun hs_=>Or.elim hs_ (fun hs_=>hs_.2.1) (fun hs_=>hs_.2.1)) (fun hn_=>(zf BK536 hn_)),Or.elim hk_ (fun hs_=>Or.elim hs_ (fun hs_=>hs_.2.2.1) (fun hs_=>hs_.2.2.1)) (fun hn_=>(zf BK537 hn_)),Or.elim hk_ (fun hs_=>Or.elim hs_ (fun hs_=>hs_.2.2.2) (fun hs_=>hs_.2.2.2)) (fun hn_=>(zf BK538 hn_))⟩)
   have HO578:=yL (fun k_=>(w.heap.size≤k_)∧k_≠gb536∧k_≠gb537∧k_≠gb538) ho1 (fun k_ hk_=>⟨Or.elim hk_ (fun hs_=>Or.elim hs_ (fun hs_=>hs_.1) (fun hs_=>hs_.1)) (fun hn_=>(Nat.le_trans bs hn_)),Or.elim hk_ (fun hs_=>Or.elim hs_ (fun hs_=>hs_.2.1) (fun hs_=>hs_.2.1)) (fun hn_=>(zf BK536 hn_)),Or.elim hk_ (fun hs_=>Or.elim hs_ (fun hs_=>hs_.2.2.1) (fun hs_=>hs_.2.2.1)) (fun hn_=>(zf BK537 hn_)),Or.elim hk_ (fun hs_=>Or.elim hs_ (fun hs_=>hs_.2.2.2) (fun hs_=>hs_.2.2.2)) (fun hn_=>(zf BK538 hn_))⟩)
   replace BK536:=sK BK536 hb
   replace BK537:=sK BK537 hb
   replace BK538:=sK BK538 hb
   replace HB:=sB hb
   clear hb ho0 ho1
   obtain ⟨Ao89,co89,eo89⟩:=Kd.V_slice HO575.out
   (first|subst eo89|(injection eo89 with f1_ f2_ f3_;have f4_:=f1_.symm;have f5_:=f3_.symm;clear f1_ f2_ f3_;subst f4_;subst f5_))
   obtain ⟨Ao91,co91,eo91⟩:=Kd.V_slice HO578.out
   (first|subst eo91|(injection eo91 with f1_ f2_ f3_;have f4_:=f1_.symm;have f5_:=f3_.symm;clear f1_ f2_ f3_;subst f4_;subst f5_))
   refine hK.out _ _ ⟨zh BK537 0,zh BK537 1,zh BK537 2⟩ (fun hHeld=>?_)
   clear hK K
   refine nm ?_
   refine one_ (i:=7) (N:=none) #[true,true,true,true,true,true,true,true] rfl rfl (one_of HT_.out (by kernel_rfl)) (by decide) (fun K hK=>?_)
   have hs88:w87.cell? ⟨gb538,0,none⟩=some (.bool false):=(blk_cell BK538.out 0).trans rfl
   have hfs88:=blk_frozen BK538.out 0
   have hns88_0:=NB536_538.out
   have hns88_1:=NB537_538.out
   have hms88_0:=NB538_536.out
   have hms88_1:=NB538_537.out
   have hs90:w87.cell? ⟨gb538,1,none⟩=some (.slice none 0 0):=(blk_cell BK538.out 1).trans rfl
   have hfs90:=blk_frozen BK538.out 1
   have hns90_0:=NB536_538.out
   have hns90_1:=NB537_538.out
   have hms90_0:=NB538_536.out
   have hms90_1:=NB538_537.out
   have hs92:w87.cell? ⟨gb538,2,none⟩=some (.slice none 0 0):=(blk_cell BK538.out 2).trans rfl
   have hfs92:=blk_frozen BK538.out 2
   have hns92_0:=NB536_538.out
   have hns92_1:=NB537_538.out
   have hms92_0:=NB538_536.out
   have hms92_1:=NB538_537.out
   refine skip_ (w1:=?_) (by rfl) rfl ?_ ?_
   rotate_left
   ·go_simp
    rfl
   refine hK.out _ _ ⟨((cell_far (p:=⟨gb538,_,none⟩) NB537_538.out _).trans (((cell_far (p:=⟨gb538,_,none⟩) NB537_538.out _).trans (((cell_far (p:=⟨gb538,_,none⟩) NB537_538.out _).trans (hHeld.1)))))),((cell_far (p:=⟨gb538,_,none⟩) NB537_538.out _).trans (((cell_far (p:=⟨gb538,_,none⟩) NB537_538.out _).trans (((cell_far (p:=⟨gb538,_,none⟩) NB537_538.out _).trans (hHeld.2.1)))))),((cell_far (p:=⟨gb538,_,none⟩) NB537_538.out _).trans (((cell_far (p:=⟨gb538,_,none⟩) NB537_538.out _).trans (((cell_far (p:=⟨gb538,_,none⟩) NB537_538.out _).trans (hHeld.2.2))))))⟩ (fun hHeld=>?_)
   clear hK K
   refine done_ (done_of HT_.out (by kernel_rfl)) ?_
   try go_wp2
   refine bodyPost_ret (results_cell_row rfl _ _ gb538 67 #[.bool t572,.slice Ao89 t573.length co89,.slice Ao91 t576.length co91] (0,0) _ rfl (zp BK538) underlying67 rfl (by kernel_rfl)) rfl ?_
   exact ⟨_,_,ze,zF HO575,zF HO578,bw⟩
  rw [if_pos c36] at H
  have c36b0:=decide_eq_true c36
  clear c36
  obtain ⟨t559,A37,H⟩:=zB H
  obtain ⟨⟨t562,t563,t566⟩,A38,H⟩:=zB H
  (try dsimp only at H)
  obtain ⟨rfl,rfl,rfl⟩:=zo3 H
  go_enter func68,ntmps68
  try go_wp2_with (first|(refine box_ev 2 #[.bool a0_0,.slice A0_1 l0_1.length c0_1,.slice A0_2 l0_2.length c0_2] 67 ?_;intro gb536 hg w39 hbox hb;have BK536:=aZ hbox;have GE536:=sG hg;replace HB:=sB hb;clear hb hbox hg)|(refine box_ev 3 #[.bool a1_0,.slice A1_1 l1_1.length c1_1,.slice A1_2 l1_2.length c1_2] 67 ?_;intro gb537 hg w40 hbox hb;have BK537:=aZ hbox;have GE537:=sG hg;replace HB:=sB hb;obtain ⟨NB536_537,NB537_536,BK536⟩:=sX hg hb BK536;clear hb hbox hg)|(refine box_ev 4 #[.bool false,.slice none 0 0,.slice none 0 0] 67 ?_;intro gb538 hg w41 hbox hb;have BK538:=aZ hbox;have GE538:=sG hg;replace HB:=sB hb;obtain ⟨NB536_538,NB538_536,BK536⟩:=sX hg hb BK536;obtain ⟨NB537_538,NB538_537,BK537⟩:=sX hg hb BK537;clear hb hbox hg))
  replace BK536:=aZ (blk_drew BK536.out)
  replace BK537:=aZ (blk_drew BK537.out)
  replace BK538:=aZ (blk_drew BK538.out)
  replace HB:=aZ (below_drew1 HB.out)
  refine start_ (n:=12) (S:=fun w'=>w'.cell? ⟨gb536,0,none⟩=some (.bool a0_0)∧w'.cell? ⟨gb536,1,none⟩=some (.slice A0_1 l0_1.length c0_1)∧w'.cell? ⟨gb536,2,none⟩=some (.slice A0_2 l0_2.length c0_2)∧w'.cell? ⟨gb537,0,none⟩=some (.bool a1_0)∧w'.cell? ⟨gb537,1,none⟩=some (.slice A1_1 l1_1.length c1_1)∧w'.cell? ⟨gb537,2,none⟩=some (.slice A1_2 l1_2.length c1_2)) (ds:=[]) #[false,false,false,false,false,false,false,false,false,false,false,false] (by kernel_rfl) rfl rfl ⟨zh BK536 0,zh BK536 1,zh BK536 2,zh BK537 0,zh BK537 1,zh BK537 2⟩ (fun hHeld=>?_);refine with_tabW Y6.tab1 Y6.bits1 (fun HT_ HW_=>?_)
  generalize w41.drew=w42 at BK536 BK537 BK538 HB hHeld ⊢
  refine pu 0 (some 8) HT_ ?_
  refine pu 2 (some 10) HT_ ?_
  refine pu 5 (some 13) HT_ ?_
  refine pu 7 (some 15) HT_ ?_
  refine tk 1 (some 9) HT_ HW_ hHeld ?_
  refine tk 3 (some 11) HT_ HW_ hHeld ?_
  refine tk 6 (some 14) HT_ HW_ hHeld ?_
  refine tk 8 (some 16) HT_ HW_ hHeld ?_
  refine one_ (i:=4) (N:=some 12) #[true,true,true,true,true,true,true,true,true,false,false,false] rfl rfl (one_of HT_.out (by kernel_rfl)) (by decide) (fun K hK=>?_)
  refine goes_ func112 (by kernel_rfl) rfl #[.slice A0_1 l0_1.length c0_1,.slice A1_2 l1_2.length c1_2] (by rfl) rfl rfl zm ?_
  with_reducible refine (Y3.calls k _ _ l0_1 _ _ l1_2 t539 _ (zC (Kd.C_below HR0_1.out HB.out)) HC0_1.out (zC (Kd.C_below HR1_2.out HB.out)) HC1_2.out A3.out).mono ?_
  rintro e w43 ⟨v540,rfl,ho0,hb⟩
  refine ⟨_,rfl,?_⟩
  have HO541:=yL (fun k_=>(w.heap.size≤k_)∧k_≠gb536∧k_≠gb537∧k_≠gb538) ho0 (fun k_ hk_=>⟨(Nat.le_trans bs hk_),(zf BK536 hk_),(zf BK537 hk_),(zf BK538 hk_)⟩)
  replace BK536:=sK BK536 hb
  replace BK537:=sK BK537 hb
  replace BK538:=sK BK538 hb
  replace HB:=sB hb
  clear hb ho0
  refine hK.out _ _ ⟨zh BK536 0,zh BK536 1,zh BK536 2,zh BK537 0,zh BK537 1,zh BK537 2⟩ (fun hHeld=>?_)
  clear hK K
  refine nm ?_
  refine one_ (i:=9) (N:=some 17) #[true,true,true,true,true,true,true,true,true,true,false,false] rfl rfl (one_of HT_.out (by kernel_rfl)) (by decide) (fun K hK=>?_)
  refine goes_ func112 (by kernel_rfl) rfl #[.slice A1_1 l1_1.length c1_1,.slice A0_2 l0_2.length c0_2] (by rfl) rfl rfl zm ?_
  with_reducible refine (Y3.calls k _ _ l1_1 _ _ l0_2 t542 _ (zC (Kd.C_below HR1_1.out HB.out)) HC1_1.out (zC (Kd.C_below HR0_2.out HB.out)) HC0_2.out A4.out).mono ?_
  rintro e w44 ⟨v543,rfl,ho0,hb⟩
  refine ⟨_,rfl,?_⟩
  replace HO541:=yV HO541 hb
  have HO544:=yL (fun k_=>(w.heap.size≤k_)∧k_≠gb536∧k_≠gb537∧k_≠gb538) ho0 (fun k_ hk_=>⟨(Nat.le_trans bs hk_),(zf BK536 hk_),(zf BK537 hk_),(zf BK538 hk_)⟩)
  replace BK536:=sK BK536 hb
  replace BK537:=sK BK537 hb
  replace BK538:=sK BK538 hb
  replace HB:=sB hb
  clear hb ho0
  refine hK.out _ _ ⟨zh BK536 0,zh BK536 1,zh BK536 2,zh BK537 0,zh BK537 1,zh BK537 2⟩ (fun hHeld=>?_)
  clear hK K
  refine nm ?_
  refine pu 10 (some 5) HT_ ?_
  refine pu 11 (some 6) HT_ ?_
  refine done_ (done_of HT_.out (by kernel_rfl)) ?_
  have hnb45:=NB536_537.out
  have hnc45:=NB537_536.out
  have hnb46:=NB536_538.out
  have hnc46:=NB538_536.out
  obtain ⟨hcz47_0,hfz47_0⟩:=zc BK536 0 (.bool a0_0) rfl
  obtain ⟨hcz47_1,hfz47_1⟩:=zc BK536 1 (.slice A0_1 l0_1.length c0_1) rfl
  obtain ⟨hcz47_2,hfz47_2⟩:=zc BK536 2 (.slice A0_2 l0_2.length c0_2) rfl
  have hnb48:=NB537_538.out
  have hnc48:=NB538_537.out
  obtain ⟨hcz49_0,hfz49_0⟩:=zc BK537 0 (.bool a1_0) rfl
  obtain ⟨hcz49_1,hfz49_1⟩:=zc BK537 1 (.slice A1_1 l1_1.length c1_1) rfl
  obtain ⟨hcz49_2,hfz49_2⟩:=zc BK537 2 (.slice A1_2 l1_2.length c1_2) rfl
  try go_wp2_with (first|(refine zg (some 22) func112 #[.slice A0_2 l0_2.length c0_2,.slice A1_2 l1_2.length c1_2] ?_;(with_reducible refine (Y3.calls k _ _ l0_2 _ _ l1_2 t545 _ (zC (Kd.C_below HR0_2.out HB.out)) HC0_2.out (zC (Kd.C_below HR1_2.out HB.out)) HC1_2.out A5.out).mono ?_);rintro e w50 ⟨v546,rfl,ho0,hb⟩;refine ⟨_,rfl,?_⟩;replace HO541:=yV HO541 hb;replace HO544:=yV HO544 hb;have HO547:=yL (fun k_=>(w.heap.size≤k_)∧k_≠gb536∧k_≠gb537∧k_≠gb538) ho0 (fun k_ hk_=>⟨(Nat.le_trans bs hk_),(zf BK536 hk_),(zf BK537 hk_),(zf BK538 hk_)⟩);replace BK536:=sK BK536 hb;replace BK537:=sK BK537 hb;replace BK538:=sK BK538 hb;replace HB:=sB hb;clear hb ho0;obtain ⟨hcz51_0,hfz51_0⟩:=zc BK536 0 (.bool a0_0) rfl;obtain ⟨hcz51_1,hfz51_1⟩:=zc BK536 1 (.slice A0_1 l0_1.length c0_1) rfl;obtain ⟨hcz51_2,hfz51_2⟩:=zc BK536 2 (.slice A0_2 l0_2.length c0_2) rfl;obtain ⟨hcz52_0,hfz52_0⟩:=zc BK537 0 (.bool a1_0) rfl;obtain ⟨hcz52_1,hfz52_1⟩:=zc BK537 1 (.slice A1_1 l1_1.length c1_1) rfl;obtain ⟨hcz52_2,hfz52_2⟩:=zc BK537 2 (.slice A1_2 l1_2.length c1_2) rfl;obtain ⟨Ao53,co53,rfl⟩:=Kd.V_slice HO541.out;obtain ⟨Ao54,co54,rfl⟩:=Kd.V_slice HO544.out)|(refine zg (some 39) func120 #[.slice Ao53 t539.length co53,.slice Ao54 t542.length co54] ?_;(with_reducible refine (Y9.calls k _ _ t539 _ _ t542 t558 _ (zC (Kd.V_reads' HO541.out).2.2) ((Kd.V_reads' HO541.out).2.1) (zC (Kd.V_reads' HO544.out).2.2) ((Kd.V_reads' HO544.out).2.1) A35.out).mono ?_);rintro e w' ⟨rfl,⟨nd,rfl⟩⟩;refine ⟨_,rfl,?_⟩;(try (rw [drewN_self w50];generalize hq_:World.drewN w50 _=w50;have n0_:Aside0 (Kd.V (Kd.int .i64) 3 w50 w.heap.size (fun k_=>(w.heap.size≤k_)∧k_≠gb536∧k_≠gb537∧k_≠gb538) (.slice Ao53 t539.length co53) t539):=⟨by rw [← hq_];exact (zV HO541)⟩;have n1_:Aside0 (Kd.V (Kd.int .i64) 3 w50 w.heap.size (fun k_=>(w.heap.size≤k_)∧k_≠gb536∧k_≠gb537∧k_≠gb538) (.slice Ao54 t542.length co54) t542):=⟨by rw [← hq_];exact (zV HO544)⟩;have n2_:Aside0 (Kd.V (Kd.int .i64) 3 w50 w.heap.size (fun k_=>(w.heap.size≤k_)∧k_≠gb536∧k_≠gb537∧k_≠gb538) v546 t545):=⟨by rw [← hq_];exact (zV HO547)⟩;have n3_:Aside0 (w50.heap[gb536]? = some (.cells #[.bool a0_0,.slice A0_1 l0_1.length c0_1,.slice A0_2 l0_2.length c0_2] 67 (0,0))):=⟨by rw [← hq_];exact (zb BK536)⟩;have n4_:Aside0 (w50.heap[gb537]? = some (.cells #[.bool a1_0,.slice A1_1 l1_1.length c1_1,.slice A1_2 l1_2.length c1_2] 67 (0,0))):=⟨by rw [← hq_];exact (zb BK537)⟩;have n5_:Aside0 (w50.heap[gb538]? = some (.cells #[.bool false,.slice none 0 0,.slice none 0 0] 67 (0,0))):=⟨by rw [← hq_];exact (zb BK538)⟩;have n6_:Aside0 (Below w.heap.size w w50):=⟨by rw [← hq_];exact bw⟩;clear HO541 HO544 HO547 BK536 BK537 BK538 HB hq_;have HO541:=n0_;have HO544:=n1_;have HO547:=n2_;have BK536:=n3_;have BK537:=n4_;have BK538:=n5_;have HB:=n6_;clear n0_ n1_ n2_ n3_ n4_ n5_ n6_))))
  replace HO541:=aZ (Kd.V_drew HO541.out)
  replace HO544:=aZ (Kd.V_drew HO544.out)
  replace HO547:=aZ (Kd.V_drew HO547.out)
  replace BK536:=aZ (blk_drew BK536.out)
  replace BK537:=aZ (blk_drew BK537.out)
  replace BK538:=aZ (blk_drew BK538.out)
  replace HB:=aZ (below_drew1 HB.out)
  refine start_ (n:=8) (S:=fun w'=>w'.cell? ⟨gb536,0,none⟩=some (.bool a0_0)∧w'.cell? ⟨gb536,1,none⟩=some (.slice A0_1 l0_1.length c0_1)∧w'.cell? ⟨gb536,2,none⟩=some (.slice A0_2 l0_2.length c0_2)) (ds:=[]) #[false,false,false,false,false,false,false,false] (by kernel_rfl) rfl rfl ⟨zh BK536 0,zh BK536 1,zh BK536 2⟩ (fun hHeld=>?_);refine with_tabW Y6.tab6 Y6.bits6 (fun HT_ HW_=>?_)
  generalize w50.drew=w55 at HO541 HO544 HO547 BK536 BK537 BK538 HB hHeld ⊢
  refine pu 0 (some 41) HT_ ?_
  refine pu 2 (some 43) HT_ ?_
  refine pu 3 (some 44) HT_ ?_
  refine pu 5 (some 46) HT_ ?_
  refine tk 1 (some 42) HT_ HW_ hHeld ?_
  refine one_ (i:=4) (N:=some 45) #[true,true,true,true,true,true,false,false] rfl rfl (one_of HT_.out (by kernel_rfl)) (by decide) (fun K hK=>?_)
  refine goes_ func119 (by kernel_rfl) rfl #[.slice Ao53 t539.length co53,.slice Ao54 t542.length co54,.int .i64 (-1)] (by rfl) rfl rfl zm ?_
  with_reducible refine (Ya.calls k _ _ t539 _ _ t542 (-1) t559 _ (zC (Kd.V_reads' HO541.out).2.2) ((Kd.V_reads' HO541.out).2.1) (zC (Kd.V_reads' HO544.out).2.2) ((Kd.V_reads' HO544.out).2.1) A37.out).mono ?_
  rintro e w56 ⟨v560,rfl,ho0,hb⟩
  refine ⟨_,rfl,?_⟩
  replace HO541:=yV HO541 hb
  replace HO544:=yV HO544 hb
  replace HO547:=yV HO547 hb
  have HO561:=yL (fun k_=>(w.heap.size≤k_)∧k_≠gb536∧k_≠gb537∧k_≠gb538) ho0 (fun k_ hk_=>⟨(Nat.le_trans bs hk_),(zf BK536 hk_),(zf BK537 hk_),(zf BK538 hk_)⟩)
  replace BK536:=sK BK536 hb
  replace BK537:=sK BK537 hb
  replace BK538:=sK BK538 hb
  replace HB:=sB hb
  clear hb ho0
  obtain ⟨Ao57,co57,eo57⟩:=Kd.V_slice HO561.out
  (first|subst eo57|(injection eo57 with f1_ f2_ f3_;have f4_:=f1_.symm;have f5_:=f3_.symm;clear f1_ f2_ f3_;subst f4_;subst f5_))
  obtain ⟨Ao58,co58,eo58⟩:=Kd.V_slice HO547.out
  (first|subst eo58|(injection eo58 with f1_ f2_ f3_;have f4_:=f1_.symm;have f5_:=f3_.symm;clear f1_ f2_ f3_;subst f4_;subst f5_))
  refine hK.out _ _ ⟨zh BK536 0,zh BK536 1,zh BK536 2⟩ (fun hHeld=>?_)
  clear hK K
  refine nm ?_
  refine one_ (i:=6) (N:=some 47) #[true,true,true,true,true,true,true,false] rfl rfl (one_of HT_.out (by kernel_rfl)) (by decide) (fun K hK=>?_)
  refine goes_ func101 (by kernel_rfl) rfl #[.bool a0_0,.slice Ao57 t559.length co57,.slice Ao58 t545.length co58] (by rfl) rfl rfl zm ?_
  with_reducible refine (Yz.calls k a0_0 (fun k_=>((w.heap.size≤k_)∧(k_≠gb536∧(k_≠gb537∧k_≠gb538)))) _ _ t559 (fun k_=>((w.heap.size≤k_)∧(k_≠gb536∧(k_≠gb537∧k_≠gb538)))) _ _ t545 t562 t563 t566 _ HO561.out HO547.out A38.out).mono ?_
  rintro e w59 ⟨v564,v567,rfl,ho0,ho1,hb⟩
  refine ⟨_,rfl,?_⟩
  replace HO541:=yV HO541 hb
  replace HO544:=yV HO544 hb
  replace HO547:=yV HO547 hb
  replace HO561:=yV HO561 hb
  have HO565:=yL (fun k_=>(w.heap.size≤k_)∧k_≠gb536∧k_≠gb537∧k_≠gb538) ho0 (fun k_ hk_=>⟨Or.elim hk_ (fun hs_=>Or.elim hs_ (fun hs_=>hs_.1) (fun hs_=>hs_.1)) (fun hn_=>(Nat.le_trans bs hn_)),Or.elim hk_ (fun hs_=>Or.elim hs_ (fun hs_=>hs_.2.1) (fun hs_=>hs_.2.1)) (fun hn_=>(zf BK536 hn_)),Or.elim hk_ (fun hs_=>Or.elim hs_ (fun hs_=>hs_.2.2.1) (fun hs_=>hs_.2.2.1)) (fun hn_=>(zf BK537 hn_)),Or.elim hk_ (fun hs_=>Or.elim hs_ (fun hs_=>hs_.2.2.2) (fun hs_=>hs_.2.2.2)) (fun hn_=>(zf BK538 hn_))⟩)
  have HO568:=yL (fun k_=>(w.heap.size≤k_)∧k_≠gb536∧k_≠gb537∧k_≠gb538) ho1 (fun k_ hk_=>⟨Or.elim hk_ (fun hs_=>Or.elim hs_ (fun hs_=>hs_.1) (fun hs_=>hs_.1)) (fun hn_=>(Nat.le_trans bs hn_)),Or.elim hk_ (fun hs_=>Or.elim hs_ (fun hs_=>hs_.2.1) (fun hs_=>hs_.2.1)) (fun hn_=>(zf BK536 hn_)),Or.elim hk_ (fun hs_=>Or.elim hs_ (fun hs_=>hs_.2.2.1) (fun hs_=>hs_.2.2.1)) (fun hn_=>(zf BK537 hn_)),Or.elim hk_ (fun hs_=>Or.elim hs_ (fun hs_=>hs_.2.2.2) (fun hs_=>hs_.2.2.2)) (fun hn_=>(zf BK538 hn_))⟩)
  replace BK536:=sK BK536 hb
  replace BK537:=sK BK537 hb
  replace BK538:=sK BK538 hb
  replace HB:=sB hb
  clear hb ho0 ho1
  obtain ⟨Ao61,co61,eo61⟩:=Kd.V_slice HO565.out
  (first|subst eo61|(injection eo61 with f1_ f2_ f3_;have f4_:=f1_.symm;have f5_:=f3_.symm;clear f1_ f2_ f3_;subst f4_;subst f5_))
  obtain ⟨Ao63,co63,eo63⟩:=Kd.V_slice HO568.out
  (first|subst eo63|(injection eo63 with f1_ f2_ f3_;have f4_:=f1_.symm;have f5_:=f3_.symm;clear f1_ f2_ f3_;subst f4_;subst f5_))
  refine hK.out _ _ ⟨zh BK536 0,zh BK536 1,zh BK536 2⟩ (fun hHeld=>?_)
  clear hK K
  refine nm ?_
  refine one_ (i:=7) (N:=none) #[true,true,true,true,true,true,true,true] rfl rfl (one_of HT_.out (by kernel_rfl)) (by decide) (fun K hK=>?_)
  have hs60:w59.cell? ⟨gb538,0,none⟩=some (.bool false):=(blk_cell BK538.out 0).trans rfl
  have hfs60:=blk_frozen BK538.out 0
  have hns60_0:=NB536_538.out
  have hns60_1:=NB537_538.out
  have hms60_0:=NB538_536.out
  have hms60_1:=NB538_537.out
  have hs62:w59.cell? ⟨gb538,1,none⟩=some (.slice none 0 0):=(blk_cell BK538.out 1).trans rfl
  have hfs62:=blk_frozen BK538.out 1
  have hns62_0:=NB536_538.out
  have hns62_1:=NB537_538.out
  have hms62_0:=NB538_536.out
  have hms62_1:=NB538_537.out
  have hs64:w59.cell? ⟨gb538,2,none⟩=some (.slice none 0 0):=(blk_cell BK538.out 2).trans rfl
  have hfs64:=blk_frozen BK538.out 2
  have hns64_0:=NB536_538.out
  have hns64_1:=NB537_538.out
  have hms64_0:=NB538_536.out
  have hms64_1:=NB538_537.out
  refine skip_ (w1:=?_) (by rfl) rfl ?_ ?_
  rotate_left
  ·go_simp
   rfl
  refine hK.out _ _ ⟨((cell_far (p:=⟨gb538,_,none⟩) NB536_538.out _).trans (((cell_far (p:=⟨gb538,_,none⟩) NB536_538.out _).trans (((cell_far (p:=⟨gb538,_,none⟩) NB536_538.out _).trans (hHeld.1)))))),((cell_far (p:=⟨gb538,_,none⟩) NB536_538.out _).trans (((cell_far (p:=⟨gb538,_,none⟩) NB536_538.out _).trans (((cell_far (p:=⟨gb538,_,none⟩) NB536_538.out _).trans (hHeld.2.1)))))),((cell_far (p:=⟨gb538,_,none⟩) NB536_538.out _).trans (((cell_far (p:=⟨gb538,_,none⟩) NB536_538.out _).trans (((cell_far (p:=⟨gb538,_,none⟩) NB536_538.out _).trans (hHeld.2.2))))))⟩ (fun hHeld=>?_)
  clear hK K
  refine done_ (done_of HT_.out (by kernel_rfl)) ?_
  try go_wp2
  refine bodyPost_ret (results_cell_row rfl _ _ gb538 67 #[.bool t562,.slice Ao61 t563.length co61,.slice Ao63 t566.length co63] (0,0) _ rfl (zp BK538) underlying67 rfl (by kernel_rfl)) rfl ?_
  exact ⟨_,_,ze,zF HO565,zF HO568,bw⟩
 rw [if_pos c6] at H
 have c6b0:(a0_0==a1_0)=true:=c6
 (try (have c6b1:decide (a0_0=a1_0)=true:=by simpa using c6))
 (try (have c6b2:(a0_0==a1_0)=true:=by simpa using c6))
 clear c6
 obtain ⟨t548,A7,H⟩:=zB H
 obtain ⟨⟨t551,t552,t555⟩,A8,H⟩:=zB H
 (try dsimp only at H)
 obtain ⟨rfl,rfl,rfl⟩:=zo3 H
 go_enter func68,ntmps68
 try go_wp2_with (first|(refine box_ev 2 #[.bool a0_0,.slice A0_1 l0_1.length c0_1,.slice A0_2 l0_2.length c0_2] 67 ?_;intro gb536 hg w9 hbox hb;have BK536:=aZ hbox;have GE536:=sG hg;replace HB:=sB hb;clear hb hbox hg)|(refine box_ev 3 #[.bool a1_0,.slice A1_1 l1_1.length c1_1,.slice A1_2 l1_2.length c1_2] 67 ?_;intro gb537 hg w10 hbox hb;have BK537:=aZ hbox;have GE537:=sG hg;replace HB:=sB hb;obtain ⟨NB536_537,NB537_536,BK536⟩:=sX hg hb BK536;clear hb hbox hg)|(refine box_ev 4 #[.bool false,.slice none 0 0,.slice none 0 0] 67 ?_;intro gb538 hg w11 hbox hb;have BK538:=aZ hbox;have GE538:=sG hg;replace HB:=sB hb;obtain ⟨NB536_538,NB538_536,BK536⟩:=sX hg hb BK536;obtain ⟨NB537_538,NB538_537,BK537⟩:=sX hg hb BK537;clear hb hbox hg))
 replace BK536:=aZ (blk_drew BK536.out)
 replace BK537:=aZ (blk_drew BK537.out)
 replace BK538:=aZ (blk_drew BK538.out)
 replace HB:=aZ (below_drew1 HB.out)
 refine start_ (n:=12) (S:=fun w'=>w'.cell? ⟨gb536,0,none⟩=some (.bool a0_0)∧w'.cell? ⟨gb536,1,none⟩=some (.slice A0_1 l0_1.length c0_1)∧w'.cell? ⟨gb536,2,none⟩=some (.slice A0_2 l0_2.length c0_2)∧w'.cell? ⟨gb537,0,none⟩=some (.bool a1_0)∧w'.cell? ⟨gb537,1,none⟩=some (.slice A1_1 l1_1.length c1_1)∧w'.cell? ⟨gb537,2,none⟩=some (.slice A1_2 l1_2.length c1_2)) (ds:=[]) #[false,false,false,false,false,false,false,false,false,false,false,false] (by kernel_rfl) rfl rfl ⟨zh BK536 0,zh BK536 1,zh BK536 2,zh BK537 0,zh BK537 1,zh BK537 2⟩ (fun hHeld=>?_);refine with_tabW Y6.tab1 Y6.bits1 (fun HT_ HW_=>?_)
 generalize w11.drew=w12 at BK536 BK537 BK538 HB hHeld ⊢
 refine pu 0 (some 8) HT_ ?_
 refine pu 2 (some 10) HT_ ?_
 refine pu 5 (some 13) HT_ ?_
 refine pu 7 (some 15) HT_ ?_
 refine tk 1 (some 9) HT_ HW_ hHeld ?_
 refine tk 3 (some 11) HT_ HW_ hHeld ?_
 refine tk 6 (some 14) HT_ HW_ hHeld ?_
 refine tk 8 (some 16) HT_ HW_ hHeld ?_
 refine one_ (i:=4) (N:=some 12) #[true,true,true,true,true,true,true,true,true,false,false,false] rfl rfl (one_of HT_.out (by kernel_rfl)) (by decide) (fun K hK=>?_)
 refine goes_ func112 (by kernel_rfl) rfl #[.slice A0_1 l0_1.length c0_1,.slice A1_2 l1_2.length c1_2] (by rfl) rfl rfl zm ?_
 with_reducible refine (Y3.calls k _ _ l0_1 _ _ l1_2 t539 _ (zC (Kd.C_below HR0_1.out HB.out)) HC0_1.out (zC (Kd.C_below HR1_2.out HB.out)) HC1_2.out A3.out).mono ?_
 rintro e w13 ⟨v540,rfl,ho0,hb⟩
 refine ⟨_,rfl,?_⟩
 have HO541:=yL (fun k_=>(w.heap.size≤k_)∧k_≠gb536∧k_≠gb537∧k_≠gb538) ho0 (fun k_ hk_=>⟨(Nat.le_trans bs hk_),(zf BK536 hk_),(zf BK537 hk_),(zf BK538 hk_)⟩)
 replace BK536:=sK BK536 hb
 replace BK537:=sK BK537 hb
 replace BK538:=sK BK538 hb
 replace HB:=sB hb
 clear hb ho0
 refine hK.out _ _ ⟨zh BK536 0,zh BK536 1,zh BK536 2,zh BK537 0,zh BK537 1,zh BK537 2⟩ (fun hHeld=>?_)
 clear hK K
 refine nm ?_
 refine one_ (i:=9) (N:=some 17) #[true,true,true,true,true,true,true,true,true,true,false,false] rfl rfl (one_of HT_.out (by kernel_rfl)) (by decide) (fun K hK=>?_)
 refine goes_ func112 (by kernel_rfl) rfl #[.slice A1_1 l1_1.length c1_1,.slice A0_2 l0_2.length c0_2] (by rfl) rfl rfl zm ?_
 with_reducible refine (Y3.calls k _ _ l1_1 _ _ l0_2 t542 _ (zC (Kd.C_below HR1_1.out HB.out)) HC1_1.out (zC (Kd.C_below HR0_2.out HB.out)) HC0_2.out A4.out).mono ?_
 rintro e w14 ⟨v543,rfl,ho0,hb⟩
 refine ⟨_,rfl,?_⟩
 replace HO541:=yV HO541 hb
 have HO544:=yL (fun k_=>(w.heap.size≤k_)∧k_≠gb536∧k_≠gb537∧k_≠gb538) ho0 (fun k_ hk_=>⟨(Nat.le_trans bs hk_),(zf BK536 hk_),(zf BK537 hk_),(zf BK538 hk_)⟩)
 replace BK536:=sK BK536 hb
 replace BK537:=sK BK537 hb
 replace BK538:=sK BK538 hb
 replace HB:=sB hb
 clear hb ho0
 refine hK.out _ _ ⟨zh BK536 0,zh BK536 1,zh BK536 2,zh BK537 0,zh BK537 1,zh BK537 2⟩ (fun hHeld=>?_)
 clear hK K
 refine nm ?_
 refine pu 10 (some 5) HT_ ?_
 refine pu 11 (some 6) HT_ ?_
 refine done_ (done_of HT_.out (by kernel_rfl)) ?_
 have hnb15:=NB536_537.out
 have hnc15:=NB537_536.out
 have hnb16:=NB536_538.out
 have hnc16:=NB538_536.out
 obtain ⟨hcz17_0,hfz17_0⟩:=zc BK536 0 (.bool a0_0) rfl
 obtain ⟨hcz17_1,hfz17_1⟩:=zc BK536 1 (.slice A0_1 l0_1.length c0_1) rfl
 obtain ⟨hcz17_2,hfz17_2⟩:=zc BK536 2 (.slice A0_2 l0_2.length c0_2) rfl
 have hnb18:=NB537_538.out
 have hnc18:=NB538_537.out
 obtain ⟨hcz19_0,hfz19_0⟩:=zc BK537 0 (.bool a1_0) rfl
 obtain ⟨hcz19_1,hfz19_1⟩:=zc BK537 1 (.slice A1_1 l1_1.length c1_1) rfl
 obtain ⟨hcz19_2,hfz19_2⟩:=zc BK537 2 (.slice A1_2 l1_2.length c1_2) rfl
 try go_wp2_with (first|(refine zg (some 22) func112 #[.slice A0_2 l0_2.length c0_2,.slice A1_2 l1_2.length c1_2] ?_;(with_reducible refine (Y3.calls k _ _ l0_2 _ _ l1_2 t545 _ (zC (Kd.C_below HR0_2.out HB.out)) HC0_2.out (zC (Kd.C_below HR1_2.out HB.out)) HC1_2.out A5.out).mono ?_);rintro e w20 ⟨v546,rfl,ho0,hb⟩;refine ⟨_,rfl,?_⟩;replace HO541:=yV HO541 hb;replace HO544:=yV HO544 hb;have HO547:=yL (fun k_=>(w.heap.size≤k_)∧k_≠gb536∧k_≠gb537∧k_≠gb538) ho0 (fun k_ hk_=>⟨(Nat.le_trans bs hk_),(zf BK536 hk_),(zf BK537 hk_),(zf BK538 hk_)⟩);replace BK536:=sK BK536 hb;replace BK537:=sK BK537 hb;replace BK538:=sK BK538 hb;replace HB:=sB hb;clear hb ho0;obtain ⟨hcz21_0,hfz21_0⟩:=zc BK536 0 (.bool a0_0) rfl;obtain ⟨hcz21_1,hfz21_1⟩:=zc BK536 1 (.slice A0_1 l0_1.length c0_1) rfl;obtain ⟨hcz21_2,hfz21_2⟩:=zc BK536 2 (.slice A0_2 l0_2.length c0_2) rfl;obtain ⟨hcz22_0,hfz22_0⟩:=zc BK537 0 (.bool a1_0) rfl;obtain ⟨hcz22_1,hfz22_1⟩:=zc BK537 1 (.slice A1_1 l1_1.length c1_1) rfl;obtain ⟨hcz22_2,hfz22_2⟩:=zc BK537 2 (.slice A1_2 l1_2.length c1_2) rfl))
 replace HO541:=aZ (Kd.V_drew HO541.out)
 replace HO544:=aZ (Kd.V_drew HO544.out)
 replace HO547:=aZ (Kd.V_drew HO547.out)
 replace BK536:=aZ (blk_drew BK536.out)
 replace BK537:=aZ (blk_drew BK537.out)
 replace BK538:=aZ (blk_drew BK538.out)
 replace HB:=aZ (below_drew1 HB.out)
 obtain ⟨Ao24,co24,eo24⟩:=Kd.V_slice HO541.out
 (first|subst eo24|(injection eo24 with f1_ f2_ f3_;have f4_:=f1_.symm;have f5_:=f3_.symm;clear f1_ f2_ f3_;subst f4_;subst f5_))
 obtain ⟨Ao25,co25,eo25⟩:=Kd.V_slice HO544.out
 (first|subst eo25|(injection eo25 with f1_ f2_ f3_;have f4_:=f1_.symm;have f5_:=f3_.symm;clear f1_ f2_ f3_;subst f4_;subst f5_))
 refine start_ (n:=8) (S:=fun w'=>w'.cell? ⟨gb536,0,none⟩=some (.bool a0_0)∧w'.cell? ⟨gb536,1,none⟩=some (.slice A0_1 l0_1.length c0_1)∧w'.cell? ⟨gb536,2,none⟩=some (.slice A0_2 l0_2.length c0_2)) (ds:=[]) #[false,false,false,false,false,false,false,false] (by kernel_rfl) rfl rfl ⟨zh BK536 0,zh BK536 1,zh BK536 2⟩ (fun hHeld=>?_);refine with_tabW Y6.tab4 Y6.bits4 (fun HT_ HW_=>?_)
 generalize w20.drew=w23 at HO541 HO544 HO547 BK536 BK537 BK538 HB hHeld ⊢
 refine pu 0 (some 29) HT_ ?_
 refine pu 2 (some 31) HT_ ?_
 refine pu 3 (some 32) HT_ ?_
 refine pu 5 (some 34) HT_ ?_
 refine tk 1 (some 30) HT_ HW_ hHeld ?_
 refine one_ (i:=4) (N:=some 33) #[true,true,true,true,true,true,false,false] rfl rfl (one_of HT_.out (by kernel_rfl)) (by decide) (fun K hK=>?_)
 refine goes_ func119 (by kernel_rfl) rfl #[.slice Ao24 t539.length co24,.slice Ao25 t542.length co25,.int .i64 1] (by rfl) rfl rfl zm ?_
 with_reducible refine (Ya.calls k _ _ t539 _ _ t542 1 t548 _ (zC (Kd.V_reads' HO541.out).2.2) ((Kd.V_reads' HO541.out).2.1) (zC (Kd.V_reads' HO544.out).2.2) ((Kd.V_reads' HO544.out).2.1) A7.out).mono ?_
 rintro e w26 ⟨v549,rfl,ho0,hb⟩
 refine ⟨_,rfl,?_⟩
 replace HO541:=yV HO541 hb
 replace HO544:=yV HO544 hb
 replace HO547:=yV HO547 hb
 have HO550:=yL (fun k_=>(w.heap.size≤k_)∧k_≠gb536∧k_≠gb537∧k_≠gb538) ho0 (fun k_ hk_=>⟨(Nat.le_trans bs hk_),(zf BK536 hk_),(zf BK537 hk_),(zf BK538 hk_)⟩)
 replace BK536:=sK BK536 hb
 replace BK537:=sK BK537 hb
 replace BK538:=sK BK538 hb
 replace HB:=sB hb
 clear hb ho0
 obtain ⟨Ao27,co27,eo27⟩:=Kd.V_slice HO550.out
 (first|subst eo27|(injection eo27 with f1_ f2_ f3_;have f4_:=f1_.symm;have f5_:=f3_.symm;clear f1_ f2_ f3_;subst f4_;subst f5_))
 obtain ⟨Ao28,co28,eo28⟩:=Kd.V_slice HO547.out
 (first|subst eo28|(injection eo28 with f1_ f2_ f3_;have f4_:=f1_.symm;have f5_:=f3_.symm;clear f1_ f2_ f3_;subst f4_;subst f5_))
 refine hK.out _ _ ⟨zh BK536 0,zh BK536 1,zh BK536 2⟩ (fun hHeld=>?_)
 clear hK K
 refine nm ?_
 refine one_ (i:=6) (N:=some 35) #[true,true,true,true,true,true,true,false] rfl rfl (one_of HT_.out (by kernel_rfl)) (by decide) (fun K hK=>?_)
 refine goes_ func101 (by kernel_rfl) rfl #[.bool a0_0,.slice Ao27 t548.length co27,.slice Ao28 t545.length co28] (by rfl) rfl rfl zm ?_
 with_reducible refine (Yz.calls k a0_0 (fun k_=>((w.heap.size≤k_)∧(k_≠gb536∧(k_≠gb537∧k_≠gb538)))) _ _ t548 (fun k_=>((w.heap.size≤k_)∧(k_≠gb536∧(k_≠gb537∧k_≠gb538)))) _ _ t545 t551 t552 t555 _ HO550.out HO547.out A8.out).mono ?_
 rintro e w29 ⟨v553,v556,rfl,ho0,ho1,hb⟩
 refine ⟨_,rfl,?_⟩
 replace HO541:=yV HO541 hb
 replace HO544:=yV HO544 hb
 replace HO547:=yV HO547 hb
 replace HO550:=yV HO550 hb
 have HO554:=yL (fun k_=>(w.heap.size≤k_)∧k_≠gb536∧k_≠gb537∧k_≠gb538) ho0 (fun k_ hk_=>⟨Or.elim hk_ (fun hs_=>Or.elim hs_ (fun hs_=>hs_.1) (fun hs_=>hs_.1)) (fun hn_=>(Nat.le_trans bs hn_)),Or.elim hk_ (fun hs_=>Or.elim hs_ (fun hs_=>hs_.2.1) (fun hs_=>hs_.2.1)) (fun hn_=>(zf BK536 hn_)),Or.elim hk_ (fun hs_=>Or.elim hs_ (fun hs_=>hs_.2.2.1) (fun hs_=>hs_.2.2.1)) (fun hn_=>(zf BK537 hn_)),Or.elim hk_ (fun hs_=>Or.elim hs_ (fun hs_=>hs_.2.2.2) (fun hs_=>hs_.2.2.2)) (fun hn_=>(zf BK538 hn_))⟩)
 have HO557:=yL (fun k_=>(w.heap.size≤k_)∧k_≠gb536∧k_≠gb537∧k_≠gb538) ho1 (fun k_ hk_=>⟨Or.elim hk_ (fun hs_=>Or.elim hs_ (fun hs_=>hs_.1) (fun hs_=>hs_.1)) (fun hn_=>(Nat.le_trans bs hn_)),Or.elim hk_ (fun hs_=>Or.elim hs_ (fun hs_=>hs_.2.1) (fun hs_=>hs_.2.1)) (fun hn_=>(zf BK536 hn_)),Or.elim hk_ (fun hs_=>Or.elim hs_ (fun hs_=>hs_.2.2.1) (fun hs_=>hs_.2.2.1)) (fun hn_=>(zf BK537 hn_)),Or.elim hk_ (fun hs_=>Or.elim hs_ (fun hs_=>hs_.2.2.2) (fun hs_=>hs_.2.2.2)) (fun hn_=>(zf BK538 hn_))⟩)
 replace BK536:=sK BK536 hb
 replace BK537:=sK BK537 hb
 replace BK538:=sK BK538 hb
 replace HB:=sB hb
 clear hb ho0 ho1
 obtain ⟨Ao31,co31,eo31⟩:=Kd.V_slice HO554.out
 (first|subst eo31|(injection eo31 with f1_ f2_ f3_;have f4_:=f1_.symm;have f5_:=f3_.symm;clear f1_ f2_ f3_;subst f4_;subst f5_))
 obtain ⟨Ao33,co33,eo33⟩:=Kd.V_slice HO557.out
 (first|subst eo33|(injection eo33 with f1_ f2_ f3_;have f4_:=f1_.symm;have f5_:=f3_.symm;clear f1_ f2_ f3_;subst f4_;subst f5_))
 refine hK.out _ _ ⟨zh BK536 0,zh BK536 1,zh BK536 2⟩ (fun hHeld=>?_)
 clear hK K
 refine nm ?_
 refine one_ (i:=7) (N:=none) #[true,true,true,true,true,true,true,true] rfl rfl (one_of HT_.out (by kernel_rfl)) (by decide) (fun K hK=>?_)
 have hs30:w29.cell? ⟨gb538,0,none⟩=some (.bool false):=(blk_cell BK538.out 0).trans rfl
 have hfs30:=blk_frozen BK538.out 0
 have hns30_0:=NB536_538.out
 have hns30_1:=NB537_538.out
 have hms30_0:=NB538_536.out
 have hms30_1:=NB538_537.out
 have hs32:w29.cell? ⟨gb538,1,none⟩=some (.slice none 0 0):=(blk_cell BK538.out 1).trans rfl
 have hfs32:=blk_frozen BK538.out 1
 have hns32_0:=NB536_538.out
 have hns32_1:=NB537_538.out
 have hms32_0:=NB538_536.out
 have hms32_1:=NB538_537.out
 have hs34:w29.cell? ⟨gb538,2,none⟩=some (.slice none 0 0):=(blk_cell BK538.out 2).trans rfl
 have hfs34:=blk_frozen BK538.out 2
 have hns34_0:=NB536_538.out
 have hns34_1:=NB537_538.out
 have hms34_0:=NB538_536.out
 have hms34_1:=NB538_537.out
 refine skip_ (w1:=?_) (by rfl) rfl ?_ ?_
 rotate_left
 ·go_simp
  rfl
 refine hK.out _ _ ⟨((cell_far (p:=⟨gb538,_,none⟩) NB536_538.out _).trans (((cell_far (p:=⟨gb538,_,none⟩) NB536_538.out _).trans (((cell_far (p:=⟨gb538,_,none⟩) NB536_538.out _).trans (hHeld.1)))))),((cell_far (p:=⟨gb538,_,none⟩) NB536_538.out _).trans (((cell_far (p:=⟨gb538,_,none⟩) NB536_538.out _).trans (((cell_far (p:=⟨gb538,_,none⟩) NB536_538.out _).trans (hHeld.2.1)))))),((cell_far (p:=⟨gb538,_,none⟩) NB536_538.out _).trans (((cell_far (p:=⟨gb538,_,none⟩) NB536_538.out _).trans (((cell_far (p:=⟨gb538,_,none⟩) NB536_538.out _).trans (hHeld.2.2))))))⟩ (fun hHeld=>?_)
 clear hK K
 refine done_ (done_of HT_.out (by kernel_rfl)) ?_
 try go_wp2
 refine bodyPost_ret (results_cell_row rfl _ _ gb538 67 #[.bool t551,.slice Ao31 t552.length co31,.slice Ao33 t555.length co33] (0,0) _ rfl (zp BK538) underlying67 rfl (by kernel_rfl)) rfl ?_
 exact ⟨_,_,ze,zF HO554,zF HO557,bw⟩
def Y0f.f (a0_0:Bool) (l0_1:List Int) (l0_2:List Int):Option (Bool×List Int×List Int):=if a0_0=true then (some (false,l0_1,l0_2)) else (some (decide (0<l0_1.length),l0_1,l0_2))
theorem Y0f.calls (a0_0:Bool) (P0_1_:Nat→Prop) (A0_1:Option Addr) (c0_1:Nat) (l0_1:List Int) (P0_2_:Nat→Prop) (A0_2:Option Addr) (c0_2:Nat) (l0_2:List Int) (r1:Bool) (r2:List Int) (r3:List Int) (w:World) (hs0_1:Kd.V (Kd.int .i64) 3 w w.heap.size (fun k_=>P0_1_ k_) (.slice A0_1 l0_1.length c0_1) l0_1) (hs0_2:Kd.V (Kd.int .i64) 3 w w.heap.size (fun k_=>P0_2_ k_) (.slice A0_2 l0_2.length c0_2) l0_2) (h:Y0f.f a0_0 l0_1 l0_2=some (r1,r2,r3)) :
  Calls Tryz.prog 71 #[.agg #[.bool a0_0,.slice A0_1 l0_1.length c0_1,.slice A0_2 l0_2.length c0_2]] w fun e w'=>∃ v1_ v2_:Value,e = .returned (.agg #[.bool r1,v1_,v2_])∧Kd.V (Kd.int .i64) 3 w' w.heap.size (fun k_=>((P0_1_ k_∨P0_2_ k_)∨w.heap.size≤k_)) v1_ r2∧Kd.V (Kd.int .i64) 3 w' w.heap.size (fun k_=>((P0_1_ k_∨P0_2_ k_)∨w.heap.size≤k_)) v2_ r3∧Below w.heap.size w w':=by
 have hu67:=underlying67
 have HO0_1:=aZ (show Kd.V (Kd.int .i64) 3 w w.heap.size (fun k_=>((P0_1_ k_∨P0_2_ k_)∨w.heap.size≤k_)) (.slice A0_1 l0_1.length c0_1) l0_1 from Kd.V_mono hs0_1 (fun k_ hk=>.inl (.inl hk)))
 have HO0_2:=aZ (show Kd.V (Kd.int .i64) 3 w w.heap.size (fun k_=>((P0_1_ k_∨P0_2_ k_)∨w.heap.size≤k_)) (.slice A0_2 l0_2.length c0_2) l0_2 from Kd.V_mono hs0_2 (fun k_ hk=>.inl (.inr hk)))
 have HB:=aZ (Below.refl w.heap.size w)
 have H:=h
 unfold Y0f.f at H
 clear h
 by_cases c2:a0_0=true
 case neg=>
  replace c2:=Bool.eq_false_iff.mpr c2
  subst c2
  replace H:=zU H
  obtain ⟨rfl,rfl,rfl⟩:=zo3 H
  go_enter func71,ntmps71
  go_wp2_with (first|((with_reducible refine gate_dst (N:=1) rfl ?_);(try (refine gate_guard (by rfl) ?_;dsimp only));refine box_ev 1 #[.bool false,.slice A0_1 l0_1.length c0_1,.slice A0_2 l0_2.length c0_2] 67 ?_;intro gb579 hg w8 hbox hb;replace HO0_1:=yE HO0_1 hg hb;replace HO0_2:=yE HO0_2 hg hb;have BK579:=aZ hbox;have GE579:=sG hg;replace HB:=sB hb;clear hb hbox hg)|((with_reducible refine gate_dst (N:=2) rfl ?_);(try (refine gate_guard (by rfl) ?_;dsimp only));refine box_ev 2 #[.bool false,.slice none 0 0,.slice none 0 0] 67 ?_;intro gb580 hg w9 hbox hb;replace HO0_1:=yE HO0_1 hg hb;replace HO0_2:=yE HO0_2 hg hb;have BK580:=aZ hbox;have GE580:=sG hg;replace HB:=sB hb;obtain ⟨NB579_580,NB580_579,BK579⟩:=sX hg hb BK579;clear hb hbox hg;have hnb10:=NB579_580.out;have hnc10:=NB580_579.out;obtain ⟨hcz11_0,hfz11_0⟩:=zc BK579 0 (.bool false) rfl;obtain ⟨hcz11_1,hfz11_1⟩:=zc BK579 1 (.slice A0_1 l0_1.length c0_1) rfl;obtain ⟨hcz11_2,hfz11_2⟩:=zc BK579 2 (.slice A0_2 l0_2.length c0_2) rfl;obtain ⟨hcz12_0,hfz12_0⟩:=zc BK580 0 (.bool false) rfl;obtain ⟨hcz12_1,hfz12_1⟩:=zc BK580 1 (.slice none 0 0) rfl;obtain ⟨hcz12_2,hfz12_2⟩:=zc BK580 2 (.slice none 0 0) rfl))
  refine bodyPost_ret (results_cell_row rfl _ _ gb580 67 #[.bool (decide (0<l0_1.length)),.slice A0_1 l0_1.length c0_1,.slice A0_2 l0_2.length c0_2] (0,0) _ rfl (zp BK580) underlying67 rfl (by kernel_rfl)) rfl ?_
  exact ⟨_,_,ze,zF HO0_1,zF HO0_2,bw⟩
 subst c2
 replace H:=zT H
 obtain ⟨rfl,rfl,rfl⟩:=zo3 H
 go_enter func71,ntmps71
 go_wp2_with (first|((with_reducible refine gate_dst (N:=1) rfl ?_);(try (refine gate_guard (by rfl) ?_;dsimp only));refine box_ev 1 #[.bool true,.slice A0_1 l0_1.length c0_1,.slice A0_2 l0_2.length c0_2] 67 ?_;intro gb579 hg w3 hbox hb;replace HO0_1:=yE HO0_1 hg hb;replace HO0_2:=yE HO0_2 hg hb;have BK579:=aZ hbox;have GE579:=sG hg;replace HB:=sB hb;clear hb hbox hg)|((with_reducible refine gate_dst (N:=2) rfl ?_);(try (refine gate_guard (by rfl) ?_;dsimp only));refine box_ev 2 #[.bool false,.slice none 0 0,.slice none 0 0] 67 ?_;intro gb580 hg w4 hbox hb;replace HO0_1:=yE HO0_1 hg hb;replace HO0_2:=yE HO0_2 hg hb;have BK580:=aZ hbox;have GE580:=sG hg;replace HB:=sB hb;obtain ⟨NB579_580,NB580_579,BK579⟩:=sX hg hb BK579;clear hb hbox hg;have hnb5:=NB579_580.out;have hnc5:=NB580_579.out;obtain ⟨hcz6_0,hfz6_0⟩:=zc BK579 0 (.bool true) rfl;obtain ⟨hcz6_1,hfz6_1⟩:=zc BK579 1 (.slice A0_1 l0_1.length c0_1) rfl;obtain ⟨hcz6_2,hfz6_2⟩:=zc BK579 2 (.slice A0_2 l0_2.length c0_2) rfl;obtain ⟨hcz7_0,hfz7_0⟩:=zc BK580 0 (.bool false) rfl;obtain ⟨hcz7_1,hfz7_1⟩:=zc BK580 1 (.slice none 0 0) rfl;obtain ⟨hcz7_2,hfz7_2⟩:=zc BK580 2 (.slice none 0 0) rfl))
 refine bodyPost_ret (results_cell_row rfl _ _ gb580 67 #[.bool false,.slice A0_1 l0_1.length c0_1,.slice A0_2 l0_2.length c0_2] (0,0) _ rfl (zp BK580) underlying67 rfl (by kernel_rfl)) rfl ?_
 exact ⟨_,_,ze,zF HO0_1,zF HO0_2,bw⟩
def Y06.f (k:Nat) (a0_0:Bool) (l0_1:List Int) (l0_2:List Int) (a1_0:Bool) (l1_1:List Int) (l1_2:List Int):Option (Bool×List Int×List Int):=(Y0f.f a1_0 l1_1 l1_2).bind fun bt584=>((Y6.f k a0_0 l0_1 l0_2 bt584.1 bt584.2.1 bt584.2.2).bind fun bt591=>(some (bt591.1,bt591.2.1,bt591.2.2)))
theorem Y06.calls (k:Nat) (a0_0:Bool) (A0_1:Option Addr) (c0_1:Nat) (l0_1:List Int) (A0_2:Option Addr) (c0_2:Nat) (l0_2:List Int) (a1_0:Bool) (P1_1_:Nat→Prop) (A1_1:Option Addr) (c1_1:Nat) (l1_1:List Int) (P1_2_:Nat→Prop) (A1_2:Option Addr) (c1_2:Nat) (l1_2:List Int) (r1:Bool) (r2:List Int) (r3:List Int) (w:World) (hr0_1:Kd.C (Kd.int .i64) w A0_1 l0_1.length l0_1) (hc0_1:l0_1.length≤c0_1) (hr0_2:Kd.C (Kd.int .i64) w A0_2 l0_2.length l0_2) (hc0_2:l0_2.length≤c0_2) (hs1_1:Kd.V (Kd.int .i64) 3 w w.heap.size (fun k_=>P1_1_ k_) (.slice A1_1 l1_1.length c1_1) l1_1) (hs1_2:Kd.V (Kd.int .i64) 3 w w.heap.size (fun k_=>P1_2_ k_) (.slice A1_2 l1_2.length c1_2) l1_2) (h:Y06.f k a0_0 l0_1 l0_2 a1_0 l1_1 l1_2=some (r1,r2,r3)) :
  Calls Tryz.prog 69 #[.agg #[.bool a0_0,.slice A0_1 l0_1.length c0_1,.slice A0_2 l0_2.length c0_2],.agg #[.bool a1_0,.slice A1_1 l1_1.length c1_1,.slice A1_2 l1_2.length c1_2]] w fun e w'=>∃ v1_ v2_:Value,e = .returned (.agg #[.bool r1,v1_,v2_])∧Kd.V (Kd.int .i64) 3 w' w.heap.size (fun k_=>((P1_1_ k_∨P1_2_ k_)∨w.heap.size≤k_)) v1_ r2∧Kd.V (Kd.int .i64) 3 w' w.heap.size (fun k_=>((P1_1_ k_∨P1_2_ k_)∨w.heap.size≤k_)) v2_ r3∧Below w.heap.size w w':=by
 have hu67:=underlying67
 have HR0_1:=aZ hr0_1
 have HC0_1:=aZ hc0_1
 clear hr0_1 hc0_1
 have HR0_2:=aZ hr0_2
 have HC0_2:=aZ hc0_2
 clear hr0_2 hc0_2
 have HO1_1:=aZ (show Kd.V (Kd.int .i64) 3 w w.heap.size (fun k_=>((P1_1_ k_∨P1_2_ k_)∨w.heap.size≤k_)) (.slice A1_1 l1_1.length c1_1) l1_1 from Kd.V_mono hs1_1 (fun k_ hk=>.inl (.inl hk)))
 have HO1_2:=aZ (show Kd.V (Kd.int .i64) 3 w w.heap.size (fun k_=>((P1_1_ k_∨P1_2_ k_)∨w.heap.size≤k_)) (.slice A1_2 l1_2.length c1_2) l1_2 from Kd.V_mono hs1_2 (fun k_ hk=>.inl (.inr hk)))
 have HB:=aZ (Below.refl w.heap.size w)
 have H:=h
 unfold Y06.f at H
 clear h
 obtain ⟨⟨t584,t585,t588⟩,A3,H⟩:=zB H
 (try dsimp only at H)
 obtain ⟨⟨t591,t592,t595⟩,A4,H⟩:=zB H
 (try dsimp only at H)
 obtain ⟨rfl,rfl,rfl⟩:=zo3 H
 go_enter func69,ntmps69
 try go_wp2_with (first|(refine box_ev 2 #[.bool a0_0,.slice A0_1 l0_1.length c0_1,.slice A0_2 l0_2.length c0_2] 67 ?_;intro gb581 hg w5 hbox hb;replace HO1_1:=yE HO1_1 hg hb;replace HO1_2:=yE HO1_2 hg hb;have BK581:=aZ hbox;have GE581:=sG hg;replace HB:=sB hb;clear hb hbox hg)|(refine box_ev 3 #[.bool a1_0,.slice A1_1 l1_1.length c1_1,.slice A1_2 l1_2.length c1_2] 67 ?_;intro gb582 hg w6 hbox hb;replace HO1_1:=yE HO1_1 hg hb;replace HO1_2:=yE HO1_2 hg hb;have BK582:=aZ hbox;have GE582:=sG hg;replace HB:=sB hb;obtain ⟨NB581_582,NB582_581,BK581⟩:=sX hg hb BK581;clear hb hbox hg)|(refine box_ev 4 #[.bool false,.slice none 0 0,.slice none 0 0] 67 ?_;intro gb583 hg w7 hbox hb;replace HO1_1:=yE HO1_1 hg hb;replace HO1_2:=yE HO1_2 hg hb;have BK583:=aZ hbox;have GE583:=sG hg;replace HB:=sB hb;obtain ⟨NB581_583,NB583_581,BK581⟩:=sX hg hb BK581;obtain ⟨NB582_583,NB583_582,BK582⟩:=sX hg hb BK582;clear hb hbox hg))
 replace HO1_1:=aZ (Kd.V_drew HO1_1.out)
 replace HO1_2:=aZ (Kd.V_drew HO1_2.out)
 replace BK581:=aZ (blk_drew BK581.out)
 replace BK582:=aZ (blk_drew BK582.out)
 replace BK583:=aZ (blk_drew BK583.out)
 replace HB:=aZ (below_drew1 HB.out)
 refine start_ (n:=5) (S:=fun w'=>w'.cell? ⟨gb581,0,none⟩=some (.bool a0_0)∧w'.cell? ⟨gb581,1,none⟩=some (.slice A0_1 l0_1.length c0_1)∧w'.cell? ⟨gb581,2,none⟩=some (.slice A0_2 l0_2.length c0_2)∧w'.cell? ⟨gb582,0,none⟩=some (.bool a1_0)∧w'.cell? ⟨gb582,1,none⟩=some (.slice A1_1 l1_1.length c1_1)∧w'.cell? ⟨gb582,2,none⟩=some (.slice A1_2 l1_2.length c1_2)) (ds:=[]) #[false,false,false,false,false] (by kernel_rfl) rfl rfl ⟨zh BK581 0,zh BK581 1,zh BK581 2,zh BK582 0,zh BK582 1,zh BK582 2⟩ (fun hHeld=>?_)
 generalize w7.drew=w8 at HO1_1 HO1_2 BK581 BK582 BK583 HB hHeld ⊢
 refine tv 0 (some 5) hHeld ?_
 refine tv 1 (some 6) hHeld ?_
 refine one_ (i:=2) (N:=some 7) #[true,true,true,false,false] rfl rfl (by kernel_rfl) (by decide) (fun K hK=>?_)
 refine goes_ func71 (by kernel_rfl) rfl #[.agg #[.bool a1_0,.slice A1_1 l1_1.length c1_1,.slice A1_2 l1_2.length c1_2]] (by rfl) rfl rfl zm ?_
 with_reducible refine (Y0f.calls a1_0 (fun k_=>(((((P1_1_ k_∨P1_2_ k_)∨w.heap.size≤k_)∧k_≠gb581)∧k_≠gb582)∧k_≠gb583)) _ _ l1_1 (fun k_=>(((((P1_1_ k_∨P1_2_ k_)∨w.heap.size≤k_)∧k_≠gb581)∧k_≠gb582)∧k_≠gb583)) _ _ l1_2 t584 t585 t588 _ HO1_1.out HO1_2.out A3.out).mono ?_
 rintro e w9 ⟨v586,v589,rfl,ho0,ho1,hb⟩
 refine ⟨_,rfl,?_⟩
 replace HO1_1:=yV HO1_1 hb
 replace HO1_2:=yV HO1_2 hb
 have HO587:=yL (fun k_=>((P1_1_ k_∨P1_2_ k_)∨w.heap.size≤k_)∧k_≠gb581∧k_≠gb582∧k_≠gb583) ho0 (fun k_ hk_=>⟨Or.elim hk_ (fun hs_=>Or.elim hs_ (fun hs_=>hs_.1.1.1) (fun hs_=>hs_.1.1.1)) (fun hn_=>(.inr (Nat.le_trans bs hn_))),Or.elim hk_ (fun hs_=>Or.elim hs_ (fun hs_=>hs_.1.1.2) (fun hs_=>hs_.1.1.2)) (fun hn_=>(zf BK581 hn_)),Or.elim hk_ (fun hs_=>Or.elim hs_ (fun hs_=>hs_.1.2) (fun hs_=>hs_.1.2)) (fun hn_=>(zf BK582 hn_)),Or.elim hk_ (fun hs_=>Or.elim hs_ (fun hs_=>hs_.2) (fun hs_=>hs_.2)) (fun hn_=>(zf BK583 hn_))⟩)
 have HO590:=yL (fun k_=>((P1_1_ k_∨P1_2_ k_)∨w.heap.size≤k_)∧k_≠gb581∧k_≠gb582∧k_≠gb583) ho1 (fun k_ hk_=>⟨Or.elim hk_ (fun hs_=>Or.elim hs_ (fun hs_=>hs_.1.1.1) (fun hs_=>hs_.1.1.1)) (fun hn_=>(.inr (Nat.le_trans bs hn_))),Or.elim hk_ (fun hs_=>Or.elim hs_ (fun hs_=>hs_.1.1.2) (fun hs_=>hs_.1.1.2)) (fun hn_=>(zf BK581 hn_)),Or.elim hk_ (fun hs_=>Or.elim hs_ (fun hs_=>hs_.1.2) (fun hs_=>hs_.1.2)) (fun hn_=>(zf BK582 hn_)),Or.elim hk_ (fun hs_=>Or.elim hs_ (fun hs_=>hs_.2) (fun hs_=>hs_.2)) (fun hn_=>(zf BK583 hn_))⟩)
 replace BK581:=sK BK581 hb
 replace BK582:=sK BK582 hb
 replace BK583:=sK BK583 hb
 replace HB:=sB hb
 clear hb ho0 ho1
 obtain ⟨Ao10,co10,eo10⟩:=Kd.V_slice HO587.out
 (first|subst eo10|(injection eo10 with f1_ f2_ f3_;have f4_:=f1_.symm;have f5_:=f3_.symm;clear f1_ f2_ f3_;subst f4_;subst f5_))
 obtain ⟨Ao11,co11,eo11⟩:=Kd.V_slice HO590.out
 (first|subst eo11|(injection eo11 with f1_ f2_ f3_;have f4_:=f1_.symm;have f5_:=f3_.symm;clear f1_ f2_ f3_;subst f4_;subst f5_))
 refine hK.out _ _ ⟨zh BK581 0,zh BK581 1,zh BK581 2,zh BK582 0,zh BK582 1,zh BK582 2⟩ (fun hHeld=>?_)
 clear hK K
 refine nm ?_
 refine one_ (i:=3) (N:=some 8) #[true,true,true,true,false] rfl rfl (by kernel_rfl) (by decide) (fun K hK=>?_)
 refine goes_ func68 (by kernel_rfl) rfl #[.agg #[.bool a0_0,.slice A0_1 l0_1.length c0_1,.slice A0_2 l0_2.length c0_2],.agg #[.bool t584,.slice Ao10 t585.length co10,.slice Ao11 t588.length co11]] (by rfl) rfl rfl zm ?_
 with_reducible refine (Y6.calls k a0_0 _ _ l0_1 _ _ l0_2 t584 _ _ t585 _ _ t588 t591 t592 t595 _ (zC (Kd.C_below HR0_1.out HB.out)) HC0_1.out (zC (Kd.C_below HR0_2.out HB.out)) HC0_2.out (zC (Kd.V_reads' HO587.out).2.2) ((Kd.V_reads' HO587.out).2.1) (zC (Kd.V_reads' HO590.out).2.2) ((Kd.V_reads' HO590.out).2.1) A4.out).mono ?_
 rintro e w12 ⟨v593,v596,rfl,ho0,ho1,hb⟩
 refine ⟨_,rfl,?_⟩
 replace HO1_1:=yV HO1_1 hb
 replace HO1_2:=yV HO1_2 hb
 replace HO587:=yV HO587 hb
 replace HO590:=yV HO590 hb
 have HO594:=yL (fun k_=>((P1_1_ k_∨P1_2_ k_)∨w.heap.size≤k_)∧k_≠gb581∧k_≠gb582∧k_≠gb583) ho0 (fun k_ hk_=>⟨(.inr (Nat.le_trans bs hk_)),(zf BK581 hk_),(zf BK582 hk_),(zf BK583 hk_)⟩)
 have HO597:=yL (fun k_=>((P1_1_ k_∨P1_2_ k_)∨w.heap.size≤k_)∧k_≠gb581∧k_≠gb582∧k_≠gb583) ho1 (fun k_ hk_=>⟨(.inr (Nat.le_trans bs hk_)),(zf BK581 hk_),(zf BK582 hk_),(zf BK583 hk_)⟩)
 replace BK581:=sK BK581 hb
 replace BK582:=sK BK582 hb
 replace BK583:=sK BK583 hb
 replace HB:=sB hb
 clear hb ho0 ho1
 obtain ⟨Ao14,co14,eo14⟩:=Kd.V_slice HO594.out
 (first|subst eo14|(injection eo14 with f1_ f2_ f3_;have f4_:=f1_.symm;have f5_:=f3_.symm;clear f1_ f2_ f3_;subst f4_;subst f5_))
 obtain ⟨Ao16,co16,eo16⟩:=Kd.V_slice HO597.out
 (first|subst eo16|(injection eo16 with f1_ f2_ f3_;have f4_:=f1_.symm;have f5_:=f3_.symm;clear f1_ f2_ f3_;subst f4_;subst f5_))
 refine hK.out _ _ ⟨zh BK581 0,zh BK581 1,zh BK581 2,zh BK582 0,zh BK582 1,zh BK582 2⟩ (fun hHeld=>?_)
 clear hK K
 refine nm ?_
 refine one_ (i:=4) (N:=none) #[true,true,true,true,true] rfl rfl (by kernel_rfl) (by decide) (fun K hK=>?_)
 have hs13:w12.cell? ⟨gb583,0,none⟩=some (.bool false):=(blk_cell BK583.out 0).trans rfl
 have hfs13:=blk_frozen BK583.out 0
 have hns13_0:=NB581_583.out
 have hns13_1:=NB582_583.out
 have hms13_0:=NB583_581.out
 have hms13_1:=NB583_582.out
 have hs15:w12.cell? ⟨gb583,1,none⟩=some (.slice none 0 0):=(blk_cell BK583.out 1).trans rfl
 have hfs15:=blk_frozen BK583.out 1
 have hns15_0:=NB581_583.out
 have hns15_1:=NB582_583.out
 have hms15_0:=NB583_581.out
 have hms15_1:=NB583_582.out
 have hs17:w12.cell? ⟨gb583,2,none⟩=some (.slice none 0 0):=(blk_cell BK583.out 2).trans rfl
 have hfs17:=blk_frozen BK583.out 2
 have hns17_0:=NB581_583.out
 have hns17_1:=NB582_583.out
 have hms17_0:=NB583_581.out
 have hms17_1:=NB583_582.out
 refine skip_ (w1:=?_) (by rfl) rfl ?_ ?_
 rotate_left
 ·go_simp
  rfl
 refine hK.out _ _ ⟨((cell_far (p:=⟨gb583,_,none⟩) NB581_583.out _).trans (((cell_far (p:=⟨gb583,_,none⟩) NB581_583.out _).trans (((cell_far (p:=⟨gb583,_,none⟩) NB581_583.out _).trans (hHeld.1)))))),((cell_far (p:=⟨gb583,_,none⟩) NB581_583.out _).trans (((cell_far (p:=⟨gb583,_,none⟩) NB581_583.out _).trans (((cell_far (p:=⟨gb583,_,none⟩) NB581_583.out _).trans (hHeld.2.1)))))),((cell_far (p:=⟨gb583,_,none⟩) NB581_583.out _).trans (((cell_far (p:=⟨gb583,_,none⟩) NB581_583.out _).trans (((cell_far (p:=⟨gb583,_,none⟩) NB581_583.out _).trans (hHeld.2.2.1)))))),((cell_far (p:=⟨gb583,_,none⟩) NB582_583.out _).trans (((cell_far (p:=⟨gb583,_,none⟩) NB582_583.out _).trans (((cell_far (p:=⟨gb583,_,none⟩) NB582_583.out _).trans (hHeld.2.2.2.1)))))),((cell_far (p:=⟨gb583,_,none⟩) NB582_583.out _).trans (((cell_far (p:=⟨gb583,_,none⟩) NB582_583.out _).trans (((cell_far (p:=⟨gb583,_,none⟩) NB582_583.out _).trans (hHeld.2.2.2.2.1)))))),((cell_far (p:=⟨gb583,_,none⟩) NB582_583.out _).trans (((cell_far (p:=⟨gb583,_,none⟩) NB582_583.out _).trans (((cell_far (p:=⟨gb583,_,none⟩) NB582_583.out _).trans (hHeld.2.2.2.2.2))))))⟩ (fun hHeld=>?_)
 clear hK K
 refine done_ (by kernel_rfl) ?_
 try go_wp2
 refine bodyPost_ret (results_cell_row rfl _ _ gb583 67 #[.bool t591,.slice Ao14 t592.length co14,.slice Ao16 t595.length co16] (0,0) _ rfl (zp BK583) underlying67 rfl (by kernel_rfl)) rfl ?_
 exact ⟨_,_,ze,zF HO594,zF HO597,bw⟩
def Y07.f (k:Nat) (a0_0:Bool) (l0_1:List Int) (l0_2:List Int) (a1_0:Bool) (l1_1:List Int) (l1_2:List Int):Option (Int):=(Y06.f k a0_0 l0_1 l0_2 a1_0 l1_1 l1_2).bind fun bt600=>((Y0c.f bt600.1 bt600.2.1 bt600.2.2).bind fun t607=>(some t607))
theorem Y07.calls (k:Nat) (a0_0:Bool) (A0_1:Option Addr) (c0_1:Nat) (l0_1:List Int) (A0_2:Option Addr) (c0_2:Nat) (l0_2:List Int) (a1_0:Bool) (A1_1:Option Addr) (c1_1:Nat) (l1_1:List Int) (A1_2:Option Addr) (c1_2:Nat) (l1_2:List Int) (r:Int) (w:World) (hr0_1:Kd.C (Kd.int .i64) w A0_1 l0_1.length l0_1) (hc0_1:l0_1.length≤c0_1) (hr0_2:Kd.C (Kd.int .i64) w A0_2 l0_2.length l0_2) (hc0_2:l0_2.length≤c0_2) (hr1_1:Kd.C (Kd.int .i64) w A1_1 l1_1.length l1_1) (hc1_1:l1_1.length≤c1_1) (hr1_2:Kd.C (Kd.int .i64) w A1_2 l1_2.length l1_2) (hc1_2:l1_2.length≤c1_2) (h:Y07.f k a0_0 l0_1 l0_2 a1_0 l1_1 l1_2=some r) :
  Calls Tryz.prog 80 #[.agg #[.bool a0_0,.slice A0_1 l0_1.length c0_1,.slice A0_2 l0_2.length c0_2],.agg #[.bool a1_0,.slice A1_1 l1_1.length c1_1,.slice A1_2 l1_2.length c1_2]] w fun e w'=>e = .returned (.int .i64 r)∧Below w.heap.size w w':=by
 have hu67:=underlying67
 have HR0_1:=aZ hr0_1
 have HC0_1:=aZ hc0_1
 clear hr0_1 hc0_1
 have HR0_2:=aZ hr0_2
 have HC0_2:=aZ hc0_2
 clear hr0_2 hc0_2
 have HR1_1:=aZ hr1_1
 have HC1_1:=aZ hc1_1
 clear hr1_1 hc1_1
 have HR1_2:=aZ hr1_2
 have HC1_2:=aZ hc1_2
 clear hr1_2 hc1_2
 have HB:=aZ (Below.refl w.heap.size w)
 have H:=h
 unfold Y07.f at H
 clear h
 obtain ⟨⟨t600,t601,t604⟩,A3,H⟩:=zB H
 (try dsimp only at H)
 obtain ⟨t607,A4,H⟩:=zB H
 obtain rfl:=Option.some.inj H
 go_enter func80,ntmps80
 go_wp2_with (first|(refine box_ev 2 #[.bool a0_0,.slice A0_1 l0_1.length c0_1,.slice A0_2 l0_2.length c0_2] 67 ?_;intro gb598 hg w5 hbox hb;have BK598:=aZ hbox;have GW598:=sG hg;have GE598:=sG hg;replace HB:=sB hb;clear hb hbox hg)|(refine box_ev 3 #[.bool a1_0,.slice A1_1 l1_1.length c1_1,.slice A1_2 l1_2.length c1_2] 67 ?_;intro gb599 hg w6 hbox hb;have BK599:=aZ hbox;have GW599:=sG hg;have GE599:=sG hg;replace HB:=sB hb;obtain ⟨NB598_599,NB599_598,BK598⟩:=sX hg hb BK598;clear hb hbox hg;have hnb7:=NB598_599.out;have hnc7:=NB599_598.out;obtain ⟨hcz8_0,hfz8_0⟩:=zc BK598 0 (.bool a0_0) rfl;obtain ⟨hcz8_1,hfz8_1⟩:=zc BK598 1 (.slice A0_1 l0_1.length c0_1) rfl;obtain ⟨hcz8_2,hfz8_2⟩:=zc BK598 2 (.slice A0_2 l0_2.length c0_2) rfl;obtain ⟨hcz9_0,hfz9_0⟩:=zc BK599 0 (.bool a1_0) rfl;obtain ⟨hcz9_1,hfz9_1⟩:=zc BK599 1 (.slice A1_1 l1_1.length c1_1) rfl;obtain ⟨hcz9_2,hfz9_2⟩:=zc BK599 2 (.slice A1_2 l1_2.length c1_2) rfl)|(refine zg (some 7) func69 #[.agg #[.bool a0_0,.slice A0_1 l0_1.length c0_1,.slice A0_2 l0_2.length c0_2],.agg #[.bool a1_0,.slice A1_1 l1_1.length c1_1,.slice A1_2 l1_2.length c1_2]] ?_;(with_reducible refine (Y06.calls k a0_0 _ _ l0_1 _ _ l0_2 a1_0 (fun k_=>k_<w.heap.size) _ _ l1_1 (fun k_=>k_<w.heap.size) _ _ l1_2 t600 t601 t604 _ (zC (Kd.C_below HR0_1.out HB.out)) HC0_1.out (zC (Kd.C_below HR0_2.out HB.out)) HC0_2.out ?side5 ?side6 A3.out).mono ?_);(case side5=>exact Kd.V_mk HC1_1.out (Kd.F_below (Kd.C_F (Kd.heap_int .i64) HR1_1.out) bw));(case side6=>exact Kd.V_mk HC1_2.out (Kd.F_below (Kd.C_F (Kd.heap_int .i64) HR1_2.out) bw));rintro e w10 ⟨v602,v605,rfl,ho0,ho1,hb⟩;refine ⟨_,rfl,?_⟩;have HO603:=yL (fun k_=>k_≠gb598∧k_≠gb599) ho0 (fun k_ hk_=>⟨Or.elim hk_ (fun hs_=>Or.elim hs_ (fun hs_=>fun e_=>Nat.not_le.2 hs_ (by rw [e_];exact GW598.out)) (fun hs_=>fun e_=>Nat.not_le.2 hs_ (by rw [e_];exact GW598.out))) (fun hn_=>(zf BK598 hn_)),Or.elim hk_ (fun hs_=>Or.elim hs_ (fun hs_=>fun e_=>Nat.not_le.2 hs_ (by rw [e_];exact GW599.out)) (fun hs_=>fun e_=>Nat.not_le.2 hs_ (by rw [e_];exact GW599.out))) (fun hn_=>(zf BK599 hn_))⟩);have HO606:=yL (fun k_=>k_≠gb598∧k_≠gb599) ho1 (fun k_ hk_=>⟨Or.elim hk_ (fun hs_=>Or.elim hs_ (fun hs_=>fun e_=>Nat.not_le.2 hs_ (by rw [e_];exact GW598.out)) (fun hs_=>fun e_=>Nat.not_le.2 hs_ (by rw [e_];exact GW598.out))) (fun hn_=>(zf BK598 hn_)),Or.elim hk_ (fun hs_=>Or.elim hs_ (fun hs_=>fun e_=>Nat.not_le.2 hs_ (by rw [e_];exact GW599.out)) (fun hs_=>fun e_=>Nat.not_le.2 hs_ (by rw [e_];exact GW599.out))) (fun hn_=>(zf BK599 hn_))⟩);replace BK598:=sK BK598 hb;replace BK599:=sK BK599 hb;replace HB:=sB hb;clear hb ho0 ho1;obtain ⟨Ao11,co11,rfl⟩:=Kd.V_slice HO603.out;obtain ⟨Ao12,co12,rfl⟩:=Kd.V_slice HO606.out)|(refine zg (some 8) func61 #[.agg #[.bool t600,.slice Ao11 t601.length co11,.slice Ao12 t604.length co12]] ?_;(with_reducible refine (Y0c.calls t600 _ _ t601 _ _ t604 t607 _ (zC (Kd.V_reads' HO603.out).2.2) ((Kd.V_reads' HO603.out).2.1) (zC (Kd.V_reads' HO606.out).2.2) ((Kd.V_reads' HO606.out).2.1) A4.out).mono ?_);rintro e w13 ⟨rfl,hb⟩;refine ⟨_,rfl,?_⟩;replace HO603:=yV HO603 hb;replace HO606:=yV HO606 hb;replace BK598:=sK BK598 hb;replace BK599:=sK BK599 hb;replace HB:=sB hb;clear hb))
 go_ret
 exact ⟨ze,bw⟩
-- NOT PRINTED: function 114 (num_one)
section
def Ys.l0:Nat→List Int→List Int→Int→List Int→Int→Int→Option (List Int)
 | 0,_,_,_,_,_,_=>none
 | k+1,x1,x5,x6,x20,x21,x22=>if x22<x21 then (if 0≤x22 then (if x22<(x20.length:Int) then (if x22<(x1.length:Int) then (if x5.length<35184372088832 then (Ys.l0 k x1 (x5++[(((rd x20 x22)+x6+(rd x1 x22))%4294967296)%1000000000]) ((((rd x20 x22)+x6+(rd x1 x22))%4294967296)/1000000000) x20 x21 (wrap64 (x22+1))) else (none)) else (if x5.length<35184372088832 then (Ys.l0 k x1 (x5++[(((rd x20 x22)+x6)%4294967296)%1000000000]) ((((rd x20 x22)+x6)%4294967296)/1000000000) x20 x21 (wrap64 (x22+1))) else (none))) else (none)) else (none)) else (if x6 > 0 then (if x5.length<35184372088832 then (some (x5++[x6])) else (none)) else (some x5))
def Ys.f (k:Nat) (l0:List Int) (l1:List Int):Option (List Int):=Ys.l0 k l1 ([]:List Int) 0 l0 (l0.length:Int) 0
theorem Ys.calls1 (k:Nat) (A0:Option Addr) (c0:Nat) (l0:List Int) (A1:Option Addr) (c1:Nat) (l1:List Int) (r:List Int) (w:World) (hr0:Kd.C (Kd.int .u32) w A0 l0.length l0) (hc0:l0.length≤c0) (hr1:Kd.C (Kd.int .u32) w A1 l1.length l1) (hc1:l1.length≤c1) (hb0_:l0.length<35184372088832) (hlt_:¬ l0.length<l1.length) (h:Ys.f k l0 l1=some r) :
  Calls Tryz.prog 152 #[.slice A0 l0.length c0,.slice A1 l1.length c1] w fun e w'=>∃ v0_:Value,e = .returned (v0_)∧Kd.R (Kd.int .u32) 97 w' w.heap.size (fun _=>True) v0_ r∧Below w.heap.size w w':=by
 have HR0:=aZ hr0
 have HC0:=aZ hc0
 clear hr0 hc0
 have HR1:=aZ hr1
 have HC1:=aZ hc1
 clear hr1 hc1
 have HB:=aZ (Below.refl w.heap.size w)
 have H:=h
 unfold Ys.f at H
 clear h
 have H':=aZ H
 clear H
 have hsw1:decide ((l0.length:Int)<(l1.length:Int))=false:=decide_eq_false (by omega)
 have hsw2:decide (l0.length<l1.length)=false:=decide_eq_false (by omega)
 clear hlt_
 go_enter func152,ntmps152
 go_wp2_with (((with_reducible refine gate_dst (N:=19) rfl ?_);refine R_make0 (Kd.int .u32) (w0:=w) w.heap.size 97 rfl (N:=19) rfl 101 _ _ rfl (l0.length+1) ?hx ?hy underlying101 (.int .u32 0) 4 info97 (by decide) (ok:=fun _=>True) trivial ?hl ?hB ?hS ?_;(case hx=>rfl);(case hy=>rfl);(case hl=>omega);(case hB=>exact bw);(case hS=>exact bs);intro v5_ w5_ HO5_ hb_ _ _;have n0_:=aZ HO5_;have n1_:=aZ hb_;clear HB HO5_ hb_;have HO5_:=n0_;have HB:=n1_;clear n0_ n1_))
 go_loopg [5,6,22] k (fun kq v5 v6 v22 w'=>∃ (x5_1:List Int) (x6_1:Int) (x22_1:Int),v6 = .int .u32 x6_1∧v22 = .int .i64 x22_1∧Aside0 (Ys.l0 kq l1 x5_1 x6_1 l0 (l0.length:Int) x22_1=some r)∧Aside0 (kq≤k)∧Aside0 (Kd.R (Kd.int .u32) 97 w' w.heap.size (fun _=>True) v5 x5_1)∧Aside0 (Below w.heap.size w w'))
 case atStart=>exact ⟨(([]:List Int)),(0),(0),zs,zs,H',⟨Nat.le_refl _⟩,⟨HO5_.out⟩,⟨bw⟩⟩
 case round =>
  clear HO5_ HB H'
  try clear c1
  obtain ⟨x5_1,x6_1,x22_1,rfl,rfl,HA,HK1,HO_5,HB⟩:=hrel
  cases gk with
  | zero=>exact absurd HA.out (by simp [Ys.l0])
  | succ k1 =>
   have H:=HA.out
   clear HA
   simp only [Ys.l0] at H
   by_cases c3:x22_1<(l0.length:Int)
   case neg=>
    rw [if_neg c3] at H
    have c3b0:=decide_eq_false c3
    clear c3
    by_cases c11:x6_1 > 0
    case neg=>
     rw [if_neg c11] at H
     have c11b0:=decide_eq_false c11
     clear c11
     obtain rfl:=Option.some.inj H
     go_wp2
     go_ret
     exact ⟨_,ze,zR HO_5,bw⟩
    rw [if_pos c11] at H
    have c11b0:=decide_eq_true c11
    clear c11
    by_cases c12:x5_1.length<35184372088832
    case neg=>
     rw [if_neg c12] at H
     cases H
    rw [if_pos c12] at H
    have LMc12:=aZ c12
    clear c12
    obtain ⟨y494,hy494⟩:∃ y_:List Int,y_=(x5_1++[x6_1]):=⟨_,rfl⟩
    replace H:(some y494)=some r:=zy hy494 H
    have Ny494:=aZ hy494
    clear hy494
    obtain rfl:=Option.some.inj H
    go_wp2_with (first|((with_reducible refine gate_builtin (b:=.append) (xs:=#[.tmp 50,.tmp 52]) rfl ?_);at_builtin;refine Kd.R_append (Kd.int .u32) (w0:=w) w.heap.size rfl (.tmp 50) (.tmp 52) 101 97 (.int .u32 0) 4 rfl underlying101 info97 rfl (by decide) (by omega) u5 x5_1 x6_1 [.int .u32 x6_1] (fun _=>True) (fun _=>False) rfl rfl ?aP (fun _ hk=>hk.elim) ?aF ?aO ?aB ?aS ?aL ?_;(case aP=>exact rfl);(case aB=>exact bw);(case aF=>exact (fun _ _=>trivial));(case aO=>exact (zR HO_5));(case aS=>exact bs);(case aL=>have:=LMc12.out;omega);intro v495 w13 ho hb hg hat;rw [← Ny494.out] at ho;replace HB:=aZ (hb);have HO496:=aZ (ho);clear HO_5;clear ho hb hg hat))
    go_ret
    exact ⟨_,ze,zR HO496,bw⟩
   rw [if_pos c3] at H
   have c3b0:=decide_eq_true c3
   clear c3
   by_cases c4:0≤x22_1
   case neg=>
    rw [if_neg c4] at H
    cases H
   rw [if_pos c4] at H
   have c4b0:=decide_eq_true c4
   clear c4
   by_cases c5:x22_1<(l0.length:Int)
   case neg=>
    rw [if_neg c5] at H
    cases H
   rw [if_pos c5] at H
   have c5b0:=decide_eq_true c5
   clear c5
   by_cases c6:x22_1<(l1.length:Int)
   case neg=>
    rw [if_neg c6] at H
    have c6b0:=decide_eq_false c6
    clear c6
    by_cases c9:x5_1.length<35184372088832
    case neg=>
     rw [if_neg c9] at H
     cases H
    rw [if_pos c9] at H
    have LMc9:=aZ c9
    clear c9
    obtain ⟨y491,hy491⟩:∃ y_:List Int,y_=(x5_1++[(((rd l0 x22_1)+x6_1)%4294967296)%1000000000]):=⟨_,rfl⟩
    replace H:(Ys.l0 k1 l1 y491 ((((rd l0 x22_1)+x6_1)%4294967296)/1000000000) l0 (l0.length:Int) (wrap64 (x22_1+1)))=some r:=zy hy491 H
    have Ny491:=aZ hy491
    clear hy491
    have H':=aZ H
    clear H
    have p486:0≤(x22_1:Int):=zd
    have q486:x22_1<(l0.length:Int):=zd
    obtain ⟨ad486,e486,hx486_0⟩:=Kd.at_int HR0.out x22_1 p486 q486
    cases e486
    replace hx486_0:=(HB.out.cell (World.block_lt_of_cell? w _ hx486_0)).trans hx486_0
    replace p486:=eq_true p486
    replace q486:=eq_true q486
    go_wp2_with (first|((with_reducible refine gate_builtin (b:=.append) (xs:=#[.tmp 42,.tmp 45]) rfl ?_);at_builtin;refine Kd.R_append (Kd.int .u32) (w0:=w) w.heap.size rfl (.tmp 42) (.tmp 45) 101 97 (.int .u32 0) 4 rfl underlying101 info97 rfl (by decide) (by omega) u5 x5_1 ((((rd l0 x22_1)+x6_1)%4294967296)%1000000000) [.int .u32 ((((rd l0 x22_1)+x6_1)%4294967296)%1000000000)] (fun _=>True) (fun _=>False) rfl rfl ?aP (fun _ hk=>hk.elim) ?aF ?aO ?aB ?aS ?aL ?_;(case aP=>exact rfl);(case aB=>exact bw);(case aF=>exact (fun _ _=>trivial));(case aO=>exact (zR HO_5));(case aS=>exact bs);(case aL=>have:=LMc9.out;omega);intro v492 w10 ho hb hg hat;rw [← Ny491.out] at ho;replace HB:=aZ (hb);have HO493:=aZ (ho);clear HO_5;clear ho hb hg hat))
    go_roundg k1
    case measure=>have:=HK1.out;omega
    case rel=>exact ⟨(y491),((((rd l0 x22_1)+x6_1)%4294967296)/1000000000),(wrap64 (x22_1+1)),zs,zs,H',⟨by have:=HK1.out;omega⟩,⟨zR HO493⟩,⟨bw⟩⟩
   rw [if_pos c6] at H
   have c6b0:=decide_eq_true c6
   clear c6
   by_cases c7:x5_1.length<35184372088832
   case neg=>
    rw [if_neg c7] at H
    cases H
   rw [if_pos c7] at H
   have LMc7:=aZ c7
   clear c7
   obtain ⟨y488,hy488⟩:∃ y_:List Int,y_=(x5_1++[(((rd l0 x22_1)+x6_1+(rd l1 x22_1))%4294967296)%1000000000]):=⟨_,rfl⟩
   replace H:(Ys.l0 k1 l1 y488 ((((rd l0 x22_1)+x6_1+(rd l1 x22_1))%4294967296)/1000000000) l0 (l0.length:Int) (wrap64 (x22_1+1)))=some r:=zy hy488 H
   have Ny488:=aZ hy488
   clear hy488
   have H':=aZ H
   clear H
   have p486:0≤(x22_1:Int):=zd
   have q486:x22_1<(l0.length:Int):=zd
   obtain ⟨ad486,e486,hx486_0⟩:=Kd.at_int HR0.out x22_1 p486 q486
   cases e486
   replace hx486_0:=(HB.out.cell (World.block_lt_of_cell? w _ hx486_0)).trans hx486_0
   replace p486:=eq_true p486
   replace q486:=eq_true q486
   have p487:0≤(x22_1:Int):=zd
   have q487:x22_1<(l1.length:Int):=zd
   obtain ⟨ad487,e487,hx487_0⟩:=Kd.at_int HR1.out x22_1 p487 q487
   cases e487
   replace hx487_0:=(HB.out.cell (World.block_lt_of_cell? w _ hx487_0)).trans hx487_0
   replace p487:=eq_true p487
   replace q487:=eq_true q487
   go_wp2_with (first|((with_reducible refine gate_builtin (b:=.append) (xs:=#[.tmp 42,.tmp 45]) rfl ?_);at_builtin;refine Kd.R_append (Kd.int .u32) (w0:=w) w.heap.size rfl (.tmp 42) (.tmp 45) 101 97 (.int .u32 0) 4 rfl underlying101 info97 rfl (by decide) (by omega) u5 x5_1 ((((rd l0 x22_1)+x6_1+(rd l1 x22_1))%4294967296)%1000000000) [.int .u32 ((((rd l0 x22_1)+x6_1+(rd l1 x22_1))%4294967296)%1000000000)] (fun _=>True) (fun _=>False) rfl rfl ?aP (fun _ hk=>hk.elim) ?aF ?aO ?aB ?aS ?aL ?_;(case aP=>exact rfl);(case aB=>exact bw);(case aF=>exact (fun _ _=>trivial));(case aO=>exact (zR HO_5));(case aS=>exact bs);(case aL=>have:=LMc7.out;omega);intro v489 w8 ho hb hg hat;rw [← Ny488.out] at ho;replace HB:=aZ (hb);have HO490:=aZ (ho);clear HO_5;clear ho hb hg hat))
   go_roundg k1
   case measure=>have:=HK1.out;omega
   case rel=>exact ⟨(y488),((((rd l0 x22_1)+x6_1+(rd l1 x22_1))%4294967296)/1000000000),(wrap64 (x22_1+1)),zs,zs,H',⟨by have:=HK1.out;omega⟩,⟨zR HO490⟩,⟨bw⟩⟩
theorem Ys.calls2 (k:Nat) (A0:Option Addr) (c0:Nat) (l0:List Int) (A1:Option Addr) (c1:Nat) (l1:List Int) (r:List Int) (w:World) (hr0:Kd.C (Kd.int .u32) w A0 l0.length l0) (hc0:l0.length≤c0) (hr1:Kd.C (Kd.int .u32) w A1 l1.length l1) (hc1:l1.length≤c1) (hb0_:l0.length<35184372088832) (hlt_:l1.length<l0.length) (h:Ys.f k l0 l1=some r) :
  Calls Tryz.prog 152 #[.slice A1 l1.length c1,.slice A0 l0.length c0] w fun e w'=>∃ v0_:Value,e = .returned (v0_)∧Kd.R (Kd.int .u32) 97 w' w.heap.size (fun _=>True) v0_ r∧Below w.heap.size w w':=by
 have HR0:=aZ hr0
 have HC0:=aZ hc0
 clear hr0 hc0
 have HR1:=aZ hr1
 have HC1:=aZ hc1
 clear hr1 hc1
 have HB:=aZ (Below.refl w.heap.size w)
 have H:=h
 unfold Ys.f at H
 clear h
 have H':=aZ H
 clear H
 have hsw1:decide ((l1.length:Int)<(l0.length:Int))=true:=decide_eq_true (by omega)
 have hsw2:decide (l1.length<l0.length)=true:=decide_eq_true (by omega)
 clear hlt_
 go_enter func152,ntmps152
 go_wp2_with (((with_reducible refine gate_dst (N:=19) rfl ?_);refine R_make0 (Kd.int .u32) (w0:=w) w.heap.size 97 rfl (N:=19) rfl 101 _ _ rfl (l0.length+1) ?hx ?hy underlying101 (.int .u32 0) 4 info97 (by decide) (ok:=fun _=>True) trivial ?hl ?hB ?hS ?_;(case hx=>rfl);(case hy=>rfl);(case hl=>omega);(case hB=>exact bw);(case hS=>exact bs);intro v5_ w5_ HO5_ hb_ _ _;have n0_:=aZ HO5_;have n1_:=aZ hb_;clear HB HO5_ hb_;have HO5_:=n0_;have HB:=n1_;clear n0_ n1_))
 go_loopg [5,6,22] k (fun kq v5 v6 v22 w'=>∃ (x5_1:List Int) (x6_1:Int) (x22_1:Int),v6 = .int .u32 x6_1∧v22 = .int .i64 x22_1∧Aside0 (Ys.l0 kq l1 x5_1 x6_1 l0 (l0.length:Int) x22_1=some r)∧Aside0 (kq≤k)∧Aside0 (Kd.R (Kd.int .u32) 97 w' w.heap.size (fun _=>True) v5 x5_1)∧Aside0 (Below w.heap.size w w'))
 case atStart=>exact ⟨(([]:List Int)),(0),(0),zs,zs,H',⟨Nat.le_refl _⟩,⟨HO5_.out⟩,⟨bw⟩⟩
 case round =>
  clear HO5_ HB H'
  try clear c1
  obtain ⟨x5_1,x6_1,x22_1,rfl,rfl,HA,HK1,HO_5,HB⟩:=hrel
  cases gk with
  | zero=>exact absurd HA.out (by simp [Ys.l0])
  | succ k1 =>
   have H:=HA.out
   clear HA
   simp only [Ys.l0] at H
   by_cases c3:x22_1<(l0.length:Int)
   case neg=>
    rw [if_neg c3] at H
    have c3b0:=decide_eq_false c3
    clear c3
    by_cases c11:x6_1 > 0
    case neg=>
     rw [if_neg c11] at H
     have c11b0:=decide_eq_false c11
     clear c11
     obtain rfl:=Option.some.inj H
     go_wp2
     go_ret
     exact ⟨_,ze,zR HO_5,bw⟩
    rw [if_pos c11] at H
    have c11b0:=decide_eq_true c11
    clear c11
    by_cases c12:x5_1.length<35184372088832
    case neg=>
     rw [if_neg c12] at H
     cases H
    rw [if_pos c12] at H
    have LMc12:=aZ c12
    clear c12
    obtain ⟨y494,hy494⟩:∃ y_:List Int,y_=(x5_1++[x6_1]):=⟨_,rfl⟩
    replace H:(some y494)=some r:=zy hy494 H
    have Ny494:=aZ hy494
    clear hy494
    obtain rfl:=Option.some.inj H
    go_wp2_with (first|((with_reducible refine gate_builtin (b:=.append) (xs:=#[.tmp 50,.tmp 52]) rfl ?_);at_builtin;refine Kd.R_append (Kd.int .u32) (w0:=w) w.heap.size rfl (.tmp 50) (.tmp 52) 101 97 (.int .u32 0) 4 rfl underlying101 info97 rfl (by decide) (by omega) u5 x5_1 x6_1 [.int .u32 x6_1] (fun _=>True) (fun _=>False) rfl rfl ?aP (fun _ hk=>hk.elim) ?aF ?aO ?aB ?aS ?aL ?_;(case aP=>exact rfl);(case aB=>exact bw);(case aF=>exact (fun _ _=>trivial));(case aO=>exact (zR HO_5));(case aS=>exact bs);(case aL=>have:=LMc12.out;omega);intro v495 w13 ho hb hg hat;rw [← Ny494.out] at ho;replace HB:=aZ (hb);have HO496:=aZ (ho);clear HO_5;clear ho hb hg hat))
    go_ret
    exact ⟨_,ze,zR HO496,bw⟩
   rw [if_pos c3] at H
   have c3b0:=decide_eq_true c3
   clear c3
   by_cases c4:0≤x22_1
   case neg=>
    rw [if_neg c4] at H
    cases H
   rw [if_pos c4] at H
   have c4b0:=decide_eq_true c4
   clear c4
   by_cases c5:x22_1<(l0.length:Int)
   case neg=>
    rw [if_neg c5] at H
    cases H
   rw [if_pos c5] at H
   have c5b0:=decide_eq_true c5
   clear c5
   by_cases c6:x22_1<(l1.length:Int)
   case neg=>
    rw [if_neg c6] at H
    have c6b0:=decide_eq_false c6
    clear c6
    by_cases c9:x5_1.length<35184372088832
    case neg=>
     rw [if_neg c9] at H
     cases H
    rw [if_pos c9] at H
    have LMc9:=aZ c9
    clear c9
    obtain ⟨y491,hy491⟩:∃ y_:List Int,y_=(x5_1++[(((rd l0 x22_1)+x6_1)%4294967296)%1000000000]):=⟨_,rfl⟩
    replace H:(Ys.l0 k1 l1 y491 ((((rd l0 x22_1)+x6_1)%4294967296)/1000000000) l0 (l0.length:Int) (wrap64 (x22_1+1)))=some r:=zy hy491 H
    have Ny491:=aZ hy491
    clear hy491
    have H':=aZ H
    clear H
    have p486:0≤(x22_1:Int):=zd
    have q486:x22_1<(l0.length:Int):=zd
    obtain ⟨ad486,e486,hx486_0⟩:=Kd.at_int HR0.out x22_1 p486 q486
    cases e486
    replace hx486_0:=(HB.out.cell (World.block_lt_of_cell? w _ hx486_0)).trans hx486_0
    replace p486:=eq_true p486
    replace q486:=eq_true q486
    go_wp2_with (first|((with_reducible refine gate_builtin (b:=.append) (xs:=#[.tmp 42,.tmp 45]) rfl ?_);at_builtin;refine Kd.R_append (Kd.int .u32) (w0:=w) w.heap.size rfl (.tmp 42) (.tmp 45) 101 97 (.int .u32 0) 4 rfl underlying101 info97 rfl (by decide) (by omega) u5 x5_1 ((((rd l0 x22_1)+x6_1)%4294967296)%1000000000) [.int .u32 ((((rd l0 x22_1)+x6_1)%4294967296)%1000000000)] (fun _=>True) (fun _=>False) rfl rfl ?aP (fun _ hk=>hk.elim) ?aF ?aO ?aB ?aS ?aL ?_;(case aP=>exact rfl);(case aB=>exact bw);(case aF=>exact (fun _ _=>trivial));(case aO=>exact (zR HO_5));(case aS=>exact bs);(case aL=>have:=LMc9.out;omega);intro v492 w10 ho hb hg hat;rw [← Ny491.out] at ho;replace HB:=aZ (hb);have HO493:=aZ (ho);clear HO_5;clear ho hb hg hat))
    go_roundg k1
    case measure=>have:=HK1.out;omega
    case rel=>exact ⟨(y491),((((rd l0 x22_1)+x6_1)%4294967296)/1000000000),(wrap64 (x22_1+1)),zs,zs,H',⟨by have:=HK1.out;omega⟩,⟨zR HO493⟩,⟨bw⟩⟩
   rw [if_pos c6] at H
   have c6b0:=decide_eq_true c6
   clear c6
   by_cases c7:x5_1.length<35184372088832
   case neg=>
    rw [if_neg c7] at H
    cases H
   rw [if_pos c7] at H
   have LMc7:=aZ c7
   clear c7
   obtain ⟨y488,hy488⟩:∃ y_:List Int,y_=(x5_1++[(((rd l0 x22_1)+x6_1+(rd l1 x22_1))%4294967296)%1000000000]):=⟨_,rfl⟩
   replace H:(Ys.l0 k1 l1 y488 ((((rd l0 x22_1)+x6_1+(rd l1 x22_1))%4294967296)/1000000000) l0 (l0.length:Int) (wrap64 (x22_1+1)))=some r:=zy hy488 H
   have Ny488:=aZ hy488
   clear hy488
   have H':=aZ H
   clear H
   have p486:0≤(x22_1:Int):=zd
   have q486:x22_1<(l0.length:Int):=zd
   obtain ⟨ad486,e486,hx486_0⟩:=Kd.at_int HR0.out x22_1 p486 q486
   cases e486
   replace hx486_0:=(HB.out.cell (World.block_lt_of_cell? w _ hx486_0)).trans hx486_0
   replace p486:=eq_true p486
   replace q486:=eq_true q486
   have p487:0≤(x22_1:Int):=zd
   have q487:x22_1<(l1.length:Int):=zd
   obtain ⟨ad487,e487,hx487_0⟩:=Kd.at_int HR1.out x22_1 p487 q487
   cases e487
   replace hx487_0:=(HB.out.cell (World.block_lt_of_cell? w _ hx487_0)).trans hx487_0
   replace p487:=eq_true p487
   replace q487:=eq_true q487
   go_wp2_with (first|((with_reducible refine gate_builtin (b:=.append) (xs:=#[.tmp 42,.tmp 45]) rfl ?_);at_builtin;refine Kd.R_append (Kd.int .u32) (w0:=w) w.heap.size rfl (.tmp 42) (.tmp 45) 101 97 (.int .u32 0) 4 rfl underlying101 info97 rfl (by decide) (by omega) u5 x5_1 ((((rd l0 x22_1)+x6_1+(rd l1 x22_1))%4294967296)%1000000000) [.int .u32 ((((rd l0 x22_1)+x6_1+(rd l1 x22_1))%4294967296)%1000000000)] (fun _=>True) (fun _=>False) rfl rfl ?aP (fun _ hk=>hk.elim) ?aF ?aO ?aB ?aS ?aL ?_;(case aP=>exact rfl);(case aB=>exact bw);(case aF=>exact (fun _ _=>trivial));(case aO=>exact (zR HO_5));(case aS=>exact bs);(case aL=>have:=LMc7.out;omega);intro v489 w8 ho hb hg hat;rw [← Ny488.out] at ho;replace HB:=aZ (hb);have HO490:=aZ (ho);clear HO_5;clear ho hb hg hat))
   go_roundg k1
   case measure=>have:=HK1.out;omega
   case rel=>exact ⟨(y488),((((rd l0 x22_1)+x6_1+(rd l1 x22_1))%4294967296)/1000000000),(wrap64 (x22_1+1)),zs,zs,H',⟨by have:=HK1.out;omega⟩,⟨zR HO490⟩,⟨bw⟩⟩
def Y0t.f (k:Nat) (l0:List Int) (l1:List Int):Option (List Int):=if l0.length<35184372088832∧l1.length<35184372088832 then (if l0.length<l1.length then Ys.f k l1 l0 else Ys.f k l0 l1) else none
theorem Y0t.calls (k:Nat) (A0:Option Addr) (c0:Nat) (l0:List Int) (A1:Option Addr) (c1:Nat) (l1:List Int) (r:List Int) (w:World) (hr0:Kd.C (Kd.int .u32) w A0 l0.length l0) (hc0:l0.length≤c0) (hr1:Kd.C (Kd.int .u32) w A1 l1.length l1) (hc1:l1.length≤c1) (h:Y0t.f k l0 l1=some r) :
  Calls Tryz.prog 152 #[.slice A0 l0.length c0,.slice A1 l1.length c1] w fun e w'=>∃ v0_:Value,e = .returned (v0_)∧Kd.R (Kd.int .u32) 97 w' w.heap.size (fun _=>True) v0_ r∧Below w.heap.size w w':=by
 unfold Y0t.f at h
 by_cases hb:l0.length<35184372088832∧l1.length<35184372088832
 case neg=>rw [if_neg hb] at h;cases h
 rw [if_pos hb] at h
 by_cases hs:l0.length<l1.length
 case neg=>
  rw [if_neg hs] at h
  exact Ys.calls1 k A0 c0 l0 A1 c1 l1 r w hr0 hc0 hr1 hc1 hb.1 hs h
 rw [if_pos hs] at h
 exact Ys.calls2 k A1 c1 l1 A0 c0 l0 r w hr1 hc1 hr0 hc0 hb.2 hs h
end
def YT.j0:Nat→List Int→Bool→Bool→List Int→List Int→Option (Bool×List Int×List Int)
 | 0,_,_,_,_,_=>none
 | k+1,x3,x19,x609000,x609001,x609002=>if x19=true then ((YM.f k).bind fun t617=>((Y0t.f k x3 t617).bind fun t620=>(if x609000=true then ((YJ.f t620).bind fun t623=>((YM.f k).bind fun t624=>(some (!t623,t620,t624)))) else ((YM.f k).bind fun t627=>(some (false,t620,t627)))))) else (if x609000=true then ((YJ.f x3).bind fun t630=>((YM.f k).bind fun t631=>(some (!t630,x3,t631)))) else ((YM.f k).bind fun t634=>(some (false,x3,t634))))
def YT.f (k:Nat) (a0_0:Bool) (l0_1:List Int) (l0_2:List Int):Option (Bool×List Int×List Int):=(Yv.f k l0_1 l0_2).bind fun bt610=>(if a0_0=true then ((YJ.f bt610.2).bind fun t616=>(YT.j0 k bt610.1 (!t616) a0_0 l0_1 l0_2)) else (YT.j0 k bt610.1 false a0_0 l0_1 l0_2))
theorem YT.calls (k:Nat) (a0_0:Bool) (A0_1:Option Addr) (c0_1:Nat) (l0_1:List Int) (A0_2:Option Addr) (c0_2:Nat) (l0_2:List Int) (r1:Bool) (r2:List Int) (r3:List Int) (w:World) (hr0_1:Kd.C (Kd.int .u32) w A0_1 l0_1.length l0_1) (hc0_1:l0_1.length≤c0_1) (hr0_2:Kd.C (Kd.int .u32) w A0_2 l0_2.length l0_2) (hc0_2:l0_2.length≤c0_2) (h:YT.f k a0_0 l0_1 l0_2=some (r1,r2,r3)) :
  Calls Tryz.prog 132 #[.agg #[.bool a0_0,.slice A0_1 l0_1.length c0_1,.slice A0_2 l0_2.length c0_2]] w fun e w'=>∃ v1_ v2_:Value,e = .returned (.agg #[.bool r1,v1_,v2_])∧Kd.V (Kd.int .u32) 97 w' w.heap.size (fun k_=>(w.heap.size≤k_)∧some k_≠(v2_:Value).ownBlock) v1_ r2∧Kd.R (Kd.int .u32) 97 w' w.heap.size (fun k_=>(w.heap.size≤k_)) v2_ r3∧Below w.heap.size w w':=by
 have hu103:=underlying103
 have HR0_1:=aZ hr0_1
 have HC0_1:=aZ hc0_1
 clear hr0_1 hc0_1
 have HR0_2:=aZ hr0_2
 have HC0_2:=aZ hc0_2
 clear hr0_2 hc0_2
 have HB:=aZ (Below.refl w.heap.size w)
 have H:=h
 unfold YT.f at H
 clear h
 obtain ⟨⟨t610,t613⟩,A2,H⟩:=zB H
 (try dsimp only at H)
 have HC3:=aZ H
 clear H
 go_enter func132,ntmps132
 go_upto_region 2 with (first|(refine box_ev 1 #[.bool a0_0,.slice A0_1 l0_1.length c0_1,.slice A0_2 l0_2.length c0_2] 103 ?_;intro gb608 hg w4 hbox hb;have BK608:=aZ hbox;have GE608:=sG hg;replace HB:=sB hb;clear hb hbox hg)|(refine box_ev 2 #[.bool false,.slice none 0 0,.slice none 0 0] 103 ?_;intro gb609 hg w5 hbox hb;have BK609:=aZ hbox;have GE609:=sG hg;replace HB:=sB hb;obtain ⟨NB608_609,NB609_608,BK608⟩:=sX hg hb BK608;clear hb hbox hg;have hnb6:=NB608_609.out;have hnc6:=NB609_608.out;obtain ⟨hcz7_0,hfz7_0⟩:=zc BK608 0 (.bool a0_0) rfl;obtain ⟨hcz7_1,hfz7_1⟩:=zc BK608 1 (.slice A0_1 l0_1.length c0_1) rfl;obtain ⟨hcz7_2,hfz7_2⟩:=zc BK608 2 (.slice A0_2 l0_2.length c0_2) rfl)|(refine zg (some 10) func144 #[.slice A0_1 l0_1.length c0_1,.slice A0_2 l0_2.length c0_2] ?_;(with_reducible refine (Yv.calls k _ _ l0_1 _ _ l0_2 t610 t613 _ (zC (Kd.C_below HR0_1.out HB.out)) HC0_1.out (zC (Kd.C_below HR0_2.out HB.out)) HC0_2.out A2.out).mono ?_);rintro e w8 ⟨v611,v614,rfl,ho0,ho1,hb⟩;refine ⟨_,rfl,?_⟩;have HO612:=yL (fun k_=>(w.heap.size≤k_)∧k_≠gb608∧k_≠gb609) ho0 (fun k_ hk_=>⟨(Nat.le_trans bs hk_),(zf BK608 hk_),(zf BK609 hk_)⟩);have HO615:=yL (fun k_=>(w.heap.size≤k_)∧k_≠gb608∧k_≠gb609) ho1 (fun k_ hk_=>⟨(Nat.le_trans bs hk_),(zf BK608 hk_),(zf BK609 hk_)⟩);replace BK608:=sK BK608 hb;replace BK609:=sK BK609 hb;replace HB:=sB hb;clear hb ho0 ho1))
 (try simp only [Act.put,List.setIfInBounds_toArray,List.set_cons_zero,List.set_cons_succ])
 go_cut [19] (fun v19 wc=>∃ (kq:Nat) (x19_2:Bool),v19 = .bool x19_2∧Aside0 (YT.j0 kq t610 x19_2 a0_0 l0_1 l0_2=some (r1,r2,r3))∧Aside0 (kq≤k)∧Aside0 (Kd.V (Kd.int .u32) 97 wc w.heap.size (fun k_=>(w.heap.size≤k_)∧k_≠gb608∧k_≠gb609) v611 t610)∧Aside0 (wc.heap[gb608]? = some (.cells #[.bool a0_0,(.slice A0_1 l0_1.length c0_1),(.slice A0_2 l0_2.length c0_2)] 103 (0,0)))∧Aside0 (wc.heap[gb609]? = some (.cells #[.bool false,(.slice none 0 0),(.slice none 0 0)] 103 (0,0)))∧Aside0 (Below w.heap.size w wc))
 case first =>
  have H:=HC3.out
  clear HC3
  by_cases c9:a0_0=true
  case neg=>
   replace c9:=Bool.eq_false_iff.mpr c9
   subst c9
   replace H:=zU H
   have H':=aZ H
   clear H
   have hnb14:=NB608_609.out
   have hnc14:=NB609_608.out
   obtain ⟨hcz15_0,hfz15_0⟩:=zc BK608 0 (.bool false) rfl
   obtain ⟨hcz15_1,hfz15_1⟩:=zc BK608 1 (.slice A0_1 l0_1.length c0_1) rfl
   obtain ⟨hcz15_2,hfz15_2⟩:=zc BK608 2 (.slice A0_2 l0_2.length c0_2) rfl
   go_wp2
   go_meet
   case rel=>exact ⟨_,(false),zs,H',⟨by first|omega|exact Nat.le_refl _⟩,⟨zV HO612⟩,⟨zb BK608⟩,⟨zb BK609⟩,⟨bw⟩⟩
  subst c9
  replace H:=zT H
  obtain ⟨t616,A10,H⟩:=zB H
  have H':=aZ H
  clear H
  have hnb11:=NB608_609.out
  have hnc11:=NB609_608.out
  obtain ⟨hcz12_0,hfz12_0⟩:=zc BK608 0 (.bool true) rfl
  obtain ⟨hcz12_1,hfz12_1⟩:=zc BK608 1 (.slice A0_1 l0_1.length c0_1) rfl
  obtain ⟨hcz12_2,hfz12_2⟩:=zc BK608 2 (.slice A0_2 l0_2.length c0_2) rfl
  obtain ⟨Ao13,co13,rfl⟩:=Kd.V_slice HO615.out
  go_wp2_with (first|(go_at_call 151;(with_reducible refine (YJ.calls _ _ t613 t616 _ (zC (Kd.V_reads' HO615.out).2.2) ((Kd.V_reads' HO615.out).2.1) A10.out).mono ?_);rintro e w' ⟨rfl,⟨nd,rfl⟩⟩))
  go_meet
  case rel=>exact ⟨_,(!t616),zs,H',⟨by first|omega|exact Nat.le_refl _⟩,⟨zV HO612⟩,⟨zb BK608⟩,⟨zb BK609⟩,⟨bw⟩⟩
 case rest =>
  clear HC3
  obtain ⟨kq,x19_2,rfl,HA,HJ2,HO_3,BK608,BK609,HB⟩:=hcut
  cases kq with
  | zero=>exact absurd HA.out (by simp [YT.j0])
  | succ kj2 =>
   have H:=HA.out
   clear HA
   simp only [YT.j0] at H
   by_cases c16:x19_2=true
   case neg=>
    replace c16:=Bool.eq_false_iff.mpr c16
    subst c16
    replace H:=zU H
    by_cases c43:a0_0=true
    case neg=>
     replace c43:=Bool.eq_false_iff.mpr c43
     subst c43
     replace H:=zU H
     obtain ⟨t634,A52,H⟩:=zB H
     obtain ⟨rfl,rfl,rfl⟩:=zo3 H
     have hnb53:=NB608_609.out
     have hnc53:=NB609_608.out
     obtain ⟨hcz54_0,hfz54_0⟩:=zc BK608 0 (.bool false) rfl
     obtain ⟨hcz54_1,hfz54_1⟩:=zc BK608 1 (.slice A0_1 l0_1.length c0_1) rfl
     obtain ⟨hcz54_2,hfz54_2⟩:=zc BK608 2 (.slice A0_2 l0_2.length c0_2) rfl
     go_wp2_with (first|(refine zg (some 31) func137 #[] ?_;(with_reducible refine (YM.calls kj2  t634 _ A52.out).mono ?_);rintro e w55 ⟨v635,rfl,ho0,hb⟩;refine ⟨_,rfl,?_⟩;replace HO_3:=aZ (Kd.V_elder' (zV HO_3) (Kd.R_base ho0) hb);have HO636:=aZ (Kd.R_lower (Kd.R_newM (M:=fun k_=>(w.heap.size≤k_)) ho0 bs (fun k_ h_=>h_)) bs);replace BK608:=sK BK608 hb;replace BK609:=sK BK609 hb;replace HB:=sB hb;clear hb ho0;obtain ⟨Ao56,co56,rfl⟩:=Kd.R_slice HO636.out;obtain ⟨Ao57,co57,rfl⟩:=Kd.V_slice HO_3.out;obtain ⟨hcz58_0,hfz58_0⟩:=zc BK609 0 (.bool false) rfl;obtain ⟨hcz58_1,hfz58_1⟩:=zc BK609 1 (.slice none 0 0) rfl;obtain ⟨hcz58_2,hfz58_2⟩:=zc BK609 2 (.slice none 0 0) rfl))
     refine bodyPost_ret (results_cell_row rfl _ _ gb609 103 #[.bool false,.slice Ao57 t610.length co57,.slice Ao56 t634.length co56] (0,0) _ rfl (zp BK609) underlying103 rfl (by kernel_rfl)) rfl ?_
     exact ⟨_,_,ze,zF HO_3,zF ⟨Kd.R_types HO636.out BK609.out (by decide)⟩,bw⟩
    subst c43
    replace H:=zT H
    obtain ⟨t630,A44,H⟩:=zB H
    obtain ⟨t631,A45,H⟩:=zB H
    obtain ⟨rfl,rfl,rfl⟩:=zo3 H
    have hnb46:=NB608_609.out
    have hnc46:=NB609_608.out
    obtain ⟨hcz47_0,hfz47_0⟩:=zc BK608 0 (.bool true) rfl
    obtain ⟨hcz47_1,hfz47_1⟩:=zc BK608 1 (.slice A0_1 l0_1.length c0_1) rfl
    obtain ⟨hcz47_2,hfz47_2⟩:=zc BK608 2 (.slice A0_2 l0_2.length c0_2) rfl
    obtain ⟨Ao48,co48,rfl⟩:=Kd.V_slice HO_3.out
    go_wp2_with (first|(go_at_call 151;(with_reducible refine (YJ.calls _ _ t610 t630 _ (zC (Kd.V_reads' HO_3.out).2.2) ((Kd.V_reads' HO_3.out).2.1) A44.out).mono ?_);rintro e w' ⟨rfl,⟨nd,rfl⟩⟩;(try (rw [drewN_self wc];generalize hq_:World.drewN wc _=wc;have n0_:Aside0 (Kd.V (Kd.int .u32) 97 wc w.heap.size (fun k_=>(w.heap.size≤k_)∧k_≠gb608∧k_≠gb609) (.slice Ao48 t610.length co48) t610):=⟨by rw [← hq_];exact (zV HO_3)⟩;have n1_:Aside0 (wc.heap[gb608]? = some (.cells #[.bool true,.slice A0_1 l0_1.length c0_1,.slice A0_2 l0_2.length c0_2] 103 (0,0))):=⟨by rw [← hq_];exact (zb BK608)⟩;have n2_:Aside0 (wc.heap[gb609]? = some (.cells #[.bool false,.slice none 0 0,.slice none 0 0] 103 (0,0))):=⟨by rw [← hq_];exact (zb BK609)⟩;have n3_:Aside0 (Below w.heap.size w wc):=⟨by rw [← hq_];exact bw⟩;clear HO_3 BK608 BK609 HB hq_;have HO_3:=n0_;have BK608:=n1_;have BK609:=n2_;have HB:=n3_;clear n0_ n1_ n2_ n3_)))|(refine zg (some 31) func137 #[] ?_;(with_reducible refine (YM.calls kj2  t631 _ A45.out).mono ?_);rintro e w49 ⟨v632,rfl,ho0,hb⟩;refine ⟨_,rfl,?_⟩;replace HO_3:=aZ (Kd.V_elder' (zV HO_3) (Kd.R_base ho0) hb);have HO633:=aZ (Kd.R_lower (Kd.R_newM (M:=fun k_=>(w.heap.size≤k_)) ho0 bs (fun k_ h_=>h_)) bs);replace BK608:=sK BK608 hb;replace BK609:=sK BK609 hb;replace HB:=sB hb;clear hb ho0;obtain ⟨Ao50,co50,rfl⟩:=Kd.R_slice HO633.out;obtain ⟨hcz51_0,hfz51_0⟩:=zc BK609 0 (.bool false) rfl;obtain ⟨hcz51_1,hfz51_1⟩:=zc BK609 1 (.slice none 0 0) rfl;obtain ⟨hcz51_2,hfz51_2⟩:=zc BK609 2 (.slice none 0 0) rfl))
    refine bodyPost_ret (results_cell_row rfl _ _ gb609 103 #[.bool (!t630),.slice Ao48 t610.length co48,.slice Ao50 t631.length co50] (0,0) _ rfl (zp BK609) underlying103 rfl (by kernel_rfl)) rfl ?_
    exact ⟨_,_,ze,zF HO_3,zF ⟨Kd.R_types HO633.out BK609.out (by decide)⟩,bw⟩
   subst c16
   replace H:=zT H
   obtain ⟨t617,A17,H⟩:=zB H
   obtain ⟨t620,A18,H⟩:=zB H
   by_cases c19:a0_0=true
   case neg=>
    replace c19:=Bool.eq_false_iff.mpr c19
    subst c19
    replace H:=zU H
    obtain ⟨t627,A32,H⟩:=zB H
    obtain ⟨rfl,rfl,rfl⟩:=zo3 H
    go_wp2_with (first|(refine zg (some 21) func137 #[] ?_;(with_reducible refine (YM.calls kj2  t617 _ A17.out).mono ?_);rintro e w33 ⟨v618,rfl,ho0,hb⟩;refine ⟨_,rfl,?_⟩;replace HO_3:=aZ (Kd.V_elder' (zV HO_3) (Kd.R_base ho0) hb);have HO619:=aZ (Kd.R_lower (Kd.R_newM (M:=fun k_=>(w.heap.size≤k_)) ho0 bs (fun k_ h_=>h_)) bs);replace BK608:=sK BK608 hb;replace BK609:=sK BK609 hb;replace HB:=sB hb;clear hb ho0;obtain ⟨Ao34,co34,rfl⟩:=Kd.V_slice HO_3.out;obtain ⟨Ao35,co35,rfl⟩:=Kd.R_slice HO619.out)|(refine zg (some 22) func152 #[.slice Ao34 t610.length co34,.slice Ao35 t617.length co35] ?_;(with_reducible refine (Y0t.calls kj2 _ _ t610 _ _ t617 t620 _ (zC (Kd.V_reads' HO_3.out).2.2) ((Kd.V_reads' HO_3.out).2.1) (zC (Kd.R_reads' HO619.out).2.2) ((Kd.R_reads' HO619.out).2.1) A18.out).mono ?_);rintro e w36 ⟨v621,rfl,ho0,hb⟩;refine ⟨_,rfl,?_⟩;replace HO_3:=aZ (Kd.V_elder' (zV HO_3) (Kd.R_base ho0) hb);have HO622:=aZ (Kd.R_lower (Kd.R_new' (Kd.R_newM (M:=fun k_=>(w.heap.size≤k_)) ho0 bs (fun k_ h_=>h_)) (Kd.R_lt (zR HO619))) bs);replace HO619:=aZ (Kd.R_elder' (zR HO619) (Kd.R_base ho0) hb);replace BK608:=sK BK608 hb;replace BK609:=sK BK609 hb;replace HB:=sB hb;clear hb ho0;have hnb37:=NB608_609.out;have hnc37:=NB609_608.out;obtain ⟨hcz38_0,hfz38_0⟩:=zc BK608 0 (.bool false) rfl;obtain ⟨hcz38_1,hfz38_1⟩:=zc BK608 1 (.slice A0_1 l0_1.length c0_1) rfl;obtain ⟨hcz38_2,hfz38_2⟩:=zc BK608 2 (.slice A0_2 l0_2.length c0_2) rfl)|(refine zg (some 31) func137 #[] ?_;(with_reducible refine (YM.calls kj2  t627 _ A32.out).mono ?_);rintro e w39 ⟨v628,rfl,ho0,hb⟩;refine ⟨_,rfl,?_⟩;replace HO_3:=aZ (Kd.V_elder' (zV HO_3) (Kd.R_base ho0) hb);have HO629:=aZ (Kd.R_lower (Kd.R_new' (Kd.R_new' (Kd.R_newM (M:=fun k_=>(w.heap.size≤k_)) ho0 bs (fun k_ h_=>h_)) (Kd.R_lt (zR HO619))) (Kd.R_lt (zR HO622))) bs);replace HO619:=aZ (Kd.R_elder' (zR HO619) (Kd.R_base ho0) hb);replace HO622:=aZ (Kd.R_elder' (zR HO622) (Kd.R_base ho0) hb);replace BK608:=sK BK608 hb;replace BK609:=sK BK609 hb;replace HB:=sB hb;clear hb ho0;obtain ⟨Ao40,co40,rfl⟩:=Kd.R_slice HO629.out;obtain ⟨Ao41,co41,rfl⟩:=Kd.R_slice HO622.out;obtain ⟨hcz42_0,hfz42_0⟩:=zc BK609 0 (.bool false) rfl;obtain ⟨hcz42_1,hfz42_1⟩:=zc BK609 1 (.slice none 0 0) rfl;obtain ⟨hcz42_2,hfz42_2⟩:=zc BK609 2 (.slice none 0 0) rfl))
    refine bodyPost_ret (results_cell_row rfl _ _ gb609 103 #[.bool false,.slice Ao41 t620.length co41,.slice Ao40 t627.length co40] (0,0) _ rfl (zp BK609) underlying103 rfl (by kernel_rfl)) rfl ?_
    exact ⟨_,_,ze,Kd.R_V (by (with_reducible repeat (first|apply Kd.R_alloc|apply Kd.R_drewN|apply Kd.R_drew));exact Kd.R_mono (Kd.R_far (p:=⟨gb609,2,none⟩) (Kd.R_far (p:=⟨gb609,1,none⟩) (Kd.R_far (p:=⟨gb609,0,none⟩) (Kd.R_types HO622.out BK609.out (by decide)) (fun k_ hk=>by first|exact hk.2|simp_all) (.bool false)) (fun k_ hk=>by first|exact hk.2|simp_all) (.slice Ao41 t620.length co41)) (fun k_ hk=>by first|exact hk.2|simp_all) (.slice Ao40 t627.length co40)) (fun k_ hk=>by first|exact ⟨hk.1.1.1.1,hk.1.2⟩|simp_all)),zF ⟨Kd.R_types HO629.out BK609.out (by decide)⟩,bw⟩
   subst c19
   replace H:=zT H
   obtain ⟨t623,A20,H⟩:=zB H
   obtain ⟨t624,A21,H⟩:=zB H
   obtain ⟨rfl,rfl,rfl⟩:=zo3 H
   go_wp2_with (first|(refine zg (some 21) func137 #[] ?_;(with_reducible refine (YM.calls kj2  t617 _ A17.out).mono ?_);rintro e w22 ⟨v618,rfl,ho0,hb⟩;refine ⟨_,rfl,?_⟩;replace HO_3:=aZ (Kd.V_elder' (zV HO_3) (Kd.R_base ho0) hb);have HO619:=aZ (Kd.R_lower (Kd.R_newM (M:=fun k_=>(w.heap.size≤k_)) ho0 bs (fun k_ h_=>h_)) bs);replace BK608:=sK BK608 hb;replace BK609:=sK BK609 hb;replace HB:=sB hb;clear hb ho0;obtain ⟨Ao23,co23,rfl⟩:=Kd.V_slice HO_3.out;obtain ⟨Ao24,co24,rfl⟩:=Kd.R_slice HO619.out)|(refine zg (some 22) func152 #[.slice Ao23 t610.length co23,.slice Ao24 t617.length co24] ?_;(with_reducible refine (Y0t.calls kj2 _ _ t610 _ _ t617 t620 _ (zC (Kd.V_reads' HO_3.out).2.2) ((Kd.V_reads' HO_3.out).2.1) (zC (Kd.R_reads' HO619.out).2.2) ((Kd.R_reads' HO619.out).2.1) A18.out).mono ?_);rintro e w25 ⟨v621,rfl,ho0,hb⟩;refine ⟨_,rfl,?_⟩;replace HO_3:=aZ (Kd.V_elder' (zV HO_3) (Kd.R_base ho0) hb);have HO622:=aZ (Kd.R_lower (Kd.R_new' (Kd.R_newM (M:=fun k_=>(w.heap.size≤k_)) ho0 bs (fun k_ h_=>h_)) (Kd.R_lt (zR HO619))) bs);replace HO619:=aZ (Kd.R_elder' (zR HO619) (Kd.R_base ho0) hb);replace BK608:=sK BK608 hb;replace BK609:=sK BK609 hb;replace HB:=sB hb;clear hb ho0;have hnb26:=NB608_609.out;have hnc26:=NB609_608.out;obtain ⟨hcz27_0,hfz27_0⟩:=zc BK608 0 (.bool true) rfl;obtain ⟨hcz27_1,hfz27_1⟩:=zc BK608 1 (.slice A0_1 l0_1.length c0_1) rfl;obtain ⟨hcz27_2,hfz27_2⟩:=zc BK608 2 (.slice A0_2 l0_2.length c0_2) rfl;obtain ⟨Ao28,co28,rfl⟩:=Kd.R_slice HO622.out)|(go_at_call 151;(with_reducible refine (YJ.calls _ _ t620 t623 _ (zC (Kd.R_reads' HO622.out).2.2) ((Kd.R_reads' HO622.out).2.1) A20.out).mono ?_);rintro e w' ⟨rfl,⟨nd,rfl⟩⟩;(try (rw [drewN_self w25];generalize hq_:World.drewN w25 _=w25;have n0_:Aside0 (Kd.R (Kd.int .u32) 97 w25 w.heap.size (fun k_=>(w.heap.size≤k_)∧some k_≠(.slice Ao28 t620.length co28:Value).ownBlock) (.slice Ao24 t617.length co24) t617):=⟨by rw [← hq_];exact (rM HO619 (fun k_ hk=>by first|exact ⟨hk.1.1,hk.2⟩|simp_all))⟩;have n1_:Aside0 (Kd.R (Kd.int .u32) 97 w25 w.heap.size (fun k_=>(w.heap.size≤k_)∧some k_≠(.slice Ao24 t617.length co24:Value).ownBlock) (.slice Ao28 t620.length co28) t620):=⟨by rw [← hq_];exact (rM HO622 (fun k_ hk=>by first|exact ⟨hk.1.1,hk.2⟩|simp_all))⟩;have n2_:Aside0 (Kd.V (Kd.int .u32) 97 w25 w.heap.size (fun k_=>(w.heap.size≤k_)∧some k_≠(.slice Ao24 t617.length co24:Value).ownBlock∧some k_≠(.slice Ao28 t620.length co28:Value).ownBlock∧k_≠gb608∧k_≠gb609) (.slice Ao23 t610.length co23) t610):=⟨by rw [← hq_];exact (vM HO_3 (fun _ hk=>⟨hk.1.1.1,⟨hk.1.2,⟨hk.2,⟨hk.1.1.2.1,hk.1.1.2.2⟩⟩⟩⟩))⟩;have n3_:Aside0 (w25.heap[gb608]? = some (.cells #[.bool true,.slice A0_1 l0_1.length c0_1,.slice A0_2 l0_2.length c0_2] 103 (0,0))):=⟨by rw [← hq_];exact (zb BK608)⟩;have n4_:Aside0 (w25.heap[gb609]? = some (.cells #[.bool false,.slice none 0 0,.slice none 0 0] 103 (0,0))):=⟨by rw [← hq_];exact (zb BK609)⟩;have n5_:Aside0 (Below w.heap.size w w25):=⟨by rw [← hq_];exact bw⟩;clear HO619 HO622 HO_3 BK608 BK609 HB hq_;have HO619:=n0_;have HO622:=n1_;have HO_3:=n2_;have BK608:=n3_;have BK609:=n4_;have HB:=n5_;clear n0_ n1_ n2_ n3_ n4_ n5_)))|(refine zg (some 31) func137 #[] ?_;(with_reducible refine (YM.calls kj2  t624 _ A21.out).mono ?_);rintro e w29 ⟨v625,rfl,ho0,hb⟩;refine ⟨_,rfl,?_⟩;replace HO_3:=aZ (Kd.V_elder' (zV HO_3) (Kd.R_base ho0) hb);have HO626:=aZ (Kd.R_lower (Kd.R_new' (Kd.R_new' (Kd.R_newM (M:=fun k_=>(w.heap.size≤k_)) ho0 bs (fun k_ h_=>h_)) (Kd.R_lt (zR HO619))) (Kd.R_lt (zR HO622))) bs);replace HO619:=aZ (Kd.R_elder' (zR HO619) (Kd.R_base ho0) hb);replace HO622:=aZ (Kd.R_elder' (zR HO622) (Kd.R_base ho0) hb);replace BK608:=sK BK608 hb;replace BK609:=sK BK609 hb;replace HB:=sB hb;clear hb ho0;obtain ⟨Ao30,co30,rfl⟩:=Kd.R_slice HO626.out;obtain ⟨hcz31_0,hfz31_0⟩:=zc BK609 0 (.bool false) rfl;obtain ⟨hcz31_1,hfz31_1⟩:=zc BK609 1 (.slice none 0 0) rfl;obtain ⟨hcz31_2,hfz31_2⟩:=zc BK609 2 (.slice none 0 0) rfl))
   refine bodyPost_ret (results_cell_row rfl _ _ gb609 103 #[.bool (!t623),.slice Ao28 t620.length co28,.slice Ao30 t624.length co30] (0,0) _ rfl (zp BK609) underlying103 rfl (by kernel_rfl)) rfl ?_
   exact ⟨_,_,ze,Kd.R_V (by (with_reducible repeat (first|apply Kd.R_alloc|apply Kd.R_drewN|apply Kd.R_drew));exact Kd.R_mono (Kd.R_far (p:=⟨gb609,2,none⟩) (Kd.R_far (p:=⟨gb609,1,none⟩) (Kd.R_far (p:=⟨gb609,0,none⟩) (Kd.R_types HO622.out BK609.out (by decide)) (fun k_ hk=>by first|exact hk.2|simp_all) (.bool (!t623))) (fun k_ hk=>by first|exact hk.2|simp_all) (.slice Ao28 t620.length co28)) (fun k_ hk=>by first|exact hk.2|simp_all) (.slice Ao30 t624.length co30)) (fun k_ hk=>by first|exact ⟨hk.1.1.1.1,hk.1.2⟩|simp_all)),zF ⟨Kd.R_types HO626.out BK609.out (by decide)⟩,bw⟩
def Y00.f (k:Nat) (a0_0:ByteArray) (a0_1:ByteArray):Option (ByteArray×ByteArray×Int):=(Y8.f k a0_0 a0_1).bind fun t639=>(if t639=0 then ((YU.f k a0_0 a0_1).bind fun bt640=>((YT.f k bt640.1 bt640.2.1 bt640.2.2).bind fun bt647=>((Y03.f bt647.1 bt647.2.1 bt647.2.2).bind fun bt654=>(some (bt654.1,bt654.2,0))))) else (some ((⟨#[]⟩:ByteArray),(⟨#[]⟩:ByteArray),t639)))
theorem Y00.calls (k:Nat) (a0_0:ByteArray) (a0_1:ByteArray) (r1:ByteArray) (r2:ByteArray) (r3:Int) (w:World) (hG:Tryz.Gl w) (h:Y00.f k a0_0 a0_1=some (r1,r2,r3)) :
  Calls Tryz.prog 114 #[.agg #[.string a0_0,.string a0_1],.func (.func 132) #[] #[]] w fun e w'=>e = .returned (.tuple #[.agg #[.string r1,.string r2],.int .i64 r3])∧Below w.heap.size w w':=by
 have hu61:=underlying61
 have HG:=aZ hG
 clear hG
 have HB:=aZ (Below.refl w.heap.size w)
 have H:=h
 unfold Y00.f at H
 clear h
 obtain ⟨t639,A2,H⟩:=zB H
 by_cases c3:t639=0
 case neg=>
  rw [if_neg c3] at H
  obtain ⟨c3b0,c3b1⟩:=zX c3
  obtain ⟨rfl,rfl,rfl⟩:=zo3 H
  go_enter func114,ntmps114
  go_wp2_with (first|(refine box_ev 2 #[.string a0_0,.string a0_1] 61 ?_;intro gb637 hg w21 hbox hb;have BK637:=aZ hbox;have GE637:=sG hg;replace HB:=sB hb;clear hb hbox hg)|(refine box_ev 4 #[.string ⟨#[]⟩,.string ⟨#[]⟩] 61 ?_;intro gb638 hg w22 hbox hb;have BK638:=aZ hbox;have GE638:=sG hg;replace HB:=sB hb;obtain ⟨NB637_638,NB638_637,BK637⟩:=sX hg hb BK637;clear hb hbox hg;have hnb23:=NB637_638.out;have hnc23:=NB638_637.out;obtain ⟨hcz24_0,hfz24_0⟩:=zc BK637 0 (.string a0_0) rfl;obtain ⟨hcz24_1,hfz24_1⟩:=zc BK637 1 (.string a0_1) rfl)|(refine zg (some 8) func56 #[.agg #[.string a0_0,.string a0_1]] ?_;(with_reducible refine (Y8.calls k a0_0 a0_1 t639 _ A2.out).mono ?_);rintro e w25 ⟨rfl,hb⟩;refine ⟨_,rfl,?_⟩;replace BK637:=sK BK637 hb;replace BK638:=sK BK638 hb;replace HB:=sB hb;clear hb;obtain ⟨hcz26_0,hfz26_0⟩:=zc BK638 0 (.string ⟨#[]⟩) rfl;obtain ⟨hcz26_1,hfz26_1⟩:=zc BK638 1 (.string ⟨#[]⟩) rfl))
  refine bodyPost_ret (results_ct rfl _ _ gb638 61 #[.string ⟨#[]⟩,.string ⟨#[]⟩] (0,0) _ rfl (zp BK638) underlying61 rfl (by kernel_rfl)) rfl ?_
  exact ⟨ze,bw⟩
 rw [if_pos c3] at H
 obtain ⟨c3b0,c3b1⟩:=zY c3
 clear c3
 obtain ⟨⟨t640,t641,t644⟩,A4,H⟩:=zB H
 (try dsimp only at H)
 obtain ⟨⟨t647,t648,t651⟩,A5,H⟩:=zB H
 (try dsimp only at H)
 obtain ⟨⟨t654,t655⟩,A6,H⟩:=zB H
 (try dsimp only at H)
 obtain ⟨rfl,rfl,rfl⟩:=zo3 H
 go_enter func114,ntmps114
 go_wp2_with (first|(refine box_ev 2 #[.string a0_0,.string a0_1] 61 ?_;intro gb637 hg w7 hbox hb;have BK637:=aZ hbox;have GE637:=sG hg;replace HB:=sB hb;clear hb hbox hg)|(refine box_ev 4 #[.string ⟨#[]⟩,.string ⟨#[]⟩] 61 ?_;intro gb638 hg w8 hbox hb;have BK638:=aZ hbox;have GE638:=sG hg;replace HB:=sB hb;obtain ⟨NB637_638,NB638_637,BK637⟩:=sX hg hb BK637;clear hb hbox hg;have hnb9:=NB637_638.out;have hnc9:=NB638_637.out;obtain ⟨hcz10_0,hfz10_0⟩:=zc BK637 0 (.string a0_0) rfl;obtain ⟨hcz10_1,hfz10_1⟩:=zc BK637 1 (.string a0_1) rfl)|(refine zg (some 8) func56 #[.agg #[.string a0_0,.string a0_1]] ?_;(with_reducible refine (Y8.calls k a0_0 a0_1 t639 _ A2.out).mono ?_);rintro e w11 ⟨rfl,hb⟩;refine ⟨_,rfl,?_⟩;replace BK637:=sK BK637 hb;replace BK638:=sK BK638 hb;replace HB:=sB hb;clear hb;obtain ⟨hcz12_0,hfz12_0⟩:=zc BK637 0 (.string a0_0) rfl;obtain ⟨hcz12_1,hfz12_1⟩:=zc BK637 1 (.string a0_1) rfl)|(refine zg (some 15) func127 #[.agg #[.string a0_0,.string a0_1]] ?_;(with_reducible refine (YU.calls k a0_0 a0_1 t640 t641 t644 _ A4.out).mono ?_);rintro e w13 ⟨v642,v645,rfl,ho0,ho1,hb⟩;refine ⟨_,rfl,?_⟩;have HO643:=yL (fun k_=>k_≠gb637∧k_≠gb638) ho0 (fun k_ hk_=>⟨(zf BK637 hk_),(zf BK638 hk_)⟩);have HO646:=yL (fun k_=>k_≠gb637∧k_≠gb638) ho1 (fun k_ hk_=>⟨(zf BK637 hk_),(zf BK638 hk_)⟩);replace BK637:=sK BK637 hb;replace BK638:=sK BK638 hb;replace HB:=sB hb;clear hb ho0 ho1;obtain ⟨Ao14,co14,rfl⟩:=Kd.V_slice HO643.out;obtain ⟨Ao15,co15,rfl⟩:=Kd.V_slice HO646.out)|((with_reducible refine gate_tmp (t:=13) rfl ?_);refine goesT_ (some 16) rfl rfl (t:=13) (by rfl) func132 (by kernel_rfl) rfl #[.agg #[.bool t640,.slice Ao14 t641.length co14,.slice Ao15 t644.length co15]] rfl zm ?_;(with_reducible refine (YT.calls k t640 _ _ t641 _ _ t644 t647 t648 t651 _ (zC (Kd.V_reads' HO643.out).2.2) ((Kd.V_reads' HO643.out).2.1) (zC (Kd.V_reads' HO646.out).2.2) ((Kd.V_reads' HO646.out).2.1) A5.out).mono ?_);rintro e w16 ⟨v649,v652,rfl,ho0,ho1,hb⟩;refine ⟨_,rfl,?_⟩;replace HO643:=aZ (Kd.V_elder' (zV HO643) (Kd.R_base ho1) hb);replace HO646:=aZ (Kd.V_elder' (zV HO646) (Kd.R_base ho1) hb);have HO650:=yL (fun k_=>some k_≠(v652:Value).ownBlock∧k_≠gb637∧k_≠gb638) ho0 (fun k_ hk_=>⟨hk_.2,(Kd.freshB (g:=gb637) (o:=.cells #[.string a0_0,.string a0_1] 61 (0,0)) (zb BK637) k_ hk_.1),(Kd.freshB (g:=gb638) (o:=.cells #[.string ⟨#[]⟩,.string ⟨#[]⟩] 61 (0,0)) (zb BK638) k_ hk_.1)⟩);have HO653:=aZ (Kd.R_lower (Kd.R_mono (ok':=fun k_=>True) ho1 (fun _ hk_=>trivial)) bs);replace BK637:=sK BK637 hb;replace BK638:=sK BK638 hb;replace HB:=sB hb;clear hb ho0 ho1;obtain ⟨Ao17,co17,rfl⟩:=Kd.V_slice HO650.out;obtain ⟨Ao18,co18,rfl⟩:=Kd.R_slice HO653.out)|(refine zg (some 17) func96 #[.agg #[.bool t647,.slice Ao17 t648.length co17,.slice Ao18 t651.length co18]] ?_;(with_reducible refine (Y03.calls t647 _ _ t648 _ _ t651 t654 t655 _ (zC (Kd.V_reads' HO650.out).2.2) ((Kd.V_reads' HO650.out).2.1) (zC (Kd.R_reads' HO653.out).2.2) ((Kd.R_reads' HO653.out).2.1) (Tryz.Gl.below HG.out bw) A6.out).mono ?_);rintro e w19 ⟨rfl,hb⟩;refine ⟨_,rfl,?_⟩;replace HO643:=yV HO643 hb;replace HO646:=yV HO646 hb;replace HO650:=yV HO650 hb;replace HO653:=yR HO653 hb;replace BK637:=sK BK637 hb;replace BK638:=sK BK638 hb;replace HB:=sB hb;clear hb;obtain ⟨hcz20_0,hfz20_0⟩:=zc BK638 0 (.string ⟨#[]⟩) rfl;obtain ⟨hcz20_1,hfz20_1⟩:=zc BK638 1 (.string ⟨#[]⟩) rfl))
 refine bodyPost_ret (results_ct rfl _ _ gb638 61 #[.string t654,.string t655] (0,0) _ rfl (zp BK638) underlying61 rfl (by kernel_rfl)) rfl ?_
 exact ⟨ze,bw⟩
def Y0n.f (k:Nat) (a0_0:ByteArray) (a0_1:ByteArray):Option (ByteArray×ByteArray×Int):=(Y00.f k a0_0 a0_1).bind fun bt658=>(some (bt658.1,bt658.2.1,bt658.2.2))
theorem Y0n.calls (k:Nat) (a0_0:ByteArray) (a0_1:ByteArray) (r1:ByteArray) (r2:ByteArray) (r3:Int) (w:World) (hG:Tryz.Gl w) (h:Y0n.f k a0_0 a0_1=some (r1,r2,r3)) :
  Calls Tryz.prog 81 #[.agg #[.string a0_0,.string a0_1]] w fun e w'=>e = .returned (.tuple #[.agg #[.string r1,.string r2],.int .i64 r3])∧Below w.heap.size w w':=by
 have hu61:=underlying61
 have HG:=aZ hG
 clear hG
 have HB:=aZ (Below.refl w.heap.size w)
 have H:=h
 unfold Y0n.f at H
 clear h
 obtain ⟨⟨t658,t659,t660⟩,A2,H⟩:=zB H
 (try dsimp only at H)
 obtain ⟨rfl,rfl,rfl⟩:=zo3 H
 go_enter func81,ntmps81
 go_wp2_with (first|(refine box_ev 1 #[.string a0_0,.string a0_1] 61 ?_;intro gb656 hg w3 hbox hb;have BK656:=aZ hbox;have GE656:=sG hg;replace HB:=sB hb;clear hb hbox hg)|(refine box_ev 2 #[.string ⟨#[]⟩,.string ⟨#[]⟩] 61 ?_;intro gb657 hg w4 hbox hb;have BK657:=aZ hbox;have GE657:=sG hg;replace HB:=sB hb;obtain ⟨NB656_657,NB657_656,BK656⟩:=sX hg hb BK656;clear hb hbox hg;have hnb5:=NB656_657.out;have hnc5:=NB657_656.out;obtain ⟨hcz6_0,hfz6_0⟩:=zc BK656 0 (.string a0_0) rfl;obtain ⟨hcz6_1,hfz6_1⟩:=zc BK656 1 (.string a0_1) rfl)|(refine zg (some 5) func114 #[.agg #[.string a0_0,.string a0_1],.func (.func 132) #[] #[]] ?_;(with_reducible refine (Y00.calls k a0_0 a0_1 t658 t659 t660 _ (Tryz.Gl.below HG.out bw) A2.out).mono ?_);rintro e w7 ⟨rfl,hb⟩;refine ⟨_,rfl,?_⟩;replace BK656:=sK BK656 hb;replace BK657:=sK BK657 hb;replace HB:=sB hb;clear hb;obtain ⟨hcz8_0,hfz8_0⟩:=zc BK657 0 (.string ⟨#[]⟩) rfl;obtain ⟨hcz8_1,hfz8_1⟩:=zc BK657 1 (.string ⟨#[]⟩) rfl))
 refine bodyPost_ret (results_ct rfl _ _ gb657 61 #[.string t658,.string t659] (0,0) _ rfl (zp BK657) underlying61 rfl (by kernel_rfl)) rfl ?_
 exact ⟨ze,bw⟩
def YL.l0:Nat→List Int→List Int→Int→List Int→Int→Int→Option (List Int)
 | 0,_,_,_,_,_,_=>none
 | k+1,x1,x5,x6,x13,x14,x15=>if x15<x14 then (if 0≤x15 then (if x15<(x13.length:Int) then (if x15<(x1.length:Int) then (if (rd x13 x15)<((x6+(rd x1 x15))%4294967296) then (if x15<(x5.length:Int) then (YL.l0 k x1 (x5.set (x15:Int).toNat (((((rd x13 x15)+1000000000)%4294967296)-((x6+(rd x1 x15))%4294967296))%4294967296)) 1 x13 x14 (wrap64 (x15+1))) else (none)) else (if x15<(x5.length:Int) then (YL.l0 k x1 (x5.set (x15:Int).toNat (((rd x13 x15)-((x6+(rd x1 x15))%4294967296))%4294967296)) 0 x13 x14 (wrap64 (x15+1))) else (none))) else (if (rd x13 x15)<x6 then (if x15<(x5.length:Int) then (YL.l0 k x1 (x5.set (x15:Int).toNat (((((rd x13 x15)+1000000000)%4294967296)-x6)%4294967296)) 1 x13 x14 (wrap64 (x15+1))) else (none)) else (if x15<(x5.length:Int) then (YL.l0 k x1 (x5.set (x15:Int).toNat (((rd x13 x15)-x6)%4294967296)) 0 x13 x14 (wrap64 (x15+1))) else (none)))) else (none)) else (none)) else ((Yh.f k x5).bind fun t664=>(some t664))
def YL.f (k:Nat) (l0:List Int) (l1:List Int):Option (List Int):=if 0≤(l0.length:Int) then (if ((l0.length:Int):Int).toNat≤70368744177664 then (YL.l0 k l1 (List.replicate ((l0.length:Int):Int).toNat 0) 0 l0 (l0.length:Int) 0) else (none)) else (none)
theorem YL.calls (k:Nat) (A0:Option Addr) (c0:Nat) (l0:List Int) (A1:Option Addr) (c1:Nat) (l1:List Int) (r:List Int) (w:World) (hr0:Kd.C (Kd.int .u32) w A0 l0.length l0) (hc0:l0.length≤c0) (hr1:Kd.C (Kd.int .u32) w A1 l1.length l1) (hc1:l1.length≤c1) (h:YL.f k l0 l1=some r) :
  Calls Tryz.prog 154 #[.slice A0 l0.length c0,.slice A1 l1.length c1] w fun e w'=>∃ v0_:Value,e = .returned (v0_)∧Kd.V (Kd.int .u32) 97 w' w.heap.size (fun k_=>(w.heap.size≤k_)) v0_ r∧Below w.heap.size w w':=by
 have HR0:=aZ hr0
 have HC0:=aZ hc0
 clear hr0 hc0
 have HR1:=aZ hr1
 have HC1:=aZ hc1
 clear hr1 hc1
 have HB:=aZ (Below.refl w.heap.size w)
 have H:=h
 unfold YL.f at H
 clear h
 by_cases c3:0≤(l0.length:Int)
 case neg=>
  rw [if_neg c3] at H
  cases H
 rw [if_pos c3] at H
 have c3b0:=eq_true c3
 have c3b1:=decide_eq_true c3
 clear c3
 by_cases c4:((l0.length:Int):Int).toNat≤70368744177664
 case neg=>
  rw [if_neg c4] at H
  cases H
 rw [if_pos c4] at H
 have c4b0:=eq_true c4
 have c4b1:=decide_eq_true c4
 clear c4
 obtain ⟨y661,hy661⟩:∃ y_:List Int,y_=(List.replicate ((l0.length:Int):Int).toNat 0):=⟨_,rfl⟩
 replace H:(YL.l0 k l1 y661 0 l0 (l0.length:Int) 0)=some r:=zy hy661 H
 have Ny661:=aZ hy661
 clear hy661
 have H':=aZ H
 clear H
 go_enter func154,ntmps154
 go_wp2_with (first|((with_reducible refine gate_dst (N:=12) rfl ?_);refine Kd.R_make (Kd.int .u32) _ 97 rfl (N:=12) rfl 101 _ _ rfl (l0.length:Int) rfl rfl underlying101 (.int .u32 0) 4 info97 rfl (by decide) (by omega) 0 (ok:=fun _=>True) (okp:=fun _=>True) rfl (fun _ hk=>hk) trivial (zd) (Nat.le_trans (Nat.mul_le_mul_right _ (zd:(l0.length:Int).toNat≤70368744177664)) (by omega)) (Below.refl _ _) (Nat.le_refl _) ?_;intro v662 w5 ho6 hb hg_ hnew_;clear hg_ hnew_;(first|rw [← Ny661.out] at ho6|(simp only [Int.reduceToNat] at ho6;rw [← Ny661.out] at ho6));have HO663:=aZ (Kd.R_lower (Kd.R_newM (M:=fun k_=>(w.heap.size≤k_)) ho6 bs (fun k_ h_=>h_)) bs);replace HB:=sB hb;clear hb ho6))
 go_loopg [6,15] k (fun kq v6 v15 w'=>∃ (x5_1:List Int) (x6_1:Int) (x15_1:Int),v6 = .int .u32 x6_1∧v15 = .int .i64 x15_1∧Aside0 (YL.l0 kq l1 x5_1 x6_1 l0 (l0.length:Int) x15_1=some r)∧Aside0 (kq≤k)∧Aside0 (Kd.R (Kd.int .u32) 97 w' w.heap.size (fun k_=>(w.heap.size≤k_)) v662 x5_1)∧Aside0 (Below w.heap.size w w'))
 case atStart=>exact ⟨(y661),(0),(0),zs,zs,H',⟨Nat.le_refl _⟩,⟨rM HO663 (fun _ hk=>hk.1)⟩,⟨bw⟩⟩
 case round =>
  clear H'
  try clear c1
  try clear c3
  try clear c3b0
  try clear c3b1
  try clear c4
  try clear c4b0
  try clear c4b1
  obtain ⟨x5_1,x6_1,x15_1,rfl,rfl,HA,HK1,HO_5,HB⟩:=hrel
  cases gk with
  | zero=>exact absurd HA.out (by simp [YL.l0])
  | succ k1 =>
   have H:=HA.out
   clear HA
   simp only [YL.l0] at H
   by_cases c7:x15_1<(l0.length:Int)
   case neg=>
    rw [if_neg c7] at H
    have c7b0:=decide_eq_false c7
    clear c7
    obtain ⟨t664,A29,H⟩:=zB H
    obtain rfl:=Option.some.inj H
    obtain ⟨Ao30,co30,rfl⟩:=Kd.R_slice HO_5.out
    go_wp2_with (first|(refine zg (some 44) func147 #[.slice Ao30 x5_1.length co30] ?_;(with_reducible refine (Yh.calls k1 (fun k_=>some k_=(.slice Ao30 x5_1.length co30:Value).ownBlock) _ _ x5_1 t664 _ ?side1 A29.out).mono ?_);(case side1=>exact Kd.R_V (Kd.R_tight rfl (HO_5.out)));rintro e w31 ⟨v665,rfl,ho0,hb⟩;refine ⟨_,rfl,?_⟩;have HO666:=yL (fun k_=>(w.heap.size≤k_)) ho0 (fun k_ hk_=>Or.elim hk_ (fun hs_=>((HO_5.out).1 k_ hs_.symm)) (fun hn_=>(Nat.le_trans bs hn_)));replace HO_5:=yR HO_5 hb;replace HB:=sB hb;clear hb ho0))
    go_ret
    exact ⟨_,ze,zV HO666,bw⟩
   rw [if_pos c7] at H
   have c7b0:=decide_eq_true c7
   clear c7
   by_cases c8:0≤x15_1
   case neg=>
    rw [if_neg c8] at H
    cases H
   rw [if_pos c8] at H
   have c8b0:=decide_eq_true c8
   clear c8
   by_cases c9:x15_1<(l0.length:Int)
   case neg=>
    rw [if_neg c9] at H
    cases H
   rw [if_pos c9] at H
   have c9b0:=decide_eq_true c9
   clear c9
   by_cases c10:x15_1<(l1.length:Int)
   case neg=>
    rw [if_neg c10] at H
    have c10b0:=decide_eq_false c10
    clear c10
    by_cases c20:(rd l0 x15_1)<x6_1
    case neg=>
     rw [if_neg c20] at H
     have c20b0:=decide_eq_false c20
     clear c20
     by_cases c25:x15_1<(x5_1.length:Int)
     case neg=>
      rw [if_neg c25] at H
      cases H
     rw [if_pos c25] at H
     have c25b0:=decide_eq_true c25
     clear c25
     obtain ⟨y672,hy672⟩:∃ y_:List Int,y_=(x5_1.set (x15_1:Int).toNat (((rd l0 x15_1)-x6_1)%4294967296)):=⟨_,rfl⟩
     replace H:(YL.l0 k1 l1 y672 0 l0 (l0.length:Int) (wrap64 (x15_1+1)))=some r:=zy hy672 H
     have Ny672:=aZ hy672
     clear hy672
     have H':=aZ H
     clear H
     have p667:0≤(x15_1:Int):=zd
     have q667:x15_1<(l0.length:Int):=zd
     obtain ⟨ad667,e667,hx667_0⟩:=Kd.at_int HR0.out x15_1 p667 q667
     cases e667
     replace hx667_0:=(HB.out.cell (World.block_lt_of_cell? w _ hx667_0)).trans hx667_0
     replace p667:=eq_true p667
     replace q667:=eq_true q667
     have p26:0≤(x15_1:Int):=zd
     have q26:(x15_1:Int)<((x5_1.length:Int):Int):=zd
     obtain ⟨go26,co26,eo26,gb26,gl26,cl26,HG26⟩:=Kd.R_form HO_5.out (by omega)
     (first|cases eo26|(injection eo26 with ea_ en_ ec_;(first|subst ea_|(injection ea_ with ea_;subst ea_));subst ec_;clear en_))
     have GB26:=aZ gb26
     have GG26:=aZ HG26
     clear gb26 gl26 HG26
     obtain ⟨hx26_0,hf26_0⟩:=Kd.R_celln 0 HO_5.out (x15_1:Int) p26 q26
     replace p26:=eq_true p26
     replace q26:=eq_true q26
     have HP27:=Kd.R_putg HO_5.out (x15_1:Int) (((rd l0 x15_1)-x6_1)%4294967296)
     go_wp2_with (first|((with_reducible refine gate_store (t:=97) (p:=41) rfl ?_);refine store_event (t:=97) (p:=41) (v:=?vo_w28) (w1:=(wr.setCell ⟨go26,(x15_1:Int).toNat,none⟩ (.int .u32 (((rd l0 x15_1)-x6_1)%4294967296)))) ?hg ?ho ?hn ?hr ?_;(case ho=>rfl);(case hg=>rfl);(case hn=>rfl);(case hr=>first|(go_simp;done)|(go_simp;rfl));intro w28 hw;have hg:wr.grownBy w28 (some go26):=(by rw [hw];exact HP27.2);have hp_:Kd.R (Kd.int .u32) 97 w28 w.heap.size (fun k_=>(w.heap.size≤k_)) (.slice (some ⟨go26,0,none⟩) x5_1.length co26) y672:=(by rw [hw,Ny672.out];exact HP27.1);clear HP27;replace HO_5:=aZ (hp_);replace HB:=aZ ((by rw [hw];exact below_set (HB.out) GB26.out:Below w.heap.size w w28));clear hg hw hp_))
     go_roundg k1
     case measure=>have:=HK1.out;omega
     case rel=>exact ⟨(y672),(0),(wrap64 (x15_1+1)),zs,zs,H',⟨by have:=HK1.out;omega⟩,⟨zR HO_5⟩,⟨bw⟩⟩
    rw [if_pos c20] at H
    have c20b0:=decide_eq_true c20
    clear c20
    by_cases c21:x15_1<(x5_1.length:Int)
    case neg=>
     rw [if_neg c21] at H
     cases H
    rw [if_pos c21] at H
    have c21b0:=decide_eq_true c21
    clear c21
    obtain ⟨y671,hy671⟩:∃ y_:List Int,y_=(x5_1.set (x15_1:Int).toNat (((((rd l0 x15_1)+1000000000)%4294967296)-x6_1)%4294967296)):=⟨_,rfl⟩
    replace H:(YL.l0 k1 l1 y671 1 l0 (l0.length:Int) (wrap64 (x15_1+1)))=some r:=zy hy671 H
    have Ny671:=aZ hy671
    clear hy671
    have H':=aZ H
    clear H
    have p667:0≤(x15_1:Int):=zd
    have q667:x15_1<(l0.length:Int):=zd
    obtain ⟨ad667,e667,hx667_0⟩:=Kd.at_int HR0.out x15_1 p667 q667
    cases e667
    replace hx667_0:=(HB.out.cell (World.block_lt_of_cell? w _ hx667_0)).trans hx667_0
    replace p667:=eq_true p667
    replace q667:=eq_true q667
    have p22:0≤(x15_1:Int):=zd
    have q22:(x15_1:Int)<((x5_1.length:Int):Int):=zd
    obtain ⟨go22,co22,eo22,gb22,gl22,cl22,HG22⟩:=Kd.R_form HO_5.out (by omega)
    (first|cases eo22|(injection eo22 with ea_ en_ ec_;(first|subst ea_|(injection ea_ with ea_;subst ea_));subst ec_;clear en_))
    have GB22:=aZ gb22
    have GG22:=aZ HG22
    clear gb22 gl22 HG22
    obtain ⟨hx22_0,hf22_0⟩:=Kd.R_celln 0 HO_5.out (x15_1:Int) p22 q22
    replace p22:=eq_true p22
    replace q22:=eq_true q22
    have HP23:=Kd.R_putg HO_5.out (x15_1:Int) (((((rd l0 x15_1)+1000000000)%4294967296)-x6_1)%4294967296)
    go_wp2_with (first|((with_reducible refine gate_store (t:=97) (p:=41) rfl ?_);refine store_event (t:=97) (p:=41) (v:=?vo_w24) (w1:=(wr.setCell ⟨go22,(x15_1:Int).toNat,none⟩ (.int .u32 (((((rd l0 x15_1)+1000000000)%4294967296)-x6_1)%4294967296)))) ?hg ?ho ?hn ?hr ?_;(case ho=>rfl);(case hg=>rfl);(case hn=>rfl);(case hr=>first|(go_simp;done)|(go_simp;rfl));intro w24 hw;have hg:wr.grownBy w24 (some go22):=(by rw [hw];exact HP23.2);have hp_:Kd.R (Kd.int .u32) 97 w24 w.heap.size (fun k_=>(w.heap.size≤k_)) (.slice (some ⟨go22,0,none⟩) x5_1.length co22) y671:=(by rw [hw,Ny671.out];exact HP23.1);clear HP23;replace HO_5:=aZ (hp_);replace HB:=aZ ((by rw [hw];exact below_set (HB.out) GB22.out:Below w.heap.size w w24));clear hg hw hp_))
    go_roundg k1
    case measure=>have:=HK1.out;omega
    case rel=>exact ⟨(y671),(1),(wrap64 (x15_1+1)),zs,zs,H',⟨by have:=HK1.out;omega⟩,⟨zR HO_5⟩,⟨bw⟩⟩
   rw [if_pos c10] at H
   have c10b0:=decide_eq_true c10
   clear c10
   by_cases c11:(rd l0 x15_1)<((x6_1+(rd l1 x15_1))%4294967296)
   case neg=>
    rw [if_neg c11] at H
    have c11b0:=decide_eq_false c11
    clear c11
    by_cases c16:x15_1<(x5_1.length:Int)
    case neg=>
     rw [if_neg c16] at H
     cases H
    rw [if_pos c16] at H
    have c16b0:=decide_eq_true c16
    clear c16
    obtain ⟨y670,hy670⟩:∃ y_:List Int,y_=(x5_1.set (x15_1:Int).toNat (((rd l0 x15_1)-((x6_1+(rd l1 x15_1))%4294967296))%4294967296)):=⟨_,rfl⟩
    replace H:(YL.l0 k1 l1 y670 0 l0 (l0.length:Int) (wrap64 (x15_1+1)))=some r:=zy hy670 H
    have Ny670:=aZ hy670
    clear hy670
    have H':=aZ H
    clear H
    have p667:0≤(x15_1:Int):=zd
    have q667:x15_1<(l0.length:Int):=zd
    obtain ⟨ad667,e667,hx667_0⟩:=Kd.at_int HR0.out x15_1 p667 q667
    cases e667
    replace hx667_0:=(HB.out.cell (World.block_lt_of_cell? w _ hx667_0)).trans hx667_0
    replace p667:=eq_true p667
    replace q667:=eq_true q667
    have p668:0≤(x15_1:Int):=zd
    have q668:x15_1<(l1.length:Int):=zd
    obtain ⟨ad668,e668,hx668_0⟩:=Kd.at_int HR1.out x15_1 p668 q668
    cases e668
    replace hx668_0:=(HB.out.cell (World.block_lt_of_cell? w _ hx668_0)).trans hx668_0
    replace p668:=eq_true p668
    replace q668:=eq_true q668
    have p17:0≤(x15_1:Int):=zd
    have q17:(x15_1:Int)<((x5_1.length:Int):Int):=zd
    obtain ⟨go17,co17,eo17,gb17,gl17,cl17,HG17⟩:=Kd.R_form HO_5.out (by omega)
    (first|cases eo17|(injection eo17 with ea_ en_ ec_;(first|subst ea_|(injection ea_ with ea_;subst ea_));subst ec_;clear en_))
    have GB17:=aZ gb17
    have GG17:=aZ HG17
    clear gb17 gl17 HG17
    obtain ⟨hx17_0,hf17_0⟩:=Kd.R_celln 0 HO_5.out (x15_1:Int) p17 q17
    replace p17:=eq_true p17
    replace q17:=eq_true q17
    have HP18:=Kd.R_putg HO_5.out (x15_1:Int) (((rd l0 x15_1)-((x6_1+(rd l1 x15_1))%4294967296))%4294967296)
    go_wp2_with (first|((with_reducible refine gate_store (t:=97) (p:=41) rfl ?_);refine store_event (t:=97) (p:=41) (v:=?vo_w19) (w1:=(wr.setCell ⟨go17,(x15_1:Int).toNat,none⟩ (.int .u32 (((rd l0 x15_1)-((x6_1+(rd l1 x15_1))%4294967296))%4294967296)))) ?hg ?ho ?hn ?hr ?_;(case ho=>rfl);(case hg=>rfl);(case hn=>rfl);(case hr=>first|(go_simp;done)|(go_simp;rfl));intro w19 hw;have hg:wr.grownBy w19 (some go17):=(by rw [hw];exact HP18.2);have hp_:Kd.R (Kd.int .u32) 97 w19 w.heap.size (fun k_=>(w.heap.size≤k_)) (.slice (some ⟨go17,0,none⟩) x5_1.length co17) y670:=(by rw [hw,Ny670.out];exact HP18.1);clear HP18;replace HO_5:=aZ (hp_);replace HB:=aZ ((by rw [hw];exact below_set (HB.out) GB17.out:Below w.heap.size w w19));clear hg hw hp_))
    go_roundg k1
    case measure=>have:=HK1.out;omega
    case rel=>exact ⟨(y670),(0),(wrap64 (x15_1+1)),zs,zs,H',⟨by have:=HK1.out;omega⟩,⟨zR HO_5⟩,⟨bw⟩⟩
   rw [if_pos c11] at H
   have c11b0:=decide_eq_true c11
   clear c11
   by_cases c12:x15_1<(x5_1.length:Int)
   case neg=>
    rw [if_neg c12] at H
    cases H
   rw [if_pos c12] at H
   have c12b0:=decide_eq_true c12
   clear c12
   obtain ⟨y669,hy669⟩:∃ y_:List Int,y_=(x5_1.set (x15_1:Int).toNat (((((rd l0 x15_1)+1000000000)%4294967296)-((x6_1+(rd l1 x15_1))%4294967296))%4294967296)):=⟨_,rfl⟩
   replace H:(YL.l0 k1 l1 y669 1 l0 (l0.length:Int) (wrap64 (x15_1+1)))=some r:=zy hy669 H
   have Ny669:=aZ hy669
   clear hy669
   have H':=aZ H
   clear H
   have p667:0≤(x15_1:Int):=zd
   have q667:x15_1<(l0.length:Int):=zd
   obtain ⟨ad667,e667,hx667_0⟩:=Kd.at_int HR0.out x15_1 p667 q667
   cases e667
   replace hx667_0:=(HB.out.cell (World.block_lt_of_cell? w _ hx667_0)).trans hx667_0
   replace p667:=eq_true p667
   replace q667:=eq_true q667
   have p668:0≤(x15_1:Int):=zd
   have q668:x15_1<(l1.length:Int):=zd
   obtain ⟨ad668,e668,hx668_0⟩:=Kd.at_int HR1.out x15_1 p668 q668
   cases e668
   replace hx668_0:=(HB.out.cell (World.block_lt_of_cell? w _ hx668_0)).trans hx668_0
   replace p668:=eq_true p668
   replace q668:=eq_true q668
   have p13:0≤(x15_1:Int):=zd
   have q13:(x15_1:Int)<((x5_1.length:Int):Int):=zd
   obtain ⟨go13,co13,eo13,gb13,gl13,cl13,HG13⟩:=Kd.R_form HO_5.out (by omega)
   (first|cases eo13|(injection eo13 with ea_ en_ ec_;(first|subst ea_|(injection ea_ with ea_;subst ea_));subst ec_;clear en_))
   have GB13:=aZ gb13
   have GG13:=aZ HG13
   clear gb13 gl13 HG13
   obtain ⟨hx13_0,hf13_0⟩:=Kd.R_celln 0 HO_5.out (x15_1:Int) p13 q13
   replace p13:=eq_true p13
   replace q13:=eq_true q13
   have HP14:=Kd.R_putg HO_5.out (x15_1:Int) (((((rd l0 x15_1)+1000000000)%4294967296)-((x6_1+(rd l1 x15_1))%4294967296))%4294967296)
   go_wp2_with (first|((with_reducible refine gate_store (t:=97) (p:=41) rfl ?_);refine store_event (t:=97) (p:=41) (v:=?vo_w15) (w1:=(wr.setCell ⟨go13,(x15_1:Int).toNat,none⟩ (.int .u32 (((((rd l0 x15_1)+1000000000)%4294967296)-((x6_1+(rd l1 x15_1))%4294967296))%4294967296)))) ?hg ?ho ?hn ?hr ?_;(case ho=>rfl);(case hg=>rfl);(case hn=>rfl);(case hr=>first|(go_simp;done)|(go_simp;rfl));intro w15 hw;have hg:wr.grownBy w15 (some go13):=(by rw [hw];exact HP14.2);have hp_:Kd.R (Kd.int .u32) 97 w15 w.heap.size (fun k_=>(w.heap.size≤k_)) (.slice (some ⟨go13,0,none⟩) x5_1.length co13) y669:=(by rw [hw,Ny669.out];exact HP14.1);clear HP14;replace HO_5:=aZ (hp_);replace HB:=aZ ((by rw [hw];exact below_set (HB.out) GB13.out:Below w.heap.size w w15));clear hg hw hp_))
   go_roundg k1
   case measure=>have:=HK1.out;omega
   case rel=>exact ⟨(y669),(1),(wrap64 (x15_1+1)),zs,zs,H',⟨by have:=HK1.out;omega⟩,⟨zR HO_5⟩,⟨bw⟩⟩
end Go.Proofs.YtaffkbemjbfajaaGreatDoor.PNumOrders
