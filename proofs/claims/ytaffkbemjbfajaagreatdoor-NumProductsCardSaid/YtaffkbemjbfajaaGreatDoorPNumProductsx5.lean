-- By a program of this session: functions as plain Lean functions, each with its proof over the machine.
import Derived.Test.YtaffkbemjbfajaaGreatDoorPNumProductsx0
import Derived.Test.YtaffkbemjbfajaaGreatDoorPNumProductsx1
import Derived.Test.YtaffkbemjbfajaaGreatDoorPNumProductsx2
import Derived.Test.YtaffkbemjbfajaaGreatDoorPNumProductsx4
namespace Go.Proofs.YtaffkbemjbfajaaGreatDoor.PNumProducts
open Go.RowKit Go.Proofs.Tryz Go.Proofs.YtaffkbemjbfajaaGreatDoorW.PrintWords Go.Proofs.YtaffkbemjbfajaaGreatDoorW.PrintLast Go.Proofs.YtaffkbemjbfajaaGreatDoorW.PrintMore
attribute [local go_sem] max2_int min2_int max_two min_two max_three min_three max_four min_four
set_option linter.unusedVariables false
set_option linter.unusedSimpArgs false
set_option maxHeartbeats 8000000
set_option maxRecDepth 100000
def frac_Power.l0:Nat→Int→Int→Bool→List Int→List Int→Bool→List Int→List Int→Option (Bool×List Int×List Int)
 | 0,_,_,_,_,_,_,_,_=>none
 | k+1,x16,x17,x900003000,x900003001,x900003002,x900006000,x900006001,x900006002=>if x17<x16 then ((nat_Mul.f k x900006001 x900003001).bind fun t653=>((nat_Mul.f k x900006002 x900003002).bind fun t656=>(frac_Power.l0 k x16 (wrap64 (x17+1)) x900003000 x900003001 x900003002 x900006000 t653 t656))) else ((nat_Nat_Zero.f x900006001).bind fun t659=>(if t659=true then ((frac_Int.f k 0).bind fun bt660=>(some (bt660.1,bt660.2.1,bt660.2.2))) else (some (x900006000,x900006001,x900006002))))
def frac_Power.f (k:Nat) (a0_0:Bool) (l0_1:List Int) (l0_2:List Int) (a1:Int):Option (Bool×List Int×List Int):=if a0_0=true then ((frac_one.f k).bind fun t646=>((frac_one.f k).bind fun t649=>(frac_Power.l0 k a1 0 a0_0 l0_1 l0_2 ((Int.tmod a1 2)==1) t646 t649))) else ((frac_one.f k).bind fun t667=>((frac_one.f k).bind fun t670=>(frac_Power.l0 k a1 0 a0_0 l0_1 l0_2 false t667 t670)))
def frac_Power.T4:Bool×List (List Nat×List Nat):=(true,[([],[]),([0],[0]),([],[]),([2],[2]),([1,3],[1,3]),([],[]),([5],[5]),([],[]),([7],[7]),([6,8,4],[6,8]),([0,1,2,3,4,5,6],[]),([10,4,9,0,1,2,3,4,5,6],[4,10]),([0,1,2,3,4,5,6,7,8,9,10,11],[]),([12,9,11,0,1,2,3,4,5,6,7,8,9,10,11],[9,12])])
def frac_Power.B4:List Nat:=[0,1,0,4,15,0,32,0,128,511,127,2047,4095,8191]
theorem frac_Power.tab4:rtab .any (opsOf Tryz.f116 4)=frac_Power.T4:=by kernel_rfl
theorem frac_Power.bits4:waitsOk frac_Power.T4.2 frac_Power.B4=true:=by kernel_rfl
theorem frac_Power.calls (k:Nat) (a0_0:Bool) (A0_1:Option Addr) (c0_1:Nat) (l0_1:List Int) (A0_2:Option Addr) (c0_2:Nat) (l0_2:List Int) (a1:Int) (r1:Bool) (r2:List Int) (r3:List Int) (w:World) (hr0_1:Kd.C (Kd.int .u32) w A0_1 l0_1.length l0_1) (hc0_1:l0_1.length≤c0_1) (hr0_2:Kd.C (Kd.int .u32) w A0_2 l0_2.length l0_2) (hc0_2:l0_2.length≤c0_2) (h:frac_Power.f k a0_0 l0_1 l0_2 a1=some (r1,r2,r3)) :
  Calls Tryz.prog 116 #[.agg #[.bool a0_0,.slice A0_1 l0_1.length c0_1,.slice A0_2 l0_2.length c0_2],.int .i64 a1] w fun e w'=>∃ v1_ v2_:Value,e = .returned (.agg #[.bool r1,v1_,v2_])∧Kd.V (Kd.int .u32) 97 w' w.heap.size (fun k_=>(w.heap.size≤k_)) v1_ r2∧Kd.V (Kd.int .u32) 97 w' w.heap.size (fun k_=>(w.heap.size≤k_)) v2_ r3∧Below w.heap.size w w':=by
 have hu103:=underlying103
 have HR0_1:=aZ hr0_1
 have HC0_1:=aZ hc0_1
 clear hr0_1 hc0_1
 have HR0_2:=aZ hr0_2
 have HC0_2:=aZ hc0_2
 clear hr0_2 hc0_2
 have HB:=aZ (Below.refl w.heap.size w)
 have H:=h
 unfold frac_Power.f at H
 clear h
 by_cases c3:a0_0=true
 case neg=>
  replace c3:=Bool.eq_false_iff.mpr c3
  subst c3
  have H1:((frac_one.f k).bind fun t667=>((frac_one.f k).bind fun t670=>(frac_Power.l0 k a1 0 false l0_1 l0_2 false t667 t670)))=some (r1,r2,r3):=by rw [if_neg (show ¬ (false=true) by decide)] at H;exact H
  clear H
  have H:=H1
  clear H1
  obtain ⟨t667,A49,H⟩:=zB H
  obtain ⟨t670,A50,H⟩:=zB H
  have H':=aZ H
  clear H
  go_enter func116,ntmps116
  go_wp2_with (first|(refine box_ev 2 #[.bool false,.slice A0_1 l0_1.length c0_1,.slice A0_2 l0_2.length c0_2] 103 ?_;intro gb900002 hg w51 hbox hb;have BK900002:=aZ hbox;have GE900002:=sG hg;replace HB:=sB hb;clear hb hbox hg)|(refine box_ev 4 #[.bool false,.slice none 0 0,.slice none 0 0] 103 ?_;intro gb900004 hg w52 hbox hb;have BK900004:=aZ hbox;have GE900004:=sG hg;replace HB:=sB hb;have NB900002_900004:=sl hg BK900002;have NB900004_900002:=sg hg BK900002;replace BK900002:=sK BK900002 hb;clear hb hbox hg;have hnb53:=NB900002_900004.out;have hnc53:=NB900004_900002.out;obtain ⟨hcz54_0,hfz54_0⟩:=zc BK900002 0 (.bool false) rfl;obtain ⟨hcz54_1,hfz54_1⟩:=zc BK900002 1 (.slice A0_1 l0_1.length c0_1) rfl;obtain ⟨hcz54_2,hfz54_2⟩:=zc BK900002 2 (.slice A0_2 l0_2.length c0_2) rfl)|(refine zg (some 13) func137 #[] ?_;(with_reducible refine (frac_one.calls k  t667 _ A49.out).mono ?_);rintro e w55 ⟨v668,rfl,ho0,hb⟩;refine ⟨_,rfl,?_⟩;have HO669:=aZ (Kd.R_lower (Kd.R_newM (M:=fun k_=>(w.heap.size≤k_)) ho0 bs (fun k_ h_=>h_)) bs);replace BK900002:=sK BK900002 hb;replace BK900004:=sK BK900004 hb;replace HB:=sB hb;clear hb ho0)|(refine zg (some 14) func137 #[] ?_;(with_reducible refine (frac_one.calls k  t670 _ A50.out).mono ?_);rintro e w56 ⟨v671,rfl,ho0,hb⟩;refine ⟨_,rfl,?_⟩;have HO672:=aZ (Kd.R_lower (Kd.R_new' (Kd.R_newM (M:=fun k_=>(w.heap.size≤k_)) ho0 bs (fun k_ h_=>h_)) (Kd.R_lt (zR HO669))) bs);replace HO669:=aZ (Kd.R_elder' (zR HO669) (Kd.R_base ho0) hb);replace BK900002:=sK BK900002 hb;replace BK900004:=sK BK900004 hb;replace HB:=sB hb;clear hb ho0;obtain ⟨Ao57,co57,rfl⟩:=Kd.R_slice HO672.out;obtain ⟨Ao58,co58,rfl⟩:=Kd.R_slice HO669.out)|(refine box_ev 5 #[.bool false,.slice none 0 0,.slice none 0 0] 103 ?_;intro gb900005 hg w59 hbox hb;replace HO669:=yR HO669 hb;replace HO672:=yR HO672 hb;have BK900005:=aZ hbox;have GE900005:=sG hg;replace HB:=sB hb;have NB900002_900005:=sl hg BK900002;have NB900005_900002:=sg hg BK900002;replace BK900002:=sK BK900002 hb;have NB900004_900005:=sl hg BK900004;have NB900005_900004:=sg hg BK900004;replace BK900004:=sK BK900004 hb;clear hb hbox hg;have hnb60:=NB900005_900002.out;have hnc60:=NB900002_900005.out;have hnb61:=NB900005_900004.out;have hnc61:=NB900004_900005.out;obtain ⟨hcz62_0,hfz62_0⟩:=zc BK900005 0 (.bool false) rfl;obtain ⟨hcz62_1,hfz62_1⟩:=zc BK900005 1 (.slice none 0 0) rfl;obtain ⟨hcz62_2,hfz62_2⟩:=zc BK900005 2 (.slice none 0 0) rfl))
  go_loopg [17] k (fun kq v17 w'=>∃ (x17_1:Int) (x900006001_1:List Int) (x900006002_1:List Int) (u900006001:Value) (u900006002:Value),v17 = .int .i64 x17_1∧Aside0 (frac_Power.l0 kq a1 x17_1 false l0_1 l0_2 false x900006001_1 x900006002_1=some (r1,r2,r3))∧Aside0 (kq≤k)∧Aside0 (Kd.V (Kd.int .u32) 97 w' w.heap.size (fun k_=>(w.heap.size≤k_)∧k_≠gb900002∧k_≠gb900004∧k_≠gb900005) u900006001 x900006001_1)∧Aside0 (Kd.V (Kd.int .u32) 97 w' w.heap.size (fun k_=>(w.heap.size≤k_)∧k_≠gb900002∧k_≠gb900004∧k_≠gb900005) u900006002 x900006002_1)∧Aside0 (w'.heap[gb900002]? = some (.cells #[.bool false,(.slice A0_1 l0_1.length c0_1),(.slice A0_2 l0_2.length c0_2)] 103 (0,0)))∧Aside0 (w'.heap[gb900004]? = some (.cells #[.bool false,(.slice none 0 0),(.slice none 0 0)] 103 (0,0)))∧Aside0 (w'.heap[gb900005]? = some (.cells #[.bool false,u900006001,u900006002] 103 (0,0)))∧Aside0 (Below w.heap.size w w'))
  case atStart=>exact ⟨(0),(t667),(t670),(.slice Ao58 t667.length co58),(.slice Ao57 t670.length co57),zs,H',⟨Nat.le_refl _⟩,⟨Kd.R_V (by (with_reducible repeat (first|apply Kd.R_alloc|apply Kd.R_drewN|apply Kd.R_drew));exact Kd.R_mono (Kd.R_far (p:=⟨gb900005,2,none⟩) (Kd.R_far (p:=⟨gb900005,1,none⟩) (Kd.R_far (p:=⟨gb900005,0,none⟩) (Kd.R_types (Kd.R_types (Kd.R_types (Kd.R_types HO669.out BK900002.out (by decide)) BK900004.out (by decide)) BK900005.out (by decide)) BK900005.out (by decide)) (fun _ hk=>hk.2) (.bool false)) (fun _ hk=>hk.2) (.slice Ao58 t667.length co58)) (fun _ hk=>hk.2) (.slice Ao57 t670.length co57)) (fun _ hk=>⟨hk.1.1.1.1.1.1,⟨hk.1.1.1.2,⟨hk.1.1.2,hk.1.2⟩⟩⟩))⟩,⟨Kd.R_V (by (with_reducible repeat (first|apply Kd.R_alloc|apply Kd.R_drewN|apply Kd.R_drew));exact Kd.R_mono (Kd.R_far (p:=⟨gb900005,2,none⟩) (Kd.R_far (p:=⟨gb900005,1,none⟩) (Kd.R_far (p:=⟨gb900005,0,none⟩) (Kd.R_types (Kd.R_types (Kd.R_types (Kd.R_types HO672.out BK900002.out (by decide)) BK900004.out (by decide)) BK900005.out (by decide)) BK900005.out (by decide)) (fun _ hk=>hk.2) (.bool false)) (fun _ hk=>hk.2) (.slice Ao58 t667.length co58)) (fun _ hk=>hk.2) (.slice Ao57 t670.length co57)) (fun _ hk=>⟨hk.1.1.1.1.1.1,⟨hk.1.1.1.2,⟨hk.1.1.2,hk.1.2⟩⟩⟩))⟩,⟨zq BK900002⟩,⟨zq BK900004⟩,⟨zq BK900005⟩,⟨bw⟩⟩
  case round =>
   clear H'
   try clear c1
   try clear c3
   try clear c4
   try clear c5
   try clear c6
   try clear c8
   try clear c9
   try clear c11
   try clear c13
   try clear c14
   try clear c15
   try clear c16
   try clear c18
   try clear c18b0
   try clear c31
   try clear c33
   try clear c34
   try clear c38
   try clear c42
   try clear c43
   try clear c46
   try clear c53
   try clear c60
   try clear c61
   try clear hcz17_0
   try clear hcz17_1
   try clear hcz17_2
   try clear hcz35_0
   try clear hcz35_1
   try clear hcz35_2
   try clear hcz39_0
   try clear hcz39_1
   try clear hcz39_2
   try clear hcz44_0
   try clear hcz44_1
   try clear hcz44_2
   try clear hcz47_0
   try clear hcz47_1
   try clear hcz47_2
   try clear hcz54_0
   try clear hcz54_1
   try clear hcz54_2
   try clear hcz62_0
   try clear hcz62_1
   try clear hcz62_2
   try clear hcz9_0
   try clear hcz9_1
   try clear hcz9_2
   try clear hfz17_0
   try clear hfz17_1
   try clear hfz17_2
   try clear hfz35_0
   try clear hfz35_1
   try clear hfz35_2
   try clear hfz39_0
   try clear hfz39_1
   try clear hfz39_2
   try clear hfz44_0
   try clear hfz44_1
   try clear hfz44_2
   try clear hfz47_0
   try clear hfz47_1
   try clear hfz47_2
   try clear hfz54_0
   try clear hfz54_1
   try clear hfz54_2
   try clear hfz62_0
   try clear hfz62_1
   try clear hfz62_2
   try clear hfz9_0
   try clear hfz9_1
   try clear hfz9_2
   obtain ⟨x17_1,x900006001_1,x900006002_1,u900006001,u900006002,rfl,HA,HK1,HO_900006001,HO_900006002,BK900002,BK900004,BK900005,HB⟩:=hrel
   cases gk with
   | zero=>exact absurd HA.out (by simp [frac_Power.l0])
   | succ k1 =>
    have H:=HA.out
    clear HA
    simp only [frac_Power.l0] at H
    by_cases c63:x17_1<a1
    case neg=>
     rw [if_neg c63] at H
     have c63b0:decide (x17_1<a1)=false:=decide_eq_false c63
     clear c63
     obtain ⟨t659,A75,H⟩:=zB H
     by_cases c76:t659=true
     case neg=>
      replace c76:=Bool.eq_false_iff.mpr c76
      subst c76
      have H1:(some (false,x900006001_1,x900006002_1))=some (r1,r2,r3):=by rw [if_neg (show ¬ (false=true) by decide)] at H;exact H
      clear H
      have H:=H1
      clear H1
      simp only [Option.some.injEq,Prod.mk.injEq] at H
      obtain ⟨rfl,rfl,rfl⟩:=H
      have hnb87:=NB900005_900002.out
      have hnc87:=NB900002_900005.out
      have hnb88:=NB900005_900004.out
      have hnc88:=NB900004_900005.out
      have hcz89_0:wr.cell? ⟨gb900005,0,none⟩=some (.bool false):=(blk_cell BK900005.out 0).trans rfl
      have hcz89_1:wr.cell? ⟨gb900005,1,none⟩=some (u900006001):=(blk_cell BK900005.out 1).trans rfl
      have hcz89_2:wr.cell? ⟨gb900005,2,none⟩=some (u900006002):=(blk_cell BK900005.out 2).trans rfl
      have hfz89_0:=blk_frozen BK900005.out 0
      have hfz89_1:=blk_frozen BK900005.out 1
      have hfz89_2:=blk_frozen BK900005.out 2
      obtain ⟨Ao90,co90,rfl⟩:=Kd.V_slice HO_900006001.out
      go_wp2_with (first|(refine zg (some 34) func151 #[.slice Ao90 x900006001_1.length co90] ?_;(with_reducible refine (nat_Nat_Zero.calls _ _ x900006001_1 false _ ?side1 ?side2 A75.out).mono ?_);(case side1=>exact zr HO_900006001);(case side2=>exact zk HO_900006001);rintro e w' ⟨rfl,⟨nd,rfl⟩⟩;refine ⟨_,rfl,?_⟩;(try (rw [drewN_self wr];generalize hq_:World.drewN wr _=wr;have n0_:Aside0 (Kd.V (Kd.int .u32) 97 wr w.heap.size (fun k_=>(w.heap.size≤k_)∧k_≠gb900002∧k_≠gb900004∧k_≠gb900005) (.slice Ao90 x900006001_1.length co90) x900006001_1):=⟨by rw [← hq_];exact (zV HO_900006001)⟩;have n1_:Aside0 (Kd.V (Kd.int .u32) 97 wr w.heap.size (fun k_=>(w.heap.size≤k_)∧k_≠gb900002∧k_≠gb900004∧k_≠gb900005) u900006002 x900006002_1):=⟨by rw [← hq_];exact (zV HO_900006002)⟩;have n2_:Aside0 (wr.heap[gb900002]? = some (.cells #[.bool false,.slice A0_1 l0_1.length c0_1,.slice A0_2 l0_2.length c0_2] 103 (0,0))):=⟨by rw [← hq_];exact (zb BK900002)⟩;have n3_:Aside0 (wr.heap[gb900004]? = some (.cells #[.bool false,.slice none 0 0,.slice none 0 0] 103 (0,0))):=⟨by rw [← hq_];exact (zb BK900004)⟩;have n4_:Aside0 (wr.heap[gb900005]? = some (.cells #[.bool false,.slice Ao90 x900006001_1.length co90,u900006002] 103 (0,0))):=⟨by rw [← hq_];exact (zb BK900005)⟩;have n5_:Aside0 (Below w.heap.size w wr):=⟨by rw [← hq_];exact bw⟩;clear HO_900006001 HO_900006002 BK900002 BK900004 BK900005 HB hq_;have HO_900006001:=n0_;have HO_900006002:=n1_;have BK900002:=n2_;have BK900004:=n3_;have BK900005:=n4_;have HB:=n5_;clear n0_ n1_ n2_ n3_ n4_ n5_));have hnb91:=NB900004_900002.out;have hnc91:=NB900002_900004.out;obtain ⟨hcz92_0,hfz92_0⟩:=zc BK900004 0 (.bool false) rfl;obtain ⟨hcz92_1,hfz92_1⟩:=zc BK900004 1 (.slice none 0 0) rfl;obtain ⟨hcz92_2,hfz92_2⟩:=zc BK900004 2 (.slice none 0 0) rfl;obtain ⟨Ao93,co93,rfl⟩:=Kd.V_slice HO_900006002.out;obtain ⟨hczA_0,hfzA_0⟩:=zc BK900005 0 (.bool false) rfl;obtain ⟨hczA_1,hfzA_1⟩:=zc BK900005 1 (.slice Ao90 x900006001_1.length co90) rfl;obtain ⟨hczA_2,hfzA_2⟩:=zc BK900005 2 (.slice Ao93 x900006002_1.length co93) rfl))
      refine bodyPost_ret (results_cell_row rfl _ _ gb900004 103 #[.bool false,.slice Ao90 x900006001_1.length co90,.slice Ao93 x900006002_1.length co93] (0,0) _ rfl (zp BK900004) underlying103 rfl (by kernel_rfl)) rfl ?_
      exact ⟨_,_,ze,zF HO_900006001,zF HO_900006002,bw⟩
     subst c76
     have H1:((frac_Int.f k1 0).bind fun bt660=>(some (bt660.1,bt660.2.1,bt660.2.2)))=some (r1,r2,r3):=by rw [if_pos rfl] at H;exact H
     clear H
     have H:=H1
     clear H1
     obtain ⟨⟨t660,t661,t664⟩,A77,H⟩:=zB H
     (try dsimp only at H)
     simp only [Option.some.injEq,Prod.mk.injEq] at H
     obtain ⟨rfl,rfl,rfl⟩:=H
     have hnb78:=NB900005_900002.out
     have hnc78:=NB900002_900005.out
     have hnb79:=NB900005_900004.out
     have hnc79:=NB900004_900005.out
     have hcz80_0:wr.cell? ⟨gb900005,0,none⟩=some (.bool false):=(blk_cell BK900005.out 0).trans rfl
     have hcz80_1:wr.cell? ⟨gb900005,1,none⟩=some (u900006001):=(blk_cell BK900005.out 1).trans rfl
     have hcz80_2:wr.cell? ⟨gb900005,2,none⟩=some (u900006002):=(blk_cell BK900005.out 2).trans rfl
     have hfz80_0:=blk_frozen BK900005.out 0
     have hfz80_1:=blk_frozen BK900005.out 1
     have hfz80_2:=blk_frozen BK900005.out 2
     obtain ⟨Ao81,co81,rfl⟩:=Kd.V_slice HO_900006001.out
     go_wp2_with (first|(refine zg (some 34) func151 #[.slice Ao81 x900006001_1.length co81] ?_;(with_reducible refine (nat_Nat_Zero.calls _ _ x900006001_1 true _ ?side1 ?side2 A75.out).mono ?_);(case side1=>exact zr HO_900006001);(case side2=>exact zk HO_900006001);rintro e w' ⟨rfl,⟨nd,rfl⟩⟩;refine ⟨_,rfl,?_⟩;(try (rw [drewN_self wr];generalize hq_:World.drewN wr _=wr;have n0_:Aside0 (Kd.V (Kd.int .u32) 97 wr w.heap.size (fun k_=>(w.heap.size≤k_)∧k_≠gb900002∧k_≠gb900004∧k_≠gb900005) (.slice Ao81 x900006001_1.length co81) x900006001_1):=⟨by rw [← hq_];exact (zV HO_900006001)⟩;have n1_:Aside0 (Kd.V (Kd.int .u32) 97 wr w.heap.size (fun k_=>(w.heap.size≤k_)∧k_≠gb900002∧k_≠gb900004∧k_≠gb900005) u900006002 x900006002_1):=⟨by rw [← hq_];exact (zV HO_900006002)⟩;have n2_:Aside0 (wr.heap[gb900002]? = some (.cells #[.bool false,.slice A0_1 l0_1.length c0_1,.slice A0_2 l0_2.length c0_2] 103 (0,0))):=⟨by rw [← hq_];exact (zb BK900002)⟩;have n3_:Aside0 (wr.heap[gb900004]? = some (.cells #[.bool false,.slice none 0 0,.slice none 0 0] 103 (0,0))):=⟨by rw [← hq_];exact (zb BK900004)⟩;have n4_:Aside0 (wr.heap[gb900005]? = some (.cells #[.bool false,.slice Ao81 x900006001_1.length co81,u900006002] 103 (0,0))):=⟨by rw [← hq_];exact (zb BK900005)⟩;have n5_:Aside0 (Below w.heap.size w wr):=⟨by rw [← hq_];exact bw⟩;clear HO_900006001 HO_900006002 BK900002 BK900004 BK900005 HB hq_;have HO_900006001:=n0_;have HO_900006002:=n1_;have BK900002:=n2_;have BK900004:=n3_;have BK900005:=n4_;have HB:=n5_;clear n0_ n1_ n2_ n3_ n4_ n5_)))|(refine zg (some 35) func97 #[.int .i64 0] ?_;(with_reducible refine (frac_Int.calls k1 0 t660 t661 t664 _ A77.out).mono ?_);rintro e w82 ⟨v662,v665,rfl,ho0,ho1,hb⟩;refine ⟨_,rfl,?_⟩;replace HO_900006001:=aZ (Kd.V_mono (Kd.V_told (Kd.V_told (Kd.V_old (zV HO_900006001) hb) (Kd.R_base ho0)) (Kd.R_base ho1)) (fun _ h_=>h_.1));replace HO_900006002:=aZ (Kd.V_mono (Kd.V_told (Kd.V_told (Kd.V_old (zV HO_900006002) hb) (Kd.R_base ho0)) (Kd.R_base ho1)) (fun _ h_=>h_.1));have HO663:=aZ (Kd.R_lower (Kd.R_newM (M:=fun k_=>(w.heap.size≤k_)) ho0 bs (fun k_ h_=>h_)) bs);have HO666:=aZ (Kd.R_lower (Kd.R_newM (M:=fun k_=>(w.heap.size≤k_)) ho1 bs (fun k_ h_=>h_)) bs);replace BK900002:=sK BK900002 hb;replace BK900004:=sK BK900004 hb;replace BK900005:=sK BK900005 hb;replace HB:=sB hb;clear hb ho0 ho1;have hnb83:=NB900004_900002.out;have hnc83:=NB900002_900004.out;obtain ⟨hcz84_0,hfz84_0⟩:=zc BK900004 0 (.bool false) rfl;obtain ⟨hcz84_1,hfz84_1⟩:=zc BK900004 1 (.slice none 0 0) rfl;obtain ⟨hcz84_2,hfz84_2⟩:=zc BK900004 2 (.slice none 0 0) rfl;obtain ⟨Ao85,co85,rfl⟩:=Kd.R_slice HO663.out;obtain ⟨Ao86,co86,rfl⟩:=Kd.R_slice HO666.out))
     refine bodyPost_ret (results_cell_row rfl _ _ gb900004 103 #[.bool t660,.slice Ao85 t661.length co85,.slice Ao86 t664.length co86] (0,0) _ rfl (zp BK900004) underlying103 rfl (by kernel_rfl)) rfl ?_
     exact ⟨_,_,ze,Kd.R_V (by (with_reducible repeat (first|apply Kd.R_alloc|apply Kd.R_drewN|apply Kd.R_drew));exact Kd.R_mono (Kd.R_far (p:=⟨gb900004,2,none⟩) (Kd.R_far (p:=⟨gb900004,1,none⟩) (Kd.R_far (p:=⟨gb900004,0,none⟩) (Kd.R_types HO663.out BK900004.out (by decide)) (fun _ hk=>hk.2) (.bool t660)) (fun _ hk=>hk.2) (.slice Ao85 t661.length co85)) (fun _ hk=>hk.2) (.slice Ao86 t664.length co86)) (fun _ hk=>hk.1.1)),Kd.R_V (by (with_reducible repeat (first|apply Kd.R_alloc|apply Kd.R_drewN|apply Kd.R_drew));exact Kd.R_mono (Kd.R_far (p:=⟨gb900004,2,none⟩) (Kd.R_far (p:=⟨gb900004,1,none⟩) (Kd.R_far (p:=⟨gb900004,0,none⟩) (Kd.R_types HO666.out BK900004.out (by decide)) (fun _ hk=>hk.2) (.bool t660)) (fun _ hk=>hk.2) (.slice Ao85 t661.length co85)) (fun _ hk=>hk.2) (.slice Ao86 t664.length co86)) (fun _ hk=>hk.1.1)),bw⟩
    rw [if_pos c63] at H
    have c63b0:decide (x17_1<a1)=true:=decide_eq_true c63
    clear c63
    obtain ⟨t653,A64,H⟩:=zB H
    obtain ⟨t656,A65,H⟩:=zB H
    have H':=aZ H
    clear H
    try go_wp2
    replace HO_900006001:=aZ (Kd.V_drew HO_900006001.out)
    replace HO_900006002:=aZ (Kd.V_drew HO_900006002.out)
    replace BK900002:=aZ (blk_drew BK900002.out)
    replace BK900004:=aZ (blk_drew BK900004.out)
    replace BK900005:=aZ (blk_drew BK900005.out)
    replace HB:=aZ (below_drew1 HB.out)
    obtain ⟨Ao67,co67,eo67⟩:=Kd.V_slice HO_900006001.out
    (first|subst eo67|(injection eo67 with f1_ f2_ f3_;have f4_:=f1_.symm;have f5_:=f3_.symm;clear f1_ f2_ f3_;subst f4_;subst f5_))
    refine start_ (n:=14) (S:=fun w'=>w'.cell? ⟨gb900005,0,none⟩=some (.bool false)∧w'.cell? ⟨gb900005,1,none⟩=some (.slice Ao67 x900006001_1.length co67)∧w'.cell? ⟨gb900005,2,none⟩=some (u900006002)∧w'.cell? ⟨gb900002,0,none⟩=some (.bool false)∧w'.cell? ⟨gb900002,1,none⟩=some (.slice A0_1 l0_1.length c0_1)∧w'.cell? ⟨gb900002,2,none⟩=some (.slice A0_2 l0_2.length c0_2)) (ds:=[11,13]) #[false,false,false,false,false,false,false,false,false,false,false,false,false,false] (by kernel_rfl) rfl rfl ⟨zh BK900005 0,zh BK900005 1,zh BK900005 2,zh BK900002 0,zh BK900002 1,zh BK900002 2⟩ (fun hHeld=>?_);refine with_tabW frac_Power.tab4 frac_Power.bits4 (fun HT_ HW_=>?_)
    generalize wr.drew=w66 at HO_900006001 HO_900006002 BK900002 BK900004 BK900005 HB hHeld ⊢
    refine pu 0 (some 19) HT_ ?_
    refine pu 2 (some 21) HT_ ?_
    refine pu 5 (some 24) HT_ ?_
    refine pu 7 (some 26) HT_ ?_
    refine tk 1 (some 20) HT_ HW_ hHeld ?_
    refine tk 3 (some 22) HT_ HW_ hHeld ?_
    refine tk 6 (some 25) HT_ HW_ hHeld ?_
    refine tk 8 (some 27) HT_ HW_ hHeld ?_
    refine one_ (i:=4) (N:=some 23) #[true,true,true,true,true,true,true,true,true,false,false,false,false,false] rfl rfl (one_of HT_.out (by kernel_rfl)) (by decide) (fun K hK=>?_)
    refine goes_ func149 (by kernel_rfl) rfl #[.slice Ao67 x900006001_1.length co67,.slice A0_1 l0_1.length c0_1] (by rfl) rfl rfl zm ?_
    with_reducible refine (nat_Mul.calls k1 _ _ x900006001_1 _ _ l0_1 t653 _ ?side1 ?side2 ?side3 ?side4 A64.out).mono ?_
    (case side1=>exact zr HO_900006001)
    (case side2=>exact zk HO_900006001)
    (case side3=>exact zC (Kd.C_below HR0_1.out HB.out))
    (case side4=>exact HC0_1.out)
    rintro e w68 ⟨v654,rfl,ho0,hb⟩
    refine ⟨_,rfl,?_⟩
    replace HO_900006001:=yV HO_900006001 hb
    replace HO_900006002:=yV HO_900006002 hb
    have HO655:=yL (fun k_=>(w.heap.size≤k_)∧k_≠gb900002∧k_≠gb900004∧k_≠gb900005) ho0 (fun k_ hk_=>⟨(Nat.le_trans bs hk_),(zf BK900002 hk_),(zf BK900004 hk_),(zf BK900005 hk_)⟩)
    replace BK900002:=sK BK900002 hb
    replace BK900004:=sK BK900004 hb
    replace BK900005:=sK BK900005 hb
    replace HB:=sB hb
    clear hb ho0
    obtain ⟨Ao69,co69,eo69⟩:=Kd.V_slice HO_900006002.out
    (first|subst eo69|(injection eo69 with f1_ f2_ f3_;have f4_:=f1_.symm;have f5_:=f3_.symm;clear f1_ f2_ f3_;subst f4_;subst f5_))
    refine hK.out _ _ ⟨zh BK900005 0,zh BK900005 1,zh BK900005 2,zh BK900002 0,zh BK900002 1,zh BK900002 2⟩ (fun hHeld=>?_)
    clear hK K
    refine nm ?_
    refine pu 10 (some 29) HT_ ?_
    refine one_ (i:=9) (N:=some 28) #[true,true,true,true,true,true,true,true,true,true,true,false,false,false] rfl rfl (one_of HT_.out (by kernel_rfl)) (by decide) (fun K hK=>?_)
    refine goes_ func149 (by kernel_rfl) rfl #[.slice Ao69 x900006002_1.length co69,.slice A0_2 l0_2.length c0_2] (by rfl) rfl rfl zm ?_
    with_reducible refine (nat_Mul.calls k1 _ _ x900006002_1 _ _ l0_2 t656 _ ?side1 ?side2 ?side3 ?side4 A65.out).mono ?_
    (case side1=>exact zr HO_900006002)
    (case side2=>exact zk HO_900006002)
    (case side3=>exact zC (Kd.C_below HR0_2.out HB.out))
    (case side4=>exact HC0_2.out)
    rintro e w70 ⟨v657,rfl,ho0,hb⟩
    refine ⟨_,rfl,?_⟩
    replace HO_900006001:=yV HO_900006001 hb
    replace HO_900006002:=yV HO_900006002 hb
    replace HO655:=yV HO655 hb
    have HO658:=yL (fun k_=>(w.heap.size≤k_)∧k_≠gb900002∧k_≠gb900004∧k_≠gb900005) ho0 (fun k_ hk_=>⟨(Nat.le_trans bs hk_),(zf BK900002 hk_),(zf BK900004 hk_),(zf BK900005 hk_)⟩)
    replace BK900002:=sK BK900002 hb
    replace BK900004:=sK BK900004 hb
    replace BK900005:=sK BK900005 hb
    replace HB:=sB hb
    clear hb ho0
    obtain ⟨Ao71,co71,eo71⟩:=Kd.V_slice HO655.out
    (first|subst eo71|(injection eo71 with f1_ f2_ f3_;have f4_:=f1_.symm;have f5_:=f3_.symm;clear f1_ f2_ f3_;subst f4_;subst f5_))
    obtain ⟨Ao73,co73,eo73⟩:=Kd.V_slice HO658.out
    (first|subst eo73|(injection eo73 with f1_ f2_ f3_;have f4_:=f1_.symm;have f5_:=f3_.symm;clear f1_ f2_ f3_;subst f4_;subst f5_))
    refine hK.out _ _ ⟨zh BK900005 0,zh BK900005 1,zh BK900005 2,zh BK900002 0,zh BK900002 1,zh BK900002 2⟩ (fun hHeld=>?_)
    clear hK K
    refine nm ?_
    refine last_ (i:=11) (N:=none) #[true,true,true,true,true,true,true,true,true,true,true,true,false,false] rfl rfl (one_of HT_.out (by kernel_rfl)) (by decide) (fun K hK=>?_)
    have hs72:w70.cell? ⟨gb900005,1,none⟩=some (.slice Ao67 x900006001_1.length co67):=(blk_cell BK900005.out 1).trans rfl
    have hfs72:=blk_frozen BK900005.out 1
    have hns72_0:=NB900002_900005.out
    have hns72_1:=NB900004_900005.out
    have hms72_0:=NB900005_900002.out
    have hms72_1:=NB900005_900004.out
    refine skip_ (w1:=?_) (by rfl) rfl ?_ ?_
    rotate_left
    ·go_simp
     rfl
    refine hK.out _ _ ?_
    clear hK K
    refine pu 12 (some 30) HT_ ?_
    refine last_ (i:=13) (N:=none) #[true,true,true,true,true,true,true,true,true,true,true,true,true,true] rfl rfl (one_of HT_.out (by kernel_rfl)) (by decide) (fun K hK=>?_)
    have hs74:w70.cell? ⟨gb900005,2,none⟩=some (.slice Ao69 x900006002_1.length co69):=(blk_cell BK900005.out 2).trans rfl
    have hfs74:=blk_frozen BK900005.out 2
    have hns74_0:=NB900002_900005.out
    have hns74_1:=NB900004_900005.out
    have hms74_0:=NB900005_900002.out
    have hms74_1:=NB900005_900004.out
    refine skip_ (w1:=?_) (by rfl) rfl ?_ ?_
    rotate_left
    ·go_simp
     rfl
    refine hK.out _ _ ?_
    clear hK K
    refine done_ (done_of HT_.out (by kernel_rfl)) ?_
    try go_wp2
    go_roundg k1
    case measure=>have:=HK1.out;omega
    case rel=>exact ⟨(wrap64 (x17_1+1)),(t653),(t656),(.slice Ao71 t653.length co71),(.slice Ao73 t656.length co73),zs,H',⟨by have:=HK1.out;omega⟩,⟨zF HO655⟩,⟨zF HO658⟩,⟨zq BK900002⟩,⟨zq BK900004⟩,⟨zq BK900005⟩,⟨bw⟩⟩
 subst c3
 have H1:((frac_one.f k).bind fun t646=>((frac_one.f k).bind fun t649=>(frac_Power.l0 k a1 0 true l0_1 l0_2 ((Int.tmod a1 2)==1) t646 t649)))=some (r1,r2,r3):=by rw [if_pos rfl] at H;exact H
 clear H
 have H:=H1
 clear H1
 obtain ⟨t646,A4,H⟩:=zB H
 obtain ⟨t649,A5,H⟩:=zB H
 have H':=aZ H
 clear H
 go_enter func116,ntmps116
 go_wp2_with (first|(refine box_ev 2 #[.bool true,.slice A0_1 l0_1.length c0_1,.slice A0_2 l0_2.length c0_2] 103 ?_;intro gb900002 hg w6 hbox hb;have BK900002:=aZ hbox;have GE900002:=sG hg;replace HB:=sB hb;clear hb hbox hg)|(refine box_ev 4 #[.bool false,.slice none 0 0,.slice none 0 0] 103 ?_;intro gb900004 hg w7 hbox hb;have BK900004:=aZ hbox;have GE900004:=sG hg;replace HB:=sB hb;have NB900002_900004:=sl hg BK900002;have NB900004_900002:=sg hg BK900002;replace BK900002:=sK BK900002 hb;clear hb hbox hg;have hnb8:=NB900002_900004.out;have hnc8:=NB900004_900002.out;obtain ⟨hcz9_0,hfz9_0⟩:=zc BK900002 0 (.bool true) rfl;obtain ⟨hcz9_1,hfz9_1⟩:=zc BK900002 1 (.slice A0_1 l0_1.length c0_1) rfl;obtain ⟨hcz9_2,hfz9_2⟩:=zc BK900002 2 (.slice A0_2 l0_2.length c0_2) rfl)|(refine zg (some 13) func137 #[] ?_;(with_reducible refine (frac_one.calls k  t646 _ A4.out).mono ?_);rintro e w10 ⟨v647,rfl,ho0,hb⟩;refine ⟨_,rfl,?_⟩;have HO648:=aZ (Kd.R_lower (Kd.R_newM (M:=fun k_=>(w.heap.size≤k_)) ho0 bs (fun k_ h_=>h_)) bs);replace BK900002:=sK BK900002 hb;replace BK900004:=sK BK900004 hb;replace HB:=sB hb;clear hb ho0)|(refine zg (some 14) func137 #[] ?_;(with_reducible refine (frac_one.calls k  t649 _ A5.out).mono ?_);rintro e w11 ⟨v650,rfl,ho0,hb⟩;refine ⟨_,rfl,?_⟩;have HO651:=aZ (Kd.R_lower (Kd.R_new' (Kd.R_newM (M:=fun k_=>(w.heap.size≤k_)) ho0 bs (fun k_ h_=>h_)) (Kd.R_lt (zR HO648))) bs);replace HO648:=aZ (Kd.R_elder' (zR HO648) (Kd.R_base ho0) hb);replace BK900002:=sK BK900002 hb;replace BK900004:=sK BK900004 hb;replace HB:=sB hb;clear hb ho0;obtain ⟨Ao12,co12,rfl⟩:=Kd.R_slice HO651.out;obtain ⟨Ao13,co13,rfl⟩:=Kd.R_slice HO648.out)|(refine box_ev 5 #[.bool false,.slice none 0 0,.slice none 0 0] 103 ?_;intro gb900005 hg w14 hbox hb;replace HO648:=yR HO648 hb;replace HO651:=yR HO651 hb;have BK900005:=aZ hbox;have GE900005:=sG hg;replace HB:=sB hb;have NB900002_900005:=sl hg BK900002;have NB900005_900002:=sg hg BK900002;replace BK900002:=sK BK900002 hb;have NB900004_900005:=sl hg BK900004;have NB900005_900004:=sg hg BK900004;replace BK900004:=sK BK900004 hb;clear hb hbox hg;have hnb15:=NB900005_900002.out;have hnc15:=NB900002_900005.out;have hnb16:=NB900005_900004.out;have hnc16:=NB900004_900005.out;obtain ⟨hcz17_0,hfz17_0⟩:=zc BK900005 0 (.bool false) rfl;obtain ⟨hcz17_1,hfz17_1⟩:=zc BK900005 1 (.slice none 0 0) rfl;obtain ⟨hcz17_2,hfz17_2⟩:=zc BK900005 2 (.slice none 0 0) rfl))
 go_loopg [17] k (fun kq v17 w'=>∃ (x17_1:Int) (x900006001_1:List Int) (x900006002_1:List Int) (u900006001:Value) (u900006002:Value),v17 = .int .i64 x17_1∧Aside0 (frac_Power.l0 kq a1 x17_1 true l0_1 l0_2 ((Int.tmod a1 2)==1) x900006001_1 x900006002_1=some (r1,r2,r3))∧Aside0 (kq≤k)∧Aside0 (Kd.V (Kd.int .u32) 97 w' w.heap.size (fun k_=>(w.heap.size≤k_)∧k_≠gb900002∧k_≠gb900004∧k_≠gb900005) u900006001 x900006001_1)∧Aside0 (Kd.V (Kd.int .u32) 97 w' w.heap.size (fun k_=>(w.heap.size≤k_)∧k_≠gb900002∧k_≠gb900004∧k_≠gb900005) u900006002 x900006002_1)∧Aside0 (w'.heap[gb900002]? = some (.cells #[.bool true,(.slice A0_1 l0_1.length c0_1),(.slice A0_2 l0_2.length c0_2)] 103 (0,0)))∧Aside0 (w'.heap[gb900004]? = some (.cells #[.bool false,(.slice none 0 0),(.slice none 0 0)] 103 (0,0)))∧Aside0 (w'.heap[gb900005]? = some (.cells #[.bool ((Int.tmod a1 2)==1),u900006001,u900006002] 103 (0,0)))∧Aside0 (Below w.heap.size w w'))
 case atStart=>exact ⟨(0),(t646),(t649),(.slice Ao13 t646.length co13),(.slice Ao12 t649.length co12),zs,H',⟨Nat.le_refl _⟩,⟨Kd.R_V (by (with_reducible repeat (first|apply Kd.R_alloc|apply Kd.R_drewN|apply Kd.R_drew));exact Kd.R_mono (Kd.R_far (p:=⟨gb900005,2,none⟩) (Kd.R_far (p:=⟨gb900005,1,none⟩) (Kd.R_far (p:=⟨gb900005,0,none⟩) (Kd.R_types (Kd.R_types (Kd.R_types (Kd.R_types HO648.out BK900002.out (by decide)) BK900004.out (by decide)) BK900005.out (by decide)) BK900005.out (by decide)) (fun _ hk=>hk.2) (.bool ((Int.tmod a1 2)==1))) (fun _ hk=>hk.2) (.slice Ao13 t646.length co13)) (fun _ hk=>hk.2) (.slice Ao12 t649.length co12)) (fun _ hk=>⟨hk.1.1.1.1.1.1,⟨hk.1.1.1.2,⟨hk.1.1.2,hk.1.2⟩⟩⟩))⟩,⟨Kd.R_V (by (with_reducible repeat (first|apply Kd.R_alloc|apply Kd.R_drewN|apply Kd.R_drew));exact Kd.R_mono (Kd.R_far (p:=⟨gb900005,2,none⟩) (Kd.R_far (p:=⟨gb900005,1,none⟩) (Kd.R_far (p:=⟨gb900005,0,none⟩) (Kd.R_types (Kd.R_types (Kd.R_types (Kd.R_types HO651.out BK900002.out (by decide)) BK900004.out (by decide)) BK900005.out (by decide)) BK900005.out (by decide)) (fun _ hk=>hk.2) (.bool ((Int.tmod a1 2)==1))) (fun _ hk=>hk.2) (.slice Ao13 t646.length co13)) (fun _ hk=>hk.2) (.slice Ao12 t649.length co12)) (fun _ hk=>⟨hk.1.1.1.1.1.1,⟨hk.1.1.1.2,⟨hk.1.1.2,hk.1.2⟩⟩⟩))⟩,⟨zq BK900002⟩,⟨zq BK900004⟩,⟨zq BK900005⟩,⟨bw⟩⟩
 case round =>
  clear H'
  try clear c1
  try clear c3
  try clear c8
  try clear c11
  try clear c13
  try clear c15
  try clear c16
  try clear hcz17_0
  try clear hcz17_1
  try clear hcz17_2
  try clear hcz9_0
  try clear hcz9_1
  try clear hcz9_2
  try clear hfz17_0
  try clear hfz17_1
  try clear hfz17_2
  try clear hfz9_0
  try clear hfz9_1
  try clear hfz9_2
  obtain ⟨x17_1,x900006001_1,x900006002_1,u900006001,u900006002,rfl,HA,HK1,HO_900006001,HO_900006002,BK900002,BK900004,BK900005,HB⟩:=hrel
  cases gk with
  | zero=>exact absurd HA.out (by simp [frac_Power.l0])
  | succ k1 =>
   have H:=HA.out
   clear HA
   simp only [frac_Power.l0] at H
   by_cases c18:x17_1<a1
   case neg=>
    rw [if_neg c18] at H
    have c18b0:decide (x17_1<a1)=false:=decide_eq_false c18
    clear c18
    obtain ⟨t659,A30,H⟩:=zB H
    by_cases c31:t659=true
    case neg=>
     replace c31:=Bool.eq_false_iff.mpr c31
     subst c31
     have H1:(some (((Int.tmod a1 2)==1),x900006001_1,x900006002_1))=some (r1,r2,r3):=by rw [if_neg (show ¬ (false=true) by decide)] at H;exact H
     clear H
     have H:=H1
     clear H1
     simp only [Option.some.injEq,Prod.mk.injEq] at H
     obtain ⟨rfl,rfl,rfl⟩:=H
     have hnb42:=NB900005_900002.out
     have hnc42:=NB900002_900005.out
     have hnb43:=NB900005_900004.out
     have hnc43:=NB900004_900005.out
     have hcz44_0:wr.cell? ⟨gb900005,0,none⟩=some (.bool ((Int.tmod a1 2)==1)):=(blk_cell BK900005.out 0).trans rfl
     have hcz44_1:wr.cell? ⟨gb900005,1,none⟩=some (u900006001):=(blk_cell BK900005.out 1).trans rfl
     have hcz44_2:wr.cell? ⟨gb900005,2,none⟩=some (u900006002):=(blk_cell BK900005.out 2).trans rfl
     have hfz44_0:=blk_frozen BK900005.out 0
     have hfz44_1:=blk_frozen BK900005.out 1
     have hfz44_2:=blk_frozen BK900005.out 2
     obtain ⟨Ao45,co45,rfl⟩:=Kd.V_slice HO_900006001.out
     go_wp2_with (first|(refine zg (some 34) func151 #[.slice Ao45 x900006001_1.length co45] ?_;(with_reducible refine (nat_Nat_Zero.calls _ _ x900006001_1 false _ ?side1 ?side2 A30.out).mono ?_);(case side1=>exact zr HO_900006001);(case side2=>exact zk HO_900006001);rintro e w' ⟨rfl,⟨nd,rfl⟩⟩;refine ⟨_,rfl,?_⟩;(try (rw [drewN_self wr];generalize hq_:World.drewN wr _=wr;have n0_:Aside0 (Kd.V (Kd.int .u32) 97 wr w.heap.size (fun k_=>(w.heap.size≤k_)∧k_≠gb900002∧k_≠gb900004∧k_≠gb900005) (.slice Ao45 x900006001_1.length co45) x900006001_1):=⟨by rw [← hq_];exact (zV HO_900006001)⟩;have n1_:Aside0 (Kd.V (Kd.int .u32) 97 wr w.heap.size (fun k_=>(w.heap.size≤k_)∧k_≠gb900002∧k_≠gb900004∧k_≠gb900005) u900006002 x900006002_1):=⟨by rw [← hq_];exact (zV HO_900006002)⟩;have n2_:Aside0 (wr.heap[gb900002]? = some (.cells #[.bool true,.slice A0_1 l0_1.length c0_1,.slice A0_2 l0_2.length c0_2] 103 (0,0))):=⟨by rw [← hq_];exact (zb BK900002)⟩;have n3_:Aside0 (wr.heap[gb900004]? = some (.cells #[.bool false,.slice none 0 0,.slice none 0 0] 103 (0,0))):=⟨by rw [← hq_];exact (zb BK900004)⟩;have n4_:Aside0 (wr.heap[gb900005]? = some (.cells #[.bool ((Int.tmod a1 2)==1),.slice Ao45 x900006001_1.length co45,u900006002] 103 (0,0))):=⟨by rw [← hq_];exact (zb BK900005)⟩;have n5_:Aside0 (Below w.heap.size w wr):=⟨by rw [← hq_];exact bw⟩;clear HO_900006001 HO_900006002 BK900002 BK900004 BK900005 HB hq_;have HO_900006001:=n0_;have HO_900006002:=n1_;have BK900002:=n2_;have BK900004:=n3_;have BK900005:=n4_;have HB:=n5_;clear n0_ n1_ n2_ n3_ n4_ n5_));have hnb46:=NB900004_900002.out;have hnc46:=NB900002_900004.out;obtain ⟨hcz47_0,hfz47_0⟩:=zc BK900004 0 (.bool false) rfl;obtain ⟨hcz47_1,hfz47_1⟩:=zc BK900004 1 (.slice none 0 0) rfl;obtain ⟨hcz47_2,hfz47_2⟩:=zc BK900004 2 (.slice none 0 0) rfl;obtain ⟨Ao48,co48,rfl⟩:=Kd.V_slice HO_900006002.out;obtain ⟨hczA_0,hfzA_0⟩:=zc BK900005 0 (.bool ((Int.tmod a1 2)==1)) rfl;obtain ⟨hczA_1,hfzA_1⟩:=zc BK900005 1 (.slice Ao45 x900006001_1.length co45) rfl;obtain ⟨hczA_2,hfzA_2⟩:=zc BK900005 2 (.slice Ao48 x900006002_1.length co48) rfl))
     refine bodyPost_ret (results_cell_row rfl _ _ gb900004 103 #[.bool ((Int.tmod a1 2)==1),.slice Ao45 x900006001_1.length co45,.slice Ao48 x900006002_1.length co48] (0,0) _ rfl (zp BK900004) underlying103 rfl (by kernel_rfl)) rfl ?_
     exact ⟨_,_,ze,zF HO_900006001,zF HO_900006002,bw⟩
    subst c31
    have H1:((frac_Int.f k1 0).bind fun bt660=>(some (bt660.1,bt660.2.1,bt660.2.2)))=some (r1,r2,r3):=by rw [if_pos rfl] at H;exact H
    clear H
    have H:=H1
    clear H1
    obtain ⟨⟨t660,t661,t664⟩,A32,H⟩:=zB H
    (try dsimp only at H)
    simp only [Option.some.injEq,Prod.mk.injEq] at H
    obtain ⟨rfl,rfl,rfl⟩:=H
    have hnb33:=NB900005_900002.out
    have hnc33:=NB900002_900005.out
    have hnb34:=NB900005_900004.out
    have hnc34:=NB900004_900005.out
    have hcz35_0:wr.cell? ⟨gb900005,0,none⟩=some (.bool ((Int.tmod a1 2)==1)):=(blk_cell BK900005.out 0).trans rfl
    have hcz35_1:wr.cell? ⟨gb900005,1,none⟩=some (u900006001):=(blk_cell BK900005.out 1).trans rfl
    have hcz35_2:wr.cell? ⟨gb900005,2,none⟩=some (u900006002):=(blk_cell BK900005.out 2).trans rfl
    have hfz35_0:=blk_frozen BK900005.out 0
    have hfz35_1:=blk_frozen BK900005.out 1
    have hfz35_2:=blk_frozen BK900005.out 2
    obtain ⟨Ao36,co36,rfl⟩:=Kd.V_slice HO_900006001.out
    go_wp2_with (first|(refine zg (some 34) func151 #[.slice Ao36 x900006001_1.length co36] ?_;(with_reducible refine (nat_Nat_Zero.calls _ _ x900006001_1 true _ ?side1 ?side2 A30.out).mono ?_);(case side1=>exact zr HO_900006001);(case side2=>exact zk HO_900006001);rintro e w' ⟨rfl,⟨nd,rfl⟩⟩;refine ⟨_,rfl,?_⟩;(try (rw [drewN_self wr];generalize hq_:World.drewN wr _=wr;have n0_:Aside0 (Kd.V (Kd.int .u32) 97 wr w.heap.size (fun k_=>(w.heap.size≤k_)∧k_≠gb900002∧k_≠gb900004∧k_≠gb900005) (.slice Ao36 x900006001_1.length co36) x900006001_1):=⟨by rw [← hq_];exact (zV HO_900006001)⟩;have n1_:Aside0 (Kd.V (Kd.int .u32) 97 wr w.heap.size (fun k_=>(w.heap.size≤k_)∧k_≠gb900002∧k_≠gb900004∧k_≠gb900005) u900006002 x900006002_1):=⟨by rw [← hq_];exact (zV HO_900006002)⟩;have n2_:Aside0 (wr.heap[gb900002]? = some (.cells #[.bool true,.slice A0_1 l0_1.length c0_1,.slice A0_2 l0_2.length c0_2] 103 (0,0))):=⟨by rw [← hq_];exact (zb BK900002)⟩;have n3_:Aside0 (wr.heap[gb900004]? = some (.cells #[.bool false,.slice none 0 0,.slice none 0 0] 103 (0,0))):=⟨by rw [← hq_];exact (zb BK900004)⟩;have n4_:Aside0 (wr.heap[gb900005]? = some (.cells #[.bool ((Int.tmod a1 2)==1),.slice Ao36 x900006001_1.length co36,u900006002] 103 (0,0))):=⟨by rw [← hq_];exact (zb BK900005)⟩;have n5_:Aside0 (Below w.heap.size w wr):=⟨by rw [← hq_];exact bw⟩;clear HO_900006001 HO_900006002 BK900002 BK900004 BK900005 HB hq_;have HO_900006001:=n0_;have HO_900006002:=n1_;have BK900002:=n2_;have BK900004:=n3_;have BK900005:=n4_;have HB:=n5_;clear n0_ n1_ n2_ n3_ n4_ n5_)))|(refine zg (some 35) func97 #[.int .i64 0] ?_;(with_reducible refine (frac_Int.calls k1 0 t660 t661 t664 _ A32.out).mono ?_);rintro e w37 ⟨v662,v665,rfl,ho0,ho1,hb⟩;refine ⟨_,rfl,?_⟩;replace HO_900006001:=aZ (Kd.V_mono (Kd.V_told (Kd.V_told (Kd.V_old (zV HO_900006001) hb) (Kd.R_base ho0)) (Kd.R_base ho1)) (fun _ h_=>h_.1));replace HO_900006002:=aZ (Kd.V_mono (Kd.V_told (Kd.V_told (Kd.V_old (zV HO_900006002) hb) (Kd.R_base ho0)) (Kd.R_base ho1)) (fun _ h_=>h_.1));have HO663:=aZ (Kd.R_lower (Kd.R_newM (M:=fun k_=>(w.heap.size≤k_)) ho0 bs (fun k_ h_=>h_)) bs);have HO666:=aZ (Kd.R_lower (Kd.R_newM (M:=fun k_=>(w.heap.size≤k_)) ho1 bs (fun k_ h_=>h_)) bs);replace BK900002:=sK BK900002 hb;replace BK900004:=sK BK900004 hb;replace BK900005:=sK BK900005 hb;replace HB:=sB hb;clear hb ho0 ho1;have hnb38:=NB900004_900002.out;have hnc38:=NB900002_900004.out;obtain ⟨hcz39_0,hfz39_0⟩:=zc BK900004 0 (.bool false) rfl;obtain ⟨hcz39_1,hfz39_1⟩:=zc BK900004 1 (.slice none 0 0) rfl;obtain ⟨hcz39_2,hfz39_2⟩:=zc BK900004 2 (.slice none 0 0) rfl;obtain ⟨Ao40,co40,rfl⟩:=Kd.R_slice HO663.out;obtain ⟨Ao41,co41,rfl⟩:=Kd.R_slice HO666.out))
    refine bodyPost_ret (results_cell_row rfl _ _ gb900004 103 #[.bool t660,.slice Ao40 t661.length co40,.slice Ao41 t664.length co41] (0,0) _ rfl (zp BK900004) underlying103 rfl (by kernel_rfl)) rfl ?_
    exact ⟨_,_,ze,Kd.R_V (by (with_reducible repeat (first|apply Kd.R_alloc|apply Kd.R_drewN|apply Kd.R_drew));exact Kd.R_mono (Kd.R_far (p:=⟨gb900004,2,none⟩) (Kd.R_far (p:=⟨gb900004,1,none⟩) (Kd.R_far (p:=⟨gb900004,0,none⟩) (Kd.R_types HO663.out BK900004.out (by decide)) (fun _ hk=>hk.2) (.bool t660)) (fun _ hk=>hk.2) (.slice Ao40 t661.length co40)) (fun _ hk=>hk.2) (.slice Ao41 t664.length co41)) (fun _ hk=>hk.1.1)),Kd.R_V (by (with_reducible repeat (first|apply Kd.R_alloc|apply Kd.R_drewN|apply Kd.R_drew));exact Kd.R_mono (Kd.R_far (p:=⟨gb900004,2,none⟩) (Kd.R_far (p:=⟨gb900004,1,none⟩) (Kd.R_far (p:=⟨gb900004,0,none⟩) (Kd.R_types HO666.out BK900004.out (by decide)) (fun _ hk=>hk.2) (.bool t660)) (fun _ hk=>hk.2) (.slice Ao40 t661.length co40)) (fun _ hk=>hk.2) (.slice Ao41 t664.length co41)) (fun _ hk=>hk.1.1)),bw⟩
   rw [if_pos c18] at H
   have c18b0:decide (x17_1<a1)=true:=decide_eq_true c18
   clear c18
   obtain ⟨t653,A19,H⟩:=zB H
   obtain ⟨t656,A20,H⟩:=zB H
   have H':=aZ H
   clear H
   try go_wp2
   replace HO_900006001:=aZ (Kd.V_drew HO_900006001.out)
   replace HO_900006002:=aZ (Kd.V_drew HO_900006002.out)
   replace BK900002:=aZ (blk_drew BK900002.out)
   replace BK900004:=aZ (blk_drew BK900004.out)
   replace BK900005:=aZ (blk_drew BK900005.out)
   replace HB:=aZ (below_drew1 HB.out)
   obtain ⟨Ao22,co22,eo22⟩:=Kd.V_slice HO_900006001.out
   (first|subst eo22|(injection eo22 with f1_ f2_ f3_;have f4_:=f1_.symm;have f5_:=f3_.symm;clear f1_ f2_ f3_;subst f4_;subst f5_))
   refine start_ (n:=14) (S:=fun w'=>w'.cell? ⟨gb900005,0,none⟩=some (.bool ((Int.tmod a1 2)==1))∧w'.cell? ⟨gb900005,1,none⟩=some (.slice Ao22 x900006001_1.length co22)∧w'.cell? ⟨gb900005,2,none⟩=some (u900006002)∧w'.cell? ⟨gb900002,0,none⟩=some (.bool true)∧w'.cell? ⟨gb900002,1,none⟩=some (.slice A0_1 l0_1.length c0_1)∧w'.cell? ⟨gb900002,2,none⟩=some (.slice A0_2 l0_2.length c0_2)) (ds:=[11,13]) #[false,false,false,false,false,false,false,false,false,false,false,false,false,false] (by kernel_rfl) rfl rfl ⟨zh BK900005 0,zh BK900005 1,zh BK900005 2,zh BK900002 0,zh BK900002 1,zh BK900002 2⟩ (fun hHeld=>?_);refine with_tabW frac_Power.tab4 frac_Power.bits4 (fun HT_ HW_=>?_)
   generalize wr.drew=w21 at HO_900006001 HO_900006002 BK900002 BK900004 BK900005 HB hHeld ⊢
   refine pu 0 (some 19) HT_ ?_
   refine pu 2 (some 21) HT_ ?_
   refine pu 5 (some 24) HT_ ?_
   refine pu 7 (some 26) HT_ ?_
   refine tk 1 (some 20) HT_ HW_ hHeld ?_
   refine tk 3 (some 22) HT_ HW_ hHeld ?_
   refine tk 6 (some 25) HT_ HW_ hHeld ?_
   refine tk 8 (some 27) HT_ HW_ hHeld ?_
   refine one_ (i:=4) (N:=some 23) #[true,true,true,true,true,true,true,true,true,false,false,false,false,false] rfl rfl (one_of HT_.out (by kernel_rfl)) (by decide) (fun K hK=>?_)
   refine goes_ func149 (by kernel_rfl) rfl #[.slice Ao22 x900006001_1.length co22,.slice A0_1 l0_1.length c0_1] (by rfl) rfl rfl zm ?_
   with_reducible refine (nat_Mul.calls k1 _ _ x900006001_1 _ _ l0_1 t653 _ ?side1 ?side2 ?side3 ?side4 A19.out).mono ?_
   (case side1=>exact zr HO_900006001)
   (case side2=>exact zk HO_900006001)
   (case side3=>exact zC (Kd.C_below HR0_1.out HB.out))
   (case side4=>exact HC0_1.out)
   rintro e w23 ⟨v654,rfl,ho0,hb⟩
   refine ⟨_,rfl,?_⟩
   replace HO_900006001:=yV HO_900006001 hb
   replace HO_900006002:=yV HO_900006002 hb
   have HO655:=yL (fun k_=>(w.heap.size≤k_)∧k_≠gb900002∧k_≠gb900004∧k_≠gb900005) ho0 (fun k_ hk_=>⟨(Nat.le_trans bs hk_),(zf BK900002 hk_),(zf BK900004 hk_),(zf BK900005 hk_)⟩)
   replace BK900002:=sK BK900002 hb
   replace BK900004:=sK BK900004 hb
   replace BK900005:=sK BK900005 hb
   replace HB:=sB hb
   clear hb ho0
   obtain ⟨Ao24,co24,eo24⟩:=Kd.V_slice HO_900006002.out
   (first|subst eo24|(injection eo24 with f1_ f2_ f3_;have f4_:=f1_.symm;have f5_:=f3_.symm;clear f1_ f2_ f3_;subst f4_;subst f5_))
   refine hK.out _ _ ⟨zh BK900005 0,zh BK900005 1,zh BK900005 2,zh BK900002 0,zh BK900002 1,zh BK900002 2⟩ (fun hHeld=>?_)
   clear hK K
   refine nm ?_
   refine pu 10 (some 29) HT_ ?_
   refine one_ (i:=9) (N:=some 28) #[true,true,true,true,true,true,true,true,true,true,true,false,false,false] rfl rfl (one_of HT_.out (by kernel_rfl)) (by decide) (fun K hK=>?_)
   refine goes_ func149 (by kernel_rfl) rfl #[.slice Ao24 x900006002_1.length co24,.slice A0_2 l0_2.length c0_2] (by rfl) rfl rfl zm ?_
   with_reducible refine (nat_Mul.calls k1 _ _ x900006002_1 _ _ l0_2 t656 _ ?side1 ?side2 ?side3 ?side4 A20.out).mono ?_
   (case side1=>exact zr HO_900006002)
   (case side2=>exact zk HO_900006002)
   (case side3=>exact zC (Kd.C_below HR0_2.out HB.out))
   (case side4=>exact HC0_2.out)
   rintro e w25 ⟨v657,rfl,ho0,hb⟩
   refine ⟨_,rfl,?_⟩
   replace HO_900006001:=yV HO_900006001 hb
   replace HO_900006002:=yV HO_900006002 hb
   replace HO655:=yV HO655 hb
   have HO658:=yL (fun k_=>(w.heap.size≤k_)∧k_≠gb900002∧k_≠gb900004∧k_≠gb900005) ho0 (fun k_ hk_=>⟨(Nat.le_trans bs hk_),(zf BK900002 hk_),(zf BK900004 hk_),(zf BK900005 hk_)⟩)
   replace BK900002:=sK BK900002 hb
   replace BK900004:=sK BK900004 hb
   replace BK900005:=sK BK900005 hb
   replace HB:=sB hb
   clear hb ho0
   obtain ⟨Ao26,co26,eo26⟩:=Kd.V_slice HO655.out
   (first|subst eo26|(injection eo26 with f1_ f2_ f3_;have f4_:=f1_.symm;have f5_:=f3_.symm;clear f1_ f2_ f3_;subst f4_;subst f5_))
   obtain ⟨Ao28,co28,eo28⟩:=Kd.V_slice HO658.out
   (first|subst eo28|(injection eo28 with f1_ f2_ f3_;have f4_:=f1_.symm;have f5_:=f3_.symm;clear f1_ f2_ f3_;subst f4_;subst f5_))
   refine hK.out _ _ ⟨zh BK900005 0,zh BK900005 1,zh BK900005 2,zh BK900002 0,zh BK900002 1,zh BK900002 2⟩ (fun hHeld=>?_)
   clear hK K
   refine nm ?_
   refine last_ (i:=11) (N:=none) #[true,true,true,true,true,true,true,true,true,true,true,true,false,false] rfl rfl (one_of HT_.out (by kernel_rfl)) (by decide) (fun K hK=>?_)
   have hs27:w25.cell? ⟨gb900005,1,none⟩=some (.slice Ao22 x900006001_1.length co22):=(blk_cell BK900005.out 1).trans rfl
   have hfs27:=blk_frozen BK900005.out 1
   have hns27_0:=NB900002_900005.out
   have hns27_1:=NB900004_900005.out
   have hms27_0:=NB900005_900002.out
   have hms27_1:=NB900005_900004.out
   refine skip_ (w1:=?_) (by rfl) rfl ?_ ?_
   rotate_left
   ·go_simp
    rfl
   refine hK.out _ _ ?_
   clear hK K
   refine pu 12 (some 30) HT_ ?_
   refine last_ (i:=13) (N:=none) #[true,true,true,true,true,true,true,true,true,true,true,true,true,true] rfl rfl (one_of HT_.out (by kernel_rfl)) (by decide) (fun K hK=>?_)
   have hs29:w25.cell? ⟨gb900005,2,none⟩=some (.slice Ao24 x900006002_1.length co24):=(blk_cell BK900005.out 2).trans rfl
   have hfs29:=blk_frozen BK900005.out 2
   have hns29_0:=NB900002_900005.out
   have hns29_1:=NB900004_900005.out
   have hms29_0:=NB900005_900002.out
   have hms29_1:=NB900005_900004.out
   refine skip_ (w1:=?_) (by rfl) rfl ?_ ?_
   rotate_left
   ·go_simp
    rfl
   refine hK.out _ _ ?_
   clear hK K
   refine done_ (done_of HT_.out (by kernel_rfl)) ?_
   try go_wp2
   go_roundg k1
   case measure=>have:=HK1.out;omega
   case rel=>exact ⟨(wrap64 (x17_1+1)),(t653),(t656),(.slice Ao26 t653.length co26),(.slice Ao28 t656.length co28),zs,H',⟨by have:=HK1.out;omega⟩,⟨zF HO655⟩,⟨zF HO658⟩,⟨zq BK900002⟩,⟨zq BK900004⟩,⟨zq BK900005⟩,⟨bw⟩⟩
section
def num_Power_lit.f (k:Nat) (a0_0:Bool) (l0_1:List Int) (l0_2:List Int) (a1:Int):Option (Bool×List Int×List Int):=(frac_Power.f k a0_0 l0_1 l0_2 a1).bind fun bt676=>(some (bt676.1,bt676.2.1,bt676.2.2))
theorem num_Power_lit.calls (k:Nat) (a0_0:Bool) (A0_1:Option Addr) (c0_1:Nat) (l0_1:List Int) (A0_2:Option Addr) (c0_2:Nat) (l0_2:List Int) (a1:Int) (r1:Bool) (r2:List Int) (r3:List Int) (w:World) (gn:Nat) (hn:w.cell? ⟨gn,0,none⟩=some (.int .i64 a1)) (hr0_1:Kd.C (Kd.int .u32) w A0_1 l0_1.length l0_1) (hc0_1:l0_1.length≤c0_1) (hr0_2:Kd.C (Kd.int .u32) w A0_2 l0_2.length l0_2) (hc0_2:l0_2.length≤c0_2) (h:num_Power_lit.f k a0_0 l0_1 l0_2 a1=some (r1,r2,r3)) :
  Calls Tryz.prog 115 #[.agg #[.bool a0_0,.slice A0_1 l0_1.length c0_1,.slice A0_2 l0_2.length c0_2],.pointer (some ⟨gn,0,none⟩)] w fun e w'=>∃ v1_ v2_:Value,e = .returned (.agg #[.bool r1,v1_,v2_])∧Kd.V (Kd.int .u32) 97 w' w.heap.size (fun k_=>(w.heap.size≤k_)) v1_ r2∧Kd.V (Kd.int .u32) 97 w' w.heap.size (fun k_=>(w.heap.size≤k_)) v2_ r3∧Below w.heap.size w w':=by
 have hu103:=underlying103
 have HN:=aZ hn
 have HNL:=aZ (show gn<w.heap.size from World.block_lt_of_cell? w _ hn)
 clear hn
 have HR0_1:=aZ hr0_1
 have HC0_1:=aZ hc0_1
 clear hr0_1 hc0_1
 have HR0_2:=aZ hr0_2
 have HC0_2:=aZ hc0_2
 clear hr0_2 hc0_2
 have HB:=aZ (Below.refl w.heap.size w)
 have H:=h
 unfold num_Power_lit.f at H
 clear h
 obtain ⟨⟨t676,t677,t680⟩,A3,H⟩:=zB H
 (try dsimp only at H)
 simp only [Option.some.injEq,Prod.mk.injEq] at H
 obtain ⟨rfl,rfl,rfl⟩:=H
 go_enter func115,ntmps115
 go_wp2_with (first|(refine box_ev 2 #[.bool a0_0,.slice A0_1 l0_1.length c0_1,.slice A0_2 l0_2.length c0_2] 103 ?_;intro gb674 hg w4 hbox hb;have BK674:=aZ hbox;have GE674:=sG hg;replace HB:=sB hb;clear hb hbox hg)|(refine box_ev 3 #[.bool false,.slice none 0 0,.slice none 0 0] 103 ?_;intro gb675 hg w5 hbox hb;have BK675:=aZ hbox;have GE675:=sG hg;replace HB:=sB hb;have NB674_675:=sl hg BK674;have NB675_674:=sg hg BK674;replace BK674:=sK BK674 hb;clear hb hbox hg;have hnb6:=NB674_675.out;have hnc6:=NB675_674.out;have hcn:=(HB.out.cell (p:=⟨gn,0,none⟩) HNL.out).trans HN.out;obtain ⟨hcz7_0,hfz7_0⟩:=zc BK674 0 (.bool a0_0) rfl;obtain ⟨hcz7_1,hfz7_1⟩:=zc BK674 1 (.slice A0_1 l0_1.length c0_1) rfl;obtain ⟨hcz7_2,hfz7_2⟩:=zc BK674 2 (.slice A0_2 l0_2.length c0_2) rfl)|(refine zg (some 6) func116 #[.agg #[.bool a0_0,.slice A0_1 l0_1.length c0_1,.slice A0_2 l0_2.length c0_2],.int .i64 a1] ?_;(with_reducible refine (frac_Power.calls k a0_0 _ _ l0_1 _ _ l0_2 a1 t676 t677 t680 _ ?side1 ?side2 ?side3 ?side4 A3.out).mono ?_);(case side1=>exact zC (Kd.C_below HR0_1.out HB.out));(case side2=>exact HC0_1.out);(case side3=>exact zC (Kd.C_below HR0_2.out HB.out));(case side4=>exact HC0_2.out);rintro e w8 ⟨v678,v681,rfl,ho0,ho1,hb⟩;refine ⟨_,rfl,?_⟩;have HO679:=yL (fun k_=>(w.heap.size≤k_)∧k_≠gb674∧k_≠gb675) ho0 (fun k_ hk_=>⟨(Nat.le_trans bs hk_),(zf BK674 hk_),(zf BK675 hk_)⟩);have HO682:=yL (fun k_=>(w.heap.size≤k_)∧k_≠gb674∧k_≠gb675) ho1 (fun k_ hk_=>⟨(Nat.le_trans bs hk_),(zf BK674 hk_),(zf BK675 hk_)⟩);replace BK674:=sK BK674 hb;replace BK675:=sK BK675 hb;replace HB:=sB hb;clear hb ho0 ho1;obtain ⟨hcz9_0,hfz9_0⟩:=zc BK675 0 (.bool false) rfl;obtain ⟨hcz9_1,hfz9_1⟩:=zc BK675 1 (.slice none 0 0) rfl;obtain ⟨hcz9_2,hfz9_2⟩:=zc BK675 2 (.slice none 0 0) rfl;obtain ⟨Ao10,co10,rfl⟩:=Kd.V_slice HO679.out;obtain ⟨Ao11,co11,rfl⟩:=Kd.V_slice HO682.out))
 refine bodyPost_ret (results_cell_row rfl _ _ gb675 103 #[.bool t676,.slice Ao10 t677.length co10,.slice Ao11 t680.length co11] (0,0) _ rfl (zp BK675) underlying103 rfl (by kernel_rfl)) rfl ?_
 exact ⟨_,_,ze,zF HO679,zF HO682,bw⟩
def num_Power_one.f (k:Nat) (a0_0:ByteArray) (a0_1:ByteArray) (a1:Int):Option (ByteArray×ByteArray×Int):=(num_Check.f k a0_0 a0_1).bind fun t685=>(if t685=0 then ((frac_Of.f k a0_0 a0_1).bind fun bt686=>((num_Power_lit.f k bt686.1 bt686.2.1 bt686.2.2 a1).bind fun bt693=>((frac_Frac_Rat.f bt693.1 bt693.2.1 bt693.2.2).bind fun bt700=>(some (bt700.1,bt700.2,0))))) else (some ((⟨#[]⟩:ByteArray),(⟨#[]⟩:ByteArray),t685)))
theorem num_Power_one.calls (k:Nat) (a0_0:ByteArray) (a0_1:ByteArray) (a1:Int) (r1:ByteArray) (r2:ByteArray) (r3:Int) (w:World) (gn:Nat) (hn:w.cell? ⟨gn,0,none⟩=some (.int .i64 a1)) (hG:Tryz.Gl w) (h:num_Power_one.f k a0_0 a0_1 a1=some (r1,r2,r3)) :
  Calls Tryz.prog 114 #[.agg #[.string a0_0,.string a0_1],.func (.func 115) #[] #[.pointer (some ⟨gn,0,none⟩)]] w fun e w'=>e = .returned (.tuple #[.agg #[.string r1,.string r2],.int .i64 r3])∧Below w.heap.size w w':=by
 have hu61:=underlying61
 have HG:=aZ hG
 clear hG
 have HN:=aZ hn
 have HNL:=aZ (show gn<w.heap.size from World.block_lt_of_cell? w _ hn)
 clear hn
 have HB:=aZ (Below.refl w.heap.size w)
 have H:=h
 unfold num_Power_one.f at H
 clear h
 obtain ⟨t685,A3,H⟩:=zB H
 by_cases c4:t685=0
 case neg=>
  rw [if_neg c4] at H
  have c4b0:(t685==0)=false:=beq_eq_false_iff_ne.mpr c4
  have c4b1:(t685 != 0)=true:=bne_iff_ne.mpr c4
  simp only [Option.some.injEq,Prod.mk.injEq] at H
  obtain ⟨rfl,rfl,rfl⟩:=H
  go_enter func114,ntmps114
  go_wp2_with (first|(refine box_ev 2 #[.string a0_0,.string a0_1] 61 ?_;intro gb683 hg w22 hbox hb;have BK683:=aZ hbox;have GE683:=sG hg;replace HB:=sB hb;clear hb hbox hg)|(refine box_ev 4 #[.string (⟨#[]⟩:ByteArray),.string (⟨#[]⟩:ByteArray)] 61 ?_;intro gb684 hg w23 hbox hb;have BK684:=aZ hbox;have GE684:=sG hg;replace HB:=sB hb;have NB683_684:=sl hg BK683;have NB684_683:=sg hg BK683;replace BK683:=sK BK683 hb;clear hb hbox hg;have hnb24:=NB683_684.out;have hnc24:=NB684_683.out;obtain ⟨hcz25_0,hfz25_0⟩:=zc BK683 0 (.string a0_0) rfl;obtain ⟨hcz25_1,hfz25_1⟩:=zc BK683 1 (.string a0_1) rfl)|(refine zg (some 8) func56 #[.agg #[.string a0_0,.string a0_1]] ?_;(with_reducible refine (num_Check.calls k a0_0 a0_1 t685 _ A3.out).mono ?_);rintro e w26 ⟨rfl,hb⟩;refine ⟨_,rfl,?_⟩;replace BK683:=sK BK683 hb;replace BK684:=sK BK684 hb;replace HB:=sB hb;clear hb;obtain ⟨hcz27_0,hfz27_0⟩:=zc BK684 0 (.string (⟨#[]⟩:ByteArray)) rfl;obtain ⟨hcz27_1,hfz27_1⟩:=zc BK684 1 (.string (⟨#[]⟩:ByteArray)) rfl))
  refine bodyPost_ret (results_ct rfl _ _ gb684 61 #[.string (⟨#[]⟩:ByteArray),.string (⟨#[]⟩:ByteArray)] (0,0) _ rfl (zp BK684) underlying61 rfl (by kernel_rfl)) rfl ?_
  exact ⟨ze,bw⟩
 rw [if_pos c4] at H
 have c4b0:(t685==0)=true:=beq_iff_eq.mpr c4
 have c4b1:(t685 != 0)=false:=bne_eq_false_iff_eq.mpr c4
 clear c4
 obtain ⟨⟨t686,t687,t690⟩,A5,H⟩:=zB H
 (try dsimp only at H)
 obtain ⟨⟨t693,t694,t697⟩,A6,H⟩:=zB H
 (try dsimp only at H)
 obtain ⟨⟨t700,t701⟩,A7,H⟩:=zB H
 (try dsimp only at H)
 simp only [Option.some.injEq,Prod.mk.injEq] at H
 obtain ⟨rfl,rfl,rfl⟩:=H
 go_enter func114,ntmps114
 go_wp2_with (first|(refine box_ev 2 #[.string a0_0,.string a0_1] 61 ?_;intro gb683 hg w8 hbox hb;have BK683:=aZ hbox;have GE683:=sG hg;replace HB:=sB hb;clear hb hbox hg)|(refine box_ev 4 #[.string (⟨#[]⟩:ByteArray),.string (⟨#[]⟩:ByteArray)] 61 ?_;intro gb684 hg w9 hbox hb;have BK684:=aZ hbox;have GE684:=sG hg;replace HB:=sB hb;have NB683_684:=sl hg BK683;have NB684_683:=sg hg BK683;replace BK683:=sK BK683 hb;clear hb hbox hg;have hnb10:=NB683_684.out;have hnc10:=NB684_683.out;obtain ⟨hcz11_0,hfz11_0⟩:=zc BK683 0 (.string a0_0) rfl;obtain ⟨hcz11_1,hfz11_1⟩:=zc BK683 1 (.string a0_1) rfl)|(refine zg (some 8) func56 #[.agg #[.string a0_0,.string a0_1]] ?_;(with_reducible refine (num_Check.calls k a0_0 a0_1 t685 _ A3.out).mono ?_);rintro e w12 ⟨rfl,hb⟩;refine ⟨_,rfl,?_⟩;replace BK683:=sK BK683 hb;replace BK684:=sK BK684 hb;replace HB:=sB hb;clear hb;obtain ⟨hcz13_0,hfz13_0⟩:=zc BK683 0 (.string a0_0) rfl;obtain ⟨hcz13_1,hfz13_1⟩:=zc BK683 1 (.string a0_1) rfl)|(refine zg (some 15) func127 #[.agg #[.string a0_0,.string a0_1]] ?_;(with_reducible refine (frac_Of.calls k a0_0 a0_1 t686 t687 t690 _ A5.out).mono ?_);rintro e w14 ⟨v688,v691,rfl,ho0,ho1,hb⟩;refine ⟨_,rfl,?_⟩;have HO689:=yL (fun k_=>k_≠gb683∧k_≠gb684) ho0 (fun k_ hk_=>⟨(zf BK683 hk_),(zf BK684 hk_)⟩);have HO692:=yL (fun k_=>k_≠gb683∧k_≠gb684) ho1 (fun k_ hk_=>⟨(zf BK683 hk_),(zf BK684 hk_)⟩);replace BK683:=sK BK683 hb;replace BK684:=sK BK684 hb;replace HB:=sB hb;clear hb ho0 ho1;obtain ⟨Ao15,co15,rfl⟩:=Kd.V_slice HO689.out;obtain ⟨Ao16,co16,rfl⟩:=Kd.V_slice HO692.out)|((with_reducible refine gate_tmp (t:=13) rfl ?_);refine goesK_ (some 16) rfl rfl (cap:=#[.pointer (some ⟨gn,0,none⟩)]) (by rfl) func115 (by kernel_rfl) rfl #[.agg #[.bool t686,.slice Ao15 t687.length co15,.slice Ao16 t690.length co16],.pointer (some ⟨gn,0,none⟩)] rfl (by simp only [List.map_toArray,List.map_cons,List.map_nil,List.append_toArray,List.cons_append,List.nil_append];rfl) ?_;(with_reducible refine (num_Power_lit.calls k t686 _ _ t687 _ _ t690 a1 t693 t694 t697 _ gn ((HB.out.cell (p:=⟨gn,0,none⟩) HNL.out).trans HN.out) ?side1 ?side2 ?side3 ?side4 A6.out).mono ?_);(case side1=>exact zr HO689);(case side2=>exact zk HO689);(case side3=>exact zr HO692);(case side4=>exact zk HO692);rintro e w17 ⟨v695,v698,rfl,ho0,ho1,hb⟩;refine ⟨_,rfl,?_⟩;replace HO689:=yV HO689 hb;replace HO692:=yV HO692 hb;have HO696:=yL (fun k_=>k_≠gb683∧k_≠gb684) ho0 (fun k_ hk_=>⟨(zf BK683 hk_),(zf BK684 hk_)⟩);have HO699:=yL (fun k_=>k_≠gb683∧k_≠gb684) ho1 (fun k_ hk_=>⟨(zf BK683 hk_),(zf BK684 hk_)⟩);replace BK683:=sK BK683 hb;replace BK684:=sK BK684 hb;replace HB:=sB hb;clear hb ho0 ho1;obtain ⟨Ao18,co18,rfl⟩:=Kd.V_slice HO696.out;obtain ⟨Ao19,co19,rfl⟩:=Kd.V_slice HO699.out)|(refine zg (some 17) func96 #[.agg #[.bool t693,.slice Ao18 t694.length co18,.slice Ao19 t697.length co19]] ?_;(with_reducible refine (frac_Frac_Rat.calls t693 _ _ t694 _ _ t697 t700 t701 _ ?side1 ?side2 ?side3 ?side4 ?side5 A7.out).mono ?_);(case side1=>exact zr HO696);(case side2=>exact zk HO696);(case side3=>exact zr HO699);(case side4=>exact zk HO699);(case side5=>exact Tryz.Gl.below HG.out bw);rintro e w20 ⟨rfl,hb⟩;refine ⟨_,rfl,?_⟩;replace HO689:=yV HO689 hb;replace HO692:=yV HO692 hb;replace HO696:=yV HO696 hb;replace HO699:=yV HO699 hb;replace BK683:=sK BK683 hb;replace BK684:=sK BK684 hb;replace HB:=sB hb;clear hb;obtain ⟨hcz21_0,hfz21_0⟩:=zc BK684 0 (.string (⟨#[]⟩:ByteArray)) rfl;obtain ⟨hcz21_1,hfz21_1⟩:=zc BK684 1 (.string (⟨#[]⟩:ByteArray)) rfl))
 refine bodyPost_ret (results_ct rfl _ _ gb684 61 #[.string t700,.string t701] (0,0) _ rfl (zp BK684) underlying61 rfl (by kernel_rfl)) rfl ?_
 exact ⟨ze,bw⟩
def num_Power.f (k:Nat) (a0_0:ByteArray) (a0_1:ByteArray) (a1:Int):Option (ByteArray×ByteArray×Int):=(num_Check.f k a0_0 a0_1).bind fun t704=>(if t704=0 then (if a1<0 then (some ((⟨#[]⟩:ByteArray),(⟨#[]⟩:ByteArray),1)) else (if a1 > 64 then (some ((⟨#[]⟩:ByteArray),(⟨#[]⟩:ByteArray),1)) else ((num_Power_one.f k a0_0 a0_1 a1).bind fun bt705=>(some (bt705.1,bt705.2.1,bt705.2.2))))) else ((num_Power_one.f k a0_0 a0_1 a1).bind fun bt708=>(some (bt708.1,bt708.2.1,bt708.2.2))))
theorem num_Power.calls (k:Nat) (a0_0:ByteArray) (a0_1:ByteArray) (a1:Int) (r1:ByteArray) (r2:ByteArray) (r3:Int) (w:World) (hG:Tryz.Gl w) (h:num_Power.f k a0_0 a0_1 a1=some (r1,r2,r3)) :
  Calls Tryz.prog 65 #[.agg #[.string a0_0,.string a0_1],.int .i64 a1] w fun e w'=>e = .returned (.tuple #[.agg #[.string r1,.string r2],.int .i64 r3])∧Below w.heap.size w w':=by
 have hu61:=underlying61
 have HG:=aZ hG
 clear hG
 have HB:=aZ (Below.refl w.heap.size w)
 have H:=h
 unfold num_Power.f at H
 clear h
 obtain ⟨t704,A3,H⟩:=zB H
 by_cases c4:t704=0
 case neg=>
  rw [if_neg c4] at H
  have c4b0:(t704==0)=false:=beq_eq_false_iff_ne.mpr c4
  have c4b1:(t704 != 0)=true:=bne_iff_ne.mpr c4
  obtain ⟨⟨t708,t709,t710⟩,A28,H⟩:=zB H
  (try dsimp only at H)
  simp only [Option.some.injEq,Prod.mk.injEq] at H
  obtain ⟨rfl,rfl,rfl⟩:=H
  go_enter func65,ntmps65
  go_wp2_with (first|(refine box_ev 2 #[.string a0_0,.string a0_1] 61 ?_;intro gb702 hg w29 hbox hb;have BK702:=aZ hbox;have GE702:=sG hg;replace HB:=sB hb;clear hb hbox hg)|(refine box_ev 3 #[.int .i64 a1] 3 ?_;intro gbN hg wN hbox hb;have BKN:=aZ hbox;replace HB:=sB hb;have NB702_N:=sl hg BK702;have NBN_702:=sg hg BK702;replace BK702:=sK BK702 hb;clear hb hbox hg)|(refine box_ev 4 #[.string (⟨#[]⟩:ByteArray),.string (⟨#[]⟩:ByteArray)] 61 ?_;intro gb703 hg w30 hbox hb;have BK703:=aZ hbox;have GE703:=sG hg;replace HB:=sB hb;have NB702_703:=sl hg BK702;have NB703_702:=sg hg BK702;replace BK702:=sK BK702 hb;replace BKN:=sK BKN hb;obtain ⟨hczN_0,hfzN_0⟩:=zc BKN 0 (.int .i64 a1) rfl;clear hb hbox hg;have hnb31:=NB702_703.out;have hnc31:=NB703_702.out;obtain ⟨hcz32_0,hfz32_0⟩:=zc BK702 0 (.string a0_0) rfl;obtain ⟨hcz32_1,hfz32_1⟩:=zc BK702 1 (.string a0_1) rfl)|(refine zg (some 7) func56 #[.agg #[.string a0_0,.string a0_1]] ?_;(with_reducible refine (num_Check.calls k a0_0 a0_1 t704 _ A3.out).mono ?_);rintro e w33 ⟨rfl,hb⟩;refine ⟨_,rfl,?_⟩;replace BK702:=sK BK702 hb;replace BKN:=sK BKN hb;obtain ⟨hczN_0,hfzN_0⟩:=zc BKN 0 (.int .i64 a1) rfl;replace BK703:=sK BK703 hb;replace HB:=sB hb;clear hb;obtain ⟨hcz34_0,hfz34_0⟩:=zc BK702 0 (.string a0_0) rfl;obtain ⟨hcz34_1,hfz34_1⟩:=zc BK702 1 (.string a0_1) rfl)|(refine zg (some 20) func114 #[.agg #[.string a0_0,.string a0_1],.func (.func 115) #[] #[.pointer (some ⟨gbN,0,none⟩)]] ?_;(with_reducible refine (num_Power_one.calls k a0_0 a0_1 a1 t708 t709 t710 _ gbN ?side0 ?side1 A28.out).mono ?_);(case side0=>first|exact zh BKN 0|exact hczN_0);(case side1=>exact Tryz.Gl.below HG.out bw);rintro e w35 ⟨rfl,hb⟩;refine ⟨_,rfl,?_⟩;replace BK702:=sK BK702 hb;replace BKN:=sK BKN hb;obtain ⟨hczN_0,hfzN_0⟩:=zc BKN 0 (.int .i64 a1) rfl;replace BK703:=sK BK703 hb;replace HB:=sB hb;clear hb;obtain ⟨hcz36_0,hfz36_0⟩:=zc BK703 0 (.string (⟨#[]⟩:ByteArray)) rfl;obtain ⟨hcz36_1,hfz36_1⟩:=zc BK703 1 (.string (⟨#[]⟩:ByteArray)) rfl))
  refine bodyPost_ret (results_ct rfl _ _ gb703 61 #[.string t708,.string t709] (0,0) _ rfl (zp BK703) underlying61 rfl (by kernel_rfl)) rfl ?_
  exact ⟨ze,bw⟩
 rw [if_pos c4] at H
 have c4b0:(t704==0)=true:=beq_iff_eq.mpr c4
 have c4b1:(t704 != 0)=false:=bne_eq_false_iff_eq.mpr c4
 clear c4
 by_cases c5:a1<0
 case neg=>
  rw [if_neg c5] at H
  have c5b0:decide (a1<0)=false:=decide_eq_false c5
  clear c5
  by_cases c12:a1 > 64
  case neg=>
   rw [if_neg c12] at H
   have c12b0:decide (64<a1)=false:=decide_eq_false c12
   clear c12
   obtain ⟨⟨t705,t706,t707⟩,A19,H⟩:=zB H
   (try dsimp only at H)
   simp only [Option.some.injEq,Prod.mk.injEq] at H
   obtain ⟨rfl,rfl,rfl⟩:=H
   go_enter func65,ntmps65
   go_wp2_with (first|(refine box_ev 2 #[.string a0_0,.string a0_1] 61 ?_;intro gb702 hg w20 hbox hb;have BK702:=aZ hbox;have GE702:=sG hg;replace HB:=sB hb;clear hb hbox hg)|(refine box_ev 3 #[.int .i64 a1] 3 ?_;intro gbN hg wN hbox hb;have BKN:=aZ hbox;replace HB:=sB hb;have NB702_N:=sl hg BK702;have NBN_702:=sg hg BK702;replace BK702:=sK BK702 hb;clear hb hbox hg)|(refine box_ev 4 #[.string (⟨#[]⟩:ByteArray),.string (⟨#[]⟩:ByteArray)] 61 ?_;intro gb703 hg w21 hbox hb;have BK703:=aZ hbox;have GE703:=sG hg;replace HB:=sB hb;have NB702_703:=sl hg BK702;have NB703_702:=sg hg BK702;replace BK702:=sK BK702 hb;replace BKN:=sK BKN hb;obtain ⟨hczN_0,hfzN_0⟩:=zc BKN 0 (.int .i64 a1) rfl;clear hb hbox hg;have hnb22:=NB702_703.out;have hnc22:=NB703_702.out;obtain ⟨hcz23_0,hfz23_0⟩:=zc BK702 0 (.string a0_0) rfl;obtain ⟨hcz23_1,hfz23_1⟩:=zc BK702 1 (.string a0_1) rfl)|(refine zg (some 7) func56 #[.agg #[.string a0_0,.string a0_1]] ?_;(with_reducible refine (num_Check.calls k a0_0 a0_1 t704 _ A3.out).mono ?_);rintro e w24 ⟨rfl,hb⟩;refine ⟨_,rfl,?_⟩;replace BK702:=sK BK702 hb;replace BKN:=sK BKN hb;obtain ⟨hczN_0,hfzN_0⟩:=zc BKN 0 (.int .i64 a1) rfl;replace BK703:=sK BK703 hb;replace HB:=sB hb;clear hb;obtain ⟨hcz25_0,hfz25_0⟩:=zc BK702 0 (.string a0_0) rfl;obtain ⟨hcz25_1,hfz25_1⟩:=zc BK702 1 (.string a0_1) rfl)|(refine zg (some 20) func114 #[.agg #[.string a0_0,.string a0_1],.func (.func 115) #[] #[.pointer (some ⟨gbN,0,none⟩)]] ?_;(with_reducible refine (num_Power_one.calls k a0_0 a0_1 a1 t705 t706 t707 _ gbN ?side0 ?side1 A19.out).mono ?_);(case side0=>first|exact zh BKN 0|exact hczN_0);(case side1=>exact Tryz.Gl.below HG.out bw);rintro e w26 ⟨rfl,hb⟩;refine ⟨_,rfl,?_⟩;replace BK702:=sK BK702 hb;replace BKN:=sK BKN hb;obtain ⟨hczN_0,hfzN_0⟩:=zc BKN 0 (.int .i64 a1) rfl;replace BK703:=sK BK703 hb;replace HB:=sB hb;clear hb;obtain ⟨hcz27_0,hfz27_0⟩:=zc BK703 0 (.string (⟨#[]⟩:ByteArray)) rfl;obtain ⟨hcz27_1,hfz27_1⟩:=zc BK703 1 (.string (⟨#[]⟩:ByteArray)) rfl))
   refine bodyPost_ret (results_ct rfl _ _ gb703 61 #[.string t705,.string t706] (0,0) _ rfl (zp BK703) underlying61 rfl (by kernel_rfl)) rfl ?_
   exact ⟨ze,bw⟩
  rw [if_pos c12] at H
  have c12b0:decide (64<a1)=true:=decide_eq_true c12
  clear c12
  simp only [Option.some.injEq,Prod.mk.injEq] at H
  obtain ⟨rfl,rfl,rfl⟩:=H
  go_enter func65,ntmps65
  go_wp2_with (first|(refine box_ev 2 #[.string a0_0,.string a0_1] 61 ?_;intro gb702 hg w13 hbox hb;have BK702:=aZ hbox;have GE702:=sG hg;replace HB:=sB hb;clear hb hbox hg)|(refine box_ev 3 #[.int .i64 a1] 3 ?_;intro gbN hg wN hbox hb;have BKN:=aZ hbox;replace HB:=sB hb;have NB702_N:=sl hg BK702;have NBN_702:=sg hg BK702;replace BK702:=sK BK702 hb;clear hb hbox hg)|(refine box_ev 4 #[.string (⟨#[]⟩:ByteArray),.string (⟨#[]⟩:ByteArray)] 61 ?_;intro gb703 hg w14 hbox hb;have BK703:=aZ hbox;have GE703:=sG hg;replace HB:=sB hb;have NB702_703:=sl hg BK702;have NB703_702:=sg hg BK702;replace BK702:=sK BK702 hb;replace BKN:=sK BKN hb;obtain ⟨hczN_0,hfzN_0⟩:=zc BKN 0 (.int .i64 a1) rfl;clear hb hbox hg;have hnb15:=NB702_703.out;have hnc15:=NB703_702.out;obtain ⟨hcz16_0,hfz16_0⟩:=zc BK702 0 (.string a0_0) rfl;obtain ⟨hcz16_1,hfz16_1⟩:=zc BK702 1 (.string a0_1) rfl)|(refine zg (some 7) func56 #[.agg #[.string a0_0,.string a0_1]] ?_;(with_reducible refine (num_Check.calls k a0_0 a0_1 t704 _ A3.out).mono ?_);rintro e w17 ⟨rfl,hb⟩;refine ⟨_,rfl,?_⟩;replace BK702:=sK BK702 hb;replace BKN:=sK BKN hb;obtain ⟨hczN_0,hfzN_0⟩:=zc BKN 0 (.int .i64 a1) rfl;replace BK703:=sK BK703 hb;replace HB:=sB hb;clear hb;obtain ⟨hcz18_0,hfz18_0⟩:=zc BK703 0 (.string (⟨#[]⟩:ByteArray)) rfl;obtain ⟨hcz18_1,hfz18_1⟩:=zc BK703 1 (.string (⟨#[]⟩:ByteArray)) rfl))
  refine bodyPost_ret (results_ct rfl _ _ gb703 61 #[.string (⟨#[]⟩:ByteArray),.string (⟨#[]⟩:ByteArray)] (0,0) _ rfl (zp BK703) underlying61 rfl (by kernel_rfl)) rfl ?_
  exact ⟨ze,bw⟩
 rw [if_pos c5] at H
 have c5b0:decide (a1<0)=true:=decide_eq_true c5
 clear c5
 simp only [Option.some.injEq,Prod.mk.injEq] at H
 obtain ⟨rfl,rfl,rfl⟩:=H
 go_enter func65,ntmps65
 go_wp2_with (first|(refine box_ev 2 #[.string a0_0,.string a0_1] 61 ?_;intro gb702 hg w6 hbox hb;have BK702:=aZ hbox;have GE702:=sG hg;replace HB:=sB hb;clear hb hbox hg)|(refine box_ev 3 #[.int .i64 a1] 3 ?_;intro gbN hg wN hbox hb;have BKN:=aZ hbox;replace HB:=sB hb;have NB702_N:=sl hg BK702;have NBN_702:=sg hg BK702;replace BK702:=sK BK702 hb;clear hb hbox hg)|(refine box_ev 4 #[.string (⟨#[]⟩:ByteArray),.string (⟨#[]⟩:ByteArray)] 61 ?_;intro gb703 hg w7 hbox hb;have BK703:=aZ hbox;have GE703:=sG hg;replace HB:=sB hb;have NB702_703:=sl hg BK702;have NB703_702:=sg hg BK702;replace BK702:=sK BK702 hb;replace BKN:=sK BKN hb;obtain ⟨hczN_0,hfzN_0⟩:=zc BKN 0 (.int .i64 a1) rfl;clear hb hbox hg;have hnb8:=NB702_703.out;have hnc8:=NB703_702.out;obtain ⟨hcz9_0,hfz9_0⟩:=zc BK702 0 (.string a0_0) rfl;obtain ⟨hcz9_1,hfz9_1⟩:=zc BK702 1 (.string a0_1) rfl)|(refine zg (some 7) func56 #[.agg #[.string a0_0,.string a0_1]] ?_;(with_reducible refine (num_Check.calls k a0_0 a0_1 t704 _ A3.out).mono ?_);rintro e w10 ⟨rfl,hb⟩;refine ⟨_,rfl,?_⟩;replace BK702:=sK BK702 hb;replace BKN:=sK BKN hb;obtain ⟨hczN_0,hfzN_0⟩:=zc BKN 0 (.int .i64 a1) rfl;replace BK703:=sK BK703 hb;replace HB:=sB hb;clear hb;obtain ⟨hcz11_0,hfz11_0⟩:=zc BK703 0 (.string (⟨#[]⟩:ByteArray)) rfl;obtain ⟨hcz11_1,hfz11_1⟩:=zc BK703 1 (.string (⟨#[]⟩:ByteArray)) rfl))
 refine bodyPost_ret (results_ct rfl _ _ gb703 61 #[.string (⟨#[]⟩:ByteArray),.string (⟨#[]⟩:ByteArray)] (0,0) _ rfl (zp BK703) underlying61 rfl (by kernel_rfl)) rfl ?_
 exact ⟨ze,bw⟩
end
end Go.Proofs.YtaffkbemjbfajaaGreatDoor.PNumProducts
