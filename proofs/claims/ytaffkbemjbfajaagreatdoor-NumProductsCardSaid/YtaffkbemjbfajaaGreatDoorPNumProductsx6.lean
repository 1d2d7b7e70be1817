-- By a program of this session: functions as plain Lean functions, each with its proof over the machine.
import Derived.Test.YtaffkbemjbfajaaGreatDoorPNumProductsx0
import Derived.Test.YtaffkbemjbfajaaGreatDoorPNumProductsx2
import Derived.Test.YtaffkbemjbfajaaGreatDoorPNumProductsx1
import Derived.Test.YtaffkbemjbfajaaGreatDoorPNumProductsx3
import Derived.Test.YtaffkbemjbfajaaGreatDoorPNumProductsx4
import Derived.Test.YtaffkbemjbfajaaGreatDoorPNumProductsx5
namespace Go.Proofs.YtaffkbemjbfajaaGreatDoor.PNumProducts
open Go.RowKit Go.Proofs.Tryz Go.Proofs.YtaffkbemjbfajaaGreatDoorW.PrintWords Go.Proofs.YtaffkbemjbfajaaGreatDoorW.PrintLast Go.Proofs.YtaffkbemjbfajaaGreatDoorW.PrintMore
attribute [local go_sem] max2_int min2_int max_two min_two max_three min_three max_four min_four
set_option linter.unusedVariables false
set_option linter.unusedSimpArgs false
mutual
def weftlaw1_NumProducts.j0:Nat→Int→Int→ByteArray→ByteArray→ByteArray→ByteArray→Bool→List Int→List Int→Bool→List Int→List Int→Option (Bool)
 | 0,_,_,_,_,_,_,_,_,_,_,_,_=>none
 | k+1,x1,x8,x682000,x682001,x683000,x683001,x702000,x702001,x702002,x703000,x703001,x703002=>(num_Mul.f k x682000 x682001 x683000 x683001).bind fun bt717=>((weftlaw1_nums.f k).bind fun t721=>(if t721=true then ((weftref1_Num_Mul.f k x702000 x702001 x702002 x703000 x703001 x703002).bind fun bt722=>((weftlaw1_same.f bt717.1 bt717.2.1 bt717.2.2 bt722.1 bt722.2.1 bt722.2.2 x8).bind fun t729=>(weftlaw1_NumProducts.j1 k x1 x8 (!t729) x682000 x682001 x683000 x683001 x702000 x702001 x702002 x703000 x703001 x703002))) else (weftlaw1_NumProducts.j1 k x1 x8 true x682000 x682001 x683000 x683001 x702000 x702001 x702002 x703000 x703001 x703002)))
def weftlaw1_NumProducts.j1:Nat→Int→Int→Bool→ByteArray→ByteArray→ByteArray→ByteArray→Bool→List Int→List Int→Bool→List Int→List Int→Option (Bool)
 | 0,_,_,_,_,_,_,_,_,_,_,_,_,_=>none
 | k+1,x1,x8,x53,x682000,x682001,x683000,x683001,x702000,x702001,x702002,x703000,x703001,x703002=>if x53=true then (some false) else (if x8=0 then ((weftref1_Num_Sign.f x703000 x703001 x703002).bind fun t730=>(weftlaw1_NumProducts.j2 k x1 x8 (t730==0) x682000 x682001 x683000 x683001 x702000 x702001 x702002 x703000 x703001 x703002)) else (weftlaw1_NumProducts.j2 k x1 x8 false x682000 x682001 x683000 x683001 x702000 x702001 x702002 x703000 x703001 x703002))
def weftlaw1_NumProducts.j2:Nat→Int→Int→Bool→ByteArray→ByteArray→ByteArray→ByteArray→Bool→List Int→List Int→Bool→List Int→List Int→Option (Bool)
 | 0,_,_,_,_,_,_,_,_,_,_,_,_,_=>none
 | k+1,x1,x8,x60,x682000,x682001,x683000,x683001,x702000,x702001,x702002,x703000,x703001,x703002=>if x60=true then ((weftref1_Int.f k 1).bind fun bt731=>(weftlaw1_NumProducts.j3 k x1 23 x682000 x682001 x683000 x683001 x702000 x702001 x702002 bt731.1 bt731.2.1 bt731.2.2)) else (weftlaw1_NumProducts.j3 k x1 x8 x682000 x682001 x683000 x683001 x702000 x702001 x702002 x703000 x703001 x703002)
def weftlaw1_NumProducts.j3:Nat→Int→Int→ByteArray→ByteArray→ByteArray→ByteArray→Bool→List Int→List Int→Bool→List Int→List Int→Option (Bool)
 | 0,_,_,_,_,_,_,_,_,_,_,_,_=>none
 | k+1,x1,x8,x682000,x682001,x683000,x683001,x702000,x702001,x702002,x703000,x703001,x703002=>(num_Div.f k x682000 x682001 x683000 x683001).bind fun bt738=>((weftref1_Num_Div.f k x702000 x702001 x702002 x703000 x703001 x703002).bind fun bt742=>((weftlaw1_same.f bt738.1 bt738.2.1 bt738.2.2 bt742.1 bt742.2.1 bt742.2.2 x8).bind fun t749=>(if t749=true then ((weftref1_RatFault.f k x682000 x682001).bind fun t750=>(if t750=0 then (if x1<0 then (weftlaw1_NumProducts.j4 k x1 t750 true x682000 x682001) else (weftlaw1_NumProducts.j4 k x1 t750 (decide (x1 > 64)) x682000 x682001)) else (weftlaw1_NumProducts.j4 k x1 t750 false x682000 x682001))) else (some false))))
def weftlaw1_NumProducts.j4:Nat→Int→Int→Bool→ByteArray→ByteArray→Option (Bool)
 | 0,_,_,_,_,_=>none
 | k+1,x1,x8,x87,x682000,x682001=>if x87=true then (weftlaw1_NumProducts.j5 k x1 1 x682000 x682001) else (weftlaw1_NumProducts.j5 k x1 x8 x682000 x682001)
def weftlaw1_NumProducts.j5:Nat→Int→Int→ByteArray→ByteArray→Option (Bool)
 | 0,_,_,_,_=>none
 | k+1,x1,x8,x682000,x682001=>(weftref1_Int.f k 0).bind fun bt751=>(if x8=0 then ((weftref1_Of.f k x682000 x682001).bind fun bt759=>((weftref1_Num_Pow.f k bt759.1 bt759.2.1 bt759.2.2 x1).bind fun bt766=>((num_Power.f k x682000 x682001 x1).bind fun bt773=>((weftlaw1_same.f bt773.1 bt773.2.1 bt773.2.2 bt766.1 bt766.2.1 bt766.2.2 x8).bind fun t777=>(some t777))))) else ((num_Power.f k x682000 x682001 x1).bind fun bt778=>((weftlaw1_same.f bt778.1 bt778.2.1 bt778.2.2 bt751.1 bt751.2.1 bt751.2.2 x8).bind fun t782=>(some t782))))
end
def weftlaw1_NumProducts.f (k:Nat) (l0:List Int) (a1:Int):Option (Bool):=(weftmake_Stream_Loose.f k l0 0).bind fun bt675=>((weftmake_Stream_Loose.f k l0 bt675.2.2).bind fun bt678=>((weftref1_RatsFault.f k (([(⟨bt675.1,bt675.2.1⟩:S61),(⟨bt678.1,bt678.2.1⟩:S61)]:List (S61)))).bind fun t686=>((weftref1_Int.f k 0).bind fun bt687=>((weftref1_Int.f k 1).bind fun bt694=>(if t686=0 then ((weftref1_Of.f k bt675.1 bt675.2.1).bind fun bt703=>((weftref1_Of.f k bt678.1 bt678.2.1).bind fun bt710=>(weftlaw1_NumProducts.j0 k a1 t686 bt675.1 bt675.2.1 bt678.1 bt678.2.1 bt703.1 bt703.2.1 bt703.2.2 bt710.1 bt710.2.1 bt710.2.2))) else (weftlaw1_NumProducts.j0 k a1 t686 bt675.1 bt675.2.1 bt678.1 bt678.2.1 bt687.1 bt687.2.1 bt687.2.2 bt694.1 bt694.2.1 bt694.2.2))))))
def weftlaw1_NumProducts.T8:Bool×List (List Nat×List Nat):=(true,[([],[]),([0],[0]),([1,0],[1]),([2],[2]),([2],[2]),([2],[2]),([2],[2]),([5,6,2,2],[2,5,6]),([2],[2]),([3,4,7,8,7,2],[2,3,4,7,8]),([9,2],[2,9]),([2,10],[2,10])])
def weftlaw1_NumProducts.B8:List Nat:=[0,1,3,7,7,7,7,103,7,511,1023,2047]
theorem weftlaw1_NumProducts.tab8:rtab .any (opsOf Tryz.f14 8)=weftlaw1_NumProducts.T8:=by kernel_rfl
theorem weftlaw1_NumProducts.bits8:waitsOk weftlaw1_NumProducts.T8.2 weftlaw1_NumProducts.B8=true:=by kernel_rfl
def weftlaw1_NumProducts.T13:Bool×List (List Nat×List Nat):=(true,[([],[]),([],[]),([],[]),([],[]),([2,3],[2,3]),([],[]),([0,1,4,5,4],[0,1,4,5]),([6],[6])])
def weftlaw1_NumProducts.B13:List Nat:=[0,0,0,0,12,0,63,127]
theorem weftlaw1_NumProducts.tab13:rtab .any (opsOf Tryz.f14 13)=weftlaw1_NumProducts.T13:=by kernel_rfl
theorem weftlaw1_NumProducts.bits13:waitsOk weftlaw1_NumProducts.T13.2 weftlaw1_NumProducts.B13=true:=by kernel_rfl
set_option maxHeartbeats 80000000 in
set_option maxRecDepth 100000 in
theorem weftlaw1_NumProducts.calls (k:Nat) (A0:Option Addr) (c0:Nat) (l0:List Int) (a1:Int) (r:Bool) (w:World) (hr0:Kd.C (Kd.int .i64) w A0 l0.length l0) (hc0:l0.length≤c0) (hG:Tryz.Gl w) (h:weftlaw1_NumProducts.f k l0 a1=some r) :
  Calls Tryz.prog 14 #[.slice A0 l0.length c0,.int .i64 a1] w fun e w'=>e = .returned (.bool r)∧Below w.heap.size w w':=by
 have hu44:=underlying44
 have hu61:=underlying61
 have hu67:=underlying67
 have HG:=aZ hG
 clear hG
 have HR0:=aZ hr0
 have HC0:=aZ hc0
 clear hr0 hc0
 have HB:=aZ (Below.refl w.heap.size w)
 have H:=h
 unfold weftlaw1_NumProducts.f at H
 clear h
 obtain ⟨⟨t675,t676,t677⟩,A3,H⟩:=zB H
 (try dsimp only at H)
 obtain ⟨⟨t678,t679,t680⟩,A4,H⟩:=zB H
 (try dsimp only at H)
 obtain ⟨y683,hy683⟩:∃ y_:List (S61),y_=(([(⟨t675,t676⟩:S61),(⟨t678,t679⟩:S61)]:List (S61))):=⟨_,rfl⟩
 replace H:((weftref1_RatsFault.f k y683).bind fun t686=>((weftref1_Int.f k 0).bind fun bt687=>((weftref1_Int.f k 1).bind fun bt694=>(if t686=0 then ((weftref1_Of.f k t675 t676).bind fun bt703=>((weftref1_Of.f k t678 t679).bind fun bt710=>(weftlaw1_NumProducts.j0 k a1 t686 t675 t676 t678 t679 bt703.1 bt703.2.1 bt703.2.2 bt710.1 bt710.2.1 bt710.2.2))) else (weftlaw1_NumProducts.j0 k a1 t686 t675 t676 t678 t679 bt687.1 bt687.2.1 bt687.2.2 bt694.1 bt694.2.1 bt694.2.2)))))=some r:=zy hy683 H
 have Ny683:=aZ hy683
 clear hy683
 obtain ⟨t686,A5,H⟩:=zB H
 obtain ⟨⟨t687,t688,t691⟩,A6,H⟩:=zB H
 (try dsimp only at H)
 obtain ⟨⟨t694,t695,t698⟩,A7,H⟩:=zB H
 (try dsimp only at H)
 have HC8:=aZ H
 clear H
 go_enter func14,ntmps14
 go_upto_if 31 with (first|(refine box_ev 19 #[.slice A0 l0.length c0,.int .i64 0] 44 ?_;intro gb674 hg w9 hbox hb;have GE674:=sG hg;have HI674:=aZ ((by refine ⟨_,_,hbox,(by rw [hg];exact bs),HR0.out⟩:IsS44 w _ gb674 l0 0));replace HB:=sB hb;clear hb hbox hg)|(refine zg (some 21) func52 #[.pointer (some ⟨gb674,0,none⟩)] ?_;(with_reducible refine (weftmake_Stream_Loose.calls k gb674 l0 0 t675 t676 t677 w _ ?side1 ?side2 ?side3 A3.out).mono ?_);(case side1=>exact zi HI674);(case side2=>exact bw);(case side3=>exact HG.out);rintro e w10 ⟨rfl,hi,hb,hk⟩;refine ⟨_,rfl,?_⟩;replace HB:=aZ (hb);replace HI674:=aZ (hi);clear hb hk hi)|(refine zg (some 23) func52 #[.pointer (some ⟨gb674,0,none⟩)] ?_;(with_reducible refine (weftmake_Stream_Loose.calls k gb674 l0 t677 t678 t679 t680 w _ ?side1 ?side2 ?side3 A4.out).mono ?_);(case side1=>exact zi HI674);(case side2=>exact bw);(case side3=>exact HG.out);rintro e w11 ⟨rfl,hi,hb,hk⟩;refine ⟨_,rfl,?_⟩;replace HB:=aZ (hb);replace HI674:=aZ (hi);clear hb hk hi)|(refine box_ev 6 #[.string (⟨#[]⟩:ByteArray),.string (⟨#[]⟩:ByteArray)] 61 ?_;intro gb681 hg w12 hbox hb;have BK681:=aZ hbox;have GE681:=sG hg;replace HB:=sB hb;have NB674_681:=aZ ((by rw [hg];exact Nat.ne_of_lt (IsS44.lt (show IsS44 w _ gb674 l0 t680 from zi HI674)):gb674≠gb681));have NB681_674:=aZ ((by rw [hg];exact Nat.ne_of_gt (IsS44.lt (show IsS44 w _ gb674 l0 t680 from zi HI674)):gb681≠gb674));replace HI674:=aZ (IsS44.below (zi HI674) hb);clear hb hbox hg)|(refine box_ev 7 #[.string (⟨#[]⟩:ByteArray),.string (⟨#[]⟩:ByteArray)] 61 ?_;intro gb682 hg w13 hbox hb;have BK682:=aZ hbox;have GE682:=sG hg;replace HB:=sB hb;have NB681_682:=sl hg BK681;have NB682_681:=sg hg BK681;replace BK681:=sK BK681 hb;have NB674_682:=aZ ((by rw [hg];exact Nat.ne_of_lt (IsS44.lt (show IsS44 w _ gb674 l0 t680 from zi HI674)):gb674≠gb682));have NB682_674:=aZ ((by rw [hg];exact Nat.ne_of_gt (IsS44.lt (show IsS44 w _ gb674 l0 t680 from zi HI674)):gb682≠gb674));replace HI674:=aZ (IsS44.below (zi HI674) hb);clear hb hbox hg;have hnb14:=NB681_682.out;have hnc14:=NB682_681.out;have hnb15:=NB681_674.out;have hnc15:=NB674_681.out;obtain ⟨hcz16_0,hfz16_0⟩:=zc BK681 0 (.string (⟨#[]⟩:ByteArray)) rfl;obtain ⟨hcz16_1,hfz16_1⟩:=zc BK681 1 (.string (⟨#[]⟩:ByteArray)) rfl;have hnb17:=NB682_674.out;have hnc17:=NB674_682.out;obtain ⟨hcz18_0,hfz18_0⟩:=zc BK682 0 (.string (⟨#[]⟩:ByteArray)) rfl;obtain ⟨hcz18_1,hfz18_1⟩:=zc BK682 1 (.string (⟨#[]⟩:ByteArray)) rfl)|((with_reducible refine gate_dst (N:=26) rfl ?_);refine Kd.R_lit k61 _ 61 ?hg (N:=26) ?hd (xs:=([(⟨t675,t676⟩:S61),(⟨t678,t679⟩:S61)]:List (S61))) (inner:=[.string t675,.string t676,.string t678,.string t679]) (ok:=fun _=>True) (okp:=fun _=>True) ?hr ?hp (fun _ hk=>hk) trivial (Below.refl _ _) (Nat.le_refl _) (by simp) ?_;(case hd=>rfl);(case hg=>rfl);(case hr=>first|(go_simp;done)|(go_simp;rfl));(case hp=>exact (Reps.c2 (show Kd.M k61 _ _ _ (⟨t675,t676⟩:S61) [.string t675,.string t676] from (k61_mkM _ _ _ (⟨t675,t676⟩:S61) )) (Reps.c2 (show Kd.M k61 _ _ _ (⟨t678,t679⟩:S61) [.string t678,.string t679] from (k61_mkM _ _ _ (⟨t678,t679⟩:S61) )) (Reps.none _ _))));intro v684 w19 ho20 hb hg_ hnew_;clear hg_ hnew_;(first|rw [← Ny683.out] at ho20|(simp only [Int.reduceToNat] at ho20;rw [← Ny683.out] at ho20));have HO685:=aZ (Kd.R_lower (Kd.R_newB (Kd.R_newB ho20 (g:=gb681) (o:=.cells #[.string t675,.string t676] 61 (0,0)) (zq BK681)) (g:=gb682) (o:=.cells #[.string t678,.string t679] 61 (0,0)) (zq BK682)) bs);replace HI674:=aZ (IsS44.below (show IsS44 w ((((w13.setCell ⟨gb681,0,none⟩ (.string t675)).setCell ⟨gb681,1,none⟩ (.string t676)).setCell ⟨gb682,0,none⟩ (.string t678)).setCell ⟨gb682,1,none⟩ (.string t679)) gb674 l0 t680 from zi HI674) hb);replace BK681:=aZ (blk_below (g:=gb681) (o:=.cells #[.string t675,.string t676] 61 (0,0)) (zq BK681) hb);replace BK682:=aZ (blk_below (g:=gb682) (o:=.cells #[.string t678,.string t679] 61 (0,0)) (zq BK682) hb);replace HB:=sB hb;clear hb ho20;obtain ⟨Ao21,co21,rfl⟩:=Kd.R_slice HO685.out)|(refine zg (some 27) func57 #[.slice Ao21 y683.length co21] ?_;(with_reducible refine (weftref1_RatsFault.calls k _ _ y683 t686 _ ?side1 ?side2 A5.out).mono ?_);(case side1=>exact zC (Kd.R_reads' HO685.out).2.2);(case side2=>exact (Kd.R_reads' HO685.out).2.1);rintro e w22 ⟨rfl,hb⟩;refine ⟨_,rfl,?_⟩;replace HO685:=yR HO685 hb;replace HI674:=aZ (IsS44.below (zi HI674) hb);replace BK681:=sK BK681 hb;replace BK682:=sK BK682 hb;replace HB:=sB hb;clear hb)|(refine zg (some 28) func48 #[.int .i64 0] ?_;(with_reducible refine (weftref1_Int.calls k 0 t687 t688 t691 _ A6.out).mono ?_);rintro e w23 ⟨v689,v692,rfl,ho0,ho1,hb⟩;refine ⟨_,rfl,?_⟩;replace HO685:=yR HO685 hb;have HO690:=aZ (Kd.R_lower ho0 bs);have HO693:=aZ (Kd.R_lower ho1 bs);replace HI674:=aZ (IsS44.below (zi HI674) hb);replace BK681:=sK BK681 hb;replace BK682:=sK BK682 hb;replace HB:=sB hb;clear hb ho0 ho1)|(refine zg (some 29) func48 #[.int .i64 1] ?_;(with_reducible refine (weftref1_Int.calls k 1 t694 t695 t698 _ A7.out).mono ?_);rintro e w24 ⟨v696,v699,rfl,ho0,ho1,hb⟩;refine ⟨_,rfl,?_⟩;replace HO685:=yR HO685 hb;have HO697:=aZ (Kd.R_lower (Kd.R_new' (Kd.R_new' ho0 (Kd.R_lt (zR HO690))) (Kd.R_lt (zR HO693))) bs);have HO700:=aZ (Kd.R_lower (Kd.R_new' (Kd.R_new' ho1 (Kd.R_lt (zR HO690))) (Kd.R_lt (zR HO693))) bs);replace HO690:=aZ (Kd.R_mono (Kd.R_told (Kd.R_told (Kd.R_old (zR HO690) hb) (Kd.R_base ho0)) (Kd.R_base ho1)) (fun _ h_=>h_.1));replace HO693:=aZ (Kd.R_mono (Kd.R_told (Kd.R_told (Kd.R_old (zR HO693) hb) (Kd.R_base ho0)) (Kd.R_base ho1)) (fun _ h_=>h_.1));replace HI674:=aZ (IsS44.below (zi HI674) hb);replace BK681:=sK BK681 hb;replace BK682:=sK BK682 hb;replace HB:=sB hb;clear hb ho0 ho1)|(refine box_ev 9 #[.bool false,.slice none 0 0,.slice none 0 0] 67 ?_;intro gb701 hg w25 hbox hb;replace HO685:=yR HO685 hb;replace HO690:=yR HO690 hb;replace HO693:=yR HO693 hb;replace HO697:=yR HO697 hb;replace HO700:=yR HO700 hb;have BK701:=aZ hbox;have GE701:=sG hg;replace HB:=sB hb;have NB681_701:=sl hg BK681;have NB701_681:=sg hg BK681;replace BK681:=sK BK681 hb;have NB682_701:=sl hg BK682;have NB701_682:=sg hg BK682;replace BK682:=sK BK682 hb;have NB674_701:=aZ ((by rw [hg];exact Nat.ne_of_lt (IsS44.lt (show IsS44 w _ gb674 l0 t680 from zi HI674)):gb674≠gb701));have NB701_674:=aZ ((by rw [hg];exact Nat.ne_of_gt (IsS44.lt (show IsS44 w _ gb674 l0 t680 from zi HI674)):gb701≠gb674));replace HI674:=aZ (IsS44.below (zi HI674) hb);clear hb hbox hg)|(refine box_ev 10 #[.bool false,.slice none 0 0,.slice none 0 0] 67 ?_;intro gb702 hg w26 hbox hb;replace HO685:=yR HO685 hb;replace HO690:=yR HO690 hb;replace HO693:=yR HO693 hb;replace HO697:=yR HO697 hb;replace HO700:=yR HO700 hb;have BK702:=aZ hbox;have GE702:=sG hg;replace HB:=sB hb;have NB681_702:=sl hg BK681;have NB702_681:=sg hg BK681;replace BK681:=sK BK681 hb;have NB682_702:=sl hg BK682;have NB702_682:=sg hg BK682;replace BK682:=sK BK682 hb;have NB701_702:=sl hg BK701;have NB702_701:=sg hg BK701;replace BK701:=sK BK701 hb;have NB674_702:=aZ ((by rw [hg];exact Nat.ne_of_lt (IsS44.lt (show IsS44 w _ gb674 l0 t680 from zi HI674)):gb674≠gb702));have NB702_674:=aZ ((by rw [hg];exact Nat.ne_of_gt (IsS44.lt (show IsS44 w _ gb674 l0 t680 from zi HI674)):gb702≠gb674));replace HI674:=aZ (IsS44.below (zi HI674) hb);clear hb hbox hg;have hnb27:=NB701_681.out;have hnc27:=NB681_701.out;have hnb28:=NB701_682.out;have hnc28:=NB682_701.out;have hnb29:=NB701_702.out;have hnc29:=NB702_701.out;have hnb30:=NB701_674.out;have hnc30:=NB674_701.out;obtain ⟨hcz31_0,hfz31_0⟩:=zc BK701 0 (.bool false) rfl;obtain ⟨hcz31_1,hfz31_1⟩:=zc BK701 1 (.slice none 0 0) rfl;obtain ⟨hcz31_2,hfz31_2⟩:=zc BK701 2 (.slice none 0 0) rfl;obtain ⟨Ao32,co32,rfl⟩:=Kd.R_slice HO690.out;obtain ⟨Ao33,co33,rfl⟩:=Kd.R_slice HO693.out;have hnb34:=NB702_681.out;have hnc34:=NB681_702.out;have hnb35:=NB702_682.out;have hnc35:=NB682_702.out;have hnb36:=NB702_674.out;have hnc36:=NB674_702.out;obtain ⟨hcz37_0,hfz37_0⟩:=zc BK702 0 (.bool false) rfl;obtain ⟨hcz37_1,hfz37_1⟩:=zc BK702 1 (.slice none 0 0) rfl;obtain ⟨hcz37_2,hfz37_2⟩:=zc BK702 2 (.slice none 0 0) rfl;obtain ⟨Ao38,co38,rfl⟩:=Kd.R_slice HO697.out;obtain ⟨Ao39,co39,rfl⟩:=Kd.R_slice HO700.out))
 (try simp only [Act.put,List.setIfInBounds_toArray,List.set_cons_zero,List.set_cons_succ])
 go_cut [] (fun wc=>∃ (kq:Nat) (x702000_7:Bool) (x702001_7:List Int) (x702002_7:List Int) (x703000_7:Bool) (x703001_7:List Int) (x703002_7:List Int) (u702001:Value) (u702002:Value) (u703001:Value) (u703002:Value),Aside0 (weftlaw1_NumProducts.j0 kq a1 t686 t675 t676 t678 t679 x702000_7 x702001_7 x702002_7 x703000_7 x703001_7 x703002_7=some r)∧Aside0 (kq≤k)∧Aside0 (Kd.V (Kd.int .i64) 3 wc w.heap.size (fun k_=>k_≠gb681∧k_≠gb682∧k_≠gb701∧k_≠gb702) u702001 x702001_7)∧Aside0 (Kd.V (Kd.int .i64) 3 wc w.heap.size (fun k_=>k_≠gb681∧k_≠gb682∧k_≠gb701∧k_≠gb702) u702002 x702002_7)∧Aside0 (Kd.V (Kd.int .i64) 3 wc w.heap.size (fun k_=>k_≠gb681∧k_≠gb682∧k_≠gb701∧k_≠gb702) u703001 x703001_7)∧Aside0 (Kd.V (Kd.int .i64) 3 wc w.heap.size (fun k_=>k_≠gb681∧k_≠gb682∧k_≠gb701∧k_≠gb702) u703002 x703002_7)∧Aside0 (wc.heap[gb681]? = some (.cells #[.string t675,.string t676] 61 (0,0)))∧Aside0 (wc.heap[gb682]? = some (.cells #[.string t678,.string t679] 61 (0,0)))∧Aside0 (wc.heap[gb701]? = some (.cells #[.bool x702000_7,u702001,u702002] 67 (0,0)))∧Aside0 (wc.heap[gb702]? = some (.cells #[.bool x703000_7,u703001,u703002] 67 (0,0)))∧Aside0 (Below w.heap.size w wc))
 case first =>
  have H:=HC8.out
  clear HC8
  by_cases c40:t686=0
  case neg=>
   rw [if_neg c40] at H
   have c40b0:(t686==0)=false:=beq_eq_false_iff_ne.mpr c40
   have c40b1:(t686 != 0)=true:=bne_iff_ne.mpr c40
   (first|rw [c40b0]|(simp only [i64_w,i32_w];rw [c40b0])|skip)
   have H':=aZ H
   clear H
   go_wp2
   go_meet
   case rel=>exact ⟨_,(t687),(t688),(t691),(t694),(t695),(t698),(.slice Ao32 t688.length co32),(.slice Ao33 t691.length co33),(.slice Ao38 t695.length co38),(.slice Ao39 t698.length co39),H',⟨by first|omega|exact Nat.le_refl _⟩,⟨Kd.R_V (by (with_reducible repeat (first|apply Kd.R_alloc|apply Kd.R_drewN|apply Kd.R_drew));exact Kd.R_mono (Kd.R_far (p:=⟨gb702,2,none⟩) (Kd.R_far (p:=⟨gb702,1,none⟩) (Kd.R_far (p:=⟨gb702,0,none⟩) (Kd.R_far (p:=⟨gb701,2,none⟩) (Kd.R_far (p:=⟨gb701,1,none⟩) (Kd.R_far (p:=⟨gb701,0,none⟩) (Kd.R_types (Kd.R_types (Kd.R_types (Kd.R_types (Kd.R_types (Kd.R_types HO690.out BK681.out (by decide)) BK682.out (by decide)) BK701.out (by decide)) BK702.out (by decide)) BK701.out (by decide)) BK702.out (by decide)) (fun _ hk=>hk.1.2) (.bool t687)) (fun _ hk=>hk.1.2) (.slice Ao32 t688.length co32)) (fun _ hk=>hk.1.2) (.slice Ao33 t691.length co33)) (fun _ hk=>hk.2) (.bool t694)) (fun _ hk=>hk.2) (.slice Ao38 t695.length co38)) (fun _ hk=>hk.2) (.slice Ao39 t698.length co39)) (fun _ hk=>⟨hk.1.1.1.1.1.2,⟨hk.1.1.1.1.2,⟨hk.1.1.1.2,hk.1.1.2⟩⟩⟩))⟩,⟨Kd.R_V (by (with_reducible repeat (first|apply Kd.R_alloc|apply Kd.R_drewN|apply Kd.R_drew));exact Kd.R_mono (Kd.R_far (p:=⟨gb702,2,none⟩) (Kd.R_far (p:=⟨gb702,1,none⟩) (Kd.R_far (p:=⟨gb702,0,none⟩) (Kd.R_far (p:=⟨gb701,2,none⟩) (Kd.R_far (p:=⟨gb701,1,none⟩) (Kd.R_far (p:=⟨gb701,0,none⟩) (Kd.R_types (Kd.R_types (Kd.R_types (Kd.R_types (Kd.R_types (Kd.R_types HO693.out BK681.out (by decide)) BK682.out (by decide)) BK701.out (by decide)) BK702.out (by decide)) BK701.out (by decide)) BK702.out (by decide)) (fun _ hk=>hk.1.2) (.bool t687)) (fun _ hk=>hk.1.2) (.slice Ao32 t688.length co32)) (fun _ hk=>hk.1.2) (.slice Ao33 t691.length co33)) (fun _ hk=>hk.2) (.bool t694)) (fun _ hk=>hk.2) (.slice Ao38 t695.length co38)) (fun _ hk=>hk.2) (.slice Ao39 t698.length co39)) (fun _ hk=>⟨hk.1.1.1.1.1.2,⟨hk.1.1.1.1.2,⟨hk.1.1.1.2,hk.1.1.2⟩⟩⟩))⟩,⟨Kd.R_V (by (with_reducible repeat (first|apply Kd.R_alloc|apply Kd.R_drewN|apply Kd.R_drew));exact Kd.R_mono (Kd.R_far (p:=⟨gb702,2,none⟩) (Kd.R_far (p:=⟨gb702,1,none⟩) (Kd.R_far (p:=⟨gb702,0,none⟩) (Kd.R_far (p:=⟨gb701,2,none⟩) (Kd.R_far (p:=⟨gb701,1,none⟩) (Kd.R_far (p:=⟨gb701,0,none⟩) (Kd.R_types (Kd.R_types (Kd.R_types (Kd.R_types (Kd.R_types (Kd.R_types HO697.out BK681.out (by decide)) BK682.out (by decide)) BK701.out (by decide)) BK702.out (by decide)) BK701.out (by decide)) BK702.out (by decide)) (fun _ hk=>hk.1.2) (.bool t687)) (fun _ hk=>hk.1.2) (.slice Ao32 t688.length co32)) (fun _ hk=>hk.1.2) (.slice Ao33 t691.length co33)) (fun _ hk=>hk.2) (.bool t694)) (fun _ hk=>hk.2) (.slice Ao38 t695.length co38)) (fun _ hk=>hk.2) (.slice Ao39 t698.length co39)) (fun _ hk=>⟨hk.1.1.1.1.1.2,⟨hk.1.1.1.1.2,⟨hk.1.1.1.2,hk.1.1.2⟩⟩⟩))⟩,⟨Kd.R_V (by (with_reducible repeat (first|apply Kd.R_alloc|apply Kd.R_drewN|apply Kd.R_drew));exact Kd.R_mono (Kd.R_far (p:=⟨gb702,2,none⟩) (Kd.R_far (p:=⟨gb702,1,none⟩) (Kd.R_far (p:=⟨gb702,0,none⟩) (Kd.R_far (p:=⟨gb701,2,none⟩) (Kd.R_far (p:=⟨gb701,1,none⟩) (Kd.R_far (p:=⟨gb701,0,none⟩) (Kd.R_types (Kd.R_types (Kd.R_types (Kd.R_types (Kd.R_types (Kd.R_types HO700.out BK681.out (by decide)) BK682.out (by decide)) BK701.out (by decide)) BK702.out (by decide)) BK701.out (by decide)) BK702.out (by decide)) (fun _ hk=>hk.1.2) (.bool t687)) (fun _ hk=>hk.1.2) (.slice Ao32 t688.length co32)) (fun _ hk=>hk.1.2) (.slice Ao33 t691.length co33)) (fun _ hk=>hk.2) (.bool t694)) (fun _ hk=>hk.2) (.slice Ao38 t695.length co38)) (fun _ hk=>hk.2) (.slice Ao39 t698.length co39)) (fun _ hk=>⟨hk.1.1.1.1.1.2,⟨hk.1.1.1.1.2,⟨hk.1.1.1.2,hk.1.1.2⟩⟩⟩))⟩,⟨zq BK681⟩,⟨zq BK682⟩,⟨zq BK701⟩,⟨zq BK702⟩,⟨bw⟩⟩
  rw [if_pos c40] at H
  have c40b0:(t686==0)=true:=beq_iff_eq.mpr c40
  have c40b1:(t686 != 0)=false:=bne_eq_false_iff_eq.mpr c40
  clear c40
  (first|rw [c40b0]|(simp only [i64_w,i32_w];rw [c40b0])|skip)
  obtain ⟨⟨t703,t704,t707⟩,A41,H⟩:=zB H
  (try dsimp only at H)
  obtain ⟨⟨t710,t711,t714⟩,A42,H⟩:=zB H
  (try dsimp only at H)
  have H':=aZ H
  clear H
  try go_wp2
  have n0_:Aside0 (Kd.R k61 61 ((((((w26.setCell ⟨gb701,0,none⟩ (.bool t687)).setCell ⟨gb701,1,none⟩ (.slice Ao32 t688.length co32)).setCell ⟨gb701,2,none⟩ (.slice Ao33 t691.length co33)).setCell ⟨gb702,0,none⟩ (.bool t694)).setCell ⟨gb702,1,none⟩ (.slice Ao38 t695.length co38)).setCell ⟨gb702,2,none⟩ (.slice Ao39 t698.length co39)) w.heap.size (fun k_=>k_≠gb681∧k_≠gb682) (.slice Ao21 y683.length co21) y683):=⟨zF ⟨Kd.R_types (Kd.R_types HO685.out BK701.out (by decide)) BK702.out (by decide)⟩⟩
  have n1_:Aside0 (Kd.R (Kd.int .i64) 3 ((((((w26.setCell ⟨gb701,0,none⟩ (.bool t687)).setCell ⟨gb701,1,none⟩ (.slice Ao32 t688.length co32)).setCell ⟨gb701,2,none⟩ (.slice Ao33 t691.length co33)).setCell ⟨gb702,0,none⟩ (.bool t694)).setCell ⟨gb702,1,none⟩ (.slice Ao38 t695.length co38)).setCell ⟨gb702,2,none⟩ (.slice Ao39 t698.length co39)) w.heap.size (fun k_=>some k_≠(.slice Ao33 t691.length co33:Value).ownBlock∧some k_≠(.slice Ao38 t695.length co38:Value).ownBlock∧some k_≠(.slice Ao39 t698.length co39:Value).ownBlock) (.slice Ao32 t688.length co32) t688):=⟨zF ⟨Kd.R_types (Kd.R_types HO690.out BK701.out (by decide)) BK702.out (by decide)⟩⟩
  have n2_:Aside0 (Kd.R (Kd.int .i64) 3 ((((((w26.setCell ⟨gb701,0,none⟩ (.bool t687)).setCell ⟨gb701,1,none⟩ (.slice Ao32 t688.length co32)).setCell ⟨gb701,2,none⟩ (.slice Ao33 t691.length co33)).setCell ⟨gb702,0,none⟩ (.bool t694)).setCell ⟨gb702,1,none⟩ (.slice Ao38 t695.length co38)).setCell ⟨gb702,2,none⟩ (.slice Ao39 t698.length co39)) w.heap.size (fun k_=>some k_≠(.slice Ao32 t688.length co32:Value).ownBlock∧some k_≠(.slice Ao38 t695.length co38:Value).ownBlock∧some k_≠(.slice Ao39 t698.length co39:Value).ownBlock) (.slice Ao33 t691.length co33) t691):=⟨zF ⟨Kd.R_types (Kd.R_types HO693.out BK701.out (by decide)) BK702.out (by decide)⟩⟩
  have n3_:Aside0 (Kd.R (Kd.int .i64) 3 ((((((w26.setCell ⟨gb701,0,none⟩ (.bool t687)).setCell ⟨gb701,1,none⟩ (.slice Ao32 t688.length co32)).setCell ⟨gb701,2,none⟩ (.slice Ao33 t691.length co33)).setCell ⟨gb702,0,none⟩ (.bool t694)).setCell ⟨gb702,1,none⟩ (.slice Ao38 t695.length co38)).setCell ⟨gb702,2,none⟩ (.slice Ao39 t698.length co39)) w.heap.size (fun k_=>some k_≠(.slice Ao32 t688.length co32:Value).ownBlock∧some k_≠(.slice Ao33 t691.length co33:Value).ownBlock∧some k_≠(.slice Ao39 t698.length co39:Value).ownBlock) (.slice Ao38 t695.length co38) t695):=⟨zF ⟨Kd.R_types (Kd.R_types HO697.out BK701.out (by decide)) BK702.out (by decide)⟩⟩
  have n4_:Aside0 (Kd.R (Kd.int .i64) 3 ((((((w26.setCell ⟨gb701,0,none⟩ (.bool t687)).setCell ⟨gb701,1,none⟩ (.slice Ao32 t688.length co32)).setCell ⟨gb701,2,none⟩ (.slice Ao33 t691.length co33)).setCell ⟨gb702,0,none⟩ (.bool t694)).setCell ⟨gb702,1,none⟩ (.slice Ao38 t695.length co38)).setCell ⟨gb702,2,none⟩ (.slice Ao39 t698.length co39)) w.heap.size (fun k_=>some k_≠(.slice Ao32 t688.length co32:Value).ownBlock∧some k_≠(.slice Ao33 t691.length co33:Value).ownBlock∧some k_≠(.slice Ao38 t695.length co38:Value).ownBlock) (.slice Ao39 t698.length co39) t698):=⟨zF ⟨Kd.R_types (Kd.R_types HO700.out BK701.out (by decide)) BK702.out (by decide)⟩⟩
  have n5_:Aside0 (((((((w26.setCell ⟨gb701,0,none⟩ (.bool t687)).setCell ⟨gb701,1,none⟩ (.slice Ao32 t688.length co32)).setCell ⟨gb701,2,none⟩ (.slice Ao33 t691.length co33)).setCell ⟨gb702,0,none⟩ (.bool t694)).setCell ⟨gb702,1,none⟩ (.slice Ao38 t695.length co38)).setCell ⟨gb702,2,none⟩ (.slice Ao39 t698.length co39)).heap[gb681]? = some (.cells #[.string t675,.string t676] 61 (0,0))):=⟨zq BK681⟩
  have n6_:Aside0 (((((((w26.setCell ⟨gb701,0,none⟩ (.bool t687)).setCell ⟨gb701,1,none⟩ (.slice Ao32 t688.length co32)).setCell ⟨gb701,2,none⟩ (.slice Ao33 t691.length co33)).setCell ⟨gb702,0,none⟩ (.bool t694)).setCell ⟨gb702,1,none⟩ (.slice Ao38 t695.length co38)).setCell ⟨gb702,2,none⟩ (.slice Ao39 t698.length co39)).heap[gb682]? = some (.cells #[.string t678,.string t679] 61 (0,0))):=⟨zq BK682⟩
  have n7_:Aside0 (((((((w26.setCell ⟨gb701,0,none⟩ (.bool t687)).setCell ⟨gb701,1,none⟩ (.slice Ao32 t688.length co32)).setCell ⟨gb701,2,none⟩ (.slice Ao33 t691.length co33)).setCell ⟨gb702,0,none⟩ (.bool t694)).setCell ⟨gb702,1,none⟩ (.slice Ao38 t695.length co38)).setCell ⟨gb702,2,none⟩ (.slice Ao39 t698.length co39)).heap[gb701]? = some (.cells #[.bool t687,.slice Ao32 t688.length co32,.slice Ao33 t691.length co33] 67 (0,0))):=⟨zq BK701⟩
  have n8_:Aside0 (((((((w26.setCell ⟨gb701,0,none⟩ (.bool t687)).setCell ⟨gb701,1,none⟩ (.slice Ao32 t688.length co32)).setCell ⟨gb701,2,none⟩ (.slice Ao33 t691.length co33)).setCell ⟨gb702,0,none⟩ (.bool t694)).setCell ⟨gb702,1,none⟩ (.slice Ao38 t695.length co38)).setCell ⟨gb702,2,none⟩ (.slice Ao39 t698.length co39)).heap[gb702]? = some (.cells #[.bool t694,.slice Ao38 t695.length co38,.slice Ao39 t698.length co39] 67 (0,0))):=⟨zq BK702⟩
  have n9_:Aside0 (IsS44 w ((((((w26.setCell ⟨gb701,0,none⟩ (.bool t687)).setCell ⟨gb701,1,none⟩ (.slice Ao32 t688.length co32)).setCell ⟨gb701,2,none⟩ (.slice Ao33 t691.length co33)).setCell ⟨gb702,0,none⟩ (.bool t694)).setCell ⟨gb702,1,none⟩ (.slice Ao38 t695.length co38)).setCell ⟨gb702,2,none⟩ (.slice Ao39 t698.length co39)) gb674 l0 t680):=⟨zi HI674⟩
  have n10_:Aside0 (Below w.heap.size w ((((((w26.setCell ⟨gb701,0,none⟩ (.bool t687)).setCell ⟨gb701,1,none⟩ (.slice Ao32 t688.length co32)).setCell ⟨gb701,2,none⟩ (.slice Ao33 t691.length co33)).setCell ⟨gb702,0,none⟩ (.bool t694)).setCell ⟨gb702,1,none⟩ (.slice Ao38 t695.length co38)).setCell ⟨gb702,2,none⟩ (.slice Ao39 t698.length co39))):=⟨bw⟩
  (try clear HO685)
  (try clear HO690)
  (try clear HO693)
  (try clear HO697)
  (try clear HO700)
  (try clear BK681)
  (try clear BK682)
  (try clear BK701)
  (try clear BK702)
  (try clear HI674)
  (try clear HB)
  generalize ((((((w26.setCell ⟨gb701,0,none⟩ (.bool t687)).setCell ⟨gb701,1,none⟩ (.slice Ao32 t688.length co32)).setCell ⟨gb701,2,none⟩ (.slice Ao33 t691.length co33)).setCell ⟨gb702,0,none⟩ (.bool t694)).setCell ⟨gb702,1,none⟩ (.slice Ao38 t695.length co38)).setCell ⟨gb702,2,none⟩ (.slice Ao39 t698.length co39))=w43 at n0_ n1_ n2_ n3_ n4_ n5_ n6_ n7_ n8_ n9_ n10_ ⊢
  have HO685:=n0_
  have HO690:=n1_
  have HO693:=n2_
  have HO697:=n3_
  have HO700:=n4_
  have BK681:=n5_
  have BK682:=n6_
  have BK701:=n7_
  have BK702:=n8_
  have HI674:=n9_
  have HB:=n10_
  clear n0_ n1_ n2_ n3_ n4_ n5_ n6_ n7_ n8_ n9_ n10_
  replace HO685:=aZ (Kd.R_drew HO685.out)
  replace HO690:=aZ (Kd.R_drew HO690.out)
  replace HO693:=aZ (Kd.R_drew HO693.out)
  replace HO697:=aZ (Kd.R_drew HO697.out)
  replace HO700:=aZ (Kd.R_drew HO700.out)
  replace BK681:=aZ (blk_drew BK681.out)
  replace BK682:=aZ (blk_drew BK682.out)
  replace BK701:=aZ (blk_drew BK701.out)
  replace BK702:=aZ (blk_drew BK702.out)
  replace HI674:=aZ (IsS44.drew HI674.out)
  replace HB:=aZ (below_drew1 HB.out)
  refine start_ (n:=6) (S:=fun w'=>w'.cell? ⟨gb681,0,none⟩=some (.string t675)∧w'.cell? ⟨gb681,1,none⟩=some (.string t676)∧w'.cell? ⟨gb682,0,none⟩=some (.string t678)∧w'.cell? ⟨gb682,1,none⟩=some (.string t679)) (ds:=[]) #[false,false,false,false,false,false] (by kernel_rfl) rfl rfl ⟨zh BK681 0,zh BK681 1,zh BK682 0,zh BK682 1⟩ (fun hHeld=>?_)
  generalize w43.drew=w44 at HO685 HO690 HO693 HO697 HO700 BK681 BK682 BK701 BK702 HI674 HB hHeld ⊢
  refine take_ (i:=0) (N:=some 32) (v:=?_) (a':=?_) #[true,false,false,false,false,false] rfl rfl (by kernel_rfl) (fun _ _ _ h=>h) (Or.inl ⟨by rfl,?_⟩) hHeld ?_ ?_
  rotate_left
  ·rintro w' ⟨s0,s1,s2,s3⟩
   go_simp
   with_reducible rfl
  rotate_left
  ·simp only [Act.put,List.setIfInBounds_toArray,List.set_cons_zero,List.set_cons_succ,i64_w,i32_w]
   rfl
  refine take_ (i:=2) (N:=some 34) (v:=?_) (a':=?_) #[true,false,true,false,false,false] rfl rfl (by kernel_rfl) (fun _ _ _ h=>h) (Or.inl ⟨by rfl,?_⟩) hHeld ?_ ?_
  rotate_left
  ·rintro w' ⟨s0,s1,s2,s3⟩
   go_simp
   with_reducible rfl
  rotate_left
  ·simp only [Act.put,List.setIfInBounds_toArray,List.set_cons_zero,List.set_cons_succ,i64_w,i32_w]
   rfl
  refine one_ (i:=1) (N:=some 33) #[true,true,true,false,false,false] rfl rfl (by kernel_rfl) (by decide) (fun K hK=>?_)
  refine goes_ func58 (by kernel_rfl) rfl #[.agg #[.string t675,.string t676]] (by rfl) rfl rfl zm ?_
  with_reducible refine (weftref1_Of.calls k t675 t676 t703 t704 t707 _ A41.out).mono ?_
  rintro e w45 ⟨v705,v708,rfl,ho0,ho1,hb⟩
  refine ⟨_,rfl,?_⟩
  have HO706:=yL (fun k_=>some k_≠(.slice Ao21 y683.length co21:Value).ownBlock∧some k_≠(.slice Ao32 t688.length co32:Value).ownBlock∧some k_≠(.slice Ao33 t691.length co33:Value).ownBlock∧some k_≠(.slice Ao38 t695.length co38:Value).ownBlock∧some k_≠(.slice Ao39 t698.length co39:Value).ownBlock∧k_≠gb681∧k_≠gb682∧k_≠gb701∧k_≠gb702∧k_≠gb674) ho0 (fun k_ hk_=>⟨(yf HO685 hk_),(yf HO690 hk_),(yf HO693 hk_),(yf HO697 hk_),(yf HO700 hk_),(zf BK681 hk_),(zf BK682 hk_),(zf BK701 hk_),(zf BK702 hk_),(IsS44.fresh (zi HI674) k_ hk_)⟩)
  have HO709:=yL (fun k_=>some k_≠(.slice Ao21 y683.length co21:Value).ownBlock∧some k_≠(.slice Ao32 t688.length co32:Value).ownBlock∧some k_≠(.slice Ao33 t691.length co33:Value).ownBlock∧some k_≠(.slice Ao38 t695.length co38:Value).ownBlock∧some k_≠(.slice Ao39 t698.length co39:Value).ownBlock∧k_≠gb681∧k_≠gb682∧k_≠gb701∧k_≠gb702∧k_≠gb674) ho1 (fun k_ hk_=>⟨(yf HO685 hk_),(yf HO690 hk_),(yf HO693 hk_),(yf HO697 hk_),(yf HO700 hk_),(zf BK681 hk_),(zf BK682 hk_),(zf BK701 hk_),(zf BK702 hk_),(IsS44.fresh (zi HI674) k_ hk_)⟩)
  replace HO685:=yR HO685 hb
  replace HO690:=yR HO690 hb
  replace HO693:=yR HO693 hb
  replace HO697:=yR HO697 hb
  replace HO700:=yR HO700 hb
  replace HI674:=aZ (IsS44.below (zi HI674) hb)
  replace BK681:=sK BK681 hb
  replace BK682:=sK BK682 hb
  replace BK701:=sK BK701 hb
  replace BK702:=sK BK702 hb
  replace HB:=sB hb
  clear hb ho0 ho1
  refine hK.out _ _ ⟨zh BK681 0,zh BK681 1,zh BK682 0,zh BK682 1⟩ (fun hHeld=>?_)
  clear hK K
  refine nm ?_
  refine one_ (i:=3) (N:=some 35) #[true,true,true,true,false,false] rfl rfl (by kernel_rfl) (by decide) (fun K hK=>?_)
  refine goes_ func58 (by kernel_rfl) rfl #[.agg #[.string t678,.string t679]] (by rfl) rfl rfl zm ?_
  with_reducible refine (weftref1_Of.calls k t678 t679 t710 t711 t714 _ A42.out).mono ?_
  rintro e w46 ⟨v712,v715,rfl,ho0,ho1,hb⟩
  refine ⟨_,rfl,?_⟩
  replace HO706:=yV HO706 hb
  replace HO709:=yV HO709 hb
  have HO713:=yL (fun k_=>some k_≠(.slice Ao21 y683.length co21:Value).ownBlock∧some k_≠(.slice Ao32 t688.length co32:Value).ownBlock∧some k_≠(.slice Ao33 t691.length co33:Value).ownBlock∧some k_≠(.slice Ao38 t695.length co38:Value).ownBlock∧some k_≠(.slice Ao39 t698.length co39:Value).ownBlock∧k_≠gb681∧k_≠gb682∧k_≠gb701∧k_≠gb702∧k_≠gb674) ho0 (fun k_ hk_=>⟨(yf HO685 hk_),(yf HO690 hk_),(yf HO693 hk_),(yf HO697 hk_),(yf HO700 hk_),(zf BK681 hk_),(zf BK682 hk_),(zf BK701 hk_),(zf BK702 hk_),(IsS44.fresh (zi HI674) k_ hk_)⟩)
  have HO716:=yL (fun k_=>some k_≠(.slice Ao21 y683.length co21:Value).ownBlock∧some k_≠(.slice Ao32 t688.length co32:Value).ownBlock∧some k_≠(.slice Ao33 t691.length co33:Value).ownBlock∧some k_≠(.slice Ao38 t695.length co38:Value).ownBlock∧some k_≠(.slice Ao39 t698.length co39:Value).ownBlock∧k_≠gb681∧k_≠gb682∧k_≠gb701∧k_≠gb702∧k_≠gb674) ho1 (fun k_ hk_=>⟨(yf HO685 hk_),(yf HO690 hk_),(yf HO693 hk_),(yf HO697 hk_),(yf HO700 hk_),(zf BK681 hk_),(zf BK682 hk_),(zf BK701 hk_),(zf BK702 hk_),(IsS44.fresh (zi HI674) k_ hk_)⟩)
  replace HO685:=yR HO685 hb
  replace HO690:=yR HO690 hb
  replace HO693:=yR HO693 hb
  replace HO697:=yR HO697 hb
  replace HO700:=yR HO700 hb
  replace HI674:=aZ (IsS44.below (zi HI674) hb)
  replace BK681:=sK BK681 hb
  replace BK682:=sK BK682 hb
  replace BK701:=sK BK701 hb
  replace BK702:=sK BK702 hb
  replace HB:=sB hb
  clear hb ho0 ho1
  obtain ⟨Ao48,co48,eo48⟩:=Kd.V_slice HO706.out
  (first|subst eo48|(injection eo48 with f1_ f2_ f3_;have f4_:=f1_.symm;have f5_:=f3_.symm;clear f1_ f2_ f3_;subst f4_;subst f5_))
  obtain ⟨Ao50,co50,eo50⟩:=Kd.V_slice HO709.out
  (first|subst eo50|(injection eo50 with f1_ f2_ f3_;have f4_:=f1_.symm;have f5_:=f3_.symm;clear f1_ f2_ f3_;subst f4_;subst f5_))
  obtain ⟨Ao53,co53,eo53⟩:=Kd.V_slice HO713.out
  (first|subst eo53|(injection eo53 with f1_ f2_ f3_;have f4_:=f1_.symm;have f5_:=f3_.symm;clear f1_ f2_ f3_;subst f4_;subst f5_))
  obtain ⟨Ao55,co55,eo55⟩:=Kd.V_slice HO716.out
  (first|subst eo55|(injection eo55 with f1_ f2_ f3_;have f4_:=f1_.symm;have f5_:=f3_.symm;clear f1_ f2_ f3_;subst f4_;subst f5_))
  refine hK.out _ _ ⟨zh BK681 0,zh BK681 1,zh BK682 0,zh BK682 1⟩ (fun hHeld=>?_)
  clear hK K
  refine nm ?_
  refine one_ (i:=4) (N:=none) #[true,true,true,true,true,false] rfl rfl (by kernel_rfl) (by decide) (fun K hK=>?_)
  have hs47:w46.cell? ⟨gb701,0,none⟩=some (.bool t687):=(blk_cell BK701.out 0).trans rfl
  have hfs47:=blk_frozen BK701.out 0
  have hns47_0:=NB681_701.out
  have hns47_1:=NB682_701.out
  have hns47_3:=NB702_701.out
  have hms47_0:=NB701_681.out
  have hms47_1:=NB701_682.out
  have hms47_3:=NB701_702.out
  have hs49:w46.cell? ⟨gb701,1,none⟩=some (.slice Ao32 t688.length co32):=(blk_cell BK701.out 1).trans rfl
  have hfs49:=blk_frozen BK701.out 1
  have hns49_0:=NB681_701.out
  have hns49_1:=NB682_701.out
  have hns49_3:=NB702_701.out
  have hms49_0:=NB701_681.out
  have hms49_1:=NB701_682.out
  have hms49_3:=NB701_702.out
  have hs51:w46.cell? ⟨gb701,2,none⟩=some (.slice Ao33 t691.length co33):=(blk_cell BK701.out 2).trans rfl
  have hfs51:=blk_frozen BK701.out 2
  have hns51_0:=NB681_701.out
  have hns51_1:=NB682_701.out
  have hns51_3:=NB702_701.out
  have hms51_0:=NB701_681.out
  have hms51_1:=NB701_682.out
  have hms51_3:=NB701_702.out
  refine skip_ (w1:=?_) (by rfl) rfl ?_ ?_
  rotate_left
  ·go_simp
   rfl
  refine hK.out _ _ ⟨((cell_far (p:=⟨gb701,_,none⟩) NB681_701.out _).trans (((cell_far (p:=⟨gb701,_,none⟩) NB681_701.out _).trans (((cell_far (p:=⟨gb701,_,none⟩) NB681_701.out _).trans (hHeld.1)))))),((cell_far (p:=⟨gb701,_,none⟩) NB681_701.out _).trans (((cell_far (p:=⟨gb701,_,none⟩) NB681_701.out _).trans (((cell_far (p:=⟨gb701,_,none⟩) NB681_701.out _).trans (hHeld.2.1)))))),((cell_far (p:=⟨gb701,_,none⟩) NB682_701.out _).trans (((cell_far (p:=⟨gb701,_,none⟩) NB682_701.out _).trans (((cell_far (p:=⟨gb701,_,none⟩) NB682_701.out _).trans (hHeld.2.2.1)))))),((cell_far (p:=⟨gb701,_,none⟩) NB682_701.out _).trans (((cell_far (p:=⟨gb701,_,none⟩) NB682_701.out _).trans (((cell_far (p:=⟨gb701,_,none⟩) NB682_701.out _).trans (hHeld.2.2.2))))))⟩ (fun hHeld=>?_)
  clear hK K
  refine one_ (i:=5) (N:=none) #[true,true,true,true,true,true] rfl rfl (by kernel_rfl) (by decide) (fun K hK=>?_)
  have hs52:w46.cell? ⟨gb702,0,none⟩=some (.bool t694):=(blk_cell BK702.out 0).trans rfl
  have hfs52:=blk_frozen BK702.out 0
  have hns52_0:=NB681_702.out
  have hns52_1:=NB682_702.out
  have hns52_2:=NB701_702.out
  have hms52_0:=NB702_681.out
  have hms52_1:=NB702_682.out
  have hms52_2:=NB702_701.out
  have hs54:w46.cell? ⟨gb702,1,none⟩=some (.slice Ao38 t695.length co38):=(blk_cell BK702.out 1).trans rfl
  have hfs54:=blk_frozen BK702.out 1
  have hns54_0:=NB681_702.out
  have hns54_1:=NB682_702.out
  have hns54_2:=NB701_702.out
  have hms54_0:=NB702_681.out
  have hms54_1:=NB702_682.out
  have hms54_2:=NB702_701.out
  have hs56:w46.cell? ⟨gb702,2,none⟩=some (.slice Ao39 t698.length co39):=(blk_cell BK702.out 2).trans rfl
  have hfs56:=blk_frozen BK702.out 2
  have hns56_0:=NB681_702.out
  have hns56_1:=NB682_702.out
  have hns56_2:=NB701_702.out
  have hms56_0:=NB702_681.out
  have hms56_1:=NB702_682.out
  have hms56_2:=NB702_701.out
  refine skip_ (w1:=?_) (by rfl) rfl ?_ ?_
  rotate_left
  ·go_simp
   rfl
  refine hK.out _ _ ⟨((cell_far (p:=⟨gb702,_,none⟩) NB681_702.out _).trans (((cell_far (p:=⟨gb702,_,none⟩) NB681_702.out _).trans (((cell_far (p:=⟨gb702,_,none⟩) NB681_702.out _).trans (hHeld.1)))))),((cell_far (p:=⟨gb702,_,none⟩) NB681_702.out _).trans (((cell_far (p:=⟨gb702,_,none⟩) NB681_702.out _).trans (((cell_far (p:=⟨gb702,_,none⟩) NB681_702.out _).trans (hHeld.2.1)))))),((cell_far (p:=⟨gb702,_,none⟩) NB682_702.out _).trans (((cell_far (p:=⟨gb702,_,none⟩) NB682_702.out _).trans (((cell_far (p:=⟨gb702,_,none⟩) NB682_702.out _).trans (hHeld.2.2.1)))))),((cell_far (p:=⟨gb702,_,none⟩) NB682_702.out _).trans (((cell_far (p:=⟨gb702,_,none⟩) NB682_702.out _).trans (((cell_far (p:=⟨gb702,_,none⟩) NB682_702.out _).trans (hHeld.2.2.2))))))⟩ (fun hHeld=>?_)
  clear hK K
  refine done_ (by kernel_rfl) ?_
  try go_wp2
  go_meet
  case rel=>exact ⟨_,(t703),(t704),(t707),(t710),(t711),(t714),(.slice Ao48 t704.length co48),(.slice Ao50 t707.length co50),(.slice Ao53 t711.length co53),(.slice Ao55 t714.length co55),H',⟨by first|omega|exact Nat.le_refl _⟩,⟨zF HO706⟩,⟨zF HO709⟩,⟨zF HO713⟩,⟨zF HO716⟩,⟨zq BK681⟩,⟨zq BK682⟩,⟨zq BK701⟩,⟨zq BK702⟩,⟨bw⟩⟩
 case rest =>
  clear HC8
  try clear c1
  try clear c2
  try clear c3
  try clear c4
  try clear c5
  try clear c14
  try clear c15
  try clear c17
  try clear c27
  try clear c28
  try clear c29
  try clear c30
  try clear c34
  try clear c35
  try clear c36
  try clear c40
  try clear c40b0
  try clear c40b1
  try clear c48
  try clear c52
  try clear hcz16_0
  try clear hcz16_1
  try clear hcz18_0
  try clear hcz18_1
  try clear hcz31_0
  try clear hcz31_1
  try clear hcz31_2
  try clear hcz37_0
  try clear hcz37_1
  try clear hcz37_2
  try clear hfz16_0
  try clear hfz16_1
  try clear hfz18_0
  try clear hfz18_1
  try clear hfz31_0
  try clear hfz31_1
  try clear hfz31_2
  try clear hfz37_0
  try clear hfz37_1
  try clear hfz37_2
  obtain ⟨kq,x702000_7,x702001_7,x702002_7,x703000_7,x703001_7,x703002_7,u702001,u702002,u703001,u703002,HA,HJ7,HO_702001,HO_702002,HO_703001,HO_703002,BK681,BK682,BK701,BK702,HB⟩:=hcut
  cases kq with
  | zero=>exact absurd HA.out (by simp [weftlaw1_NumProducts.j0])
  | succ kj7 =>
   have H:=HA.out
   clear HA
   simp only [weftlaw1_NumProducts.j0] at H
   obtain ⟨⟨t717,t718,t719⟩,A57,H⟩:=zB H
   (try dsimp only at H)
   have HC58:=aZ H
   clear H
   have hnb59:=NB681_682.out
   have hnc59:=NB682_681.out
   have hnb60:=NB681_701.out
   have hnc60:=NB701_681.out
   have hnb61:=NB681_702.out
   have hnc61:=NB702_681.out
   have hcz62_0:wc.cell? ⟨gb681,0,none⟩=some (.string t675):=(blk_cell BK681.out 0).trans rfl
   have hcz62_1:wc.cell? ⟨gb681,1,none⟩=some (.string t676):=(blk_cell BK681.out 1).trans rfl
   have hfz62_0:=blk_frozen BK681.out 0
   have hfz62_1:=blk_frozen BK681.out 1
   have hnb63:=NB682_701.out
   have hnc63:=NB701_682.out
   have hnb64:=NB682_702.out
   have hnc64:=NB702_682.out
   have hcz65_0:wc.cell? ⟨gb682,0,none⟩=some (.string t678):=(blk_cell BK682.out 0).trans rfl
   have hcz65_1:wc.cell? ⟨gb682,1,none⟩=some (.string t679):=(blk_cell BK682.out 1).trans rfl
   have hfz65_0:=blk_frozen BK682.out 0
   have hfz65_1:=blk_frozen BK682.out 1
   go_upto_region 8 with (first|(refine zg (some 39) func59 #[.agg #[.string t675,.string t676],.agg #[.string t678,.string t679]] ?_;(with_reducible refine (num_Mul.calls kj7 t675 t676 t678 t679 t717 t718 t719 _ ?side1 A57.out).mono ?_);(case side1=>exact Tryz.Gl.below HG.out bw);rintro e w66 ⟨rfl,hb⟩;refine ⟨_,rfl,?_⟩;replace HO_702001:=yV HO_702001 hb;replace HO_702002:=yV HO_702002 hb;replace HO_703001:=yV HO_703001 hb;replace HO_703002:=yV HO_703002 hb;replace BK681:=sK BK681 hb;replace BK682:=sK BK682 hb;replace BK701:=sK BK701 hb;replace BK702:=sK BK702 hb;replace HB:=sB hb;clear hb)|(refine box_ev 11 #[.string (⟨#[]⟩:ByteArray),.string (⟨#[]⟩:ByteArray)] 61 ?_;intro gb720 hg w67 hbox hb;replace HO_702001:=yE HO_702001 hg hb;replace HO_702002:=yE HO_702002 hg hb;replace HO_703001:=yE HO_703001 hg hb;replace HO_703002:=yE HO_703002 hg hb;have BK720:=aZ hbox;have GE720:=sG hg;replace HB:=sB hb;have NB681_720:=sl hg BK681;have NB720_681:=sg hg BK681;replace BK681:=sK BK681 hb;have NB682_720:=sl hg BK682;have NB720_682:=sg hg BK682;replace BK682:=sK BK682 hb;have NB701_720:=sl hg BK701;have NB720_701:=sg hg BK701;replace BK701:=sK BK701 hb;have NB702_720:=sl hg BK702;have NB720_702:=sg hg BK702;replace BK702:=sK BK702 hb;clear hb hbox hg;have hnb68:=NB720_681.out;have hnc68:=NB681_720.out;have hnb69:=NB720_682.out;have hnc69:=NB682_720.out;have hnb70:=NB720_701.out;have hnc70:=NB701_720.out;have hnb71:=NB720_702.out;have hnc71:=NB702_720.out;obtain ⟨hcz72_0,hfz72_0⟩:=zc BK720 0 (.string (⟨#[]⟩:ByteArray)) rfl;obtain ⟨hcz72_1,hfz72_1⟩:=zc BK720 1 (.string (⟨#[]⟩:ByteArray)) rfl))
   (try simp only [Act.put,List.setIfInBounds_toArray,List.set_cons_zero,List.set_cons_succ])
   go_cut [53] (fun v53 wc=>∃ (kq:Nat) (x53_57:Bool),v53 = .bool x53_57∧Aside0 (weftlaw1_NumProducts.j1 kq a1 t686 x53_57 t675 t676 t678 t679 x702000_7 x702001_7 x702002_7 x703000_7 x703001_7 x703002_7=some r)∧Aside0 (kq≤kj7)∧Aside0 (Kd.V (Kd.int .i64) 3 wc w.heap.size (fun k_=>k_≠gb681∧k_≠gb682∧k_≠gb701∧k_≠gb702∧k_≠gb720) u702001 x702001_7)∧Aside0 (Kd.V (Kd.int .i64) 3 wc w.heap.size (fun k_=>k_≠gb681∧k_≠gb682∧k_≠gb701∧k_≠gb702∧k_≠gb720) u702002 x702002_7)∧Aside0 (Kd.V (Kd.int .i64) 3 wc w.heap.size (fun k_=>k_≠gb681∧k_≠gb682∧k_≠gb701∧k_≠gb702∧k_≠gb720) u703001 x703001_7)∧Aside0 (Kd.V (Kd.int .i64) 3 wc w.heap.size (fun k_=>k_≠gb681∧k_≠gb682∧k_≠gb701∧k_≠gb702∧k_≠gb720) u703002 x703002_7)∧Aside0 (wc.heap[gb681]? = some (.cells #[.string t675,.string t676] 61 (0,0)))∧Aside0 (wc.heap[gb682]? = some (.cells #[.string t678,.string t679] 61 (0,0)))∧Aside0 (wc.heap[gb701]? = some (.cells #[.bool x702000_7,u702001,u702002] 67 (0,0)))∧Aside0 (wc.heap[gb702]? = some (.cells #[.bool x703000_7,u703001,u703002] 67 (0,0)))∧Aside0 (wc.heap[gb720]? = some (.cells #[.string t717,.string t718] 61 (0,0)))∧Aside0 (Below w.heap.size w wc))
   case first =>
    have H:=HC58.out
    clear HC58
    obtain ⟨t721,A73,H⟩:=zB H
    by_cases c74:t721=true
    case neg=>
     replace c74:=Bool.eq_false_iff.mpr c74
     subst c74
     have H1:(weftlaw1_NumProducts.j1 kj7 a1 t686 true t675 t676 t678 t679 x702000_7 x702001_7 x702002_7 x703000_7 x703001_7 x703002_7)=some r:=by rw [if_neg (show ¬ (false=true) by decide)] at H;exact H
     clear H
     have H:=H1
     clear H1
     have H':=aZ H
     clear H
     try go_wp2
     have n0_:Aside0 (Kd.V (Kd.int .i64) 3 ((w67.setCell ⟨gb720,0,none⟩ (.string t717)).setCell ⟨gb720,1,none⟩ (.string t718)) w.heap.size (fun k_=>k_≠gb681∧k_≠gb682∧k_≠gb701∧k_≠gb702∧k_≠gb720) u702001 x702001_7):=⟨zF HO_702001⟩
     have n1_:Aside0 (Kd.V (Kd.int .i64) 3 ((w67.setCell ⟨gb720,0,none⟩ (.string t717)).setCell ⟨gb720,1,none⟩ (.string t718)) w.heap.size (fun k_=>k_≠gb681∧k_≠gb682∧k_≠gb701∧k_≠gb702∧k_≠gb720) u702002 x702002_7):=⟨zF HO_702002⟩
     have n2_:Aside0 (Kd.V (Kd.int .i64) 3 ((w67.setCell ⟨gb720,0,none⟩ (.string t717)).setCell ⟨gb720,1,none⟩ (.string t718)) w.heap.size (fun k_=>k_≠gb681∧k_≠gb682∧k_≠gb701∧k_≠gb702∧k_≠gb720) u703001 x703001_7):=⟨zF HO_703001⟩
     have n3_:Aside0 (Kd.V (Kd.int .i64) 3 ((w67.setCell ⟨gb720,0,none⟩ (.string t717)).setCell ⟨gb720,1,none⟩ (.string t718)) w.heap.size (fun k_=>k_≠gb681∧k_≠gb682∧k_≠gb701∧k_≠gb702∧k_≠gb720) u703002 x703002_7):=⟨zF HO_703002⟩
     have n4_:Aside0 (((w67.setCell ⟨gb720,0,none⟩ (.string t717)).setCell ⟨gb720,1,none⟩ (.string t718)).heap[gb681]? = some (.cells #[.string t675,.string t676] 61 (0,0))):=⟨zq BK681⟩
     have n5_:Aside0 (((w67.setCell ⟨gb720,0,none⟩ (.string t717)).setCell ⟨gb720,1,none⟩ (.string t718)).heap[gb682]? = some (.cells #[.string t678,.string t679] 61 (0,0))):=⟨zq BK682⟩
     have n6_:Aside0 (((w67.setCell ⟨gb720,0,none⟩ (.string t717)).setCell ⟨gb720,1,none⟩ (.string t718)).heap[gb701]? = some (.cells #[.bool x702000_7,u702001,u702002] 67 (0,0))):=⟨zq BK701⟩
     have n7_:Aside0 (((w67.setCell ⟨gb720,0,none⟩ (.string t717)).setCell ⟨gb720,1,none⟩ (.string t718)).heap[gb702]? = some (.cells #[.bool x703000_7,u703001,u703002] 67 (0,0))):=⟨zq BK702⟩
     have n8_:Aside0 (((w67.setCell ⟨gb720,0,none⟩ (.string t717)).setCell ⟨gb720,1,none⟩ (.string t718)).heap[gb720]? = some (.cells #[.string t717,.string t718] 61 (0,0))):=⟨zq BK720⟩
     have n9_:Aside0 (Below w.heap.size w ((w67.setCell ⟨gb720,0,none⟩ (.string t717)).setCell ⟨gb720,1,none⟩ (.string t718))):=⟨bw⟩
     (try clear HO_702001)
     (try clear HO_702002)
     (try clear HO_703001)
     (try clear HO_703002)
     (try clear BK681)
     (try clear BK682)
     (try clear BK701)
     (try clear BK702)
     (try clear BK720)
     (try clear HB)
     generalize ((w67.setCell ⟨gb720,0,none⟩ (.string t717)).setCell ⟨gb720,1,none⟩ (.string t718))=w88 at n0_ n1_ n2_ n3_ n4_ n5_ n6_ n7_ n8_ n9_ ⊢
     have HO_702001:=n0_
     have HO_702002:=n1_
     have HO_703001:=n2_
     have HO_703002:=n3_
     have BK681:=n4_
     have BK682:=n5_
     have BK701:=n6_
     have BK702:=n7_
     have BK720:=n8_
     have HB:=n9_
     clear n0_ n1_ n2_ n3_ n4_ n5_ n6_ n7_ n8_ n9_
     replace HO_702001:=aZ (Kd.V_drew HO_702001.out)
     replace HO_702002:=aZ (Kd.V_drew HO_702002.out)
     replace HO_703001:=aZ (Kd.V_drew HO_703001.out)
     replace HO_703002:=aZ (Kd.V_drew HO_703002.out)
     replace BK681:=aZ (blk_drew BK681.out)
     replace BK682:=aZ (blk_drew BK682.out)
     replace BK701:=aZ (blk_drew BK701.out)
     replace BK702:=aZ (blk_drew BK702.out)
     replace BK720:=aZ (blk_drew BK720.out)
     replace HB:=aZ (below_drew1 HB.out)
     refine start_ (n:=12) (S:=fun w'=>True) (ds:=[]) #[false,false,false,false,false,false,false,false,false,false,false,false] (by kernel_rfl) rfl rfl trivial (fun hHeld=>?_);refine with_tabW weftlaw1_NumProducts.tab8 weftlaw1_NumProducts.bits8 (fun HT_ HW_=>?_)
     generalize w88.drew=w89 at HO_702001 HO_702002 HO_703001 HO_703002 BK681 BK682 BK701 BK702 BK720 HB hHeld ⊢
     refine one_ (i:=0) (N:=some 42) #[true,false,false,false,false,false,false,false,false,false,false,false] rfl rfl (one_of HT_.out (by kernel_rfl)) (by decide) (fun K hK=>?_)
     refine goes_ func20 (by kernel_rfl) rfl #[] (by rfl) rfl rfl zm ?_
     with_reducible refine (weftlaw1_nums.calls kj7  false _ ?side1 A73.out).mono ?_
     (case side1=>exact Tryz.Gl.below HG.out bw)
     rintro e w90 ⟨rfl,hb⟩
     refine ⟨_,rfl,?_⟩
     replace HO_702001:=yV HO_702001 hb
     replace HO_702002:=yV HO_702002 hb
     replace HO_703001:=yV HO_703001 hb
     replace HO_703002:=yV HO_703002 hb
     replace BK681:=sK BK681 hb
     replace BK682:=sK BK682 hb
     replace BK701:=sK BK701 hb
     replace BK702:=sK BK702 hb
     replace BK720:=sK BK720 hb
     replace HB:=sB hb
     clear hb
     refine hK.out _ _ trivial (fun hHeld=>?_)
     clear hK K
     refine nm ?_
     refine pu 1 (some 43) HT_ ?_
     refine pu 2 (some 44) HT_ ?_
     refine pure_ (i:=3) (N:=some 45) (v:=undef) (a':=?_) #[true,true,true,true,false,false,false,false,false,false,false,false] rfl rfl (any_of HT_.out (by kernel_rfl)) (fun _ _ _ h=>h) (Or.inr ⟨by rfl,rfl⟩) ?_ ?_
     rotate_left
     ·simp only [Act.put,List.setIfInBounds_toArray,List.set_cons_zero,List.set_cons_succ,i64_w,i32_w]
      rfl
     refine pure_ (i:=4) (N:=some 46) (v:=undef) (a':=?_) #[true,true,true,true,true,false,false,false,false,false,false,false] rfl rfl (any_of HT_.out (by kernel_rfl)) (fun _ _ _ h=>h) (Or.inr ⟨by rfl,rfl⟩) ?_ ?_
     rotate_left
     ·simp only [Act.put,List.setIfInBounds_toArray,List.set_cons_zero,List.set_cons_succ,i64_w,i32_w]
      rfl
     refine pure_ (i:=5) (N:=some 47) (v:=undef) (a':=?_) #[true,true,true,true,true,true,false,false,false,false,false,false] rfl rfl (any_of HT_.out (by kernel_rfl)) (fun _ _ _ h=>h) (Or.inr ⟨by rfl,rfl⟩) ?_ ?_
     rotate_left
     ·simp only [Act.put,List.setIfInBounds_toArray,List.set_cons_zero,List.set_cons_succ,i64_w,i32_w]
      rfl
     refine pure_ (i:=6) (N:=some 48) (v:=undef) (a':=?_) #[true,true,true,true,true,true,true,false,false,false,false,false] rfl rfl (any_of HT_.out (by kernel_rfl)) (fun _ _ _ h=>h) (Or.inr ⟨by rfl,rfl⟩) ?_ ?_
     rotate_left
     ·simp only [Act.put,List.setIfInBounds_toArray,List.set_cons_zero,List.set_cons_succ,i64_w,i32_w]
      rfl
     refine pure_ (i:=7) (N:=some 49) (v:=undef) (a':=?_) #[true,true,true,true,true,true,true,true,false,false,false,false] rfl rfl (any_of HT_.out (by kernel_rfl)) (fun _ _ _ h=>h) (Or.inr ⟨by rfl,rfl⟩) ?_ ?_
     rotate_left
     ·simp only [Act.put,List.setIfInBounds_toArray,List.set_cons_zero,List.set_cons_succ,i64_w,i32_w]
      rfl
     refine pure_ (i:=8) (N:=some 50) (v:=undef) (a':=?_) #[true,true,true,true,true,true,true,true,true,false,false,false] rfl rfl (any_of HT_.out (by kernel_rfl)) (fun _ _ _ h=>h) (Or.inr ⟨by rfl,rfl⟩) ?_ ?_
     rotate_left
     ·simp only [Act.put,List.setIfInBounds_toArray,List.set_cons_zero,List.set_cons_succ,i64_w,i32_w]
      rfl
     refine pure_ (i:=9) (N:=some 51) (v:=undef) (a':=?_) #[true,true,true,true,true,true,true,true,true,true,false,false] rfl rfl (any_of HT_.out (by kernel_rfl)) (fun _ _ _ h=>h) (Or.inr ⟨by rfl,rfl⟩) ?_ ?_
     rotate_left
     ·simp only [Act.put,List.setIfInBounds_toArray,List.set_cons_zero,List.set_cons_succ,i64_w,i32_w]
      rfl
     refine pure_ (i:=10) (N:=some 52) (v:=undef) (a':=?_) #[true,true,true,true,true,true,true,true,true,true,true,false] rfl rfl (any_of HT_.out (by kernel_rfl)) (fun _ _ _ h=>h) (Or.inr ⟨by rfl,rfl⟩) ?_ ?_
     rotate_left
     ·simp only [Act.put,List.setIfInBounds_toArray,List.set_cons_zero,List.set_cons_succ,i64_w,i32_w]
      rfl
     refine pu 11 (some 53) HT_ ?_
     refine done_ (done_of HT_.out (by kernel_rfl)) ?_
     try go_wp2
     go_meet
     case rel=>exact ⟨_,(true),zs,H',⟨by have:=HJ7.out;first|omega|exact Nat.le_refl _⟩,⟨zV HO_702001⟩,⟨zV HO_702002⟩,⟨zV HO_703001⟩,⟨zV HO_703002⟩,⟨zb BK681⟩,⟨zb BK682⟩,⟨zb BK701⟩,⟨zb BK702⟩,⟨zb BK720⟩,⟨bw⟩⟩
    subst c74
    have H1:((weftref1_Num_Mul.f kj7 x702000_7 x702001_7 x702002_7 x703000_7 x703001_7 x703002_7).bind fun bt722=>((weftlaw1_same.f t717 t718 t719 bt722.1 bt722.2.1 bt722.2.2 t686).bind fun t729=>(weftlaw1_NumProducts.j1 kj7 a1 t686 (!t729) t675 t676 t678 t679 x702000_7 x702001_7 x702002_7 x703000_7 x703001_7 x703002_7)))=some r:=by rw [if_pos rfl] at H;exact H
    clear H
    have H:=H1
    clear H1
    obtain ⟨⟨t722,t723,t726⟩,A75,H⟩:=zB H
    (try dsimp only at H)
    obtain ⟨t729,A76,H⟩:=zB H
    have H':=aZ H
    clear H
    try go_wp2
    have n0_:Aside0 (Kd.V (Kd.int .i64) 3 ((w67.setCell ⟨gb720,0,none⟩ (.string t717)).setCell ⟨gb720,1,none⟩ (.string t718)) w.heap.size (fun k_=>k_≠gb681∧k_≠gb682∧k_≠gb701∧k_≠gb702∧k_≠gb720) u702001 x702001_7):=⟨zF HO_702001⟩
    have n1_:Aside0 (Kd.V (Kd.int .i64) 3 ((w67.setCell ⟨gb720,0,none⟩ (.string t717)).setCell ⟨gb720,1,none⟩ (.string t718)) w.heap.size (fun k_=>k_≠gb681∧k_≠gb682∧k_≠gb701∧k_≠gb702∧k_≠gb720) u702002 x702002_7):=⟨zF HO_702002⟩
    have n2_:Aside0 (Kd.V (Kd.int .i64) 3 ((w67.setCell ⟨gb720,0,none⟩ (.string t717)).setCell ⟨gb720,1,none⟩ (.string t718)) w.heap.size (fun k_=>k_≠gb681∧k_≠gb682∧k_≠gb701∧k_≠gb702∧k_≠gb720) u703001 x703001_7):=⟨zF HO_703001⟩
    have n3_:Aside0 (Kd.V (Kd.int .i64) 3 ((w67.setCell ⟨gb720,0,none⟩ (.string t717)).setCell ⟨gb720,1,none⟩ (.string t718)) w.heap.size (fun k_=>k_≠gb681∧k_≠gb682∧k_≠gb701∧k_≠gb702∧k_≠gb720) u703002 x703002_7):=⟨zF HO_703002⟩
    have n4_:Aside0 (((w67.setCell ⟨gb720,0,none⟩ (.string t717)).setCell ⟨gb720,1,none⟩ (.string t718)).heap[gb681]? = some (.cells #[.string t675,.string t676] 61 (0,0))):=⟨zq BK681⟩
    have n5_:Aside0 (((w67.setCell ⟨gb720,0,none⟩ (.string t717)).setCell ⟨gb720,1,none⟩ (.string t718)).heap[gb682]? = some (.cells #[.string t678,.string t679] 61 (0,0))):=⟨zq BK682⟩
    have n6_:Aside0 (((w67.setCell ⟨gb720,0,none⟩ (.string t717)).setCell ⟨gb720,1,none⟩ (.string t718)).heap[gb701]? = some (.cells #[.bool x702000_7,u702001,u702002] 67 (0,0))):=⟨zq BK701⟩
    have n7_:Aside0 (((w67.setCell ⟨gb720,0,none⟩ (.string t717)).setCell ⟨gb720,1,none⟩ (.string t718)).heap[gb702]? = some (.cells #[.bool x703000_7,u703001,u703002] 67 (0,0))):=⟨zq BK702⟩
    have n8_:Aside0 (((w67.setCell ⟨gb720,0,none⟩ (.string t717)).setCell ⟨gb720,1,none⟩ (.string t718)).heap[gb720]? = some (.cells #[.string t717,.string t718] 61 (0,0))):=⟨zq BK720⟩
    have n9_:Aside0 (Below w.heap.size w ((w67.setCell ⟨gb720,0,none⟩ (.string t717)).setCell ⟨gb720,1,none⟩ (.string t718))):=⟨bw⟩
    (try clear HO_702001)
    (try clear HO_702002)
    (try clear HO_703001)
    (try clear HO_703002)
    (try clear BK681)
    (try clear BK682)
    (try clear BK701)
    (try clear BK702)
    (try clear BK720)
    (try clear HB)
    generalize ((w67.setCell ⟨gb720,0,none⟩ (.string t717)).setCell ⟨gb720,1,none⟩ (.string t718))=w77 at n0_ n1_ n2_ n3_ n4_ n5_ n6_ n7_ n8_ n9_ ⊢
    have HO_702001:=n0_
    have HO_702002:=n1_
    have HO_703001:=n2_
    have HO_703002:=n3_
    have BK681:=n4_
    have BK682:=n5_
    have BK701:=n6_
    have BK702:=n7_
    have BK720:=n8_
    have HB:=n9_
    clear n0_ n1_ n2_ n3_ n4_ n5_ n6_ n7_ n8_ n9_
    replace HO_702001:=aZ (Kd.V_drew HO_702001.out)
    replace HO_702002:=aZ (Kd.V_drew HO_702002.out)
    replace HO_703001:=aZ (Kd.V_drew HO_703001.out)
    replace HO_703002:=aZ (Kd.V_drew HO_703002.out)
    replace BK681:=aZ (blk_drew BK681.out)
    replace BK682:=aZ (blk_drew BK682.out)
    replace BK701:=aZ (blk_drew BK701.out)
    replace BK702:=aZ (blk_drew BK702.out)
    replace BK720:=aZ (blk_drew BK720.out)
    replace HB:=aZ (below_drew1 HB.out)
    refine start_ (n:=12) (S:=fun w'=>w'.cell? ⟨gb720,0,none⟩=some (.string t717)∧w'.cell? ⟨gb720,1,none⟩=some (.string t718)∧w'.cell? ⟨gb701,0,none⟩=some (.bool x702000_7)∧w'.cell? ⟨gb701,1,none⟩=some (u702001)∧w'.cell? ⟨gb701,2,none⟩=some (u702002)∧w'.cell? ⟨gb702,0,none⟩=some (.bool x703000_7)∧w'.cell? ⟨gb702,1,none⟩=some (u703001)∧w'.cell? ⟨gb702,2,none⟩=some (u703002)) (ds:=[]) #[false,false,false,false,false,false,false,false,false,false,false,false] (by kernel_rfl) rfl rfl ⟨zh BK720 0,zh BK720 1,zh BK701 0,zh BK701 1,zh BK701 2,zh BK702 0,zh BK702 1,zh BK702 2⟩ (fun hHeld=>?_);refine with_tabW weftlaw1_NumProducts.tab8 weftlaw1_NumProducts.bits8 (fun HT_ HW_=>?_)
    generalize w77.drew=w78 at HO_702001 HO_702002 HO_703001 HO_703002 BK681 BK682 BK701 BK702 BK720 HB hHeld ⊢
    refine one_ (i:=0) (N:=some 42) #[true,false,false,false,false,false,false,false,false,false,false,false] rfl rfl (one_of HT_.out (by kernel_rfl)) (by decide) (fun K hK=>?_)
    refine goes_ func20 (by kernel_rfl) rfl #[] (by rfl) rfl rfl zm ?_
    with_reducible refine (weftlaw1_nums.calls kj7  true _ ?side1 A73.out).mono ?_
    (case side1=>exact Tryz.Gl.below HG.out bw)
    rintro e w79 ⟨rfl,hb⟩
    refine ⟨_,rfl,?_⟩
    replace HO_702001:=yV HO_702001 hb
    replace HO_702002:=yV HO_702002 hb
    replace HO_703001:=yV HO_703001 hb
    replace HO_703002:=yV HO_703002 hb
    replace BK681:=sK BK681 hb
    replace BK682:=sK BK682 hb
    replace BK701:=sK BK701 hb
    replace BK702:=sK BK702 hb
    replace BK720:=sK BK720 hb
    replace HB:=sB hb
    clear hb
    obtain ⟨Ao80,co80,eo80⟩:=Kd.V_slice HO_702001.out
    (first|subst eo80|(injection eo80 with f1_ f2_ f3_;have f4_:=f1_.symm;have f5_:=f3_.symm;clear f1_ f2_ f3_;subst f4_;subst f5_))
    obtain ⟨Ao81,co81,eo81⟩:=Kd.V_slice HO_702002.out
    (first|subst eo81|(injection eo81 with f1_ f2_ f3_;have f4_:=f1_.symm;have f5_:=f3_.symm;clear f1_ f2_ f3_;subst f4_;subst f5_))
    obtain ⟨Ao82,co82,eo82⟩:=Kd.V_slice HO_703001.out
    (first|subst eo82|(injection eo82 with f1_ f2_ f3_;have f4_:=f1_.symm;have f5_:=f3_.symm;clear f1_ f2_ f3_;subst f4_;subst f5_))
    obtain ⟨Ao83,co83,eo83⟩:=Kd.V_slice HO_703002.out
    (first|subst eo83|(injection eo83 with f1_ f2_ f3_;have f4_:=f1_.symm;have f5_:=f3_.symm;clear f1_ f2_ f3_;subst f4_;subst f5_))
    refine hK.out _ _ ⟨zh BK720 0,zh BK720 1,zh BK701 0,zh BK701 1,zh BK701 2,zh BK702 0,zh BK702 1,zh BK702 2⟩ (fun hHeld=>?_)
    clear hK K
    refine nm ?_
    refine pu 1 (some 43) HT_ ?_
    refine pu 2 (some 44) HT_ ?_
    refine pu 4 (some 46) HT_ ?_
    refine pu 8 (some 50) HT_ ?_
    refine tk 3 (some 45) HT_ HW_ hHeld ?_
    refine tk 5 (some 47) HT_ HW_ hHeld ?_
    refine tk 6 (some 48) HT_ HW_ hHeld ?_
    refine one_ (i:=7) (N:=some 49) #[true,true,true,true,true,true,true,true,true,false,false,false] rfl rfl (one_of HT_.out (by kernel_rfl)) (by decide) (fun K hK=>?_)
    refine goes_ func60 (by kernel_rfl) rfl #[.agg #[.bool x702000_7,.slice Ao80 x702001_7.length co80,.slice Ao81 x702002_7.length co81],.agg #[.bool x703000_7,.slice Ao82 x703001_7.length co82,.slice Ao83 x703002_7.length co83]] (by rfl) rfl rfl zm ?_
    with_reducible refine (weftref1_Num_Mul.calls kj7 x702000_7 _ _ x702001_7 _ _ x702002_7 x703000_7 _ _ x703001_7 _ _ x703002_7 t722 t723 t726 _ ?side1 ?side2 ?side3 ?side4 ?side5 ?side6 ?side7 ?side8 A75.out).mono ?_
    (case side1=>exact zr HO_702001)
    (case side2=>exact zk HO_702001)
    (case side3=>exact zr HO_702002)
    (case side4=>exact zk HO_702002)
    (case side5=>exact zr HO_703001)
    (case side6=>exact zk HO_703001)
    (case side7=>exact zr HO_703002)
    (case side8=>exact zk HO_703002)
    rintro e w84 ⟨v724,v727,rfl,ho0,ho1,hb⟩
    refine ⟨_,rfl,?_⟩
    replace HO_702001:=yV HO_702001 hb
    replace HO_702002:=yV HO_702002 hb
    replace HO_703001:=yV HO_703001 hb
    replace HO_703002:=yV HO_703002 hb
    have HO725:=yL (fun k_=>k_≠gb681∧k_≠gb682∧k_≠gb701∧k_≠gb702∧k_≠gb720) ho0 (fun k_ hk_=>⟨(zf BK681 hk_),(zf BK682 hk_),(zf BK701 hk_),(zf BK702 hk_),(zf BK720 hk_)⟩)
    have HO728:=yL (fun k_=>k_≠gb681∧k_≠gb682∧k_≠gb701∧k_≠gb702∧k_≠gb720) ho1 (fun k_ hk_=>⟨(zf BK681 hk_),(zf BK682 hk_),(zf BK701 hk_),(zf BK702 hk_),(zf BK720 hk_)⟩)
    replace BK681:=sK BK681 hb
    replace BK682:=sK BK682 hb
    replace BK701:=sK BK701 hb
    replace BK702:=sK BK702 hb
    replace BK720:=sK BK720 hb
    replace HB:=sB hb
    clear hb ho0 ho1
    obtain ⟨Ao85,co85,eo85⟩:=Kd.V_slice HO725.out
    (first|subst eo85|(injection eo85 with f1_ f2_ f3_;have f4_:=f1_.symm;have f5_:=f3_.symm;clear f1_ f2_ f3_;subst f4_;subst f5_))
    obtain ⟨Ao86,co86,eo86⟩:=Kd.V_slice HO728.out
    (first|subst eo86|(injection eo86 with f1_ f2_ f3_;have f4_:=f1_.symm;have f5_:=f3_.symm;clear f1_ f2_ f3_;subst f4_;subst f5_))
    refine hK.out _ _ ⟨zh BK720 0,zh BK720 1,zh BK701 0,zh BK701 1,zh BK701 2,zh BK702 0,zh BK702 1,zh BK702 2⟩ (fun hHeld=>?_)
    clear hK K
    refine nm ?_
    refine one_ (i:=9) (N:=some 51) #[true,true,true,true,true,true,true,true,true,true,false,false] rfl rfl (one_of HT_.out (by kernel_rfl)) (by decide) (fun K hK=>?_)
    refine goes_ func50 (by kernel_rfl) rfl #[.agg #[.string t717,.string t718],.int .i64 t719,.agg #[.bool t722,.slice Ao85 t723.length co85,.slice Ao86 t726.length co86],.int .i64 t686] (by rfl) rfl rfl zm ?_
    with_reducible refine (weftlaw1_same.calls t717 t718 t719 t722 _ _ t723 _ _ t726 t686 t729 _ ?side1 ?side2 ?side3 ?side4 ?side5 A76.out).mono ?_
    (case side1=>exact zr HO725)
    (case side2=>exact zk HO725)
    (case side3=>exact zr HO728)
    (case side4=>exact zk HO728)
    (case side5=>exact Tryz.Gl.below HG.out bw)
    rintro e w87 ⟨rfl,hb⟩
    refine ⟨_,rfl,?_⟩
    replace HO_702001:=yV HO_702001 hb
    replace HO_702002:=yV HO_702002 hb
    replace HO_703001:=yV HO_703001 hb
    replace HO_703002:=yV HO_703002 hb
    replace HO725:=yV HO725 hb
    replace HO728:=yV HO728 hb
    replace BK681:=sK BK681 hb
    replace BK682:=sK BK682 hb
    replace BK701:=sK BK701 hb
    replace BK702:=sK BK702 hb
    replace BK720:=sK BK720 hb
    replace HB:=sB hb
    clear hb
    refine hK.out _ _ ⟨zh BK720 0,zh BK720 1,zh BK701 0,zh BK701 1,zh BK701 2,zh BK702 0,zh BK702 1,zh BK702 2⟩ (fun hHeld=>?_)
    clear hK K
    refine nm ?_
    refine pu 10 (some 52) HT_ ?_
    refine pu 11 (some 53) HT_ ?_
    refine done_ (done_of HT_.out (by kernel_rfl)) ?_
    try go_wp2
    go_meet
    case rel=>exact ⟨_,(!t729),zs,H',⟨by have:=HJ7.out;first|omega|exact Nat.le_refl _⟩,⟨zV HO_702001⟩,⟨zV HO_702002⟩,⟨zV HO_703001⟩,⟨zV HO_703002⟩,⟨zb BK681⟩,⟨zb BK682⟩,⟨zb BK701⟩,⟨zb BK702⟩,⟨zb BK720⟩,⟨bw⟩⟩
   case rest =>
    clear HC58
    try clear c1
    try clear c2
    try clear c3
    try clear c4
    try clear c5
    try clear c6
    try clear c7
    try clear c15
    try clear c17
    try clear c20
    try clear c27
    try clear c28
    try clear c29
    try clear c30
    try clear c34
    try clear c35
    try clear c36
    try clear c40
    try clear c40b0
    try clear c40b1
    try clear c48
    try clear c50
    try clear c52
    try clear c59
    try clear c60
    try clear c61
    try clear c63
    try clear c64
    try clear c68
    try clear c69
    try clear c70
    try clear c71
    try clear c74
    try clear hcz16_0
    try clear hcz16_1
    try clear hcz18_0
    try clear hcz18_1
    try clear hcz31_0
    try clear hcz31_1
    try clear hcz31_2
    try clear hcz37_0
    try clear hcz37_1
    try clear hcz37_2
    try clear hcz62_0
    try clear hcz62_1
    try clear hcz65_0
    try clear hcz65_1
    try clear hcz72_0
    try clear hcz72_1
    try clear hfz16_0
    try clear hfz16_1
    try clear hfz18_0
    try clear hfz18_1
    try clear hfz31_0
    try clear hfz31_1
    try clear hfz31_2
    try clear hfz37_0
    try clear hfz37_1
    try clear hfz37_2
    try clear hfz62_0
    try clear hfz62_1
    try clear hfz65_0
    try clear hfz65_1
    try clear hfz72_0
    try clear hfz72_1
    obtain ⟨kq,x53_57,rfl,HA,HJ57,HO_702001,HO_702002,HO_703001,HO_703002,BK681,BK682,BK701,BK702,BK720,HB⟩:=hcut
    cases kq with
    | zero=>exact absurd HA.out (by simp [weftlaw1_NumProducts.j1])
    | succ kj57 =>
     have H:=HA.out
     clear HA
     simp only [weftlaw1_NumProducts.j1] at H
     by_cases c91:x53_57=true
     case neg=>
      replace c91:=Bool.eq_false_iff.mpr c91
      subst c91
      have H1:(if t686=0 then ((weftref1_Num_Sign.f x703000_7 x703001_7 x703002_7).bind fun t730=>(weftlaw1_NumProducts.j2 kj57 a1 t686 (t730==0) t675 t676 t678 t679 x702000_7 x702001_7 x702002_7 x703000_7 x703001_7 x703002_7)) else (weftlaw1_NumProducts.j2 kj57 a1 t686 false t675 t676 t678 t679 x702000_7 x702001_7 x702002_7 x703000_7 x703001_7 x703002_7))=some r:=by rw [if_neg (show ¬ (false=true) by decide)] at H;exact H
      clear H
      have H:=H1
      clear H1
      have HC92:=aZ H
      clear H
      go_upto_region 10 with (fail)
      go_cut [60] (fun v60 wc=>∃ (kq:Nat) (x60_91:Bool),v60 = .bool x60_91∧Aside0 (weftlaw1_NumProducts.j2 kq a1 t686 x60_91 t675 t676 t678 t679 x702000_7 x702001_7 x702002_7 x703000_7 x703001_7 x703002_7=some r)∧Aside0 (kq≤kj57)∧Aside0 (Kd.V (Kd.int .i64) 3 wc w.heap.size (fun k_=>k_≠gb681∧k_≠gb682∧k_≠gb701∧k_≠gb702∧k_≠gb720) u702001 x702001_7)∧Aside0 (Kd.V (Kd.int .i64) 3 wc w.heap.size (fun k_=>k_≠gb681∧k_≠gb682∧k_≠gb701∧k_≠gb702∧k_≠gb720) u702002 x702002_7)∧Aside0 (Kd.V (Kd.int .i64) 3 wc w.heap.size (fun k_=>k_≠gb681∧k_≠gb682∧k_≠gb701∧k_≠gb702∧k_≠gb720) u703001 x703001_7)∧Aside0 (Kd.V (Kd.int .i64) 3 wc w.heap.size (fun k_=>k_≠gb681∧k_≠gb682∧k_≠gb701∧k_≠gb702∧k_≠gb720) u703002 x703002_7)∧Aside0 (wc.heap[gb681]? = some (.cells #[.string t675,.string t676] 61 (0,0)))∧Aside0 (wc.heap[gb682]? = some (.cells #[.string t678,.string t679] 61 (0,0)))∧Aside0 (wc.heap[gb701]? = some (.cells #[.bool x702000_7,u702001,u702002] 67 (0,0)))∧Aside0 (wc.heap[gb702]? = some (.cells #[.bool x703000_7,u703001,u703002] 67 (0,0)))∧Aside0 (wc.heap[gb720]? = some (.cells #[.string t717,.string t718] 61 (0,0)))∧Aside0 (Below w.heap.size w wc))
      case first =>
       have H:=HC92.out
       clear HC92
       by_cases c93:t686=0
       case neg=>
        rw [if_neg c93] at H
        have c93b0:(t686==0)=false:=beq_eq_false_iff_ne.mpr c93
        have c93b1:(t686 != 0)=true:=bne_iff_ne.mpr c93
        (first|rw [c93b0]|(simp only [i64_w,i32_w];rw [c93b0])|skip)
        have H':=aZ H
        clear H
        go_wp2
        go_meet
        case rel=>exact ⟨_,(false),zs,H',⟨by have:=HJ7.out;have:=HJ57.out;first|omega|exact Nat.le_refl _⟩,⟨zV HO_702001⟩,⟨zV HO_702002⟩,⟨zV HO_703001⟩,⟨zV HO_703002⟩,⟨zb BK681⟩,⟨zb BK682⟩,⟨zb BK701⟩,⟨zb BK702⟩,⟨zb BK720⟩,⟨bw⟩⟩
       rw [if_pos c93] at H
       have c93b0:(t686==0)=true:=beq_iff_eq.mpr c93
       have c93b1:(t686 != 0)=false:=bne_eq_false_iff_eq.mpr c93
       clear c93
       (first|rw [c93b0]|(simp only [i64_w,i32_w];rw [c93b0])|skip)
       obtain ⟨t730,A94,H⟩:=zB H
       have H':=aZ H
       clear H
       have hnb95:=NB702_681.out
       have hnc95:=NB681_702.out
       have hnb96:=NB702_682.out
       have hnc96:=NB682_702.out
       have hnb97:=NB702_701.out
       have hnc97:=NB701_702.out
       have hnb98:=NB702_720.out
       have hnc98:=NB720_702.out
       have hcz99_0:wc.cell? ⟨gb702,0,none⟩=some (.bool x703000_7):=(blk_cell BK702.out 0).trans rfl
       have hcz99_1:wc.cell? ⟨gb702,1,none⟩=some (u703001):=(blk_cell BK702.out 1).trans rfl
       have hcz99_2:wc.cell? ⟨gb702,2,none⟩=some (u703002):=(blk_cell BK702.out 2).trans rfl
       have hfz99_0:=blk_frozen BK702.out 0
       have hfz99_1:=blk_frozen BK702.out 1
       have hfz99_2:=blk_frozen BK702.out 2
       obtain ⟨Ao100,co100,rfl⟩:=Kd.V_slice HO_703001.out
       obtain ⟨Ao101,co101,rfl⟩:=Kd.V_slice HO_703002.out
       go_wp2_with (first|(go_at_call 61;(with_reducible refine (weftref1_Num_Sign.calls x703000_7 _ _ x703001_7 _ _ x703002_7 t730 _ ?side1 ?side2 ?side3 ?side4 A94.out).mono ?_);(case side1=>exact zr HO_703001);(case side2=>exact zk HO_703001);(case side3=>exact zr HO_703002);(case side4=>exact zk HO_703002);rintro e w102 ⟨rfl,hb⟩;replace HO_702001:=yV HO_702001 hb;replace HO_702002:=yV HO_702002 hb;replace HO_703001:=yV HO_703001 hb;replace HO_703002:=yV HO_703002 hb;replace BK681:=sK BK681 hb;replace BK682:=sK BK682 hb;replace BK701:=sK BK701 hb;replace BK702:=sK BK702 hb;replace BK720:=sK BK720 hb;replace HB:=sB hb;clear hb))
       go_meet
       case rel=>exact ⟨_,((t730==0)),zs,H',⟨by have:=HJ7.out;have:=HJ57.out;first|omega|exact Nat.le_refl _⟩,⟨zV HO_702001⟩,⟨zV HO_702002⟩,⟨zV HO_703001⟩,⟨zV HO_703002⟩,⟨zb BK681⟩,⟨zb BK682⟩,⟨zb BK701⟩,⟨zb BK702⟩,⟨zb BK720⟩,⟨bw⟩⟩
      case rest =>
       clear HC92
       try clear c1
       try clear c2
       try clear c3
       try clear c4
       try clear c5
       try clear c6
       try clear c7
       try clear c9
       try clear c15
       try clear c17
       try clear c20
       try clear c27
       try clear c28
       try clear c29
       try clear c30
       try clear c34
       try clear c35
       try clear c36
       try clear c40
       try clear c40b0
       try clear c40b1
       try clear c48
       try clear c50
       try clear c52
       try clear c59
       try clear c60
       try clear c61
       try clear c63
       try clear c64
       try clear c68
       try clear c69
       try clear c70
       try clear c71
       try clear c74
       try clear c91
       try clear c93
       try clear c93b0
       try clear c93b1
       try clear c95
       try clear c96
       try clear c97
       try clear c98
       try clear hcz16_0
       try clear hcz16_1
       try clear hcz18_0
       try clear hcz18_1
       try clear hcz31_0
       try clear hcz31_1
       try clear hcz31_2
       try clear hcz37_0
       try clear hcz37_1
       try clear hcz37_2
       try clear hcz62_0
       try clear hcz62_1
       try clear hcz65_0
       try clear hcz65_1
       try clear hcz72_0
       try clear hcz72_1
       try clear hcz99_0
       try clear hcz99_1
       try clear hcz99_2
       try clear hfz16_0
       try clear hfz16_1
       try clear hfz18_0
       try clear hfz18_1
       try clear hfz31_0
       try clear hfz31_1
       try clear hfz31_2
       try clear hfz37_0
       try clear hfz37_1
       try clear hfz37_2
       try clear hfz62_0
       try clear hfz62_1
       try clear hfz65_0
       try clear hfz65_1
       try clear hfz72_0
       try clear hfz72_1
       try clear hfz99_0
       try clear hfz99_1
       try clear hfz99_2
       obtain ⟨kq,x60_91,rfl,HA,HJ91,HO_702001,HO_702002,HO_703001,HO_703002,BK681,BK682,BK701,BK702,BK720,HB⟩:=hcut
       cases kq with
       | zero=>exact absurd HA.out (by simp [weftlaw1_NumProducts.j2])
       | succ kj91 =>
        have H:=HA.out
        clear HA
        simp only [weftlaw1_NumProducts.j2] at H
        have HC103:=aZ H
        clear H
        go_upto_if 60 with (fail)
        go_cut [8] (fun v8 wc=>∃ (kq:Nat) (x8_102:Int) (x703000_102:Bool) (x703001_102:List Int) (x703002_102:List Int) (u703001:Value) (u703002:Value),v8 = .int .i64 x8_102∧Aside0 (weftlaw1_NumProducts.j3 kq a1 x8_102 t675 t676 t678 t679 x702000_7 x702001_7 x702002_7 x703000_102 x703001_102 x703002_102=some r)∧Aside0 (kq≤kj91)∧Aside0 (Kd.V (Kd.int .i64) 3 wc w.heap.size (fun k_=>k_≠gb681∧k_≠gb682∧k_≠gb701∧k_≠gb702∧k_≠gb720) u702001 x702001_7)∧Aside0 (Kd.V (Kd.int .i64) 3 wc w.heap.size (fun k_=>k_≠gb681∧k_≠gb682∧k_≠gb701∧k_≠gb702∧k_≠gb720) u702002 x702002_7)∧Aside0 (Kd.V (Kd.int .i64) 3 wc w.heap.size (fun k_=>k_≠gb681∧k_≠gb682∧k_≠gb701∧k_≠gb702∧k_≠gb720) u703001 x703001_102)∧Aside0 (Kd.V (Kd.int .i64) 3 wc w.heap.size (fun k_=>k_≠gb681∧k_≠gb682∧k_≠gb701∧k_≠gb702∧k_≠gb720) u703002 x703002_102)∧Aside0 (wc.heap[gb681]? = some (.cells #[.string t675,.string t676] 61 (0,0)))∧Aside0 (wc.heap[gb682]? = some (.cells #[.string t678,.string t679] 61 (0,0)))∧Aside0 (wc.heap[gb701]? = some (.cells #[.bool x702000_7,u702001,u702002] 67 (0,0)))∧Aside0 (wc.heap[gb702]? = some (.cells #[.bool x703000_102,u703001,u703002] 67 (0,0)))∧Aside0 (wc.heap[gb720]? = some (.cells #[.string t717,.string t718] 61 (0,0)))∧Aside0 (Below w.heap.size w wc))
        case first =>
         have H:=HC103.out
         clear HC103
         by_cases c104:x60_91=true
         case neg=>
          replace c104:=Bool.eq_false_iff.mpr c104
          subst c104
          have H1:(weftlaw1_NumProducts.j3 kj91 a1 t686 t675 t676 t678 t679 x702000_7 x702001_7 x702002_7 x703000_7 x703001_7 x703002_7)=some r:=by rw [if_neg (show ¬ (false=true) by decide)] at H;exact H
          clear H
          have H:=H1
          clear H1
          have H':=aZ H
          clear H
          go_wp2
          go_meet
          case rel=>exact ⟨_,(t686),(x703000_7),(x703001_7),(x703002_7),(u703001),(u703002),zs,H',⟨by have:=HJ7.out;have:=HJ57.out;have:=HJ91.out;first|omega|exact Nat.le_refl _⟩,⟨zV HO_702001⟩,⟨zV HO_702002⟩,⟨zV HO_703001⟩,⟨zV HO_703002⟩,⟨zb BK681⟩,⟨zb BK682⟩,⟨zb BK701⟩,⟨zb BK702⟩,⟨zb BK720⟩,⟨bw⟩⟩
         subst c104
         have H1:((weftref1_Int.f kj91 1).bind fun bt731=>(weftlaw1_NumProducts.j3 kj91 a1 23 t675 t676 t678 t679 x702000_7 x702001_7 x702002_7 bt731.1 bt731.2.1 bt731.2.2))=some r:=by rw [if_pos rfl] at H;exact H
         clear H
         have H:=H1
         clear H1
         obtain ⟨⟨t731,t732,t735⟩,A105,H⟩:=zB H
         (try dsimp only at H)
         have H':=aZ H
         clear H
         go_wp2_with (first|(refine zg (some 61) func48 #[.int .i64 1] ?_;(with_reducible refine (weftref1_Int.calls kj91 1 t731 t732 t735 _ A105.out).mono ?_);rintro e w106 ⟨v733,v736,rfl,ho0,ho1,hb⟩;refine ⟨_,rfl,?_⟩;replace HO_702001:=aZ (Kd.V_mono (Kd.V_told (Kd.V_told (Kd.V_old (zV HO_702001) hb) (Kd.R_base ho0)) (Kd.R_base ho1)) (fun _ h_=>h_.1));replace HO_702002:=aZ (Kd.V_mono (Kd.V_told (Kd.V_told (Kd.V_old (zV HO_702002) hb) (Kd.R_base ho0)) (Kd.R_base ho1)) (fun _ h_=>h_.1));replace HO_703001:=aZ (Kd.V_mono (Kd.V_told (Kd.V_told (Kd.V_old (zV HO_703001) hb) (Kd.R_base ho0)) (Kd.R_base ho1)) (fun _ h_=>h_.1));replace HO_703002:=aZ (Kd.V_mono (Kd.V_told (Kd.V_told (Kd.V_old (zV HO_703002) hb) (Kd.R_base ho0)) (Kd.R_base ho1)) (fun _ h_=>h_.1));have HO734:=aZ (Kd.R_lower ho0 bs);have HO737:=aZ (Kd.R_lower ho1 bs);replace BK681:=sK BK681 hb;replace BK682:=sK BK682 hb;replace BK701:=sK BK701 hb;replace BK702:=sK BK702 hb;replace BK720:=sK BK720 hb;replace HB:=sB hb;clear hb ho0 ho1;have hnb107:=NB702_681.out;have hnc107:=NB681_702.out;have hnb108:=NB702_682.out;have hnc108:=NB682_702.out;have hnb109:=NB702_701.out;have hnc109:=NB701_702.out;have hnb110:=NB702_720.out;have hnc110:=NB720_702.out;obtain ⟨hcz111_0,hfz111_0⟩:=zc BK702 0 (.bool x703000_7) rfl;obtain ⟨hcz111_1,hfz111_1⟩:=zc BK702 1 (u703001) rfl;obtain ⟨hcz111_2,hfz111_2⟩:=zc BK702 2 (u703002) rfl;obtain ⟨Ao112,co112,rfl⟩:=Kd.R_slice HO734.out;obtain ⟨Ao113,co113,rfl⟩:=Kd.R_slice HO737.out))
         go_meet
         case rel=>exact ⟨_,(23),(t731),(t732),(t735),(.slice Ao112 t732.length co112),(.slice Ao113 t735.length co113),zs,H',⟨by have:=HJ7.out;have:=HJ57.out;have:=HJ91.out;first|omega|exact Nat.le_refl _⟩,⟨zF HO_702001⟩,⟨zF HO_702002⟩,⟨Kd.R_V (by (with_reducible repeat (first|apply Kd.R_alloc|apply Kd.R_drewN|apply Kd.R_drew));exact Kd.R_mono (Kd.R_far (p:=⟨gb702,2,none⟩) (Kd.R_far (p:=⟨gb702,1,none⟩) (Kd.R_far (p:=⟨gb702,0,none⟩) (Kd.R_types (Kd.R_types (Kd.R_types (Kd.R_types (Kd.R_types (Kd.R_types HO734.out BK681.out (by decide)) BK682.out (by decide)) BK701.out (by decide)) BK702.out (by decide)) BK720.out (by decide)) BK702.out (by decide)) (fun _ hk=>hk.2) (.bool t731)) (fun _ hk=>hk.2) (.slice Ao112 t732.length co112)) (fun _ hk=>hk.2) (.slice Ao113 t735.length co113)) (fun _ hk=>⟨hk.1.1.1.1.1.2,⟨hk.1.1.1.1.2,⟨hk.1.1.1.2,⟨hk.1.1.2,hk.1.2⟩⟩⟩⟩))⟩,⟨Kd.R_V (by (with_reducible repeat (first|apply Kd.R_alloc|apply Kd.R_drewN|apply Kd.R_drew));exact Kd.R_mono (Kd.R_far (p:=⟨gb702,2,none⟩) (Kd.R_far (p:=⟨gb702,1,none⟩) (Kd.R_far (p:=⟨gb702,0,none⟩) (Kd.R_types (Kd.R_types (Kd.R_types (Kd.R_types (Kd.R_types (Kd.R_types HO737.out BK681.out (by decide)) BK682.out (by decide)) BK701.out (by decide)) BK702.out (by decide)) BK720.out (by decide)) BK702.out (by decide)) (fun _ hk=>hk.2) (.bool t731)) (fun _ hk=>hk.2) (.slice Ao112 t732.length co112)) (fun _ hk=>hk.2) (.slice Ao113 t735.length co113)) (fun _ hk=>⟨hk.1.1.1.1.1.2,⟨hk.1.1.1.1.2,⟨hk.1.1.1.2,⟨hk.1.1.2,hk.1.2⟩⟩⟩⟩))⟩,⟨zq BK681⟩,⟨zq BK682⟩,⟨zq BK701⟩,⟨zq BK702⟩,⟨zq BK720⟩,⟨bw⟩⟩
        case rest =>
         clear HC103
         try clear c1
         try clear c2
         try clear c3
         try clear c4
         try clear c5
         try clear c6
         try clear c7
         try clear c9
         try clear c10
         try clear c11
         try clear c15
         try clear c17
         try clear c20
         try clear c27
         try clear c28
         try clear c29
         try clear c30
         try clear c34
         try clear c35
         try clear c36
         try clear c40
         try clear c40b0
         try clear c40b1
         try clear c48
         try clear c50
         try clear c52
         try clear c59
         try clear c60
         try clear c61
         try clear c63
         try clear c64
         try clear c68
         try clear c69
         try clear c70
         try clear c71
         try clear c74
         try clear c91
         try clear c93
         try clear c93b0
         try clear c93b1
         try clear c95
         try clear c96
         try clear c97
         try clear c98
         try clear c104
         try clear c107
         try clear c108
         try clear c109
         try clear c110
         try clear hcz111_0
         try clear hcz111_1
         try clear hcz111_2
         try clear hcz16_0
         try clear hcz16_1
         try clear hcz18_0
         try clear hcz18_1
         try clear hcz31_0
         try clear hcz31_1
         try clear hcz31_2
         try clear hcz37_0
         try clear hcz37_1
         try clear hcz37_2
         try clear hcz62_0
         try clear hcz62_1
         try clear hcz65_0
         try clear hcz65_1
         try clear hcz72_0
         try clear hcz72_1
         try clear hcz99_0
         try clear hcz99_1
         try clear hcz99_2
         try clear hfz111_0
         try clear hfz111_1
         try clear hfz111_2
         try clear hfz16_0
         try clear hfz16_1
         try clear hfz18_0
         try clear hfz18_1
         try clear hfz31_0
         try clear hfz31_1
         try clear hfz31_2
         try clear hfz37_0
         try clear hfz37_1
         try clear hfz37_2
         try clear hfz62_0
         try clear hfz62_1
         try clear hfz65_0
         try clear hfz65_1
         try clear hfz72_0
         try clear hfz72_1
         try clear hfz99_0
         try clear hfz99_1
         try clear hfz99_2
         obtain ⟨kq,x8_102,x703000_102,x703001_102,x703002_102,u703001,u703002,rfl,HA,HJ102,HO_702001,HO_702002,HO_703001,HO_703002,BK681,BK682,BK701,BK702,BK720,HB⟩:=hcut
         cases kq with
         | zero=>exact absurd HA.out (by simp [weftlaw1_NumProducts.j3])
         | succ kj102 =>
          have H:=HA.out
          clear HA
          simp only [weftlaw1_NumProducts.j3] at H
          obtain ⟨⟨t738,t739,t740⟩,A114,H⟩:=zB H
          (try dsimp only at H)
          obtain ⟨⟨t742,t743,t746⟩,A115,H⟩:=zB H
          (try dsimp only at H)
          obtain ⟨t749,A116,H⟩:=zB H
          by_cases c117:t749=true
          case neg=>
           replace c117:=Bool.eq_false_iff.mpr c117
           subst c117
           have H1:(some false)=some r:=by rw [if_neg (show ¬ (false=true) by decide)] at H;exact H
           clear H
           have H:=H1
           clear H1
           obtain rfl:=Option.some.inj H
           have hnb227:=NB681_682.out
           have hnc227:=NB682_681.out
           have hnb228:=NB681_701.out
           have hnc228:=NB701_681.out
           have hnb229:=NB681_702.out
           have hnc229:=NB702_681.out
           have hnb230:=NB681_720.out
           have hnc230:=NB720_681.out
           have hcz231_0:wc.cell? ⟨gb681,0,none⟩=some (.string t675):=(blk_cell BK681.out 0).trans rfl
           have hcz231_1:wc.cell? ⟨gb681,1,none⟩=some (.string t676):=(blk_cell BK681.out 1).trans rfl
           have hfz231_0:=blk_frozen BK681.out 0
           have hfz231_1:=blk_frozen BK681.out 1
           have hnb232:=NB682_701.out
           have hnc232:=NB701_682.out
           have hnb233:=NB682_702.out
           have hnc233:=NB702_682.out
           have hnb234:=NB682_720.out
           have hnc234:=NB720_682.out
           have hcz235_0:wc.cell? ⟨gb682,0,none⟩=some (.string t678):=(blk_cell BK682.out 0).trans rfl
           have hcz235_1:wc.cell? ⟨gb682,1,none⟩=some (.string t679):=(blk_cell BK682.out 1).trans rfl
           have hfz235_0:=blk_frozen BK682.out 0
           have hfz235_1:=blk_frozen BK682.out 1
           try go_wp2_with (first|(refine zg (some 65) func62 #[.agg #[.string t675,.string t676],.agg #[.string t678,.string t679]] ?_;(with_reducible refine (num_Div.calls kj102 t675 t676 t678 t679 t738 t739 t740 _ ?side1 A114.out).mono ?_);(case side1=>exact Tryz.Gl.below HG.out bw);rintro e w236 ⟨rfl,hb⟩;refine ⟨_,rfl,?_⟩;replace HO_702001:=yV HO_702001 hb;replace HO_702002:=yV HO_702002 hb;replace HO_703001:=yV HO_703001 hb;replace HO_703002:=yV HO_703002 hb;replace BK681:=sK BK681 hb;replace BK682:=sK BK682 hb;replace BK701:=sK BK701 hb;replace BK702:=sK BK702 hb;replace BK720:=sK BK720 hb;replace HB:=sB hb;clear hb)|(refine box_ev 13 #[.string (⟨#[]⟩:ByteArray),.string (⟨#[]⟩:ByteArray)] 61 ?_;intro gb741 hg w237 hbox hb;replace HO_702001:=yE HO_702001 hg hb;replace HO_702002:=yE HO_702002 hg hb;replace HO_703001:=yE HO_703001 hg hb;replace HO_703002:=yE HO_703002 hg hb;have BK741:=aZ hbox;have GE741:=sG hg;replace HB:=sB hb;have NB681_741:=sl hg BK681;have NB741_681:=sg hg BK681;replace BK681:=sK BK681 hb;have NB682_741:=sl hg BK682;have NB741_682:=sg hg BK682;replace BK682:=sK BK682 hb;have NB701_741:=sl hg BK701;have NB741_701:=sg hg BK701;replace BK701:=sK BK701 hb;have NB702_741:=sl hg BK702;have NB741_702:=sg hg BK702;replace BK702:=sK BK702 hb;have NB720_741:=sl hg BK720;have NB741_720:=sg hg BK720;replace BK720:=sK BK720 hb;clear hb hbox hg;have hnb238:=NB741_681.out;have hnc238:=NB681_741.out;have hnb239:=NB741_682.out;have hnc239:=NB682_741.out;have hnb240:=NB741_701.out;have hnc240:=NB701_741.out;have hnb241:=NB741_702.out;have hnc241:=NB702_741.out;have hnb242:=NB741_720.out;have hnc242:=NB720_741.out;obtain ⟨hcz243_0,hfz243_0⟩:=zc BK741 0 (.string (⟨#[]⟩:ByteArray)) rfl;obtain ⟨hcz243_1,hfz243_1⟩:=zc BK741 1 (.string (⟨#[]⟩:ByteArray)) rfl))
           have n0_:Aside0 (Kd.V (Kd.int .i64) 3 ((w237.setCell ⟨gb741,0,none⟩ (.string t738)).setCell ⟨gb741,1,none⟩ (.string t739)) w.heap.size (fun k_=>k_≠gb681∧k_≠gb682∧k_≠gb701∧k_≠gb702∧k_≠gb720∧k_≠gb741) u702001 x702001_7):=⟨zF HO_702001⟩
           have n1_:Aside0 (Kd.V (Kd.int .i64) 3 ((w237.setCell ⟨gb741,0,none⟩ (.string t738)).setCell ⟨gb741,1,none⟩ (.string t739)) w.heap.size (fun k_=>k_≠gb681∧k_≠gb682∧k_≠gb701∧k_≠gb702∧k_≠gb720∧k_≠gb741) u702002 x702002_7):=⟨zF HO_702002⟩
           have n2_:Aside0 (Kd.V (Kd.int .i64) 3 ((w237.setCell ⟨gb741,0,none⟩ (.string t738)).setCell ⟨gb741,1,none⟩ (.string t739)) w.heap.size (fun k_=>k_≠gb681∧k_≠gb682∧k_≠gb701∧k_≠gb702∧k_≠gb720∧k_≠gb741) u703001 x703001_102):=⟨zF HO_703001⟩
           have n3_:Aside0 (Kd.V (Kd.int .i64) 3 ((w237.setCell ⟨gb741,0,none⟩ (.string t738)).setCell ⟨gb741,1,none⟩ (.string t739)) w.heap.size (fun k_=>k_≠gb681∧k_≠gb682∧k_≠gb701∧k_≠gb702∧k_≠gb720∧k_≠gb741) u703002 x703002_102):=⟨zF HO_703002⟩
           have n4_:Aside0 (((w237.setCell ⟨gb741,0,none⟩ (.string t738)).setCell ⟨gb741,1,none⟩ (.string t739)).heap[gb681]? = some (.cells #[.string t675,.string t676] 61 (0,0))):=⟨zq BK681⟩
           have n5_:Aside0 (((w237.setCell ⟨gb741,0,none⟩ (.string t738)).setCell ⟨gb741,1,none⟩ (.string t739)).heap[gb682]? = some (.cells #[.string t678,.string t679] 61 (0,0))):=⟨zq BK682⟩
           have n6_:Aside0 (((w237.setCell ⟨gb741,0,none⟩ (.string t738)).setCell ⟨gb741,1,none⟩ (.string t739)).heap[gb701]? = some (.cells #[.bool x702000_7,u702001,u702002] 67 (0,0))):=⟨zq BK701⟩
           have n7_:Aside0 (((w237.setCell ⟨gb741,0,none⟩ (.string t738)).setCell ⟨gb741,1,none⟩ (.string t739)).heap[gb702]? = some (.cells #[.bool x703000_102,u703001,u703002] 67 (0,0))):=⟨zq BK702⟩
           have n8_:Aside0 (((w237.setCell ⟨gb741,0,none⟩ (.string t738)).setCell ⟨gb741,1,none⟩ (.string t739)).heap[gb720]? = some (.cells #[.string t717,.string t718] 61 (0,0))):=⟨zq BK720⟩
           have n9_:Aside0 (((w237.setCell ⟨gb741,0,none⟩ (.string t738)).setCell ⟨gb741,1,none⟩ (.string t739)).heap[gb741]? = some (.cells #[.string t738,.string t739] 61 (0,0))):=⟨zq BK741⟩
           have n10_:Aside0 (Below w.heap.size w ((w237.setCell ⟨gb741,0,none⟩ (.string t738)).setCell ⟨gb741,1,none⟩ (.string t739))):=⟨bw⟩
           (try clear HO_702001)
           (try clear HO_702002)
           (try clear HO_703001)
           (try clear HO_703002)
           (try clear BK681)
           (try clear BK682)
           (try clear BK701)
           (try clear BK702)
           (try clear BK720)
           (try clear BK741)
           (try clear HB)
           generalize ((w237.setCell ⟨gb741,0,none⟩ (.string t738)).setCell ⟨gb741,1,none⟩ (.string t739))=w244 at n0_ n1_ n2_ n3_ n4_ n5_ n6_ n7_ n8_ n9_ n10_ ⊢
           have HO_702001:=n0_
           have HO_702002:=n1_
           have HO_703001:=n2_
           have HO_703002:=n3_
           have BK681:=n4_
           have BK682:=n5_
           have BK701:=n6_
           have BK702:=n7_
           have BK720:=n8_
           have BK741:=n9_
           have HB:=n10_
           clear n0_ n1_ n2_ n3_ n4_ n5_ n6_ n7_ n8_ n9_ n10_
           replace HO_702001:=aZ (Kd.V_drew HO_702001.out)
           replace HO_702002:=aZ (Kd.V_drew HO_702002.out)
           replace HO_703001:=aZ (Kd.V_drew HO_703001.out)
           replace HO_703002:=aZ (Kd.V_drew HO_703002.out)
           replace BK681:=aZ (blk_drew BK681.out)
           replace BK682:=aZ (blk_drew BK682.out)
           replace BK701:=aZ (blk_drew BK701.out)
           replace BK702:=aZ (blk_drew BK702.out)
           replace BK720:=aZ (blk_drew BK720.out)
           replace BK741:=aZ (blk_drew BK741.out)
           replace HB:=aZ (below_drew1 HB.out)
           obtain ⟨Ao246,co246,eo246⟩:=Kd.V_slice HO_702001.out
           (first|subst eo246|(injection eo246 with f1_ f2_ f3_;have f4_:=f1_.symm;have f5_:=f3_.symm;clear f1_ f2_ f3_;subst f4_;subst f5_))
           obtain ⟨Ao247,co247,eo247⟩:=Kd.V_slice HO_702002.out
           (first|subst eo247|(injection eo247 with f1_ f2_ f3_;have f4_:=f1_.symm;have f5_:=f3_.symm;clear f1_ f2_ f3_;subst f4_;subst f5_))
           obtain ⟨Ao248,co248,eo248⟩:=Kd.V_slice HO_703001.out
           (first|subst eo248|(injection eo248 with f1_ f2_ f3_;have f4_:=f1_.symm;have f5_:=f3_.symm;clear f1_ f2_ f3_;subst f4_;subst f5_))
           obtain ⟨Ao249,co249,eo249⟩:=Kd.V_slice HO_703002.out
           (first|subst eo249|(injection eo249 with f1_ f2_ f3_;have f4_:=f1_.symm;have f5_:=f3_.symm;clear f1_ f2_ f3_;subst f4_;subst f5_))
           refine start_ (n:=8) (S:=fun w'=>w'.cell? ⟨gb741,0,none⟩=some (.string t738)∧w'.cell? ⟨gb741,1,none⟩=some (.string t739)∧w'.cell? ⟨gb701,0,none⟩=some (.bool x702000_7)∧w'.cell? ⟨gb701,1,none⟩=some (.slice Ao246 x702001_7.length co246)∧w'.cell? ⟨gb701,2,none⟩=some (.slice Ao247 x702002_7.length co247)∧w'.cell? ⟨gb702,0,none⟩=some (.bool x703000_102)∧w'.cell? ⟨gb702,1,none⟩=some (.slice Ao248 x703001_102.length co248)∧w'.cell? ⟨gb702,2,none⟩=some (.slice Ao249 x703002_102.length co249)) (ds:=[]) #[false,false,false,false,false,false,false,false] (by kernel_rfl) rfl rfl ⟨zh BK741 0,zh BK741 1,zh BK701 0,zh BK701 1,zh BK701 2,zh BK702 0,zh BK702 1,zh BK702 2⟩ (fun hHeld=>?_);refine with_tabW weftlaw1_NumProducts.tab13 weftlaw1_NumProducts.bits13 (fun HT_ HW_=>?_)
           generalize w244.drew=w245 at HO_702001 HO_702002 HO_703001 HO_703002 BK681 BK682 BK701 BK702 BK720 BK741 HB hHeld ⊢
           refine pu 1 (some 69) HT_ ?_
           refine pu 5 (some 73) HT_ ?_
           refine tk 0 (some 68) HT_ HW_ hHeld ?_
           refine tk 2 (some 70) HT_ HW_ hHeld ?_
           refine tk 3 (some 71) HT_ HW_ hHeld ?_
           refine one_ (i:=4) (N:=some 72) #[true,true,true,true,true,true,false,false] rfl rfl (one_of HT_.out (by kernel_rfl)) (by decide) (fun K hK=>?_)
           refine goes_ func63 (by kernel_rfl) rfl #[.agg #[.bool x702000_7,.slice Ao246 x702001_7.length co246,.slice Ao247 x702002_7.length co247],.agg #[.bool x703000_102,.slice Ao248 x703001_102.length co248,.slice Ao249 x703002_102.length co249]] (by rfl) rfl rfl zm ?_
           with_reducible refine (weftref1_Num_Div.calls kj102 x702000_7 _ _ x702001_7 _ _ x702002_7 x703000_102 _ _ x703001_102 _ _ x703002_102 t742 t743 t746 _ ?side1 ?side2 ?side3 ?side4 ?side5 ?side6 ?side7 ?side8 A115.out).mono ?_
           (case side1=>exact zr HO_702001)
           (case side2=>exact zk HO_702001)
           (case side3=>exact zr HO_702002)
           (case side4=>exact zk HO_702002)
           (case side5=>exact zr HO_703001)
           (case side6=>exact zk HO_703001)
           (case side7=>exact zr HO_703002)
           (case side8=>exact zk HO_703002)
           rintro e w250 ⟨v744,v747,rfl,ho0,ho1,hb⟩
           refine ⟨_,rfl,?_⟩
           replace HO_702001:=yV HO_702001 hb
           replace HO_702002:=yV HO_702002 hb
           replace HO_703001:=yV HO_703001 hb
           replace HO_703002:=yV HO_703002 hb
           have HO745:=yL (fun k_=>k_≠gb681∧k_≠gb682∧k_≠gb701∧k_≠gb702∧k_≠gb720∧k_≠gb741) ho0 (fun k_ hk_=>⟨(zf BK681 hk_),(zf BK682 hk_),(zf BK701 hk_),(zf BK702 hk_),(zf BK720 hk_),(zf BK741 hk_)⟩)
           have HO748:=yL (fun k_=>k_≠gb681∧k_≠gb682∧k_≠gb701∧k_≠gb702∧k_≠gb720∧k_≠gb741) ho1 (fun k_ hk_=>⟨(zf BK681 hk_),(zf BK682 hk_),(zf BK701 hk_),(zf BK702 hk_),(zf BK720 hk_),(zf BK741 hk_)⟩)
           replace BK681:=sK BK681 hb
           replace BK682:=sK BK682 hb
           replace BK701:=sK BK701 hb
           replace BK702:=sK BK702 hb
           replace BK720:=sK BK720 hb
           replace BK741:=sK BK741 hb
           replace HB:=sB hb
           clear hb ho0 ho1
           obtain ⟨Ao251,co251,eo251⟩:=Kd.V_slice HO745.out
           (first|subst eo251|(injection eo251 with f1_ f2_ f3_;have f4_:=f1_.symm;have f5_:=f3_.symm;clear f1_ f2_ f3_;subst f4_;subst f5_))
           obtain ⟨Ao252,co252,eo252⟩:=Kd.V_slice HO748.out
           (first|subst eo252|(injection eo252 with f1_ f2_ f3_;have f4_:=f1_.symm;have f5_:=f3_.symm;clear f1_ f2_ f3_;subst f4_;subst f5_))
           refine hK.out _ _ ⟨zh BK741 0,zh BK741 1,zh BK701 0,zh BK701 1,zh BK701 2,zh BK702 0,zh BK702 1,zh BK702 2⟩ (fun hHeld=>?_)
           clear hK K
           refine nm ?_
           refine one_ (i:=6) (N:=some 74) #[true,true,true,true,true,true,true,false] rfl rfl (one_of HT_.out (by kernel_rfl)) (by decide) (fun K hK=>?_)
           refine goes_ func50 (by kernel_rfl) rfl #[.agg #[.string t738,.string t739],.int .i64 t740,.agg #[.bool t742,.slice Ao251 t743.length co251,.slice Ao252 t746.length co252],.int .i64 x8_102] (by rfl) rfl rfl zm ?_
           with_reducible refine (weftlaw1_same.calls t738 t739 t740 t742 _ _ t743 _ _ t746 x8_102 false _ ?side1 ?side2 ?side3 ?side4 ?side5 A116.out).mono ?_
           (case side1=>exact zr HO745)
           (case side2=>exact zk HO745)
           (case side3=>exact zr HO748)
           (case side4=>exact zk HO748)
           (case side5=>exact Tryz.Gl.below HG.out bw)
           rintro e w253 ⟨rfl,hb⟩
           refine ⟨_,rfl,?_⟩
           replace HO_702001:=yV HO_702001 hb
           replace HO_702002:=yV HO_702002 hb
           replace HO_703001:=yV HO_703001 hb
           replace HO_703002:=yV HO_703002 hb
           replace HO745:=yV HO745 hb
           replace HO748:=yV HO748 hb
           replace BK681:=sK BK681 hb
           replace BK682:=sK BK682 hb
           replace BK701:=sK BK701 hb
           replace BK702:=sK BK702 hb
           replace BK720:=sK BK720 hb
           replace BK741:=sK BK741 hb
           replace HB:=sB hb
           clear hb
           refine hK.out _ _ ⟨zh BK741 0,zh BK741 1,zh BK701 0,zh BK701 1,zh BK701 2,zh BK702 0,zh BK702 1,zh BK702 2⟩ (fun hHeld=>?_)
           clear hK K
           refine nm ?_
           refine pu 7 (some 75) HT_ ?_
           refine done_ (done_of HT_.out (by kernel_rfl)) ?_
           try go_wp2
           go_ret
           exact ⟨ze,bw⟩
          subst c117
          have H1:((weftref1_RatFault.f kj102 t675 t676).bind fun t750=>(if t750=0 then (if a1<0 then (weftlaw1_NumProducts.j4 kj102 a1 t750 true t675 t676) else (weftlaw1_NumProducts.j4 kj102 a1 t750 (decide (a1 > 64)) t675 t676)) else (weftlaw1_NumProducts.j4 kj102 a1 t750 false t675 t676)))=some r:=by rw [if_pos rfl] at H;exact H
          clear H
          have H:=H1
          clear H1
          obtain ⟨t750,A118,H⟩:=zB H
          have HC119:=aZ H
          clear H
          have hnb120:=NB681_682.out
          have hnc120:=NB682_681.out
          have hnb121:=NB681_701.out
          have hnc121:=NB701_681.out
          have hnb122:=NB681_702.out
          have hnc122:=NB702_681.out
          have hnb123:=NB681_720.out
          have hnc123:=NB720_681.out
          have hcz124_0:wc.cell? ⟨gb681,0,none⟩=some (.string t675):=(blk_cell BK681.out 0).trans rfl
          have hcz124_1:wc.cell? ⟨gb681,1,none⟩=some (.string t676):=(blk_cell BK681.out 1).trans rfl
          have hfz124_0:=blk_frozen BK681.out 0
          have hfz124_1:=blk_frozen BK681.out 1
          have hnb125:=NB682_701.out
          have hnc125:=NB701_682.out
          have hnb126:=NB682_702.out
          have hnc126:=NB702_682.out
          have hnb127:=NB682_720.out
          have hnc127:=NB720_682.out
          have hcz128_0:wc.cell? ⟨gb682,0,none⟩=some (.string t678):=(blk_cell BK682.out 0).trans rfl
          have hcz128_1:wc.cell? ⟨gb682,1,none⟩=some (.string t679):=(blk_cell BK682.out 1).trans rfl
          have hfz128_0:=blk_frozen BK682.out 0
          have hfz128_1:=blk_frozen BK682.out 1
          try go_wp2_with (first|(refine zg (some 65) func62 #[.agg #[.string t675,.string t676],.agg #[.string t678,.string t679]] ?_;(with_reducible refine (num_Div.calls kj102 t675 t676 t678 t679 t738 t739 t740 _ ?side1 A114.out).mono ?_);(case side1=>exact Tryz.Gl.below HG.out bw);rintro e w129 ⟨rfl,hb⟩;refine ⟨_,rfl,?_⟩;replace HO_702001:=yV HO_702001 hb;replace HO_702002:=yV HO_702002 hb;replace HO_703001:=yV HO_703001 hb;replace HO_703002:=yV HO_703002 hb;replace BK681:=sK BK681 hb;replace BK682:=sK BK682 hb;replace BK701:=sK BK701 hb;replace BK702:=sK BK702 hb;replace BK720:=sK BK720 hb;replace HB:=sB hb;clear hb)|(refine box_ev 13 #[.string (⟨#[]⟩:ByteArray),.string (⟨#[]⟩:ByteArray)] 61 ?_;intro gb741 hg w130 hbox hb;replace HO_702001:=yE HO_702001 hg hb;replace HO_702002:=yE HO_702002 hg hb;replace HO_703001:=yE HO_703001 hg hb;replace HO_703002:=yE HO_703002 hg hb;have BK741:=aZ hbox;have GE741:=sG hg;replace HB:=sB hb;have NB681_741:=sl hg BK681;have NB741_681:=sg hg BK681;replace BK681:=sK BK681 hb;have NB682_741:=sl hg BK682;have NB741_682:=sg hg BK682;replace BK682:=sK BK682 hb;have NB701_741:=sl hg BK701;have NB741_701:=sg hg BK701;replace BK701:=sK BK701 hb;have NB702_741:=sl hg BK702;have NB741_702:=sg hg BK702;replace BK702:=sK BK702 hb;have NB720_741:=sl hg BK720;have NB741_720:=sg hg BK720;replace BK720:=sK BK720 hb;clear hb hbox hg;have hnb131:=NB741_681.out;have hnc131:=NB681_741.out;have hnb132:=NB741_682.out;have hnc132:=NB682_741.out;have hnb133:=NB741_701.out;have hnc133:=NB701_741.out;have hnb134:=NB741_702.out;have hnc134:=NB702_741.out;have hnb135:=NB741_720.out;have hnc135:=NB720_741.out;obtain ⟨hcz136_0,hfz136_0⟩:=zc BK741 0 (.string (⟨#[]⟩:ByteArray)) rfl;obtain ⟨hcz136_1,hfz136_1⟩:=zc BK741 1 (.string (⟨#[]⟩:ByteArray)) rfl))
          have n0_:Aside0 (Kd.V (Kd.int .i64) 3 ((w130.setCell ⟨gb741,0,none⟩ (.string t738)).setCell ⟨gb741,1,none⟩ (.string t739)) w.heap.size (fun k_=>k_≠gb681∧k_≠gb682∧k_≠gb701∧k_≠gb702∧k_≠gb720∧k_≠gb741) u702001 x702001_7):=⟨zF HO_702001⟩
          have n1_:Aside0 (Kd.V (Kd.int .i64) 3 ((w130.setCell ⟨gb741,0,none⟩ (.string t738)).setCell ⟨gb741,1,none⟩ (.string t739)) w.heap.size (fun k_=>k_≠gb681∧k_≠gb682∧k_≠gb701∧k_≠gb702∧k_≠gb720∧k_≠gb741) u702002 x702002_7):=⟨zF HO_702002⟩
          have n2_:Aside0 (Kd.V (Kd.int .i64) 3 ((w130.setCell ⟨gb741,0,none⟩ (.string t738)).setCell ⟨gb741,1,none⟩ (.string t739)) w.heap.size (fun k_=>k_≠gb681∧k_≠gb682∧k_≠gb701∧k_≠gb702∧k_≠gb720∧k_≠gb741) u703001 x703001_102):=⟨zF HO_703001⟩
          have n3_:Aside0 (Kd.V (Kd.int .i64) 3 ((w130.setCell ⟨gb741,0,none⟩ (.string t738)).setCell ⟨gb741,1,none⟩ (.string t739)) w.heap.size (fun k_=>k_≠gb681∧k_≠gb682∧k_≠gb701∧k_≠gb702∧k_≠gb720∧k_≠gb741) u703002 x703002_102):=⟨zF HO_703002⟩
          have n4_:Aside0 (((w130.setCell ⟨gb741,0,none⟩ (.string t738)).setCell ⟨gb741,1,none⟩ (.string t739)).heap[gb681]? = some (.cells #[.string t675,.string t676] 61 (0,0))):=⟨zq BK681⟩
          have n5_:Aside0 (((w130.setCell ⟨gb741,0,none⟩ (.string t738)).setCell ⟨gb741,1,none⟩ (.string t739)).heap[gb682]? = some (.cells #[.string t678,.string t679] 61 (0,0))):=⟨zq BK682⟩
          have n6_:Aside0 (((w130.setCell ⟨gb741,0,none⟩ (.string t738)).setCell ⟨gb741,1,none⟩ (.string t739)).heap[gb701]? = some (.cells #[.bool x702000_7,u702001,u702002] 67 (0,0))):=⟨zq BK701⟩
          have n7_:Aside0 (((w130.setCell ⟨gb741,0,none⟩ (.string t738)).setCell ⟨gb741,1,none⟩ (.string t739)).heap[gb702]? = some (.cells #[.bool x703000_102,u703001,u703002] 67 (0,0))):=⟨zq BK702⟩
          have n8_:Aside0 (((w130.setCell ⟨gb741,0,none⟩ (.string t738)).setCell ⟨gb741,1,none⟩ (.string t739)).heap[gb720]? = some (.cells #[.string t717,.string t718] 61 (0,0))):=⟨zq BK720⟩
          have n9_:Aside0 (((w130.setCell ⟨gb741,0,none⟩ (.string t738)).setCell ⟨gb741,1,none⟩ (.string t739)).heap[gb741]? = some (.cells #[.string t738,.string t739] 61 (0,0))):=⟨zq BK741⟩
          have n10_:Aside0 (Below w.heap.size w ((w130.setCell ⟨gb741,0,none⟩ (.string t738)).setCell ⟨gb741,1,none⟩ (.string t739))):=⟨bw⟩
          (try clear HO_702001)
          (try clear HO_702002)
          (try clear HO_703001)
          (try clear HO_703002)
          (try clear BK681)
          (try clear BK682)
          (try clear BK701)
          (try clear BK702)
          (try clear BK720)
          (try clear BK741)
          (try clear HB)
          generalize ((w130.setCell ⟨gb741,0,none⟩ (.string t738)).setCell ⟨gb741,1,none⟩ (.string t739))=w137 at n0_ n1_ n2_ n3_ n4_ n5_ n6_ n7_ n8_ n9_ n10_ ⊢
          have HO_702001:=n0_
          have HO_702002:=n1_
          have HO_703001:=n2_
          have HO_703002:=n3_
          have BK681:=n4_
          have BK682:=n5_
          have BK701:=n6_
          have BK702:=n7_
          have BK720:=n8_
          have BK741:=n9_
          have HB:=n10_
          clear n0_ n1_ n2_ n3_ n4_ n5_ n6_ n7_ n8_ n9_ n10_
          replace HO_702001:=aZ (Kd.V_drew HO_702001.out)
          replace HO_702002:=aZ (Kd.V_drew HO_702002.out)
          replace HO_703001:=aZ (Kd.V_drew HO_703001.out)
          replace HO_703002:=aZ (Kd.V_drew HO_703002.out)
          replace BK681:=aZ (blk_drew BK681.out)
          replace BK682:=aZ (blk_drew BK682.out)
          replace BK701:=aZ (blk_drew BK701.out)
          replace BK702:=aZ (blk_drew BK702.out)
          replace BK720:=aZ (blk_drew BK720.out)
          replace BK741:=aZ (blk_drew BK741.out)
          replace HB:=aZ (below_drew1 HB.out)
          obtain ⟨Ao139,co139,eo139⟩:=Kd.V_slice HO_702001.out
          (first|subst eo139|(injection eo139 with f1_ f2_ f3_;have f4_:=f1_.symm;have f5_:=f3_.symm;clear f1_ f2_ f3_;subst f4_;subst f5_))
          obtain ⟨Ao140,co140,eo140⟩:=Kd.V_slice HO_702002.out
          (first|subst eo140|(injection eo140 with f1_ f2_ f3_;have f4_:=f1_.symm;have f5_:=f3_.symm;clear f1_ f2_ f3_;subst f4_;subst f5_))
          obtain ⟨Ao141,co141,eo141⟩:=Kd.V_slice HO_703001.out
          (first|subst eo141|(injection eo141 with f1_ f2_ f3_;have f4_:=f1_.symm;have f5_:=f3_.symm;clear f1_ f2_ f3_;subst f4_;subst f5_))
          obtain ⟨Ao142,co142,eo142⟩:=Kd.V_slice HO_703002.out
          (first|subst eo142|(injection eo142 with f1_ f2_ f3_;have f4_:=f1_.symm;have f5_:=f3_.symm;clear f1_ f2_ f3_;subst f4_;subst f5_))
          refine start_ (n:=8) (S:=fun w'=>w'.cell? ⟨gb741,0,none⟩=some (.string t738)∧w'.cell? ⟨gb741,1,none⟩=some (.string t739)∧w'.cell? ⟨gb701,0,none⟩=some (.bool x702000_7)∧w'.cell? ⟨gb701,1,none⟩=some (.slice Ao139 x702001_7.length co139)∧w'.cell? ⟨gb701,2,none⟩=some (.slice Ao140 x702002_7.length co140)∧w'.cell? ⟨gb702,0,none⟩=some (.bool x703000_102)∧w'.cell? ⟨gb702,1,none⟩=some (.slice Ao141 x703001_102.length co141)∧w'.cell? ⟨gb702,2,none⟩=some (.slice Ao142 x703002_102.length co142)) (ds:=[]) #[false,false,false,false,false,false,false,false] (by kernel_rfl) rfl rfl ⟨zh BK741 0,zh BK741 1,zh BK701 0,zh BK701 1,zh BK701 2,zh BK702 0,zh BK702 1,zh BK702 2⟩ (fun hHeld=>?_);refine with_tabW weftlaw1_NumProducts.tab13 weftlaw1_NumProducts.bits13 (fun HT_ HW_=>?_)
          generalize w137.drew=w138 at HO_702001 HO_702002 HO_703001 HO_703002 BK681 BK682 BK701 BK702 BK720 BK741 HB hHeld ⊢
          refine pu 1 (some 69) HT_ ?_
          refine pu 5 (some 73) HT_ ?_
          refine tk 0 (some 68) HT_ HW_ hHeld ?_
          refine tk 2 (some 70) HT_ HW_ hHeld ?_
          refine tk 3 (some 71) HT_ HW_ hHeld ?_
          refine one_ (i:=4) (N:=some 72) #[true,true,true,true,true,true,false,false] rfl rfl (one_of HT_.out (by kernel_rfl)) (by decide) (fun K hK=>?_)
          refine goes_ func63 (by kernel_rfl) rfl #[.agg #[.bool x702000_7,.slice Ao139 x702001_7.length co139,.slice Ao140 x702002_7.length co140],.agg #[.bool x703000_102,.slice Ao141 x703001_102.length co141,.slice Ao142 x703002_102.length co142]] (by rfl) rfl rfl zm ?_
          with_reducible refine (weftref1_Num_Div.calls kj102 x702000_7 _ _ x702001_7 _ _ x702002_7 x703000_102 _ _ x703001_102 _ _ x703002_102 t742 t743 t746 _ ?side1 ?side2 ?side3 ?side4 ?side5 ?side6 ?side7 ?side8 A115.out).mono ?_
          (case side1=>exact zr HO_702001)
          (case side2=>exact zk HO_702001)
          (case side3=>exact zr HO_702002)
          (case side4=>exact zk HO_702002)
          (case side5=>exact zr HO_703001)
          (case side6=>exact zk HO_703001)
          (case side7=>exact zr HO_703002)
          (case side8=>exact zk HO_703002)
          rintro e w143 ⟨v744,v747,rfl,ho0,ho1,hb⟩
          refine ⟨_,rfl,?_⟩
          replace HO_702001:=yV HO_702001 hb
          replace HO_702002:=yV HO_702002 hb
          replace HO_703001:=yV HO_703001 hb
          replace HO_703002:=yV HO_703002 hb
          have HO745:=yL (fun k_=>k_≠gb681∧k_≠gb682∧k_≠gb701∧k_≠gb702∧k_≠gb720∧k_≠gb741) ho0 (fun k_ hk_=>⟨(zf BK681 hk_),(zf BK682 hk_),(zf BK701 hk_),(zf BK702 hk_),(zf BK720 hk_),(zf BK741 hk_)⟩)
          have HO748:=yL (fun k_=>k_≠gb681∧k_≠gb682∧k_≠gb701∧k_≠gb702∧k_≠gb720∧k_≠gb741) ho1 (fun k_ hk_=>⟨(zf BK681 hk_),(zf BK682 hk_),(zf BK701 hk_),(zf BK702 hk_),(zf BK720 hk_),(zf BK741 hk_)⟩)
          replace BK681:=sK BK681 hb
          replace BK682:=sK BK682 hb
          replace BK701:=sK BK701 hb
          replace BK702:=sK BK702 hb
          replace BK720:=sK BK720 hb
          replace BK741:=sK BK741 hb
          replace HB:=sB hb
          clear hb ho0 ho1
          obtain ⟨Ao144,co144,eo144⟩:=Kd.V_slice HO745.out
          (first|subst eo144|(injection eo144 with f1_ f2_ f3_;have f4_:=f1_.symm;have f5_:=f3_.symm;clear f1_ f2_ f3_;subst f4_;subst f5_))
          obtain ⟨Ao145,co145,eo145⟩:=Kd.V_slice HO748.out
          (first|subst eo145|(injection eo145 with f1_ f2_ f3_;have f4_:=f1_.symm;have f5_:=f3_.symm;clear f1_ f2_ f3_;subst f4_;subst f5_))
          refine hK.out _ _ ⟨zh BK741 0,zh BK741 1,zh BK701 0,zh BK701 1,zh BK701 2,zh BK702 0,zh BK702 1,zh BK702 2⟩ (fun hHeld=>?_)
          clear hK K
          refine nm ?_
          refine one_ (i:=6) (N:=some 74) #[true,true,true,true,true,true,true,false] rfl rfl (one_of HT_.out (by kernel_rfl)) (by decide) (fun K hK=>?_)
          refine goes_ func50 (by kernel_rfl) rfl #[.agg #[.string t738,.string t739],.int .i64 t740,.agg #[.bool t742,.slice Ao144 t743.length co144,.slice Ao145 t746.length co145],.int .i64 x8_102] (by rfl) rfl rfl zm ?_
          with_reducible refine (weftlaw1_same.calls t738 t739 t740 t742 _ _ t743 _ _ t746 x8_102 true _ ?side1 ?side2 ?side3 ?side4 ?side5 A116.out).mono ?_
          (case side1=>exact zr HO745)
          (case side2=>exact zk HO745)
          (case side3=>exact zr HO748)
          (case side4=>exact zk HO748)
          (case side5=>exact Tryz.Gl.below HG.out bw)
          rintro e w146 ⟨rfl,hb⟩
          refine ⟨_,rfl,?_⟩
          replace HO_702001:=yV HO_702001 hb
          replace HO_702002:=yV HO_702002 hb
          replace HO_703001:=yV HO_703001 hb
          replace HO_703002:=yV HO_703002 hb
          replace HO745:=yV HO745 hb
          replace HO748:=yV HO748 hb
          replace BK681:=sK BK681 hb
          replace BK682:=sK BK682 hb
          replace BK701:=sK BK701 hb
          replace BK702:=sK BK702 hb
          replace BK720:=sK BK720 hb
          replace BK741:=sK BK741 hb
          replace HB:=sB hb
          clear hb
          refine hK.out _ _ ⟨zh BK741 0,zh BK741 1,zh BK701 0,zh BK701 1,zh BK701 2,zh BK702 0,zh BK702 1,zh BK702 2⟩ (fun hHeld=>?_)
          clear hK K
          refine nm ?_
          refine pu 7 (some 75) HT_ ?_
          refine done_ (done_of HT_.out (by kernel_rfl)) ?_
          have hcz147_0:w146.cell? ⟨gb681,0,none⟩=some (.string t675):=(blk_cell BK681.out 0).trans rfl
          have hcz147_1:w146.cell? ⟨gb681,1,none⟩=some (.string t676):=(blk_cell BK681.out 1).trans rfl
          have hfz147_0:=blk_frozen BK681.out 0
          have hfz147_1:=blk_frozen BK681.out 1
          go_upto_region 16 with (first|(refine zg (some 77) func53 #[.agg #[.string t675,.string t676]] ?_;(with_reducible refine (weftref1_RatFault.calls kj102 t675 t676 t750 _ A118.out).mono ?_);rintro e w148 ⟨rfl,hb⟩;refine ⟨_,rfl,?_⟩;replace HO_702001:=yV HO_702001 hb;replace HO_702002:=yV HO_702002 hb;replace HO_703001:=yV HO_703001 hb;replace HO_703002:=yV HO_703002 hb;replace HO745:=yV HO745 hb;replace HO748:=yV HO748 hb;replace BK681:=sK BK681 hb;replace BK682:=sK BK682 hb;replace BK701:=sK BK701 hb;replace BK702:=sK BK702 hb;replace BK720:=sK BK720 hb;replace BK741:=sK BK741 hb;replace HB:=sB hb;clear hb))
          (try simp only [Act.put,List.setIfInBounds_toArray,List.set_cons_zero,List.set_cons_succ])
          go_cut [87] (fun v87 wc=>∃ (kq:Nat) (x87_118:Bool),v87 = .bool x87_118∧Aside0 (weftlaw1_NumProducts.j4 kq a1 t750 x87_118 t675 t676=some r)∧Aside0 (kq≤kj102)∧Aside0 (Kd.V (Kd.int .i64) 3 wc w.heap.size (fun k_=>k_≠gb681∧k_≠gb682∧k_≠gb701∧k_≠gb702∧k_≠gb720∧k_≠gb741) (.slice Ao139 x702001_7.length co139) x702001_7)∧Aside0 (Kd.V (Kd.int .i64) 3 wc w.heap.size (fun k_=>k_≠gb681∧k_≠gb682∧k_≠gb701∧k_≠gb702∧k_≠gb720∧k_≠gb741) (.slice Ao140 x702002_7.length co140) x702002_7)∧Aside0 (Kd.V (Kd.int .i64) 3 wc w.heap.size (fun k_=>k_≠gb681∧k_≠gb682∧k_≠gb701∧k_≠gb702∧k_≠gb720∧k_≠gb741) (.slice Ao141 x703001_102.length co141) x703001_102)∧Aside0 (Kd.V (Kd.int .i64) 3 wc w.heap.size (fun k_=>k_≠gb681∧k_≠gb682∧k_≠gb701∧k_≠gb702∧k_≠gb720∧k_≠gb741) (.slice Ao142 x703002_102.length co142) x703002_102)∧Aside0 (wc.heap[gb681]? = some (.cells #[.string t675,.string t676] 61 (0,0)))∧Aside0 (wc.heap[gb682]? = some (.cells #[.string t678,.string t679] 61 (0,0)))∧Aside0 (wc.heap[gb701]? = some (.cells #[.bool x702000_7,(.slice Ao139 x702001_7.length co139),(.slice Ao140 x702002_7.length co140)] 67 (0,0)))∧Aside0 (wc.heap[gb702]? = some (.cells #[.bool x703000_102,(.slice Ao141 x703001_102.length co141),(.slice Ao142 x703002_102.length co142)] 67 (0,0)))∧Aside0 (wc.heap[gb720]? = some (.cells #[.string t717,.string t718] 61 (0,0)))∧Aside0 (wc.heap[gb741]? = some (.cells #[.string t738,.string t739] 61 (0,0)))∧Aside0 (Below w.heap.size w wc))
          case first =>
           have H:=HC119.out
           clear HC119
           by_cases c149:t750=0
           case neg=>
            rw [if_neg c149] at H
            have c149b0:(t750==0)=false:=beq_eq_false_iff_ne.mpr c149
            have c149b1:(t750 != 0)=true:=bne_iff_ne.mpr c149
            (first|rw [c149b0]|(simp only [i64_w,i32_w];rw [c149b0])|skip)
            have H':=aZ H
            clear H
            go_wp2
            go_meet
            case rel=>exact ⟨_,(false),zs,H',⟨by have:=HJ7.out;have:=HJ57.out;have:=HJ91.out;have:=HJ102.out;first|omega|exact Nat.le_refl _⟩,⟨zV HO_702001⟩,⟨zV HO_702002⟩,⟨zV HO_703001⟩,⟨zV HO_703002⟩,⟨zb BK681⟩,⟨zb BK682⟩,⟨zb BK701⟩,⟨zb BK702⟩,⟨zb BK720⟩,⟨zb BK741⟩,⟨bw⟩⟩
           rw [if_pos c149] at H
           have c149b0:(t750==0)=true:=beq_iff_eq.mpr c149
           have c149b1:(t750 != 0)=false:=bne_eq_false_iff_eq.mpr c149
           clear c149
           (first|rw [c149b0]|(simp only [i64_w,i32_w];rw [c149b0])|skip)
           by_cases c150:a1<0
           case neg=>
            rw [if_neg c150] at H
            have c150b0:decide (a1<0)=false:=decide_eq_false c150
            clear c150
            have H':=aZ H
            clear H
            go_wp2
            go_meet
            case rel=>exact ⟨_,(decide (a1 > 64)),zs,H',⟨by have:=HJ7.out;have:=HJ57.out;have:=HJ91.out;have:=HJ102.out;first|omega|exact Nat.le_refl _⟩,⟨zV HO_702001⟩,⟨zV HO_702002⟩,⟨zV HO_703001⟩,⟨zV HO_703002⟩,⟨zb BK681⟩,⟨zb BK682⟩,⟨zb BK701⟩,⟨zb BK702⟩,⟨zb BK720⟩,⟨zb BK741⟩,⟨bw⟩⟩
           rw [if_pos c150] at H
           have c150b0:decide (a1<0)=true:=decide_eq_true c150
           clear c150
           have H':=aZ H
           clear H
           go_wp2
           go_meet
           case rel=>exact ⟨_,(true),zs,H',⟨by have:=HJ7.out;have:=HJ57.out;have:=HJ91.out;have:=HJ102.out;first|omega|exact Nat.le_refl _⟩,⟨zV HO_702001⟩,⟨zV HO_702002⟩,⟨zV HO_703001⟩,⟨zV HO_703002⟩,⟨zb BK681⟩,⟨zb BK682⟩,⟨zb BK701⟩,⟨zb BK702⟩,⟨zb BK720⟩,⟨zb BK741⟩,⟨bw⟩⟩
          case rest =>
           clear HC119
           try clear c1
           try clear c2
           try clear c3
           try clear c4
           try clear c5
           try clear c6
           try clear c7
           try clear c9
           try clear c10
           try clear c11
           try clear c12
           try clear c13
           try clear c14
           try clear c15
           try clear c17
           try clear c20
           try clear c27
           try clear c28
           try clear c29
           try clear c30
           try clear c34
           try clear c35
           try clear c36
           try clear c40
           try clear c40b0
           try clear c40b1
           try clear c48
           try clear c50
           try clear c52
           try clear c53
           try clear c59
           try clear c60
           try clear c61
           try clear c62
           try clear c63
           try clear c64
           try clear c68
           try clear c69
           try clear c70
           try clear c71
           try clear c74
           try clear c91
           try clear c93
           try clear c93b0
           try clear c93b1
           try clear c95
           try clear c96
           try clear c97
           try clear c98
           try clear c104
           try clear c107
           try clear c108
           try clear c109
           try clear c110
           try clear c117
           try clear c120
           try clear c121
           try clear c122
           try clear c123
           try clear c125
           try clear c126
           try clear c127
           try clear c131
           try clear c132
           try clear c133
           try clear c134
           try clear c135
           try clear c149
           try clear c149b0
           try clear c149b1
           try clear c150
           try clear c150b0
           try clear hcz111_0
           try clear hcz111_1
           try clear hcz111_2
           try clear hcz124_0
           try clear hcz124_1
           try clear hcz128_0
           try clear hcz128_1
           try clear hcz136_0
           try clear hcz136_1
           try clear hcz147_0
           try clear hcz147_1
           try clear hcz16_0
           try clear hcz16_1
           try clear hcz18_0
           try clear hcz18_1
           try clear hcz31_0
           try clear hcz31_1
           try clear hcz31_2
           try clear hcz37_0
           try clear hcz37_1
           try clear hcz37_2
           try clear hcz62_0
           try clear hcz62_1
           try clear hcz65_0
           try clear hcz65_1
           try clear hcz72_0
           try clear hcz72_1
           try clear hcz99_0
           try clear hcz99_1
           try clear hcz99_2
           try clear hfz111_0
           try clear hfz111_1
           try clear hfz111_2
           try clear hfz124_0
           try clear hfz124_1
           try clear hfz128_0
           try clear hfz128_1
           try clear hfz136_0
           try clear hfz136_1
           try clear hfz147_0
           try clear hfz147_1
           try clear hfz16_0
           try clear hfz16_1
           try clear hfz18_0
           try clear hfz18_1
           try clear hfz31_0
           try clear hfz31_1
           try clear hfz31_2
           try clear hfz37_0
           try clear hfz37_1
           try clear hfz37_2
           try clear hfz62_0
           try clear hfz62_1
           try clear hfz65_0
           try clear hfz65_1
           try clear hfz72_0
           try clear hfz72_1
           try clear hfz99_0
           try clear hfz99_1
           try clear hfz99_2
           obtain ⟨kq,x87_118,rfl,HA,HJ118,HO_702001,HO_702002,HO_703001,HO_703002,BK681,BK682,BK701,BK702,BK720,BK741,HB⟩:=hcut
           cases kq with
           | zero=>exact absurd HA.out (by simp [weftlaw1_NumProducts.j4])
           | succ kj118 =>
            have H:=HA.out
            clear HA
            simp only [weftlaw1_NumProducts.j4] at H
            have HC151:=aZ H
            clear H
            go_upto_if 87 with (fail)
            go_cut [8] (fun v8 wc=>∃ (kq:Nat) (x8_150:Int),v8 = .int .i64 x8_150∧Aside0 (weftlaw1_NumProducts.j5 kq a1 x8_150 t675 t676=some r)∧Aside0 (kq≤kj118)∧Aside0 (Kd.V (Kd.int .i64) 3 wc w.heap.size (fun k_=>k_≠gb681∧k_≠gb682∧k_≠gb701∧k_≠gb702∧k_≠gb720∧k_≠gb741) (.slice Ao139 x702001_7.length co139) x702001_7)∧Aside0 (Kd.V (Kd.int .i64) 3 wc w.heap.size (fun k_=>k_≠gb681∧k_≠gb682∧k_≠gb701∧k_≠gb702∧k_≠gb720∧k_≠gb741) (.slice Ao140 x702002_7.length co140) x702002_7)∧Aside0 (Kd.V (Kd.int .i64) 3 wc w.heap.size (fun k_=>k_≠gb681∧k_≠gb682∧k_≠gb701∧k_≠gb702∧k_≠gb720∧k_≠gb741) (.slice Ao141 x703001_102.length co141) x703001_102)∧Aside0 (Kd.V (Kd.int .i64) 3 wc w.heap.size (fun k_=>k_≠gb681∧k_≠gb682∧k_≠gb701∧k_≠gb702∧k_≠gb720∧k_≠gb741) (.slice Ao142 x703002_102.length co142) x703002_102)∧Aside0 (wc.heap[gb681]? = some (.cells #[.string t675,.string t676] 61 (0,0)))∧Aside0 (wc.heap[gb682]? = some (.cells #[.string t678,.string t679] 61 (0,0)))∧Aside0 (wc.heap[gb701]? = some (.cells #[.bool x702000_7,(.slice Ao139 x702001_7.length co139),(.slice Ao140 x702002_7.length co140)] 67 (0,0)))∧Aside0 (wc.heap[gb702]? = some (.cells #[.bool x703000_102,(.slice Ao141 x703001_102.length co141),(.slice Ao142 x703002_102.length co142)] 67 (0,0)))∧Aside0 (wc.heap[gb720]? = some (.cells #[.string t717,.string t718] 61 (0,0)))∧Aside0 (wc.heap[gb741]? = some (.cells #[.string t738,.string t739] 61 (0,0)))∧Aside0 (Below w.heap.size w wc))
            case first =>
             have H:=HC151.out
             clear HC151
             by_cases c152:x87_118=true
             case neg=>
              replace c152:=Bool.eq_false_iff.mpr c152
              subst c152
              have H1:(weftlaw1_NumProducts.j5 kj118 a1 t750 t675 t676)=some r:=by rw [if_neg (show ¬ (false=true) by decide)] at H;exact H
              clear H
              have H:=H1
              clear H1
              have H':=aZ H
              clear H
              go_wp2
              go_meet
              case rel=>exact ⟨_,(t750),zs,H',⟨by have:=HJ7.out;have:=HJ57.out;have:=HJ91.out;have:=HJ102.out;have:=HJ118.out;first|omega|exact Nat.le_refl _⟩,⟨zV HO_702001⟩,⟨zV HO_702002⟩,⟨zV HO_703001⟩,⟨zV HO_703002⟩,⟨zb BK681⟩,⟨zb BK682⟩,⟨zb BK701⟩,⟨zb BK702⟩,⟨zb BK720⟩,⟨zb BK741⟩,⟨bw⟩⟩
             subst c152
             have H1:(weftlaw1_NumProducts.j5 kj118 a1 1 t675 t676)=some r:=by rw [if_pos rfl] at H;exact H
             clear H
             have H:=H1
             clear H1
             have H':=aZ H
             clear H
             go_wp2
             go_meet
             case rel=>exact ⟨_,(1),zs,H',⟨by have:=HJ7.out;have:=HJ57.out;have:=HJ91.out;have:=HJ102.out;have:=HJ118.out;first|omega|exact Nat.le_refl _⟩,⟨zV HO_702001⟩,⟨zV HO_702002⟩,⟨zV HO_703001⟩,⟨zV HO_703002⟩,⟨zb BK681⟩,⟨zb BK682⟩,⟨zb BK701⟩,⟨zb BK702⟩,⟨zb BK720⟩,⟨zb BK741⟩,⟨bw⟩⟩
            case rest =>
             clear HC151
             try clear c1
             try clear c2
             try clear c3
             try clear c4
             try clear c5
             try clear c6
             try clear c7
             try clear c9
             try clear c10
             try clear c11
             try clear c12
             try clear c13
             try clear c14
             try clear c15
             try clear c17
             try clear c20
             try clear c27
             try clear c28
             try clear c29
             try clear c30
             try clear c34
             try clear c35
             try clear c36
             try clear c40
             try clear c40b0
             try clear c40b1
             try clear c48
             try clear c50
             try clear c52
             try clear c53
             try clear c59
             try clear c60
             try clear c61
             try clear c62
             try clear c63
             try clear c64
             try clear c68
             try clear c69
             try clear c70
             try clear c71
             try clear c74
             try clear c91
             try clear c93
             try clear c93b0
             try clear c93b1
             try clear c95
             try clear c96
             try clear c97
             try clear c98
             try clear c104
             try clear c107
             try clear c108
             try clear c109
             try clear c110
             try clear c117
             try clear c120
             try clear c121
             try clear c122
             try clear c123
             try clear c125
             try clear c126
             try clear c127
             try clear c131
             try clear c132
             try clear c133
             try clear c134
             try clear c135
             try clear c149
             try clear c149b0
             try clear c149b1
             try clear c150
             try clear c150b0
             try clear c152
             try clear hcz111_0
             try clear hcz111_1
             try clear hcz111_2
             try clear hcz124_0
             try clear hcz124_1
             try clear hcz128_0
             try clear hcz128_1
             try clear hcz136_0
             try clear hcz136_1
             try clear hcz147_0
             try clear hcz147_1
             try clear hcz16_0
             try clear hcz16_1
             try clear hcz18_0
             try clear hcz18_1
             try clear hcz31_0
             try clear hcz31_1
             try clear hcz31_2
             try clear hcz37_0
             try clear hcz37_1
             try clear hcz37_2
             try clear hcz62_0
             try clear hcz62_1
             try clear hcz65_0
             try clear hcz65_1
             try clear hcz72_0
             try clear hcz72_1
             try clear hcz99_0
             try clear hcz99_1
             try clear hcz99_2
             try clear hfz111_0
             try clear hfz111_1
             try clear hfz111_2
             try clear hfz124_0
             try clear hfz124_1
             try clear hfz128_0
             try clear hfz128_1
             try clear hfz136_0
             try clear hfz136_1
             try clear hfz147_0
             try clear hfz147_1
             try clear hfz16_0
             try clear hfz16_1
             try clear hfz18_0
             try clear hfz18_1
             try clear hfz31_0
             try clear hfz31_1
             try clear hfz31_2
             try clear hfz37_0
             try clear hfz37_1
             try clear hfz37_2
             try clear hfz62_0
             try clear hfz62_1
             try clear hfz65_0
             try clear hfz65_1
             try clear hfz72_0
             try clear hfz72_1
             try clear hfz99_0
             try clear hfz99_1
             try clear hfz99_2
             obtain ⟨kq,x8_150,rfl,HA,HJ150,HO_702001,HO_702002,HO_703001,HO_703002,BK681,BK682,BK701,BK702,BK720,BK741,HB⟩:=hcut
             cases kq with
             | zero=>exact absurd HA.out (by simp [weftlaw1_NumProducts.j5])
             | succ kj150 =>
              have H:=HA.out
              clear HA
              simp only [weftlaw1_NumProducts.j5] at H
              obtain ⟨⟨t751,t752,t755⟩,A153,H⟩:=zB H
              (try dsimp only at H)
              by_cases c154:x8_150=0
              case neg=>
               rw [if_neg c154] at H
               have c154b0:(x8_150==0)=false:=beq_eq_false_iff_ne.mpr c154
               have c154b1:(x8_150 != 0)=true:=bne_iff_ne.mpr c154
               obtain ⟨⟨t778,t779,t780⟩,A196,H⟩:=zB H
               (try dsimp only at H)
               obtain ⟨t782,A197,H⟩:=zB H
               obtain rfl:=Option.some.inj H
               go_wp2_with (first|(refine zg (some 88) func48 #[.int .i64 0] ?_;(with_reducible refine (weftref1_Int.calls kj150 0 t751 t752 t755 _ A153.out).mono ?_);rintro e w198 ⟨v753,v756,rfl,ho0,ho1,hb⟩;refine ⟨_,rfl,?_⟩;replace HO_702001:=aZ (Kd.V_mono (Kd.V_told (Kd.V_told (Kd.V_old (zV HO_702001) hb) (Kd.R_base ho0)) (Kd.R_base ho1)) (fun _ h_=>h_.1));replace HO_702002:=aZ (Kd.V_mono (Kd.V_told (Kd.V_told (Kd.V_old (zV HO_702002) hb) (Kd.R_base ho0)) (Kd.R_base ho1)) (fun _ h_=>h_.1));replace HO_703001:=aZ (Kd.V_mono (Kd.V_told (Kd.V_told (Kd.V_old (zV HO_703001) hb) (Kd.R_base ho0)) (Kd.R_base ho1)) (fun _ h_=>h_.1));replace HO_703002:=aZ (Kd.V_mono (Kd.V_told (Kd.V_told (Kd.V_old (zV HO_703002) hb) (Kd.R_base ho0)) (Kd.R_base ho1)) (fun _ h_=>h_.1));have HO754:=aZ (Kd.R_lower ho0 bs);have HO757:=aZ (Kd.R_lower ho1 bs);replace BK681:=sK BK681 hb;replace BK682:=sK BK682 hb;replace BK701:=sK BK701 hb;replace BK702:=sK BK702 hb;replace BK720:=sK BK720 hb;replace BK741:=sK BK741 hb;replace HB:=sB hb;clear hb ho0 ho1)|(refine box_ev 15 #[.bool false,.slice none 0 0,.slice none 0 0] 67 ?_;intro gb758 hg w199 hbox hb;replace HO_702001:=yE HO_702001 hg hb;replace HO_702002:=yE HO_702002 hg hb;replace HO_703001:=yE HO_703001 hg hb;replace HO_703002:=yE HO_703002 hg hb;replace HO754:=yR HO754 hb;replace HO757:=yR HO757 hb;have BK758:=aZ hbox;have GE758:=sG hg;replace HB:=sB hb;have NB681_758:=sl hg BK681;have NB758_681:=sg hg BK681;replace BK681:=sK BK681 hb;have NB682_758:=sl hg BK682;have NB758_682:=sg hg BK682;replace BK682:=sK BK682 hb;have NB701_758:=sl hg BK701;have NB758_701:=sg hg BK701;replace BK701:=sK BK701 hb;have NB702_758:=sl hg BK702;have NB758_702:=sg hg BK702;replace BK702:=sK BK702 hb;have NB720_758:=sl hg BK720;have NB758_720:=sg hg BK720;replace BK720:=sK BK720 hb;have NB741_758:=sl hg BK741;have NB758_741:=sg hg BK741;replace BK741:=sK BK741 hb;clear hb hbox hg;have hnb200:=NB758_681.out;have hnc200:=NB681_758.out;have hnb201:=NB758_682.out;have hnc201:=NB682_758.out;have hnb202:=NB758_701.out;have hnc202:=NB701_758.out;have hnb203:=NB758_702.out;have hnc203:=NB702_758.out;have hnb204:=NB758_720.out;have hnc204:=NB720_758.out;have hnb205:=NB758_741.out;have hnc205:=NB741_758.out;obtain ⟨hcz206_0,hfz206_0⟩:=zc BK758 0 (.bool false) rfl;obtain ⟨hcz206_1,hfz206_1⟩:=zc BK758 1 (.slice none 0 0) rfl;obtain ⟨hcz206_2,hfz206_2⟩:=zc BK758 2 (.slice none 0 0) rfl;obtain ⟨Ao207,co207,rfl⟩:=Kd.R_slice HO754.out;obtain ⟨Ao208,co208,rfl⟩:=Kd.R_slice HO757.out;have hnb209:=NB681_682.out;have hnc209:=NB682_681.out;have hnb210:=NB681_701.out;have hnc210:=NB701_681.out;have hnb211:=NB681_702.out;have hnc211:=NB702_681.out;have hnb212:=NB681_720.out;have hnc212:=NB720_681.out;have hnb213:=NB681_741.out;have hnc213:=NB741_681.out;obtain ⟨hcz214_0,hfz214_0⟩:=zc BK681 0 (.string t675) rfl;obtain ⟨hcz214_1,hfz214_1⟩:=zc BK681 1 (.string t676) rfl)|(refine zg (some 98) func65 #[.agg #[.string t675,.string t676],.int .i64 a1] ?_;(with_reducible refine (num_Power.calls kj150 t675 t676 a1 t778 t779 t780 _ ?side1 A196.out).mono ?_);(case side1=>exact Tryz.Gl.below HG.out bw);rintro e w215 ⟨rfl,hb⟩;refine ⟨_,rfl,?_⟩;replace HO_702001:=aZ (Kd.V_below (by (with_reducible repeat (first|apply Kd.V_alloc|apply Kd.V_drewN|apply Kd.V_drew));exact (Kd.V_mono (Kd.V_far (p:=⟨gb758,2,none⟩) (Kd.V_far (p:=⟨gb758,1,none⟩) (Kd.V_far (p:=⟨gb758,0,none⟩) (Kd.V_mono HO_702001.out (fun k_ hk=>(⟨hk,hk.2⟩:_∧k_≠gb758))) (fun _ hk=>hk.2) (.bool t751)) (fun _ hk=>hk.2) (.slice Ao207 t752.length co207)) (fun _ hk=>hk.2) (.slice Ao208 t755.length co208)) (fun _ h_=>h_.1))) hb);replace HO_702002:=aZ (Kd.V_below (by (with_reducible repeat (first|apply Kd.V_alloc|apply Kd.V_drewN|apply Kd.V_drew));exact (Kd.V_mono (Kd.V_far (p:=⟨gb758,2,none⟩) (Kd.V_far (p:=⟨gb758,1,none⟩) (Kd.V_far (p:=⟨gb758,0,none⟩) (Kd.V_mono HO_702002.out (fun k_ hk=>(⟨hk,hk.2⟩:_∧k_≠gb758))) (fun _ hk=>hk.2) (.bool t751)) (fun _ hk=>hk.2) (.slice Ao207 t752.length co207)) (fun _ hk=>hk.2) (.slice Ao208 t755.length co208)) (fun _ h_=>h_.1))) hb);replace HO_703001:=aZ (Kd.V_below (by (with_reducible repeat (first|apply Kd.V_alloc|apply Kd.V_drewN|apply Kd.V_drew));exact (Kd.V_mono (Kd.V_far (p:=⟨gb758,2,none⟩) (Kd.V_far (p:=⟨gb758,1,none⟩) (Kd.V_far (p:=⟨gb758,0,none⟩) (Kd.V_mono HO_703001.out (fun k_ hk=>(⟨hk,hk.2⟩:_∧k_≠gb758))) (fun _ hk=>hk.2) (.bool t751)) (fun _ hk=>hk.2) (.slice Ao207 t752.length co207)) (fun _ hk=>hk.2) (.slice Ao208 t755.length co208)) (fun _ h_=>h_.1))) hb);replace HO_703002:=aZ (Kd.V_below (by (with_reducible repeat (first|apply Kd.V_alloc|apply Kd.V_drewN|apply Kd.V_drew));exact (Kd.V_mono (Kd.V_far (p:=⟨gb758,2,none⟩) (Kd.V_far (p:=⟨gb758,1,none⟩) (Kd.V_far (p:=⟨gb758,0,none⟩) (Kd.V_mono HO_703002.out (fun k_ hk=>(⟨hk,hk.2⟩:_∧k_≠gb758))) (fun _ hk=>hk.2) (.bool t751)) (fun _ hk=>hk.2) (.slice Ao207 t752.length co207)) (fun _ hk=>hk.2) (.slice Ao208 t755.length co208)) (fun _ h_=>h_.1))) hb);replace HO754:=aZ (Kd.R_below (by (with_reducible repeat (first|apply Kd.R_alloc|apply Kd.R_drewN|apply Kd.R_drew));exact (Kd.R_mono (Kd.R_far (p:=⟨gb758,2,none⟩) (Kd.R_far (p:=⟨gb758,1,none⟩) (Kd.R_far (p:=⟨gb758,0,none⟩) (Kd.R_types HO754.out BK758.out (by decide)) (fun _ hk=>hk.2) (.bool t751)) (fun _ hk=>hk.2) (.slice Ao207 t752.length co207)) (fun _ hk=>hk.2) (.slice Ao208 t755.length co208)) (fun _ h_=>h_.1))) hb);replace HO757:=aZ (Kd.R_below (by (with_reducible repeat (first|apply Kd.R_alloc|apply Kd.R_drewN|apply Kd.R_drew));exact (Kd.R_mono (Kd.R_far (p:=⟨gb758,2,none⟩) (Kd.R_far (p:=⟨gb758,1,none⟩) (Kd.R_far (p:=⟨gb758,0,none⟩) (Kd.R_types HO757.out BK758.out (by decide)) (fun _ hk=>hk.2) (.bool t751)) (fun _ hk=>hk.2) (.slice Ao207 t752.length co207)) (fun _ hk=>hk.2) (.slice Ao208 t755.length co208)) (fun _ h_=>h_.1))) hb);replace BK681:=aZ (blk_below (g:=gb681) (o:=.cells #[.string t675,.string t676] 61 (0,0)) (zq BK681) hb);replace BK682:=aZ (blk_below (g:=gb682) (o:=.cells #[.string t678,.string t679] 61 (0,0)) (zq BK682) hb);replace BK701:=aZ (blk_below (g:=gb701) (o:=.cells #[.bool x702000_7,.slice Ao139 x702001_7.length co139,.slice Ao140 x702002_7.length co140] 67 (0,0)) (zq BK701) hb);replace BK702:=aZ (blk_below (g:=gb702) (o:=.cells #[.bool x703000_102,.slice Ao141 x703001_102.length co141,.slice Ao142 x703002_102.length co142] 67 (0,0)) (zq BK702) hb);replace BK720:=aZ (blk_below (g:=gb720) (o:=.cells #[.string t717,.string t718] 61 (0,0)) (zq BK720) hb);replace BK741:=aZ (blk_below (g:=gb741) (o:=.cells #[.string t738,.string t739] 61 (0,0)) (zq BK741) hb);replace BK758:=sP (.cells #[.bool t751,.slice Ao207 t752.length co207,.slice Ao208 t755.length co208] 67 (0,0)) BK758 hb;replace HB:=sB hb;clear hb)|(refine box_ev 16 #[.string (⟨#[]⟩:ByteArray),.string (⟨#[]⟩:ByteArray)] 61 ?_;intro gb781 hg w216 hbox hb;replace HO_702001:=yE HO_702001 hg hb;replace HO_702002:=yE HO_702002 hg hb;replace HO_703001:=yE HO_703001 hg hb;replace HO_703002:=yE HO_703002 hg hb;replace HO754:=yR HO754 hb;replace HO757:=yR HO757 hb;have BK781:=aZ hbox;have GE781:=sG hg;replace HB:=sB hb;have NB681_781:=sl hg BK681;have NB781_681:=sg hg BK681;replace BK681:=sK BK681 hb;have NB682_781:=sl hg BK682;have NB781_682:=sg hg BK682;replace BK682:=sK BK682 hb;have NB701_781:=sl hg BK701;have NB781_701:=sg hg BK701;replace BK701:=sK BK701 hb;have NB702_781:=sl hg BK702;have NB781_702:=sg hg BK702;replace BK702:=sK BK702 hb;have NB720_781:=sl hg BK720;have NB781_720:=sg hg BK720;replace BK720:=sK BK720 hb;have NB741_781:=sl hg BK741;have NB781_741:=sg hg BK741;replace BK741:=sK BK741 hb;have NB758_781:=sl hg BK758;have NB781_758:=sg hg BK758;replace BK758:=sK BK758 hb;clear hb hbox hg;have hnb217:=NB781_681.out;have hnc217:=NB681_781.out;have hnb218:=NB781_682.out;have hnc218:=NB682_781.out;have hnb219:=NB781_701.out;have hnc219:=NB701_781.out;have hnb220:=NB781_702.out;have hnc220:=NB702_781.out;have hnb221:=NB781_720.out;have hnc221:=NB720_781.out;have hnb222:=NB781_741.out;have hnc222:=NB741_781.out;have hnb223:=NB781_758.out;have hnc223:=NB758_781.out;obtain ⟨hcz224_0,hfz224_0⟩:=zc BK781 0 (.string (⟨#[]⟩:ByteArray)) rfl;obtain ⟨hcz224_1,hfz224_1⟩:=zc BK781 1 (.string (⟨#[]⟩:ByteArray)) rfl;obtain ⟨hcz225_0,hfz225_0⟩:=zc BK758 0 (.bool t751) rfl;obtain ⟨hcz225_1,hfz225_1⟩:=zc BK758 1 (.slice Ao207 t752.length co207) rfl;obtain ⟨hcz225_2,hfz225_2⟩:=zc BK758 2 (.slice Ao208 t755.length co208) rfl)|(refine zg (some 105) func50 #[.agg #[.string t778,.string t779],.int .i64 t780,.agg #[.bool t751,.slice Ao207 t752.length co207,.slice Ao208 t755.length co208],.int .i64 x8_150] ?_;(with_reducible refine (weftlaw1_same.calls t778 t779 t780 t751 _ _ t752 _ _ t755 x8_150 t782 _ ?side1 ?side2 ?side3 ?side4 ?side5 A197.out).mono ?_);(case side1=>refine (Kd.R_reads' (e:=3) (base:=w.heap.size) (ok:=fun k_=>some k_≠(.slice Ao208 t755.length co208:Value).ownBlock) (n:=t752.length) (c:=co207) ?_).2.2;exact (by (with_reducible repeat (first|apply Kd.R_alloc|apply Kd.R_drewN|apply Kd.R_drew));exact (Kd.R_mono (Kd.R_far (p:=⟨gb781,1,none⟩) (Kd.R_far (p:=⟨gb781,0,none⟩) (Kd.R_types HO754.out BK781.out (by decide)) (fun _ hk=>hk.2) (.string t778)) (fun _ hk=>hk.2) (.string t779)) (fun _ h_=>h_.1))));(case side2=>exact (Kd.R_reads' HO754.out).2.1);(case side3=>refine (Kd.R_reads' (e:=3) (base:=w.heap.size) (ok:=fun k_=>some k_≠(.slice Ao207 t752.length co207:Value).ownBlock) (n:=t755.length) (c:=co208) ?_).2.2;exact (by (with_reducible repeat (first|apply Kd.R_alloc|apply Kd.R_drewN|apply Kd.R_drew));exact (Kd.R_mono (Kd.R_far (p:=⟨gb781,1,none⟩) (Kd.R_far (p:=⟨gb781,0,none⟩) (Kd.R_types HO757.out BK781.out (by decide)) (fun _ hk=>hk.2) (.string t778)) (fun _ hk=>hk.2) (.string t779)) (fun _ h_=>h_.1))));(case side4=>exact (Kd.R_reads' HO757.out).2.1);(case side5=>exact Tryz.Gl.below HG.out bw);rintro e w226 ⟨rfl,hb⟩;refine ⟨_,rfl,?_⟩;replace HO_702001:=aZ (Kd.V_below (by (with_reducible repeat (first|apply Kd.V_alloc|apply Kd.V_drewN|apply Kd.V_drew));exact (Kd.V_mono (Kd.V_far (p:=⟨gb781,1,none⟩) (Kd.V_far (p:=⟨gb781,0,none⟩) (Kd.V_mono HO_702001.out (fun k_ hk=>(⟨hk,hk.2⟩:_∧k_≠gb781))) (fun _ hk=>hk.2) (.string t778)) (fun _ hk=>hk.2) (.string t779)) (fun _ h_=>h_.1))) hb);replace HO_702002:=aZ (Kd.V_below (by (with_reducible repeat (first|apply Kd.V_alloc|apply Kd.V_drewN|apply Kd.V_drew));exact (Kd.V_mono (Kd.V_far (p:=⟨gb781,1,none⟩) (Kd.V_far (p:=⟨gb781,0,none⟩) (Kd.V_mono HO_702002.out (fun k_ hk=>(⟨hk,hk.2⟩:_∧k_≠gb781))) (fun _ hk=>hk.2) (.string t778)) (fun _ hk=>hk.2) (.string t779)) (fun _ h_=>h_.1))) hb);replace HO_703001:=aZ (Kd.V_below (by (with_reducible repeat (first|apply Kd.V_alloc|apply Kd.V_drewN|apply Kd.V_drew));exact (Kd.V_mono (Kd.V_far (p:=⟨gb781,1,none⟩) (Kd.V_far (p:=⟨gb781,0,none⟩) (Kd.V_mono HO_703001.out (fun k_ hk=>(⟨hk,hk.2⟩:_∧k_≠gb781))) (fun _ hk=>hk.2) (.string t778)) (fun _ hk=>hk.2) (.string t779)) (fun _ h_=>h_.1))) hb);replace HO_703002:=aZ (Kd.V_below (by (with_reducible repeat (first|apply Kd.V_alloc|apply Kd.V_drewN|apply Kd.V_drew));exact (Kd.V_mono (Kd.V_far (p:=⟨gb781,1,none⟩) (Kd.V_far (p:=⟨gb781,0,none⟩) (Kd.V_mono HO_703002.out (fun k_ hk=>(⟨hk,hk.2⟩:_∧k_≠gb781))) (fun _ hk=>hk.2) (.string t778)) (fun _ hk=>hk.2) (.string t779)) (fun _ h_=>h_.1))) hb);replace HO754:=aZ (Kd.R_below (by (with_reducible repeat (first|apply Kd.R_alloc|apply Kd.R_drewN|apply Kd.R_drew));exact (Kd.R_mono (Kd.R_far (p:=⟨gb781,1,none⟩) (Kd.R_far (p:=⟨gb781,0,none⟩) (Kd.R_types HO754.out BK781.out (by decide)) (fun _ hk=>hk.2) (.string t778)) (fun _ hk=>hk.2) (.string t779)) (fun _ h_=>h_.1))) hb);replace HO757:=aZ (Kd.R_below (by (with_reducible repeat (first|apply Kd.R_alloc|apply Kd.R_drewN|apply Kd.R_drew));exact (Kd.R_mono (Kd.R_far (p:=⟨gb781,1,none⟩) (Kd.R_far (p:=⟨gb781,0,none⟩) (Kd.R_types HO757.out BK781.out (by decide)) (fun _ hk=>hk.2) (.string t778)) (fun _ hk=>hk.2) (.string t779)) (fun _ h_=>h_.1))) hb);replace BK681:=aZ (blk_below (g:=gb681) (o:=.cells #[.string t675,.string t676] 61 (0,0)) (zq BK681) hb);replace BK682:=aZ (blk_below (g:=gb682) (o:=.cells #[.string t678,.string t679] 61 (0,0)) (zq BK682) hb);replace BK701:=aZ (blk_below (g:=gb701) (o:=.cells #[.bool x702000_7,.slice Ao139 x702001_7.length co139,.slice Ao140 x702002_7.length co140] 67 (0,0)) (zq BK701) hb);replace BK702:=aZ (blk_below (g:=gb702) (o:=.cells #[.bool x703000_102,.slice Ao141 x703001_102.length co141,.slice Ao142 x703002_102.length co142] 67 (0,0)) (zq BK702) hb);replace BK720:=aZ (blk_below (g:=gb720) (o:=.cells #[.string t717,.string t718] 61 (0,0)) (zq BK720) hb);replace BK741:=aZ (blk_below (g:=gb741) (o:=.cells #[.string t738,.string t739] 61 (0,0)) (zq BK741) hb);replace BK758:=aZ (blk_below (g:=gb758) (o:=.cells #[.bool t751,.slice Ao207 t752.length co207,.slice Ao208 t755.length co208] 67 (0,0)) (zq BK758) hb);replace BK781:=sP (.cells #[.string t778,.string t779] 61 (0,0)) BK781 hb;replace HB:=sB hb;clear hb))
               go_ret
               exact ⟨ze,bw⟩
              rw [if_pos c154] at H
              have c154b0:(x8_150==0)=true:=beq_iff_eq.mpr c154
              have c154b1:(x8_150 != 0)=false:=bne_eq_false_iff_eq.mpr c154
              clear c154
              obtain ⟨⟨t759,t760,t763⟩,A155,H⟩:=zB H
              (try dsimp only at H)
              obtain ⟨⟨t766,t767,t770⟩,A156,H⟩:=zB H
              (try dsimp only at H)
              obtain ⟨⟨t773,t774,t775⟩,A157,H⟩:=zB H
              (try dsimp only at H)
              obtain ⟨t777,A158,H⟩:=zB H
              obtain rfl:=Option.some.inj H
              go_wp2_with (first|(refine zg (some 88) func48 #[.int .i64 0] ?_;(with_reducible refine (weftref1_Int.calls kj150 0 t751 t752 t755 _ A153.out).mono ?_);rintro e w159 ⟨v753,v756,rfl,ho0,ho1,hb⟩;refine ⟨_,rfl,?_⟩;replace HO_702001:=aZ (Kd.V_mono (Kd.V_told (Kd.V_told (Kd.V_old (zV HO_702001) hb) (Kd.R_base ho0)) (Kd.R_base ho1)) (fun _ h_=>h_.1));replace HO_702002:=aZ (Kd.V_mono (Kd.V_told (Kd.V_told (Kd.V_old (zV HO_702002) hb) (Kd.R_base ho0)) (Kd.R_base ho1)) (fun _ h_=>h_.1));replace HO_703001:=aZ (Kd.V_mono (Kd.V_told (Kd.V_told (Kd.V_old (zV HO_703001) hb) (Kd.R_base ho0)) (Kd.R_base ho1)) (fun _ h_=>h_.1));replace HO_703002:=aZ (Kd.V_mono (Kd.V_told (Kd.V_told (Kd.V_old (zV HO_703002) hb) (Kd.R_base ho0)) (Kd.R_base ho1)) (fun _ h_=>h_.1));have HO754:=aZ (Kd.R_lower ho0 bs);have HO757:=aZ (Kd.R_lower ho1 bs);replace BK681:=sK BK681 hb;replace BK682:=sK BK682 hb;replace BK701:=sK BK701 hb;replace BK702:=sK BK702 hb;replace BK720:=sK BK720 hb;replace BK741:=sK BK741 hb;replace HB:=sB hb;clear hb ho0 ho1)|(refine box_ev 15 #[.bool false,.slice none 0 0,.slice none 0 0] 67 ?_;intro gb758 hg w160 hbox hb;replace HO_702001:=yE HO_702001 hg hb;replace HO_702002:=yE HO_702002 hg hb;replace HO_703001:=yE HO_703001 hg hb;replace HO_703002:=yE HO_703002 hg hb;replace HO754:=yR HO754 hb;replace HO757:=yR HO757 hb;have BK758:=aZ hbox;have GE758:=sG hg;replace HB:=sB hb;have NB681_758:=sl hg BK681;have NB758_681:=sg hg BK681;replace BK681:=sK BK681 hb;have NB682_758:=sl hg BK682;have NB758_682:=sg hg BK682;replace BK682:=sK BK682 hb;have NB701_758:=sl hg BK701;have NB758_701:=sg hg BK701;replace BK701:=sK BK701 hb;have NB702_758:=sl hg BK702;have NB758_702:=sg hg BK702;replace BK702:=sK BK702 hb;have NB720_758:=sl hg BK720;have NB758_720:=sg hg BK720;replace BK720:=sK BK720 hb;have NB741_758:=sl hg BK741;have NB758_741:=sg hg BK741;replace BK741:=sK BK741 hb;clear hb hbox hg;have hnb161:=NB758_681.out;have hnc161:=NB681_758.out;have hnb162:=NB758_682.out;have hnc162:=NB682_758.out;have hnb163:=NB758_701.out;have hnc163:=NB701_758.out;have hnb164:=NB758_702.out;have hnc164:=NB702_758.out;have hnb165:=NB758_720.out;have hnc165:=NB720_758.out;have hnb166:=NB758_741.out;have hnc166:=NB741_758.out;obtain ⟨hcz167_0,hfz167_0⟩:=zc BK758 0 (.bool false) rfl;obtain ⟨hcz167_1,hfz167_1⟩:=zc BK758 1 (.slice none 0 0) rfl;obtain ⟨hcz167_2,hfz167_2⟩:=zc BK758 2 (.slice none 0 0) rfl;obtain ⟨Ao168,co168,rfl⟩:=Kd.R_slice HO754.out;obtain ⟨Ao169,co169,rfl⟩:=Kd.R_slice HO757.out;have hnb170:=NB681_682.out;have hnc170:=NB682_681.out;have hnb171:=NB681_701.out;have hnc171:=NB701_681.out;have hnb172:=NB681_702.out;have hnc172:=NB702_681.out;have hnb173:=NB681_720.out;have hnc173:=NB720_681.out;have hnb174:=NB681_741.out;have hnc174:=NB741_681.out;obtain ⟨hcz175_0,hfz175_0⟩:=zc BK681 0 (.string t675) rfl;obtain ⟨hcz175_1,hfz175_1⟩:=zc BK681 1 (.string t676) rfl)|(refine zg (some 92) func58 #[.agg #[.string t675,.string t676]] ?_;(with_reducible refine (weftref1_Of.calls kj150 t675 t676 t759 t760 t763 _ A155.out).mono ?_);rintro e w176 ⟨v761,v764,rfl,ho0,ho1,hb⟩;refine ⟨_,rfl,?_⟩;replace HO_702001:=aZ (Kd.V_below (by (with_reducible repeat (first|apply Kd.V_alloc|apply Kd.V_drewN|apply Kd.V_drew));exact (Kd.V_mono (Kd.V_far (p:=⟨gb758,2,none⟩) (Kd.V_far (p:=⟨gb758,1,none⟩) (Kd.V_far (p:=⟨gb758,0,none⟩) (Kd.V_mono HO_702001.out (fun k_ hk=>(⟨hk,hk.2⟩:_∧k_≠gb758))) (fun _ hk=>hk.2) (.bool t751)) (fun _ hk=>hk.2) (.slice Ao168 t752.length co168)) (fun _ hk=>hk.2) (.slice Ao169 t755.length co169)) (fun _ h_=>h_.1))) hb);replace HO_702002:=aZ (Kd.V_below (by (with_reducible repeat (first|apply Kd.V_alloc|apply Kd.V_drewN|apply Kd.V_drew));exact (Kd.V_mono (Kd.V_far (p:=⟨gb758,2,none⟩) (Kd.V_far (p:=⟨gb758,1,none⟩) (Kd.V_far (p:=⟨gb758,0,none⟩) (Kd.V_mono HO_702002.out (fun k_ hk=>(⟨hk,hk.2⟩:_∧k_≠gb758))) (fun _ hk=>hk.2) (.bool t751)) (fun _ hk=>hk.2) (.slice Ao168 t752.length co168)) (fun _ hk=>hk.2) (.slice Ao169 t755.length co169)) (fun _ h_=>h_.1))) hb);replace HO_703001:=aZ (Kd.V_below (by (with_reducible repeat (first|apply Kd.V_alloc|apply Kd.V_drewN|apply Kd.V_drew));exact (Kd.V_mono (Kd.V_far (p:=⟨gb758,2,none⟩) (Kd.V_far (p:=⟨gb758,1,none⟩) (Kd.V_far (p:=⟨gb758,0,none⟩) (Kd.V_mono HO_703001.out (fun k_ hk=>(⟨hk,hk.2⟩:_∧k_≠gb758))) (fun _ hk=>hk.2) (.bool t751)) (fun _ hk=>hk.2) (.slice Ao168 t752.length co168)) (fun _ hk=>hk.2) (.slice Ao169 t755.length co169)) (fun _ h_=>h_.1))) hb);replace HO_703002:=aZ (Kd.V_below (by (with_reducible repeat (first|apply Kd.V_alloc|apply Kd.V_drewN|apply Kd.V_drew));exact (Kd.V_mono (Kd.V_far (p:=⟨gb758,2,none⟩) (Kd.V_far (p:=⟨gb758,1,none⟩) (Kd.V_far (p:=⟨gb758,0,none⟩) (Kd.V_mono HO_703002.out (fun k_ hk=>(⟨hk,hk.2⟩:_∧k_≠gb758))) (fun _ hk=>hk.2) (.bool t751)) (fun _ hk=>hk.2) (.slice Ao168 t752.length co168)) (fun _ hk=>hk.2) (.slice Ao169 t755.length co169)) (fun _ h_=>h_.1))) hb);have HO762:=yL (fun k_=>some k_≠(.slice Ao168 t752.length co168:Value).ownBlock∧some k_≠(.slice Ao169 t755.length co169:Value).ownBlock∧k_≠gb681∧k_≠gb682∧k_≠gb701∧k_≠gb702∧k_≠gb720∧k_≠gb741∧k_≠gb758) ho0 (fun k_ hk_=>⟨(Kd.fresh' (Kd.R_lt (by (with_reducible repeat (first|apply Kd.R_alloc|apply Kd.R_drewN|apply Kd.R_drew));exact (Kd.R_mono (Kd.R_far (p:=⟨gb758,2,none⟩) (Kd.R_far (p:=⟨gb758,1,none⟩) (Kd.R_far (p:=⟨gb758,0,none⟩) (Kd.R_types HO754.out BK758.out (by decide)) (fun _ hk=>hk.2) (.bool t751)) (fun _ hk=>hk.2) (.slice Ao168 t752.length co168)) (fun _ hk=>hk.2) (.slice Ao169 t755.length co169)) (fun _ h_=>h_.1)))) k_ hk_),(Kd.fresh' (Kd.R_lt (by (with_reducible repeat (first|apply Kd.R_alloc|apply Kd.R_drewN|apply Kd.R_drew));exact (Kd.R_mono (Kd.R_far (p:=⟨gb758,2,none⟩) (Kd.R_far (p:=⟨gb758,1,none⟩) (Kd.R_far (p:=⟨gb758,0,none⟩) (Kd.R_types HO757.out BK758.out (by decide)) (fun _ hk=>hk.2) (.bool t751)) (fun _ hk=>hk.2) (.slice Ao168 t752.length co168)) (fun _ hk=>hk.2) (.slice Ao169 t755.length co169)) (fun _ h_=>h_.1)))) k_ hk_),(Kd.freshB (g:=gb681) (o:=.cells #[.string t675,.string t676] 61 (0,0)) (zq BK681) k_ hk_),(Kd.freshB (g:=gb682) (o:=.cells #[.string t678,.string t679] 61 (0,0)) (zq BK682) k_ hk_),(Kd.freshB (g:=gb701) (o:=.cells #[.bool x702000_7,.slice Ao139 x702001_7.length co139,.slice Ao140 x702002_7.length co140] 67 (0,0)) (zq BK701) k_ hk_),(Kd.freshB (g:=gb702) (o:=.cells #[.bool x703000_102,.slice Ao141 x703001_102.length co141,.slice Ao142 x703002_102.length co142] 67 (0,0)) (zq BK702) k_ hk_),(Kd.freshB (g:=gb720) (o:=.cells #[.string t717,.string t718] 61 (0,0)) (zq BK720) k_ hk_),(Kd.freshB (g:=gb741) (o:=.cells #[.string t738,.string t739] 61 (0,0)) (zq BK741) k_ hk_),(Kd.freshB (g:=gb758) (o:=.cells #[.bool t751,.slice Ao168 t752.length co168,.slice Ao169 t755.length co169] 67 (0,0)) (zp BK758) k_ hk_)⟩);have HO765:=yL (fun k_=>some k_≠(.slice Ao168 t752.length co168:Value).ownBlock∧some k_≠(.slice Ao169 t755.length co169:Value).ownBlock∧k_≠gb681∧k_≠gb682∧k_≠gb701∧k_≠gb702∧k_≠gb720∧k_≠gb741∧k_≠gb758) ho1 (fun k_ hk_=>⟨(Kd.fresh' (Kd.R_lt (by (with_reducible repeat (first|apply Kd.R_alloc|apply Kd.R_drewN|apply Kd.R_drew));exact (Kd.R_mono (Kd.R_far (p:=⟨gb758,2,none⟩) (Kd.R_far (p:=⟨gb758,1,none⟩) (Kd.R_far (p:=⟨gb758,0,none⟩) (Kd.R_types HO754.out BK758.out (by decide)) (fun _ hk=>hk.2) (.bool t751)) (fun _ hk=>hk.2) (.slice Ao168 t752.length co168)) (fun _ hk=>hk.2) (.slice Ao169 t755.length co169)) (fun _ h_=>h_.1)))) k_ hk_),(Kd.fresh' (Kd.R_lt (by (with_reducible repeat (first|apply Kd.R_alloc|apply Kd.R_drewN|apply Kd.R_drew));exact (Kd.R_mono (Kd.R_far (p:=⟨gb758,2,none⟩) (Kd.R_far (p:=⟨gb758,1,none⟩) (Kd.R_far (p:=⟨gb758,0,none⟩) (Kd.R_types HO757.out BK758.out (by decide)) (fun _ hk=>hk.2) (.bool t751)) (fun _ hk=>hk.2) (.slice Ao168 t752.length co168)) (fun _ hk=>hk.2) (.slice Ao169 t755.length co169)) (fun _ h_=>h_.1)))) k_ hk_),(Kd.freshB (g:=gb681) (o:=.cells #[.string t675,.string t676] 61 (0,0)) (zq BK681) k_ hk_),(Kd.freshB (g:=gb682) (o:=.cells #[.string t678,.string t679] 61 (0,0)) (zq BK682) k_ hk_),(Kd.freshB (g:=gb701) (o:=.cells #[.bool x702000_7,.slice Ao139 x702001_7.length co139,.slice Ao140 x702002_7.length co140] 67 (0,0)) (zq BK701) k_ hk_),(Kd.freshB (g:=gb702) (o:=.cells #[.bool x703000_102,.slice Ao141 x703001_102.length co141,.slice Ao142 x703002_102.length co142] 67 (0,0)) (zq BK702) k_ hk_),(Kd.freshB (g:=gb720) (o:=.cells #[.string t717,.string t718] 61 (0,0)) (zq BK720) k_ hk_),(Kd.freshB (g:=gb741) (o:=.cells #[.string t738,.string t739] 61 (0,0)) (zq BK741) k_ hk_),(Kd.freshB (g:=gb758) (o:=.cells #[.bool t751,.slice Ao168 t752.length co168,.slice Ao169 t755.length co169] 67 (0,0)) (zp BK758) k_ hk_)⟩);replace HO754:=aZ (Kd.R_below (by (with_reducible repeat (first|apply Kd.R_alloc|apply Kd.R_drewN|apply Kd.R_drew));exact (Kd.R_mono (Kd.R_far (p:=⟨gb758,2,none⟩) (Kd.R_far (p:=⟨gb758,1,none⟩) (Kd.R_far (p:=⟨gb758,0,none⟩) (Kd.R_types HO754.out BK758.out (by decide)) (fun _ hk=>hk.2) (.bool t751)) (fun _ hk=>hk.2) (.slice Ao168 t752.length co168)) (fun _ hk=>hk.2) (.slice Ao169 t755.length co169)) (fun _ h_=>h_.1))) hb);replace HO757:=aZ (Kd.R_below (by (with_reducible repeat (first|apply Kd.R_alloc|apply Kd.R_drewN|apply Kd.R_drew));exact (Kd.R_mono (Kd.R_far (p:=⟨gb758,2,none⟩) (Kd.R_far (p:=⟨gb758,1,none⟩) (Kd.R_far (p:=⟨gb758,0,none⟩) (Kd.R_types HO757.out BK758.out (by decide)) (fun _ hk=>hk.2) (.bool t751)) (fun _ hk=>hk.2) (.slice Ao168 t752.length co168)) (fun _ hk=>hk.2) (.slice Ao169 t755.length co169)) (fun _ h_=>h_.1))) hb);replace BK681:=aZ (blk_below (g:=gb681) (o:=.cells #[.string t675,.string t676] 61 (0,0)) (zq BK681) hb);replace BK682:=aZ (blk_below (g:=gb682) (o:=.cells #[.string t678,.string t679] 61 (0,0)) (zq BK682) hb);replace BK701:=aZ (blk_below (g:=gb701) (o:=.cells #[.bool x702000_7,.slice Ao139 x702001_7.length co139,.slice Ao140 x702002_7.length co140] 67 (0,0)) (zq BK701) hb);replace BK702:=aZ (blk_below (g:=gb702) (o:=.cells #[.bool x703000_102,.slice Ao141 x703001_102.length co141,.slice Ao142 x703002_102.length co142] 67 (0,0)) (zq BK702) hb);replace BK720:=aZ (blk_below (g:=gb720) (o:=.cells #[.string t717,.string t718] 61 (0,0)) (zq BK720) hb);replace BK741:=aZ (blk_below (g:=gb741) (o:=.cells #[.string t738,.string t739] 61 (0,0)) (zq BK741) hb);replace BK758:=sP (.cells #[.bool t751,.slice Ao168 t752.length co168,.slice Ao169 t755.length co169] 67 (0,0)) BK758 hb;replace HB:=sB hb;clear hb ho0 ho1;obtain ⟨Ao177,co177,rfl⟩:=Kd.V_slice HO762.out;obtain ⟨Ao178,co178,rfl⟩:=Kd.V_slice HO765.out)|(refine zg (some 94) func64 #[.agg #[.bool t759,.slice Ao177 t760.length co177,.slice Ao178 t763.length co178],.int .i64 a1] ?_;(with_reducible refine (weftref1_Num_Pow.calls kj150 t759 _ _ t760 _ _ t763 a1 t766 t767 t770 _ ?side1 ?side2 ?side3 ?side4 A156.out).mono ?_);(case side1=>exact zr HO762);(case side2=>exact zk HO762);(case side3=>exact zr HO765);(case side4=>exact zk HO765);rintro e w179 ⟨v768,v771,rfl,ho0,ho1,hb⟩;refine ⟨_,rfl,?_⟩;replace HO_702001:=yV HO_702001 hb;replace HO_702002:=yV HO_702002 hb;replace HO_703001:=yV HO_703001 hb;replace HO_703002:=yV HO_703002 hb;replace HO762:=yV HO762 hb;replace HO765:=yV HO765 hb;have HO769:=yL (fun k_=>some k_≠(.slice Ao168 t752.length co168:Value).ownBlock∧some k_≠(.slice Ao169 t755.length co169:Value).ownBlock∧k_≠gb681∧k_≠gb682∧k_≠gb701∧k_≠gb702∧k_≠gb720∧k_≠gb741∧k_≠gb758) ho0 (fun k_ hk_=>⟨(yf HO754 hk_),(yf HO757 hk_),(zf BK681 hk_),(zf BK682 hk_),(zf BK701 hk_),(zf BK702 hk_),(zf BK720 hk_),(zf BK741 hk_),(zf BK758 hk_)⟩);have HO772:=yL (fun k_=>some k_≠(.slice Ao168 t752.length co168:Value).ownBlock∧some k_≠(.slice Ao169 t755.length co169:Value).ownBlock∧k_≠gb681∧k_≠gb682∧k_≠gb701∧k_≠gb702∧k_≠gb720∧k_≠gb741∧k_≠gb758) ho1 (fun k_ hk_=>⟨(yf HO754 hk_),(yf HO757 hk_),(zf BK681 hk_),(zf BK682 hk_),(zf BK701 hk_),(zf BK702 hk_),(zf BK720 hk_),(zf BK741 hk_),(zf BK758 hk_)⟩);replace HO754:=yR HO754 hb;replace HO757:=yR HO757 hb;replace BK681:=sK BK681 hb;replace BK682:=sK BK682 hb;replace BK701:=sK BK701 hb;replace BK702:=sK BK702 hb;replace BK720:=sK BK720 hb;replace BK741:=sK BK741 hb;replace BK758:=sK BK758 hb;replace HB:=sB hb;clear hb ho0 ho1;obtain ⟨hcz180_0,hfz180_0⟩:=zc BK758 0 (.bool t751) rfl;obtain ⟨hcz180_1,hfz180_1⟩:=zc BK758 1 (.slice Ao168 t752.length co168) rfl;obtain ⟨hcz180_2,hfz180_2⟩:=zc BK758 2 (.slice Ao169 t755.length co169) rfl;obtain ⟨Ao181,co181,rfl⟩:=Kd.V_slice HO769.out;obtain ⟨Ao182,co182,rfl⟩:=Kd.V_slice HO772.out;obtain ⟨hcz183_0,hfz183_0⟩:=zc BK681 0 (.string t675) rfl;obtain ⟨hcz183_1,hfz183_1⟩:=zc BK681 1 (.string t676) rfl)|(refine zg (some 98) func65 #[.agg #[.string t675,.string t676],.int .i64 a1] ?_;(with_reducible refine (num_Power.calls kj150 t675 t676 a1 t773 t774 t775 _ ?side1 A157.out).mono ?_);(case side1=>exact Tryz.Gl.below HG.out bw);rintro e w184 ⟨rfl,hb⟩;refine ⟨_,rfl,?_⟩;replace HO_702001:=aZ (Kd.V_below (by (with_reducible repeat (first|apply Kd.V_alloc|apply Kd.V_drewN|apply Kd.V_drew));exact (Kd.V_mono (Kd.V_far (p:=⟨gb758,2,none⟩) (Kd.V_far (p:=⟨gb758,1,none⟩) (Kd.V_far (p:=⟨gb758,0,none⟩) (Kd.V_mono HO_702001.out (fun k_ hk=>(⟨hk,hk.2⟩:_∧k_≠gb758))) (fun _ hk=>hk.2) (.bool t766)) (fun _ hk=>hk.2) (.slice Ao181 t767.length co181)) (fun _ hk=>hk.2) (.slice Ao182 t770.length co182)) (fun _ h_=>h_.1))) hb);replace HO_702002:=aZ (Kd.V_below (by (with_reducible repeat (first|apply Kd.V_alloc|apply Kd.V_drewN|apply Kd.V_drew));exact (Kd.V_mono (Kd.V_far (p:=⟨gb758,2,none⟩) (Kd.V_far (p:=⟨gb758,1,none⟩) (Kd.V_far (p:=⟨gb758,0,none⟩) (Kd.V_mono HO_702002.out (fun k_ hk=>(⟨hk,hk.2⟩:_∧k_≠gb758))) (fun _ hk=>hk.2) (.bool t766)) (fun _ hk=>hk.2) (.slice Ao181 t767.length co181)) (fun _ hk=>hk.2) (.slice Ao182 t770.length co182)) (fun _ h_=>h_.1))) hb);replace HO_703001:=aZ (Kd.V_below (by (with_reducible repeat (first|apply Kd.V_alloc|apply Kd.V_drewN|apply Kd.V_drew));exact (Kd.V_mono (Kd.V_far (p:=⟨gb758,2,none⟩) (Kd.V_far (p:=⟨gb758,1,none⟩) (Kd.V_far (p:=⟨gb758,0,none⟩) (Kd.V_mono HO_703001.out (fun k_ hk=>(⟨hk,hk.2⟩:_∧k_≠gb758))) (fun _ hk=>hk.2) (.bool t766)) (fun _ hk=>hk.2) (.slice Ao181 t767.length co181)) (fun _ hk=>hk.2) (.slice Ao182 t770.length co182)) (fun _ h_=>h_.1))) hb);replace HO_703002:=aZ (Kd.V_below (by (with_reducible repeat (first|apply Kd.V_alloc|apply Kd.V_drewN|apply Kd.V_drew));exact (Kd.V_mono (Kd.V_far (p:=⟨gb758,2,none⟩) (Kd.V_far (p:=⟨gb758,1,none⟩) (Kd.V_far (p:=⟨gb758,0,none⟩) (Kd.V_mono HO_703002.out (fun k_ hk=>(⟨hk,hk.2⟩:_∧k_≠gb758))) (fun _ hk=>hk.2) (.bool t766)) (fun _ hk=>hk.2) (.slice Ao181 t767.length co181)) (fun _ hk=>hk.2) (.slice Ao182 t770.length co182)) (fun _ h_=>h_.1))) hb);replace HO754:=aZ (Kd.R_below (by (with_reducible repeat (first|apply Kd.R_alloc|apply Kd.R_drewN|apply Kd.R_drew));exact (Kd.R_mono (Kd.R_far (p:=⟨gb758,2,none⟩) (Kd.R_far (p:=⟨gb758,1,none⟩) (Kd.R_far (p:=⟨gb758,0,none⟩) (Kd.R_types HO754.out BK758.out (by decide)) (fun _ hk=>hk.2) (.bool t766)) (fun _ hk=>hk.2) (.slice Ao181 t767.length co181)) (fun _ hk=>hk.2) (.slice Ao182 t770.length co182)) (fun _ h_=>h_.1))) hb);replace HO757:=aZ (Kd.R_below (by (with_reducible repeat (first|apply Kd.R_alloc|apply Kd.R_drewN|apply Kd.R_drew));exact (Kd.R_mono (Kd.R_far (p:=⟨gb758,2,none⟩) (Kd.R_far (p:=⟨gb758,1,none⟩) (Kd.R_far (p:=⟨gb758,0,none⟩) (Kd.R_types HO757.out BK758.out (by decide)) (fun _ hk=>hk.2) (.bool t766)) (fun _ hk=>hk.2) (.slice Ao181 t767.length co181)) (fun _ hk=>hk.2) (.slice Ao182 t770.length co182)) (fun _ h_=>h_.1))) hb);replace HO762:=aZ (Kd.V_below (by (with_reducible repeat (first|apply Kd.V_alloc|apply Kd.V_drewN|apply Kd.V_drew));exact (Kd.V_mono (Kd.V_far (p:=⟨gb758,2,none⟩) (Kd.V_far (p:=⟨gb758,1,none⟩) (Kd.V_far (p:=⟨gb758,0,none⟩) (Kd.V_mono HO762.out (fun k_ hk=>(⟨hk,hk.2.2.2.2.2.2.2.2⟩:_∧k_≠gb758))) (fun _ hk=>hk.2) (.bool t766)) (fun _ hk=>hk.2) (.slice Ao181 t767.length co181)) (fun _ hk=>hk.2) (.slice Ao182 t770.length co182)) (fun _ h_=>h_.1))) hb);replace HO765:=aZ (Kd.V_below (by (with_reducible repeat (first|apply Kd.V_alloc|apply Kd.V_drewN|apply Kd.V_drew));exact (Kd.V_mono (Kd.V_far (p:=⟨gb758,2,none⟩) (Kd.V_far (p:=⟨gb758,1,none⟩) (Kd.V_far (p:=⟨gb758,0,none⟩) (Kd.V_mono HO765.out (fun k_ hk=>(⟨hk,hk.2.2.2.2.2.2.2.2⟩:_∧k_≠gb758))) (fun _ hk=>hk.2) (.bool t766)) (fun _ hk=>hk.2) (.slice Ao181 t767.length co181)) (fun _ hk=>hk.2) (.slice Ao182 t770.length co182)) (fun _ h_=>h_.1))) hb);replace HO769:=aZ (Kd.V_below (by (with_reducible repeat (first|apply Kd.V_alloc|apply Kd.V_drewN|apply Kd.V_drew));exact (Kd.V_mono (Kd.V_far (p:=⟨gb758,2,none⟩) (Kd.V_far (p:=⟨gb758,1,none⟩) (Kd.V_far (p:=⟨gb758,0,none⟩) (Kd.V_mono HO769.out (fun k_ hk=>(⟨hk,hk.2.2.2.2.2.2.2.2⟩:_∧k_≠gb758))) (fun _ hk=>hk.2) (.bool t766)) (fun _ hk=>hk.2) (.slice Ao181 t767.length co181)) (fun _ hk=>hk.2) (.slice Ao182 t770.length co182)) (fun _ h_=>h_.1))) hb);replace HO772:=aZ (Kd.V_below (by (with_reducible repeat (first|apply Kd.V_alloc|apply Kd.V_drewN|apply Kd.V_drew));exact (Kd.V_mono (Kd.V_far (p:=⟨gb758,2,none⟩) (Kd.V_far (p:=⟨gb758,1,none⟩) (Kd.V_far (p:=⟨gb758,0,none⟩) (Kd.V_mono HO772.out (fun k_ hk=>(⟨hk,hk.2.2.2.2.2.2.2.2⟩:_∧k_≠gb758))) (fun _ hk=>hk.2) (.bool t766)) (fun _ hk=>hk.2) (.slice Ao181 t767.length co181)) (fun _ hk=>hk.2) (.slice Ao182 t770.length co182)) (fun _ h_=>h_.1))) hb);replace BK681:=aZ (blk_below (g:=gb681) (o:=.cells #[.string t675,.string t676] 61 (0,0)) (zq BK681) hb);replace BK682:=aZ (blk_below (g:=gb682) (o:=.cells #[.string t678,.string t679] 61 (0,0)) (zq BK682) hb);replace BK701:=aZ (blk_below (g:=gb701) (o:=.cells #[.bool x702000_7,.slice Ao139 x702001_7.length co139,.slice Ao140 x702002_7.length co140] 67 (0,0)) (zq BK701) hb);replace BK702:=aZ (blk_below (g:=gb702) (o:=.cells #[.bool x703000_102,.slice Ao141 x703001_102.length co141,.slice Ao142 x703002_102.length co142] 67 (0,0)) (zq BK702) hb);replace BK720:=aZ (blk_below (g:=gb720) (o:=.cells #[.string t717,.string t718] 61 (0,0)) (zq BK720) hb);replace BK741:=aZ (blk_below (g:=gb741) (o:=.cells #[.string t738,.string t739] 61 (0,0)) (zq BK741) hb);replace BK758:=sP (.cells #[.bool t766,.slice Ao181 t767.length co181,.slice Ao182 t770.length co182] 67 (0,0)) BK758 hb;replace HB:=sB hb;clear hb)|(refine box_ev 16 #[.string (⟨#[]⟩:ByteArray),.string (⟨#[]⟩:ByteArray)] 61 ?_;intro gb776 hg w185 hbox hb;replace HO_702001:=yE HO_702001 hg hb;replace HO_702002:=yE HO_702002 hg hb;replace HO_703001:=yE HO_703001 hg hb;replace HO_703002:=yE HO_703002 hg hb;replace HO754:=yR HO754 hb;replace HO757:=yR HO757 hb;replace HO762:=yE HO762 hg hb;replace HO765:=yE HO765 hg hb;replace HO769:=yE HO769 hg hb;replace HO772:=yE HO772 hg hb;have BK776:=aZ hbox;have GE776:=sG hg;replace HB:=sB hb;have NB681_776:=sl hg BK681;have NB776_681:=sg hg BK681;replace BK681:=sK BK681 hb;have NB682_776:=sl hg BK682;have NB776_682:=sg hg BK682;replace BK682:=sK BK682 hb;have NB701_776:=sl hg BK701;have NB776_701:=sg hg BK701;replace BK701:=sK BK701 hb;have NB702_776:=sl hg BK702;have NB776_702:=sg hg BK702;replace BK702:=sK BK702 hb;have NB720_776:=sl hg BK720;have NB776_720:=sg hg BK720;replace BK720:=sK BK720 hb;have NB741_776:=sl hg BK741;have NB776_741:=sg hg BK741;replace BK741:=sK BK741 hb;have NB758_776:=sl hg BK758;have NB776_758:=sg hg BK758;replace BK758:=sK BK758 hb;clear hb hbox hg;have hnb186:=NB776_681.out;have hnc186:=NB681_776.out;have hnb187:=NB776_682.out;have hnc187:=NB682_776.out;have hnb188:=NB776_701.out;have hnc188:=NB701_776.out;have hnb189:=NB776_702.out;have hnc189:=NB702_776.out;have hnb190:=NB776_720.out;have hnc190:=NB720_776.out;have hnb191:=NB776_741.out;have hnc191:=NB741_776.out;have hnb192:=NB776_758.out;have hnc192:=NB758_776.out;obtain ⟨hcz193_0,hfz193_0⟩:=zc BK776 0 (.string (⟨#[]⟩:ByteArray)) rfl;obtain ⟨hcz193_1,hfz193_1⟩:=zc BK776 1 (.string (⟨#[]⟩:ByteArray)) rfl;obtain ⟨hcz194_0,hfz194_0⟩:=zc BK758 0 (.bool t766) rfl;obtain ⟨hcz194_1,hfz194_1⟩:=zc BK758 1 (.slice Ao181 t767.length co181) rfl;obtain ⟨hcz194_2,hfz194_2⟩:=zc BK758 2 (.slice Ao182 t770.length co182) rfl)|(refine zg (some 105) func50 #[.agg #[.string t773,.string t774],.int .i64 t775,.agg #[.bool t766,.slice Ao181 t767.length co181,.slice Ao182 t770.length co182],.int .i64 x8_150] ?_;(with_reducible refine (weftlaw1_same.calls t773 t774 t775 t766 _ _ t767 _ _ t770 x8_150 t777 _ ?side1 ?side2 ?side3 ?side4 ?side5 A158.out).mono ?_);(case side1=>refine (Kd.V_reads' (e:=3) (base:=w.heap.size) (ok:=fun k_=>((some k_≠(.slice Ao168 t752.length co168:Value).ownBlock∧(some k_≠(.slice Ao169 t755.length co169:Value).ownBlock∧(k_≠gb681∧(k_≠gb682∧(k_≠gb701∧(k_≠gb702∧(k_≠gb720∧(k_≠gb741∧k_≠gb758))))))))∧k_≠gb776)) (n:=t767.length) (c:=co181) ?_).2.2;exact (by (with_reducible repeat (first|apply Kd.V_alloc|apply Kd.V_drewN|apply Kd.V_drew));exact (Kd.V_mono (Kd.V_far (p:=⟨gb776,1,none⟩) (Kd.V_far (p:=⟨gb776,0,none⟩) (Kd.V_mono HO769.out (fun k_ hk=>(⟨hk,hk.2⟩:_∧k_≠gb776))) (fun _ hk=>hk.2) (.string t773)) (fun _ hk=>hk.2) (.string t774)) (fun _ h_=>h_.1))));(case side2=>exact zk HO769);(case side3=>refine (Kd.V_reads' (e:=3) (base:=w.heap.size) (ok:=fun k_=>((some k_≠(.slice Ao168 t752.length co168:Value).ownBlock∧(some k_≠(.slice Ao169 t755.length co169:Value).ownBlock∧(k_≠gb681∧(k_≠gb682∧(k_≠gb701∧(k_≠gb702∧(k_≠gb720∧(k_≠gb741∧k_≠gb758))))))))∧k_≠gb776)) (n:=t770.length) (c:=co182) ?_).2.2;exact (by (with_reducible repeat (first|apply Kd.V_alloc|apply Kd.V_drewN|apply Kd.V_drew));exact (Kd.V_mono (Kd.V_far (p:=⟨gb776,1,none⟩) (Kd.V_far (p:=⟨gb776,0,none⟩) (Kd.V_mono HO772.out (fun k_ hk=>(⟨hk,hk.2⟩:_∧k_≠gb776))) (fun _ hk=>hk.2) (.string t773)) (fun _ hk=>hk.2) (.string t774)) (fun _ h_=>h_.1))));(case side4=>exact zk HO772);(case side5=>exact Tryz.Gl.below HG.out bw);rintro e w195 ⟨rfl,hb⟩;refine ⟨_,rfl,?_⟩;replace HO_702001:=aZ (Kd.V_below (by (with_reducible repeat (first|apply Kd.V_alloc|apply Kd.V_drewN|apply Kd.V_drew));exact (Kd.V_mono (Kd.V_far (p:=⟨gb776,1,none⟩) (Kd.V_far (p:=⟨gb776,0,none⟩) (Kd.V_mono HO_702001.out (fun k_ hk=>(⟨hk,hk.2⟩:_∧k_≠gb776))) (fun _ hk=>hk.2) (.string t773)) (fun _ hk=>hk.2) (.string t774)) (fun _ h_=>h_.1))) hb);replace HO_702002:=aZ (Kd.V_below (by (with_reducible repeat (first|apply Kd.V_alloc|apply Kd.V_drewN|apply Kd.V_drew));exact (Kd.V_mono (Kd.V_far (p:=⟨gb776,1,none⟩) (Kd.V_far (p:=⟨gb776,0,none⟩) (Kd.V_mono HO_702002.out (fun k_ hk=>(⟨hk,hk.2⟩:_∧k_≠gb776))) (fun _ hk=>hk.2) (.string t773)) (fun _ hk=>hk.2) (.string t774)) (fun _ h_=>h_.1))) hb);replace HO_703001:=aZ (Kd.V_below (by (with_reducible repeat (first|apply Kd.V_alloc|apply Kd.V_drewN|apply Kd.V_drew));exact (Kd.V_mono (Kd.V_far (p:=⟨gb776,1,none⟩) (Kd.V_far (p:=⟨gb776,0,none⟩) (Kd.V_mono HO_703001.out (fun k_ hk=>(⟨hk,hk.2⟩:_∧k_≠gb776))) (fun _ hk=>hk.2) (.string t773)) (fun _ hk=>hk.2) (.string t774)) (fun _ h_=>h_.1))) hb);replace HO_703002:=aZ (Kd.V_below (by (with_reducible repeat (first|apply Kd.V_alloc|apply Kd.V_drewN|apply Kd.V_drew));exact (Kd.V_mono (Kd.V_far (p:=⟨gb776,1,none⟩) (Kd.V_far (p:=⟨gb776,0,none⟩) (Kd.V_mono HO_703002.out (fun k_ hk=>(⟨hk,hk.2⟩:_∧k_≠gb776))) (fun _ hk=>hk.2) (.string t773)) (fun _ hk=>hk.2) (.string t774)) (fun _ h_=>h_.1))) hb);replace HO754:=aZ (Kd.R_below (by (with_reducible repeat (first|apply Kd.R_alloc|apply Kd.R_drewN|apply Kd.R_drew));exact (Kd.R_mono (Kd.R_far (p:=⟨gb776,1,none⟩) (Kd.R_far (p:=⟨gb776,0,none⟩) (Kd.R_types HO754.out BK776.out (by decide)) (fun _ hk=>hk.2) (.string t773)) (fun _ hk=>hk.2) (.string t774)) (fun _ h_=>h_.1))) hb);replace HO757:=aZ (Kd.R_below (by (with_reducible repeat (first|apply Kd.R_alloc|apply Kd.R_drewN|apply Kd.R_drew));exact (Kd.R_mono (Kd.R_far (p:=⟨gb776,1,none⟩) (Kd.R_far (p:=⟨gb776,0,none⟩) (Kd.R_types HO757.out BK776.out (by decide)) (fun _ hk=>hk.2) (.string t773)) (fun _ hk=>hk.2) (.string t774)) (fun _ h_=>h_.1))) hb);replace HO762:=aZ (Kd.V_below (by (with_reducible repeat (first|apply Kd.V_alloc|apply Kd.V_drewN|apply Kd.V_drew));exact (Kd.V_mono (Kd.V_far (p:=⟨gb776,1,none⟩) (Kd.V_far (p:=⟨gb776,0,none⟩) (Kd.V_mono HO762.out (fun k_ hk=>(⟨hk,hk.2⟩:_∧k_≠gb776))) (fun _ hk=>hk.2) (.string t773)) (fun _ hk=>hk.2) (.string t774)) (fun _ h_=>h_.1))) hb);replace HO765:=aZ (Kd.V_below (by (with_reducible repeat (first|apply Kd.V_alloc|apply Kd.V_drewN|apply Kd.V_drew));exact (Kd.V_mono (Kd.V_far (p:=⟨gb776,1,none⟩) (Kd.V_far (p:=⟨gb776,0,none⟩) (Kd.V_mono HO765.out (fun k_ hk=>(⟨hk,hk.2⟩:_∧k_≠gb776))) (fun _ hk=>hk.2) (.string t773)) (fun _ hk=>hk.2) (.string t774)) (fun _ h_=>h_.1))) hb);replace HO769:=aZ (Kd.V_below (by (with_reducible repeat (first|apply Kd.V_alloc|apply Kd.V_drewN|apply Kd.V_drew));exact (Kd.V_mono (Kd.V_far (p:=⟨gb776,1,none⟩) (Kd.V_far (p:=⟨gb776,0,none⟩) (Kd.V_mono HO769.out (fun k_ hk=>(⟨hk,hk.2⟩:_∧k_≠gb776))) (fun _ hk=>hk.2) (.string t773)) (fun _ hk=>hk.2) (.string t774)) (fun _ h_=>h_.1))) hb);replace HO772:=aZ (Kd.V_below (by (with_reducible repeat (first|apply Kd.V_alloc|apply Kd.V_drewN|apply Kd.V_drew));exact (Kd.V_mono (Kd.V_far (p:=⟨gb776,1,none⟩) (Kd.V_far (p:=⟨gb776,0,none⟩) (Kd.V_mono HO772.out (fun k_ hk=>(⟨hk,hk.2⟩:_∧k_≠gb776))) (fun _ hk=>hk.2) (.string t773)) (fun _ hk=>hk.2) (.string t774)) (fun _ h_=>h_.1))) hb);replace BK681:=aZ (blk_below (g:=gb681) (o:=.cells #[.string t675,.string t676] 61 (0,0)) (zq BK681) hb);replace BK682:=aZ (blk_below (g:=gb682) (o:=.cells #[.string t678,.string t679] 61 (0,0)) (zq BK682) hb);replace BK701:=aZ (blk_below (g:=gb701) (o:=.cells #[.bool x702000_7,.slice Ao139 x702001_7.length co139,.slice Ao140 x702002_7.length co140] 67 (0,0)) (zq BK701) hb);replace BK702:=aZ (blk_below (g:=gb702) (o:=.cells #[.bool x703000_102,.slice Ao141 x703001_102.length co141,.slice Ao142 x703002_102.length co142] 67 (0,0)) (zq BK702) hb);replace BK720:=aZ (blk_below (g:=gb720) (o:=.cells #[.string t717,.string t718] 61 (0,0)) (zq BK720) hb);replace BK741:=aZ (blk_below (g:=gb741) (o:=.cells #[.string t738,.string t739] 61 (0,0)) (zq BK741) hb);replace BK758:=aZ (blk_below (g:=gb758) (o:=.cells #[.bool t766,.slice Ao181 t767.length co181,.slice Ao182 t770.length co182] 67 (0,0)) (zq BK758) hb);replace BK776:=sP (.cells #[.string t773,.string t774] 61 (0,0)) BK776 hb;replace HB:=sB hb;clear hb))
              go_ret
              exact ⟨ze,bw⟩
     subst c91
     have H1:(some false)=some r:=by rw [if_pos rfl] at H;exact H
     clear H
     have H:=H1
     clear H1
     obtain rfl:=Option.some.inj H
     go_wp2
     go_ret
     exact ⟨ze,bw⟩
def weftlaw1_NumProducts.Pure:Prop:=∀ (l0:List Int) (a1:Int),l0.length≤maxLen→l0.length*8≤140737488351232→(∀ x ∈ l0,(Lit.int .i64 x).wf=true)→(Lit.int .i64 a1).wf=true→∃ k,weftlaw1_NumProducts.f k l0 a1=some true
theorem weftlaw1_NumProducts.walk (P:weftlaw1_NumProducts.Pure) (a0:Option Addr) (len0 cap0:Nat) (z0:List Int) (a1:Int) (w:World) (w0:(a0=none∧len0=0∧cap0=0∧z0=[])∨∃ x,a0=some x∧len0≤cap0∧cap0≤maxLen∧z0.length=cap0∧(∀ i,i<z0.length→w.cell? (x.add i)=some (.int .i64 (z0.getD i 0)))∧∀ n ∈ z0,(Lit.int .i64 n).wf=true) (y0:len0*8≤140737488351232) (w1:(Lit.int .i64 a1).wf=true) (hG:Tryz.Gl w) :
  Calls Tryz.prog 14 #[.slice a0 len0 cap0,.int .i64 a1] w fun e w'=>e = .returned (.bool true)∧Below w.heap.size w w':=by
 obtain ⟨l0,rfl,hr0,hm0,hw0,hc0⟩:=ReadsInt.ofRowC w0
 obtain ⟨k,h⟩:=P l0 a1 hm0 y0 hw0 w1
 refine (weftlaw1_NumProducts.calls k _ _ l0 a1 true w (Kd.C_of_reads (d:=(0:Int)) (h1:=fun _=>rfl) hr0) hc0 hG h).mono ?_
 rintro e w' ⟨rfl,hd⟩
 exact ⟨rfl,hd⟩
end Go.Proofs.YtaffkbemjbfajaaGreatDoor.PNumProducts
