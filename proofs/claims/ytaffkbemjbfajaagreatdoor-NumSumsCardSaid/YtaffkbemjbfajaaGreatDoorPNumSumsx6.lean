-- By a program of this session: functions as plain Lean functions, each with its proof over the machine.
import Derived.Test.YtaffkbemjbfajaaGreatDoorPNumSumsx0
import Derived.Test.YtaffkbemjbfajaaGreatDoorPNumSumsx2
import Derived.Test.YtaffkbemjbfajaaGreatDoorPNumSumsx1
import Derived.Test.YtaffkbemjbfajaaGreatDoorPNumSumsx3
import Derived.Test.YtaffkbemjbfajaaGreatDoorPNumSumsx4
import Derived.Test.YtaffkbemjbfajaaGreatDoorPNumSumsx5
namespace Go.Proofs.YtaffkbemjbfajaaGreatDoor.PNumSums
open Go.RowKit Go.Proofs.Tryz Go.Proofs.YtaffkbemjbfajaaGreatDoorW.PrintWords Go.Proofs.YtaffkbemjbfajaaGreatDoorW.PrintLast Go.Proofs.YtaffkbemjbfajaaGreatDoorW.PrintMore
attribute [local go_sem] max2_int min2_int max_two min_two max_three min_three max_four min_four
set_option linter.unusedVariables false
set_option linter.unusedSimpArgs false
attribute [local go_sem high] eqA61
mutual
def weftlaw1_NumSums.j0:Nat→Int→ByteArray→ByteArray→ByteArray→ByteArray→Bool→List Int→List Int→Bool→List Int→List Int→Option (Bool)
 | 0,_,_,_,_,_,_,_,_,_,_,_=>none
 | k+1,x6,x742000,x742001,x743000,x743001,x762000,x762001,x762002,x763000,x763001,x763002=>(num_Add.f k x742000 x742001 x743000 x743001).bind fun bt777=>((num_Sub.f k x742000 x742001 x743000 x743001).bind fun bt781=>((weftlaw1_nums.f k).bind fun t785=>(if t785=true then ((weftref1_Num_Add.f k x762000 x762001 x762002 x763000 x763001 x763002).bind fun bt786=>((weftlaw1_same.f bt777.1 bt777.2.1 bt777.2.2 bt786.1 bt786.2.1 bt786.2.2 x6).bind fun t793=>(if t793=true then ((weftref1_Num_Sub.f k x762000 x762001 x762002 x763000 x763001 x763002).bind fun bt794=>((weftlaw1_same.f bt781.1 bt781.2.1 bt781.2.2 bt794.1 bt794.2.1 bt794.2.2 x6).bind fun t801=>(weftlaw1_NumSums.j1 k (!t801) x742000 x742001))) else (weftlaw1_NumSums.j1 k true x742000 x742001)))) else (weftlaw1_NumSums.j1 k true x742000 x742001))))
def weftlaw1_NumSums.j1:Nat→Bool→ByteArray→ByteArray→Option (Bool)
 | 0,_,_,_=>none
 | k+1,x67,x742000,x742001=>if x67=true then (some false) else ((num_Neg.f k x742000 x742001).bind fun bt802=>((weftref1_RatFault.f k x742000 x742001).bind fun t806=>(if t806=0 then ((weftref1_Of.f k x742000 x742001).bind fun bt807=>((weftref1_Num_Neg.f bt807.1 bt807.2.1 bt807.2.2).bind fun bt814=>((weftlaw1_same.f bt802.1 bt802.2.1 bt802.2.2 bt814.1 bt814.2.1 bt814.2.2 0).bind fun t821=>(some t821)))) else (if bt802.2.2=t806 then (some (bt802.1.toList==([]:List UInt8)&&(bt802.2.1.toList==([]:List UInt8)))) else (some false)))))
end
def weftlaw1_NumSums.f (k:Nat) (l0:List Int):Option (Bool):=(weftmake_Stream_Loose.f k l0 0).bind fun bt735=>((weftmake_Stream_Loose.f k l0 bt735.2.2).bind fun bt738=>((weftref1_RatsFault.f k (([(⟨bt735.1,bt735.2.1⟩:S61),(⟨bt738.1,bt738.2.1⟩:S61)]:List (S61)))).bind fun t746=>((weftref1_Int.f k 0).bind fun bt747=>((weftref1_Int.f k 0).bind fun bt754=>(if t746=0 then ((weftref1_Of.f k bt735.1 bt735.2.1).bind fun bt763=>((weftref1_Of.f k bt738.1 bt738.2.1).bind fun bt770=>(weftlaw1_NumSums.j0 k t746 bt735.1 bt735.2.1 bt738.1 bt738.2.1 bt763.1 bt763.2.1 bt763.2.2 bt770.1 bt770.2.1 bt770.2.2))) else (weftlaw1_NumSums.j0 k t746 bt735.1 bt735.2.1 bt738.1 bt738.2.1 bt747.1 bt747.2.1 bt747.2.2 bt754.1 bt754.2.1 bt754.2.2))))))
def weftlaw1_NumSums.T9:Bool×List (List Nat×List Nat):=(true,[([],[]),([0],[0]),([1,0],[1]),([2],[2]),([2],[2]),([2],[2]),([2],[2]),([5,6,2,2],[2,5,6]),([2],[2]),([3,4,7,8,7,2],[2,3,4,7,8]),([9,2],[2,9]),([2,10],[2,10]),([11,9],[11]),([12],[12]),([12],[12]),([12],[12]),([12],[12]),([15,16,12,12],[12,15,16]),([12],[12]),([13,14,17,18,17,12],[12,13,14,17,18]),([19,12],[12,19]),([12,20],[12,20])])
def weftlaw1_NumSums.B9:List Nat:=[0,1,3,7,7,7,7,103,7,511,1023,2047,4095,8191,8191,8191,8191,106495,8191,524287,1048575,2097151]
theorem weftlaw1_NumSums.tab9:rtab .any (opsOf Tryz.f15 9)=weftlaw1_NumSums.T9:=by kernel_rfl
theorem weftlaw1_NumSums.bits9:waitsOk weftlaw1_NumSums.T9.2 weftlaw1_NumSums.B9=true:=by kernel_rfl
set_option maxHeartbeats 80000000 in
set_option maxRecDepth 100000 in
theorem weftlaw1_NumSums.calls (k:Nat) (A0:Option Addr) (c0:Nat) (l0:List Int) (r:Bool) (w:World) (hr0:Kd.C (Kd.int .i64) w A0 l0.length l0) (hc0:l0.length≤c0) (hG:Tryz.Gl w) (h:weftlaw1_NumSums.f k l0=some r) :
  Calls Tryz.prog 15 #[.slice A0 l0.length c0] w fun e w'=>e = .returned (.bool r)∧Below w.heap.size w w':=by
 have hu44:=underlying44
 have hu61:=underlying61
 have hu67:=underlying67
 have HG:=aZ hG
 clear hG
 have HR0:=aZ hr0
 have HC0:=aZ hc0
 clear hr0 hc0
 have HB:=aZ (Below.refl w.heap.size w)
 have H:=h
 unfold weftlaw1_NumSums.f at H
 clear h
 obtain ⟨⟨t735,t736,t737⟩,A2,H⟩:=zB H
 (try dsimp only at H)
 obtain ⟨⟨t738,t739,t740⟩,A3,H⟩:=zB H
 (try dsimp only at H)
 obtain ⟨y743,hy743⟩:∃ y_:List (S61),y_=(([(⟨t735,t736⟩:S61),(⟨t738,t739⟩:S61)]:List (S61))):=⟨_,rfl⟩
 replace H:((weftref1_RatsFault.f k y743).bind fun t746=>((weftref1_Int.f k 0).bind fun bt747=>((weftref1_Int.f k 0).bind fun bt754=>(if t746=0 then ((weftref1_Of.f k t735 t736).bind fun bt763=>((weftref1_Of.f k t738 t739).bind fun bt770=>(weftlaw1_NumSums.j0 k t746 t735 t736 t738 t739 bt763.1 bt763.2.1 bt763.2.2 bt770.1 bt770.2.1 bt770.2.2))) else (weftlaw1_NumSums.j0 k t746 t735 t736 t738 t739 bt747.1 bt747.2.1 bt747.2.2 bt754.1 bt754.2.1 bt754.2.2)))))=some r:=zy hy743 H
 have Ny743:=aZ hy743
 clear hy743
 obtain ⟨t746,A4,H⟩:=zB H
 obtain ⟨⟨t747,t748,t751⟩,A5,H⟩:=zB H
 (try dsimp only at H)
 obtain ⟨⟨t754,t755,t758⟩,A6,H⟩:=zB H
 (try dsimp only at H)
 have HC7:=aZ H
 clear H
 go_enter func15,ntmps15
 go_upto_if 29 with (first|(refine box_ev 17 #[.slice A0 l0.length c0,.int .i64 0] 44 ?_;intro gb734 hg w8 hbox hb;have GE734:=sG hg;have HI734:=aZ ((by refine ⟨_,_,hbox,(by rw [hg];exact bs),HR0.out⟩:IsS44 w _ gb734 l0 0));replace HB:=sB hb;clear hb hbox hg)|(refine zg (some 19) func52 #[.pointer (some ⟨gb734,0,none⟩)] ?_;(with_reducible refine (weftmake_Stream_Loose.calls k gb734 l0 0 t735 t736 t737 w _ ?side1 ?side2 ?side3 A2.out).mono ?_);(case side1=>exact zi HI734);(case side2=>exact bw);(case side3=>exact HG.out);rintro e w9 ⟨rfl,hi,hb,hk⟩;refine ⟨_,rfl,?_⟩;replace HB:=aZ (hb);replace HI734:=aZ (hi);clear hb hk hi)|(refine zg (some 21) func52 #[.pointer (some ⟨gb734,0,none⟩)] ?_;(with_reducible refine (weftmake_Stream_Loose.calls k gb734 l0 t737 t738 t739 t740 w _ ?side1 ?side2 ?side3 A3.out).mono ?_);(case side1=>exact zi HI734);(case side2=>exact bw);(case side3=>exact HG.out);rintro e w10 ⟨rfl,hi,hb,hk⟩;refine ⟨_,rfl,?_⟩;replace HB:=aZ (hb);replace HI734:=aZ (hi);clear hb hk hi)|(refine box_ev 4 #[.string ⟨#[]⟩,.string ⟨#[]⟩] 61 ?_;intro gb741 hg w11 hbox hb;have BK741:=aZ hbox;have GE741:=sG hg;replace HB:=sB hb;have NB734_741:=aZ ((by rw [hg];exact Nat.ne_of_lt (IsS44.lt (show IsS44 w _ gb734 l0 t740 from zi HI734)):gb734≠gb741));have NB741_734:=aZ ((by rw [hg];exact Nat.ne_of_gt (IsS44.lt (show IsS44 w _ gb734 l0 t740 from zi HI734)):gb741≠gb734));replace HI734:=aZ (IsS44.below (zi HI734) hb);clear hb hbox hg)|(refine box_ev 5 #[.string ⟨#[]⟩,.string ⟨#[]⟩] 61 ?_;intro gb742 hg w12 hbox hb;have BK742:=aZ hbox;have GE742:=sG hg;replace HB:=sB hb;have NB741_742:=sl hg BK741;have NB742_741:=sg hg BK741;replace BK741:=sK BK741 hb;have NB734_742:=aZ ((by rw [hg];exact Nat.ne_of_lt (IsS44.lt (show IsS44 w _ gb734 l0 t740 from zi HI734)):gb734≠gb742));have NB742_734:=aZ ((by rw [hg];exact Nat.ne_of_gt (IsS44.lt (show IsS44 w _ gb734 l0 t740 from zi HI734)):gb742≠gb734));replace HI734:=aZ (IsS44.below (zi HI734) hb);clear hb hbox hg;have hnb13:=NB741_742.out;have hnc13:=NB742_741.out;have hnb14:=NB741_734.out;have hnc14:=NB734_741.out;obtain ⟨hcz15_0,hfz15_0⟩:=zc BK741 0 (.string ⟨#[]⟩) rfl;obtain ⟨hcz15_1,hfz15_1⟩:=zc BK741 1 (.string ⟨#[]⟩) rfl;have hnb16:=NB742_734.out;have hnc16:=NB734_742.out;obtain ⟨hcz17_0,hfz17_0⟩:=zc BK742 0 (.string ⟨#[]⟩) rfl;obtain ⟨hcz17_1,hfz17_1⟩:=zc BK742 1 (.string ⟨#[]⟩) rfl)|((with_reducible refine gate_dst (N:=24) rfl ?_);refine Kd.R_lit k61 _ 61 ?hg (N:=24) ?hd (xs:=([(⟨t735,t736⟩:S61),(⟨t738,t739⟩:S61)]:List (S61))) (inner:=[.string t735,.string t736,.string t738,.string t739]) (ok:=fun _=>True) (okp:=fun _=>True) ?hr ?hp (fun _ hk=>hk) trivial (Below.refl _ _) (Nat.le_refl _) (by simp) ?_;(case hd=>rfl);(case hg=>rfl);(case hr=>first|(go_simp;done)|(go_simp;rfl));(case hp=>exact (Reps.c2 (show Kd.M k61 _ _ _ (⟨t735,t736⟩:S61) [.string t735,.string t736] from (k61_mkM _ _ _ (⟨t735,t736⟩:S61) )) (Reps.c2 (show Kd.M k61 _ _ _ (⟨t738,t739⟩:S61) [.string t738,.string t739] from (k61_mkM _ _ _ (⟨t738,t739⟩:S61) )) (Reps.none _ _))));intro v744 w18 ho19 hb hg_ hnew_;clear hg_ hnew_;(first|rw [← Ny743.out] at ho19|(simp only [Int.reduceToNat] at ho19;rw [← Ny743.out] at ho19));have HO745:=aZ (Kd.R_lower (Kd.R_newB (Kd.R_newB ho19 (g:=gb741) (o:=.cells #[.string t735,.string t736] 61 (0,0)) (zq BK741)) (g:=gb742) (o:=.cells #[.string t738,.string t739] 61 (0,0)) (zq BK742)) bs);replace HI734:=aZ (IsS44.below (show IsS44 w ((((w12.setCell ⟨gb741,0,none⟩ (.string t735)).setCell ⟨gb741,1,none⟩ (.string t736)).setCell ⟨gb742,0,none⟩ (.string t738)).setCell ⟨gb742,1,none⟩ (.string t739)) gb734 l0 t740 from zi HI734) hb);replace BK741:=aZ (blk_below (g:=gb741) (o:=.cells #[.string t735,.string t736] 61 (0,0)) (zq BK741) hb);replace BK742:=aZ (blk_below (g:=gb742) (o:=.cells #[.string t738,.string t739] 61 (0,0)) (zq BK742) hb);replace HB:=sB hb;clear hb ho19;obtain ⟨Ao20,co20,rfl⟩:=Kd.R_slice HO745.out)|(refine zg (some 25) func57 #[.slice Ao20 y743.length co20] ?_;(with_reducible refine (weftref1_RatsFault.calls k _ _ y743 t746 _ ?side1 ?side2 A4.out).mono ?_);(case side1=>exact zC (Kd.R_reads' HO745.out).2.2);(case side2=>exact (Kd.R_reads' HO745.out).2.1);rintro e w21 ⟨rfl,hb⟩;refine ⟨_,rfl,?_⟩;replace HO745:=yR HO745 hb;replace HI734:=aZ (IsS44.below (zi HI734) hb);replace BK741:=sK BK741 hb;replace BK742:=sK BK742 hb;replace HB:=sB hb;clear hb)|(refine zg (some 26) func48 #[.int .i64 0] ?_;(with_reducible refine (weftref1_Int.calls k 0 t747 t748 t751 _ A5.out).mono ?_);rintro e w22 ⟨v749,v752,rfl,ho0,ho1,hb⟩;refine ⟨_,rfl,?_⟩;replace HO745:=yR HO745 hb;have HO750:=aZ (Kd.R_lower ho0 bs);have HO753:=aZ (Kd.R_lower ho1 bs);replace HI734:=aZ (IsS44.below (zi HI734) hb);replace BK741:=sK BK741 hb;replace BK742:=sK BK742 hb;replace HB:=sB hb;clear hb ho0 ho1)|(refine zg (some 27) func48 #[.int .i64 0] ?_;(with_reducible refine (weftref1_Int.calls k 0 t754 t755 t758 _ A6.out).mono ?_);rintro e w23 ⟨v756,v759,rfl,ho0,ho1,hb⟩;refine ⟨_,rfl,?_⟩;replace HO745:=yR HO745 hb;have HO757:=aZ (Kd.R_lower (Kd.R_new' (Kd.R_new' ho0 (Kd.R_lt (zR HO750))) (Kd.R_lt (zR HO753))) bs);have HO760:=aZ (Kd.R_lower (Kd.R_new' (Kd.R_new' ho1 (Kd.R_lt (zR HO750))) (Kd.R_lt (zR HO753))) bs);replace HO750:=aZ (Kd.R_mono (Kd.R_told (Kd.R_told (Kd.R_old (zR HO750) hb) (Kd.R_base ho0)) (Kd.R_base ho1)) (fun _ h_=>h_.1));replace HO753:=aZ (Kd.R_mono (Kd.R_told (Kd.R_told (Kd.R_old (zR HO753) hb) (Kd.R_base ho0)) (Kd.R_base ho1)) (fun _ h_=>h_.1));replace HI734:=aZ (IsS44.below (zi HI734) hb);replace BK741:=sK BK741 hb;replace BK742:=sK BK742 hb;replace HB:=sB hb;clear hb ho0 ho1)|(refine box_ev 7 #[.bool false,.slice none 0 0,.slice none 0 0] 67 ?_;intro gb761 hg w24 hbox hb;replace HO745:=yR HO745 hb;replace HO750:=yR HO750 hb;replace HO753:=yR HO753 hb;replace HO757:=yR HO757 hb;replace HO760:=yR HO760 hb;have BK761:=aZ hbox;have GE761:=sG hg;replace HB:=sB hb;have NB741_761:=sl hg BK741;have NB761_741:=sg hg BK741;replace BK741:=sK BK741 hb;have NB742_761:=sl hg BK742;have NB761_742:=sg hg BK742;replace BK742:=sK BK742 hb;have NB734_761:=aZ ((by rw [hg];exact Nat.ne_of_lt (IsS44.lt (show IsS44 w _ gb734 l0 t740 from zi HI734)):gb734≠gb761));have NB761_734:=aZ ((by rw [hg];exact Nat.ne_of_gt (IsS44.lt (show IsS44 w _ gb734 l0 t740 from zi HI734)):gb761≠gb734));replace HI734:=aZ (IsS44.below (zi HI734) hb);clear hb hbox hg)|(refine box_ev 8 #[.bool false,.slice none 0 0,.slice none 0 0] 67 ?_;intro gb762 hg w25 hbox hb;replace HO745:=yR HO745 hb;replace HO750:=yR HO750 hb;replace HO753:=yR HO753 hb;replace HO757:=yR HO757 hb;replace HO760:=yR HO760 hb;have BK762:=aZ hbox;have GE762:=sG hg;replace HB:=sB hb;have NB741_762:=sl hg BK741;have NB762_741:=sg hg BK741;replace BK741:=sK BK741 hb;have NB742_762:=sl hg BK742;have NB762_742:=sg hg BK742;replace BK742:=sK BK742 hb;have NB761_762:=sl hg BK761;have NB762_761:=sg hg BK761;replace BK761:=sK BK761 hb;have NB734_762:=aZ ((by rw [hg];exact Nat.ne_of_lt (IsS44.lt (show IsS44 w _ gb734 l0 t740 from zi HI734)):gb734≠gb762));have NB762_734:=aZ ((by rw [hg];exact Nat.ne_of_gt (IsS44.lt (show IsS44 w _ gb734 l0 t740 from zi HI734)):gb762≠gb734));replace HI734:=aZ (IsS44.below (zi HI734) hb);clear hb hbox hg;have hnb26:=NB761_741.out;have hnc26:=NB741_761.out;have hnb27:=NB761_742.out;have hnc27:=NB742_761.out;have hnb28:=NB761_762.out;have hnc28:=NB762_761.out;have hnb29:=NB761_734.out;have hnc29:=NB734_761.out;obtain ⟨hcz30_0,hfz30_0⟩:=zc BK761 0 (.bool false) rfl;obtain ⟨hcz30_1,hfz30_1⟩:=zc BK761 1 (.slice none 0 0) rfl;obtain ⟨hcz30_2,hfz30_2⟩:=zc BK761 2 (.slice none 0 0) rfl;obtain ⟨Ao31,co31,rfl⟩:=Kd.R_slice HO750.out;obtain ⟨Ao32,co32,rfl⟩:=Kd.R_slice HO753.out;have hnb33:=NB762_741.out;have hnc33:=NB741_762.out;have hnb34:=NB762_742.out;have hnc34:=NB742_762.out;have hnb35:=NB762_734.out;have hnc35:=NB734_762.out;obtain ⟨hcz36_0,hfz36_0⟩:=zc BK762 0 (.bool false) rfl;obtain ⟨hcz36_1,hfz36_1⟩:=zc BK762 1 (.slice none 0 0) rfl;obtain ⟨hcz36_2,hfz36_2⟩:=zc BK762 2 (.slice none 0 0) rfl;obtain ⟨Ao37,co37,rfl⟩:=Kd.R_slice HO757.out;obtain ⟨Ao38,co38,rfl⟩:=Kd.R_slice HO760.out))
 (try simp only [Act.put,List.setIfInBounds_toArray,List.set_cons_zero,List.set_cons_succ])
 go_cut [] (fun wc=>∃ (kq:Nat) (x762000_6:Bool) (x762001_6:List Int) (x762002_6:List Int) (x763000_6:Bool) (x763001_6:List Int) (x763002_6:List Int) (u762001:Value) (u762002:Value) (u763001:Value) (u763002:Value),Aside0 (weftlaw1_NumSums.j0 kq t746 t735 t736 t738 t739 x762000_6 x762001_6 x762002_6 x763000_6 x763001_6 x763002_6=some r)∧Aside0 (kq≤k)∧Aside0 (Kd.V (Kd.int .i64) 3 wc w.heap.size (fun k_=>k_≠gb741∧k_≠gb742∧k_≠gb761∧k_≠gb762) u762001 x762001_6)∧Aside0 (Kd.V (Kd.int .i64) 3 wc w.heap.size (fun k_=>k_≠gb741∧k_≠gb742∧k_≠gb761∧k_≠gb762) u762002 x762002_6)∧Aside0 (Kd.V (Kd.int .i64) 3 wc w.heap.size (fun k_=>k_≠gb741∧k_≠gb742∧k_≠gb761∧k_≠gb762) u763001 x763001_6)∧Aside0 (Kd.V (Kd.int .i64) 3 wc w.heap.size (fun k_=>k_≠gb741∧k_≠gb742∧k_≠gb761∧k_≠gb762) u763002 x763002_6)∧Aside0 (wc.heap[gb741]? = some (.cells #[.string t735,.string t736] 61 (0,0)))∧Aside0 (wc.heap[gb742]? = some (.cells #[.string t738,.string t739] 61 (0,0)))∧Aside0 (wc.heap[gb761]? = some (.cells #[.bool x762000_6,u762001,u762002] 67 (0,0)))∧Aside0 (wc.heap[gb762]? = some (.cells #[.bool x763000_6,u763001,u763002] 67 (0,0)))∧Aside0 (Below w.heap.size w wc))
 case first =>
  have H:=HC7.out
  clear HC7
  by_cases c39:t746=0
  case neg=>
   rw [if_neg c39] at H
   obtain ⟨c39b0,c39b1⟩:=zX c39
   (first|rw [c39b0]|(simp only [i64_w,i32_w];rw [c39b0])|skip)
   have H':=aZ H
   clear H
   go_wp2
   go_meet
   case rel=>exact ⟨_,(t747),(t748),(t751),(t754),(t755),(t758),(.slice Ao31 t748.length co31),(.slice Ao32 t751.length co32),(.slice Ao37 t755.length co37),(.slice Ao38 t758.length co38),H',⟨by first|omega|exact Nat.le_refl _⟩,⟨Kd.R_V (by (with_reducible repeat (first|apply Kd.R_alloc|apply Kd.R_drewN|apply Kd.R_drew));exact Kd.R_mono (Kd.R_far (p:=⟨gb762,2,none⟩) (Kd.R_far (p:=⟨gb762,1,none⟩) (Kd.R_far (p:=⟨gb762,0,none⟩) (Kd.R_far (p:=⟨gb761,2,none⟩) (Kd.R_far (p:=⟨gb761,1,none⟩) (Kd.R_far (p:=⟨gb761,0,none⟩) (Kd.R_types (Kd.R_types (Kd.R_types (Kd.R_types (Kd.R_types (Kd.R_types HO750.out BK741.out (by decide)) BK742.out (by decide)) BK761.out (by decide)) BK762.out (by decide)) BK761.out (by decide)) BK762.out (by decide)) (fun _ hk=>hk.1.2) (.bool t747)) (fun _ hk=>hk.1.2) (.slice Ao31 t748.length co31)) (fun _ hk=>hk.1.2) (.slice Ao32 t751.length co32)) (fun _ hk=>hk.2) (.bool t754)) (fun _ hk=>hk.2) (.slice Ao37 t755.length co37)) (fun _ hk=>hk.2) (.slice Ao38 t758.length co38)) (fun _ hk=>⟨hk.1.1.1.1.1.2,⟨hk.1.1.1.1.2,⟨hk.1.1.1.2,hk.1.1.2⟩⟩⟩))⟩,⟨Kd.R_V (by (with_reducible repeat (first|apply Kd.R_alloc|apply Kd.R_drewN|apply Kd.R_drew));exact Kd.R_mono (Kd.R_far (p:=⟨gb762,2,none⟩) (Kd.R_far (p:=⟨gb762,1,none⟩) (Kd.R_far (p:=⟨gb762,0,none⟩) (Kd.R_far (p:=⟨gb761,2,none⟩) (Kd.R_far (p:=⟨gb761,1,none⟩) (Kd.R_far (p:=⟨gb761,0,none⟩) (Kd.R_types (Kd.R_types (Kd.R_types (Kd.R_types (Kd.R_types (Kd.R_types HO753.out BK741.out (by decide)) BK742.out (by decide)) BK761.out (by decide)) BK762.out (by decide)) BK761.out (by decide)) BK762.out (by decide)) (fun _ hk=>hk.1.2) (.bool t747)) (fun _ hk=>hk.1.2) (.slice Ao31 t748.length co31)) (fun _ hk=>hk.1.2) (.slice Ao32 t751.length co32)) (fun _ hk=>hk.2) (.bool t754)) (fun _ hk=>hk.2) (.slice Ao37 t755.length co37)) (fun _ hk=>hk.2) (.slice Ao38 t758.length co38)) (fun _ hk=>⟨hk.1.1.1.1.1.2,⟨hk.1.1.1.1.2,⟨hk.1.1.1.2,hk.1.1.2⟩⟩⟩))⟩,⟨Kd.R_V (by (with_reducible repeat (first|apply Kd.R_alloc|apply Kd.R_drewN|apply Kd.R_drew));exact Kd.R_mono (Kd.R_far (p:=⟨gb762,2,none⟩) (Kd.R_far (p:=⟨gb762,1,none⟩) (Kd.R_far (p:=⟨gb762,0,none⟩) (Kd.R_far (p:=⟨gb761,2,none⟩) (Kd.R_far (p:=⟨gb761,1,none⟩) (Kd.R_far (p:=⟨gb761,0,none⟩) (Kd.R_types (Kd.R_types (Kd.R_types (Kd.R_types (Kd.R_types (Kd.R_types HO757.out BK741.out (by decide)) BK742.out (by decide)) BK761.out (by decide)) BK762.out (by decide)) BK761.out (by decide)) BK762.out (by decide)) (fun _ hk=>hk.1.2) (.bool t747)) (fun _ hk=>hk.1.2) (.slice Ao31 t748.length co31)) (fun _ hk=>hk.1.2) (.slice Ao32 t751.length co32)) (fun _ hk=>hk.2) (.bool t754)) (fun _ hk=>hk.2) (.slice Ao37 t755.length co37)) (fun _ hk=>hk.2) (.slice Ao38 t758.length co38)) (fun _ hk=>⟨hk.1.1.1.1.1.2,⟨hk.1.1.1.1.2,⟨hk.1.1.1.2,hk.1.1.2⟩⟩⟩))⟩,⟨Kd.R_V (by (with_reducible repeat (first|apply Kd.R_alloc|apply Kd.R_drewN|apply Kd.R_drew));exact Kd.R_mono (Kd.R_far (p:=⟨gb762,2,none⟩) (Kd.R_far (p:=⟨gb762,1,none⟩) (Kd.R_far (p:=⟨gb762,0,none⟩) (Kd.R_far (p:=⟨gb761,2,none⟩) (Kd.R_far (p:=⟨gb761,1,none⟩) (Kd.R_far (p:=⟨gb761,0,none⟩) (Kd.R_types (Kd.R_types (Kd.R_types (Kd.R_types (Kd.R_types (Kd.R_types HO760.out BK741.out (by decide)) BK742.out (by decide)) BK761.out (by decide)) BK762.out (by decide)) BK761.out (by decide)) BK762.out (by decide)) (fun _ hk=>hk.1.2) (.bool t747)) (fun _ hk=>hk.1.2) (.slice Ao31 t748.length co31)) (fun _ hk=>hk.1.2) (.slice Ao32 t751.length co32)) (fun _ hk=>hk.2) (.bool t754)) (fun _ hk=>hk.2) (.slice Ao37 t755.length co37)) (fun _ hk=>hk.2) (.slice Ao38 t758.length co38)) (fun _ hk=>⟨hk.1.1.1.1.1.2,⟨hk.1.1.1.1.2,⟨hk.1.1.1.2,hk.1.1.2⟩⟩⟩))⟩,⟨zq BK741⟩,⟨zq BK742⟩,⟨zq BK761⟩,⟨zq BK762⟩,⟨bw⟩⟩
  rw [if_pos c39] at H
  obtain ⟨c39b0,c39b1⟩:=zY c39
  clear c39
  (first|rw [c39b0]|(simp only [i64_w,i32_w];rw [c39b0])|skip)
  obtain ⟨⟨t763,t764,t767⟩,A40,H⟩:=zB H
  (try dsimp only at H)
  obtain ⟨⟨t770,t771,t774⟩,A41,H⟩:=zB H
  (try dsimp only at H)
  have H':=aZ H
  clear H
  try go_wp2
  have n0_:Aside0 (Kd.R k61 61 ((((((w25.setCell ⟨gb761,0,none⟩ (.bool t747)).setCell ⟨gb761,1,none⟩ (.slice Ao31 t748.length co31)).setCell ⟨gb761,2,none⟩ (.slice Ao32 t751.length co32)).setCell ⟨gb762,0,none⟩ (.bool t754)).setCell ⟨gb762,1,none⟩ (.slice Ao37 t755.length co37)).setCell ⟨gb762,2,none⟩ (.slice Ao38 t758.length co38)) w.heap.size (fun k_=>k_≠gb741∧k_≠gb742) (.slice Ao20 y743.length co20) y743):=⟨zF ⟨Kd.R_types (Kd.R_types HO745.out BK761.out (by decide)) BK762.out (by decide)⟩⟩
  have n1_:Aside0 (Kd.R (Kd.int .i64) 3 ((((((w25.setCell ⟨gb761,0,none⟩ (.bool t747)).setCell ⟨gb761,1,none⟩ (.slice Ao31 t748.length co31)).setCell ⟨gb761,2,none⟩ (.slice Ao32 t751.length co32)).setCell ⟨gb762,0,none⟩ (.bool t754)).setCell ⟨gb762,1,none⟩ (.slice Ao37 t755.length co37)).setCell ⟨gb762,2,none⟩ (.slice Ao38 t758.length co38)) w.heap.size (fun k_=>some k_≠(.slice Ao32 t751.length co32:Value).ownBlock∧some k_≠(.slice Ao37 t755.length co37:Value).ownBlock∧some k_≠(.slice Ao38 t758.length co38:Value).ownBlock) (.slice Ao31 t748.length co31) t748):=⟨zF ⟨Kd.R_types (Kd.R_types HO750.out BK761.out (by decide)) BK762.out (by decide)⟩⟩
  have n2_:Aside0 (Kd.R (Kd.int .i64) 3 ((((((w25.setCell ⟨gb761,0,none⟩ (.bool t747)).setCell ⟨gb761,1,none⟩ (.slice Ao31 t748.length co31)).setCell ⟨gb761,2,none⟩ (.slice Ao32 t751.length co32)).setCell ⟨gb762,0,none⟩ (.bool t754)).setCell ⟨gb762,1,none⟩ (.slice Ao37 t755.length co37)).setCell ⟨gb762,2,none⟩ (.slice Ao38 t758.length co38)) w.heap.size (fun k_=>some k_≠(.slice Ao31 t748.length co31:Value).ownBlock∧some k_≠(.slice Ao37 t755.length co37:Value).ownBlock∧some k_≠(.slice Ao38 t758.length co38:Value).ownBlock) (.slice Ao32 t751.length co32) t751):=⟨zF ⟨Kd.R_types (Kd.R_types HO753.out BK761.out (by decide)) BK762.out (by decide)⟩⟩
  have n3_:Aside0 (Kd.R (Kd.int .i64) 3 ((((((w25.setCell ⟨gb761,0,none⟩ (.bool t747)).setCell ⟨gb761,1,none⟩ (.slice Ao31 t748.length co31)).setCell ⟨gb761,2,none⟩ (.slice Ao32 t751.length co32)).setCell ⟨gb762,0,none⟩ (.bool t754)).setCell ⟨gb762,1,none⟩ (.slice Ao37 t755.length co37)).setCell ⟨gb762,2,none⟩ (.slice Ao38 t758.length co38)) w.heap.size (fun k_=>some k_≠(.slice Ao31 t748.length co31:Value).ownBlock∧some k_≠(.slice Ao32 t751.length co32:Value).ownBlock∧some k_≠(.slice Ao38 t758.length co38:Value).ownBlock) (.slice Ao37 t755.length co37) t755):=⟨zF ⟨Kd.R_types (Kd.R_types HO757.out BK761.out (by decide)) BK762.out (by decide)⟩⟩
  have n4_:Aside0 (Kd.R (Kd.int .i64) 3 ((((((w25.setCell ⟨gb761,0,none⟩ (.bool t747)).setCell ⟨gb761,1,none⟩ (.slice Ao31 t748.length co31)).setCell ⟨gb761,2,none⟩ (.slice Ao32 t751.length co32)).setCell ⟨gb762,0,none⟩ (.bool t754)).setCell ⟨gb762,1,none⟩ (.slice Ao37 t755.length co37)).setCell ⟨gb762,2,none⟩ (.slice Ao38 t758.length co38)) w.heap.size (fun k_=>some k_≠(.slice Ao31 t748.length co31:Value).ownBlock∧some k_≠(.slice Ao32 t751.length co32:Value).ownBlock∧some k_≠(.slice Ao37 t755.length co37:Value).ownBlock) (.slice Ao38 t758.length co38) t758):=⟨zF ⟨Kd.R_types (Kd.R_types HO760.out BK761.out (by decide)) BK762.out (by decide)⟩⟩
  have n5_:Aside0 (((((((w25.setCell ⟨gb761,0,none⟩ (.bool t747)).setCell ⟨gb761,1,none⟩ (.slice Ao31 t748.length co31)).setCell ⟨gb761,2,none⟩ (.slice Ao32 t751.length co32)).setCell ⟨gb762,0,none⟩ (.bool t754)).setCell ⟨gb762,1,none⟩ (.slice Ao37 t755.length co37)).setCell ⟨gb762,2,none⟩ (.slice Ao38 t758.length co38)).heap[gb741]? = some (.cells #[.string t735,.string t736] 61 (0,0))):=⟨zq BK741⟩
  have n6_:Aside0 (((((((w25.setCell ⟨gb761,0,none⟩ (.bool t747)).setCell ⟨gb761,1,none⟩ (.slice Ao31 t748.length co31)).setCell ⟨gb761,2,none⟩ (.slice Ao32 t751.length co32)).setCell ⟨gb762,0,none⟩ (.bool t754)).setCell ⟨gb762,1,none⟩ (.slice Ao37 t755.length co37)).setCell ⟨gb762,2,none⟩ (.slice Ao38 t758.length co38)).heap[gb742]? = some (.cells #[.string t738,.string t739] 61 (0,0))):=⟨zq BK742⟩
  have n7_:Aside0 (((((((w25.setCell ⟨gb761,0,none⟩ (.bool t747)).setCell ⟨gb761,1,none⟩ (.slice Ao31 t748.length co31)).setCell ⟨gb761,2,none⟩ (.slice Ao32 t751.length co32)).setCell ⟨gb762,0,none⟩ (.bool t754)).setCell ⟨gb762,1,none⟩ (.slice Ao37 t755.length co37)).setCell ⟨gb762,2,none⟩ (.slice Ao38 t758.length co38)).heap[gb761]? = some (.cells #[.bool t747,.slice Ao31 t748.length co31,.slice Ao32 t751.length co32] 67 (0,0))):=⟨zq BK761⟩
  have n8_:Aside0 (((((((w25.setCell ⟨gb761,0,none⟩ (.bool t747)).setCell ⟨gb761,1,none⟩ (.slice Ao31 t748.length co31)).setCell ⟨gb761,2,none⟩ (.slice Ao32 t751.length co32)).setCell ⟨gb762,0,none⟩ (.bool t754)).setCell ⟨gb762,1,none⟩ (.slice Ao37 t755.length co37)).setCell ⟨gb762,2,none⟩ (.slice Ao38 t758.length co38)).heap[gb762]? = some (.cells #[.bool t754,.slice Ao37 t755.length co37,.slice Ao38 t758.length co38] 67 (0,0))):=⟨zq BK762⟩
  have n9_:Aside0 (IsS44 w ((((((w25.setCell ⟨gb761,0,none⟩ (.bool t747)).setCell ⟨gb761,1,none⟩ (.slice Ao31 t748.length co31)).setCell ⟨gb761,2,none⟩ (.slice Ao32 t751.length co32)).setCell ⟨gb762,0,none⟩ (.bool t754)).setCell ⟨gb762,1,none⟩ (.slice Ao37 t755.length co37)).setCell ⟨gb762,2,none⟩ (.slice Ao38 t758.length co38)) gb734 l0 t740):=⟨zi HI734⟩
  have n10_:Aside0 (Below w.heap.size w ((((((w25.setCell ⟨gb761,0,none⟩ (.bool t747)).setCell ⟨gb761,1,none⟩ (.slice Ao31 t748.length co31)).setCell ⟨gb761,2,none⟩ (.slice Ao32 t751.length co32)).setCell ⟨gb762,0,none⟩ (.bool t754)).setCell ⟨gb762,1,none⟩ (.slice Ao37 t755.length co37)).setCell ⟨gb762,2,none⟩ (.slice Ao38 t758.length co38))):=⟨bw⟩
  (try clear HO745)
  (try clear HO750)
  (try clear HO753)
  (try clear HO757)
  (try clear HO760)
  (try clear BK741)
  (try clear BK742)
  (try clear BK761)
  (try clear BK762)
  (try clear HI734)
  (try clear HB)
  generalize ((((((w25.setCell ⟨gb761,0,none⟩ (.bool t747)).setCell ⟨gb761,1,none⟩ (.slice Ao31 t748.length co31)).setCell ⟨gb761,2,none⟩ (.slice Ao32 t751.length co32)).setCell ⟨gb762,0,none⟩ (.bool t754)).setCell ⟨gb762,1,none⟩ (.slice Ao37 t755.length co37)).setCell ⟨gb762,2,none⟩ (.slice Ao38 t758.length co38))=w42 at n0_ n1_ n2_ n3_ n4_ n5_ n6_ n7_ n8_ n9_ n10_ ⊢
  have HO745:=n0_
  have HO750:=n1_
  have HO753:=n2_
  have HO757:=n3_
  have HO760:=n4_
  have BK741:=n5_
  have BK742:=n6_
  have BK761:=n7_
  have BK762:=n8_
  have HI734:=n9_
  have HB:=n10_
  clear n0_ n1_ n2_ n3_ n4_ n5_ n6_ n7_ n8_ n9_ n10_
  replace HO745:=aZ (Kd.R_drew HO745.out)
  replace HO750:=aZ (Kd.R_drew HO750.out)
  replace HO753:=aZ (Kd.R_drew HO753.out)
  replace HO757:=aZ (Kd.R_drew HO757.out)
  replace HO760:=aZ (Kd.R_drew HO760.out)
  replace BK741:=aZ (blk_drew BK741.out)
  replace BK742:=aZ (blk_drew BK742.out)
  replace BK761:=aZ (blk_drew BK761.out)
  replace BK762:=aZ (blk_drew BK762.out)
  replace HI734:=aZ (IsS44.drew HI734.out)
  replace HB:=aZ (below_drew1 HB.out)
  refine start_ (n:=6) (S:=fun w'=>w'.cell? ⟨gb741,0,none⟩=some (.string t735)∧w'.cell? ⟨gb741,1,none⟩=some (.string t736)∧w'.cell? ⟨gb742,0,none⟩=some (.string t738)∧w'.cell? ⟨gb742,1,none⟩=some (.string t739)) (ds:=[]) #[false,false,false,false,false,false] (by kernel_rfl) rfl rfl ⟨zh BK741 0,zh BK741 1,zh BK742 0,zh BK742 1⟩ (fun hHeld=>?_)
  generalize w42.drew=w43 at HO745 HO750 HO753 HO757 HO760 BK741 BK742 BK761 BK762 HI734 HB hHeld ⊢
  refine take_ (i:=0) (N:=some 30) (v:=?_) (a':=?_) #[true,false,false,false,false,false] rfl rfl (by kernel_rfl) (fun _ _ _ h=>h) (Or.inl ⟨by rfl,?_⟩) hHeld ?_ ?_
  rotate_left
  ·rintro w' ⟨s0,s1,s2,s3⟩
   go_simp
   with_reducible rfl
  rotate_left
  ·simp only [Act.put,List.setIfInBounds_toArray,List.set_cons_zero,List.set_cons_succ,i64_w,i32_w]
   rfl
  refine take_ (i:=2) (N:=some 32) (v:=?_) (a':=?_) #[true,false,true,false,false,false] rfl rfl (by kernel_rfl) (fun _ _ _ h=>h) (Or.inl ⟨by rfl,?_⟩) hHeld ?_ ?_
  rotate_left
  ·rintro w' ⟨s0,s1,s2,s3⟩
   go_simp
   with_reducible rfl
  rotate_left
  ·simp only [Act.put,List.setIfInBounds_toArray,List.set_cons_zero,List.set_cons_succ,i64_w,i32_w]
   rfl
  refine one_ (i:=1) (N:=some 31) #[true,true,true,false,false,false] rfl rfl (by kernel_rfl) (by decide) (fun K hK=>?_)
  refine goes_ func58 (by kernel_rfl) rfl #[.agg #[.string t735,.string t736]] (by rfl) rfl rfl zm ?_
  with_reducible refine (weftref1_Of.calls k t735 t736 t763 t764 t767 _ A40.out).mono ?_
  rintro e w44 ⟨v765,v768,rfl,ho0,ho1,hb⟩
  refine ⟨_,rfl,?_⟩
  have HO766:=yL (fun k_=>some k_≠(.slice Ao20 y743.length co20:Value).ownBlock∧some k_≠(.slice Ao31 t748.length co31:Value).ownBlock∧some k_≠(.slice Ao32 t751.length co32:Value).ownBlock∧some k_≠(.slice Ao37 t755.length co37:Value).ownBlock∧some k_≠(.slice Ao38 t758.length co38:Value).ownBlock∧k_≠gb741∧k_≠gb742∧k_≠gb761∧k_≠gb762∧k_≠gb734) ho0 (fun k_ hk_=>⟨(yf HO745 hk_),(yf HO750 hk_),(yf HO753 hk_),(yf HO757 hk_),(yf HO760 hk_),(zf BK741 hk_),(zf BK742 hk_),(zf BK761 hk_),(zf BK762 hk_),(IsS44.fresh (zi HI734) k_ hk_)⟩)
  have HO769:=yL (fun k_=>some k_≠(.slice Ao20 y743.length co20:Value).ownBlock∧some k_≠(.slice Ao31 t748.length co31:Value).ownBlock∧some k_≠(.slice Ao32 t751.length co32:Value).ownBlock∧some k_≠(.slice Ao37 t755.length co37:Value).ownBlock∧some k_≠(.slice Ao38 t758.length co38:Value).ownBlock∧k_≠gb741∧k_≠gb742∧k_≠gb761∧k_≠gb762∧k_≠gb734) ho1 (fun k_ hk_=>⟨(yf HO745 hk_),(yf HO750 hk_),(yf HO753 hk_),(yf HO757 hk_),(yf HO760 hk_),(zf BK741 hk_),(zf BK742 hk_),(zf BK761 hk_),(zf BK762 hk_),(IsS44.fresh (zi HI734) k_ hk_)⟩)
  replace HO745:=yR HO745 hb
  replace HO750:=yR HO750 hb
  replace HO753:=yR HO753 hb
  replace HO757:=yR HO757 hb
  replace HO760:=yR HO760 hb
  replace HI734:=aZ (IsS44.below (zi HI734) hb)
  replace BK741:=sK BK741 hb
  replace BK742:=sK BK742 hb
  replace BK761:=sK BK761 hb
  replace BK762:=sK BK762 hb
  replace HB:=sB hb
  clear hb ho0 ho1
  refine hK.out _ _ ⟨zh BK741 0,zh BK741 1,zh BK742 0,zh BK742 1⟩ (fun hHeld=>?_)
  clear hK K
  refine nm ?_
  refine one_ (i:=3) (N:=some 33) #[true,true,true,true,false,false] rfl rfl (by kernel_rfl) (by decide) (fun K hK=>?_)
  refine goes_ func58 (by kernel_rfl) rfl #[.agg #[.string t738,.string t739]] (by rfl) rfl rfl zm ?_
  with_reducible refine (weftref1_Of.calls k t738 t739 t770 t771 t774 _ A41.out).mono ?_
  rintro e w45 ⟨v772,v775,rfl,ho0,ho1,hb⟩
  refine ⟨_,rfl,?_⟩
  replace HO766:=yV HO766 hb
  replace HO769:=yV HO769 hb
  have HO773:=yL (fun k_=>some k_≠(.slice Ao20 y743.length co20:Value).ownBlock∧some k_≠(.slice Ao31 t748.length co31:Value).ownBlock∧some k_≠(.slice Ao32 t751.length co32:Value).ownBlock∧some k_≠(.slice Ao37 t755.length co37:Value).ownBlock∧some k_≠(.slice Ao38 t758.length co38:Value).ownBlock∧k_≠gb741∧k_≠gb742∧k_≠gb761∧k_≠gb762∧k_≠gb734) ho0 (fun k_ hk_=>⟨(yf HO745 hk_),(yf HO750 hk_),(yf HO753 hk_),(yf HO757 hk_),(yf HO760 hk_),(zf BK741 hk_),(zf BK742 hk_),(zf BK761 hk_),(zf BK762 hk_),(IsS44.fresh (zi HI734) k_ hk_)⟩)
  have HO776:=yL (fun k_=>some k_≠(.slice Ao20 y743.length co20:Value).ownBlock∧some k_≠(.slice Ao31 t748.length co31:Value).ownBlock∧some k_≠(.slice Ao32 t751.length co32:Value).ownBlock∧some k_≠(.slice Ao37 t755.length co37:Value).ownBlock∧some k_≠(.slice Ao38 t758.length co38:Value).ownBlock∧k_≠gb741∧k_≠gb742∧k_≠gb761∧k_≠gb762∧k_≠gb734) ho1 (fun k_ hk_=>⟨(yf HO745 hk_),(yf HO750 hk_),(yf HO753 hk_),(yf HO757 hk_),(yf HO760 hk_),(zf BK741 hk_),(zf BK742 hk_),(zf BK761 hk_),(zf BK762 hk_),(IsS44.fresh (zi HI734) k_ hk_)⟩)
  replace HO745:=yR HO745 hb
  replace HO750:=yR HO750 hb
  replace HO753:=yR HO753 hb
  replace HO757:=yR HO757 hb
  replace HO760:=yR HO760 hb
  replace HI734:=aZ (IsS44.below (zi HI734) hb)
  replace BK741:=sK BK741 hb
  replace BK742:=sK BK742 hb
  replace BK761:=sK BK761 hb
  replace BK762:=sK BK762 hb
  replace HB:=sB hb
  clear hb ho0 ho1
  obtain ⟨Ao47,co47,eo47⟩:=Kd.V_slice HO766.out
  (first|subst eo47|(injection eo47 with f1_ f2_ f3_;have f4_:=f1_.symm;have f5_:=f3_.symm;clear f1_ f2_ f3_;subst f4_;subst f5_))
  obtain ⟨Ao49,co49,eo49⟩:=Kd.V_slice HO769.out
  (first|subst eo49|(injection eo49 with f1_ f2_ f3_;have f4_:=f1_.symm;have f5_:=f3_.symm;clear f1_ f2_ f3_;subst f4_;subst f5_))
  obtain ⟨Ao52,co52,eo52⟩:=Kd.V_slice HO773.out
  (first|subst eo52|(injection eo52 with f1_ f2_ f3_;have f4_:=f1_.symm;have f5_:=f3_.symm;clear f1_ f2_ f3_;subst f4_;subst f5_))
  obtain ⟨Ao54,co54,eo54⟩:=Kd.V_slice HO776.out
  (first|subst eo54|(injection eo54 with f1_ f2_ f3_;have f4_:=f1_.symm;have f5_:=f3_.symm;clear f1_ f2_ f3_;subst f4_;subst f5_))
  refine hK.out _ _ ⟨zh BK741 0,zh BK741 1,zh BK742 0,zh BK742 1⟩ (fun hHeld=>?_)
  clear hK K
  refine nm ?_
  refine one_ (i:=4) (N:=none) #[true,true,true,true,true,false] rfl rfl (by kernel_rfl) (by decide) (fun K hK=>?_)
  have hs46:w45.cell? ⟨gb761,0,none⟩=some (.bool t747):=(blk_cell BK761.out 0).trans rfl
  have hfs46:=blk_frozen BK761.out 0
  have hns46_0:=NB741_761.out
  have hns46_1:=NB742_761.out
  have hns46_3:=NB762_761.out
  have hms46_0:=NB761_741.out
  have hms46_1:=NB761_742.out
  have hms46_3:=NB761_762.out
  have hs48:w45.cell? ⟨gb761,1,none⟩=some (.slice Ao31 t748.length co31):=(blk_cell BK761.out 1).trans rfl
  have hfs48:=blk_frozen BK761.out 1
  have hns48_0:=NB741_761.out
  have hns48_1:=NB742_761.out
  have hns48_3:=NB762_761.out
  have hms48_0:=NB761_741.out
  have hms48_1:=NB761_742.out
  have hms48_3:=NB761_762.out
  have hs50:w45.cell? ⟨gb761,2,none⟩=some (.slice Ao32 t751.length co32):=(blk_cell BK761.out 2).trans rfl
  have hfs50:=blk_frozen BK761.out 2
  have hns50_0:=NB741_761.out
  have hns50_1:=NB742_761.out
  have hns50_3:=NB762_761.out
  have hms50_0:=NB761_741.out
  have hms50_1:=NB761_742.out
  have hms50_3:=NB761_762.out
  refine skip_ (w1:=?_) (by rfl) rfl ?_ ?_
  rotate_left
  ·go_simp
   rfl
  refine hK.out _ _ ⟨((cell_far (p:=⟨gb761,_,none⟩) NB741_761.out _).trans (((cell_far (p:=⟨gb761,_,none⟩) NB741_761.out _).trans (((cell_far (p:=⟨gb761,_,none⟩) NB741_761.out _).trans (hHeld.1)))))),((cell_far (p:=⟨gb761,_,none⟩) NB741_761.out _).trans (((cell_far (p:=⟨gb761,_,none⟩) NB741_761.out _).trans (((cell_far (p:=⟨gb761,_,none⟩) NB741_761.out _).trans (hHeld.2.1)))))),((cell_far (p:=⟨gb761,_,none⟩) NB742_761.out _).trans (((cell_far (p:=⟨gb761,_,none⟩) NB742_761.out _).trans (((cell_far (p:=⟨gb761,_,none⟩) NB742_761.out _).trans (hHeld.2.2.1)))))),((cell_far (p:=⟨gb761,_,none⟩) NB742_761.out _).trans (((cell_far (p:=⟨gb761,_,none⟩) NB742_761.out _).trans (((cell_far (p:=⟨gb761,_,none⟩) NB742_761.out _).trans (hHeld.2.2.2))))))⟩ (fun hHeld=>?_)
  clear hK K
  refine one_ (i:=5) (N:=none) #[true,true,true,true,true,true] rfl rfl (by kernel_rfl) (by decide) (fun K hK=>?_)
  have hs51:w45.cell? ⟨gb762,0,none⟩=some (.bool t754):=(blk_cell BK762.out 0).trans rfl
  have hfs51:=blk_frozen BK762.out 0
  have hns51_0:=NB741_762.out
  have hns51_1:=NB742_762.out
  have hns51_2:=NB761_762.out
  have hms51_0:=NB762_741.out
  have hms51_1:=NB762_742.out
  have hms51_2:=NB762_761.out
  have hs53:w45.cell? ⟨gb762,1,none⟩=some (.slice Ao37 t755.length co37):=(blk_cell BK762.out 1).trans rfl
  have hfs53:=blk_frozen BK762.out 1
  have hns53_0:=NB741_762.out
  have hns53_1:=NB742_762.out
  have hns53_2:=NB761_762.out
  have hms53_0:=NB762_741.out
  have hms53_1:=NB762_742.out
  have hms53_2:=NB762_761.out
  have hs55:w45.cell? ⟨gb762,2,none⟩=some (.slice Ao38 t758.length co38):=(blk_cell BK762.out 2).trans rfl
  have hfs55:=blk_frozen BK762.out 2
  have hns55_0:=NB741_762.out
  have hns55_1:=NB742_762.out
  have hns55_2:=NB761_762.out
  have hms55_0:=NB762_741.out
  have hms55_1:=NB762_742.out
  have hms55_2:=NB762_761.out
  refine skip_ (w1:=?_) (by rfl) rfl ?_ ?_
  rotate_left
  ·go_simp
   rfl
  refine hK.out _ _ ⟨((cell_far (p:=⟨gb762,_,none⟩) NB741_762.out _).trans (((cell_far (p:=⟨gb762,_,none⟩) NB741_762.out _).trans (((cell_far (p:=⟨gb762,_,none⟩) NB741_762.out _).trans (hHeld.1)))))),((cell_far (p:=⟨gb762,_,none⟩) NB741_762.out _).trans (((cell_far (p:=⟨gb762,_,none⟩) NB741_762.out _).trans (((cell_far (p:=⟨gb762,_,none⟩) NB741_762.out _).trans (hHeld.2.1)))))),((cell_far (p:=⟨gb762,_,none⟩) NB742_762.out _).trans (((cell_far (p:=⟨gb762,_,none⟩) NB742_762.out _).trans (((cell_far (p:=⟨gb762,_,none⟩) NB742_762.out _).trans (hHeld.2.2.1)))))),((cell_far (p:=⟨gb762,_,none⟩) NB742_762.out _).trans (((cell_far (p:=⟨gb762,_,none⟩) NB742_762.out _).trans (((cell_far (p:=⟨gb762,_,none⟩) NB742_762.out _).trans (hHeld.2.2.2))))))⟩ (fun hHeld=>?_)
  clear hK K
  refine done_ (by kernel_rfl) ?_
  try go_wp2
  go_meet
  case rel=>exact ⟨_,(t763),(t764),(t767),(t770),(t771),(t774),(.slice Ao47 t764.length co47),(.slice Ao49 t767.length co49),(.slice Ao52 t771.length co52),(.slice Ao54 t774.length co54),H',⟨by first|omega|exact Nat.le_refl _⟩,⟨zF HO766⟩,⟨zF HO769⟩,⟨zF HO773⟩,⟨zF HO776⟩,⟨zq BK741⟩,⟨zq BK742⟩,⟨zq BK761⟩,⟨zq BK762⟩,⟨bw⟩⟩
 case rest =>
  clear HC7
  try clear c1
  try clear c2
  try clear c3
  try clear c4
  try clear c5
  try clear c13
  try clear c14
  try clear c15
  try clear c16
  try clear c26
  try clear c27
  try clear c28
  try clear c29
  try clear c33
  try clear c34
  try clear c35
  try clear c39
  try clear c39b0
  try clear c39b1
  try clear c48
  try clear c52
  try clear hcz15_0
  try clear hcz15_1
  try clear hcz17_0
  try clear hcz17_1
  try clear hcz30_0
  try clear hcz30_1
  try clear hcz30_2
  try clear hcz36_0
  try clear hcz36_1
  try clear hcz36_2
  try clear hfz15_0
  try clear hfz15_1
  try clear hfz17_0
  try clear hfz17_1
  try clear hfz30_0
  try clear hfz30_1
  try clear hfz30_2
  try clear hfz36_0
  try clear hfz36_1
  try clear hfz36_2
  obtain ⟨kq,x762000_6,x762001_6,x762002_6,x763000_6,x763001_6,x763002_6,u762001,u762002,u763001,u763002,HA,HJ6,HO_762001,HO_762002,HO_763001,HO_763002,BK741,BK742,BK761,BK762,HB⟩:=hcut
  cases kq with
  | zero=>exact absurd HA.out (by simp [weftlaw1_NumSums.j0])
  | succ kj6 =>
   have H:=HA.out
   clear HA
   simp only [weftlaw1_NumSums.j0] at H
   obtain ⟨⟨t777,t778,t779⟩,A56,H⟩:=zB H
   (try dsimp only at H)
   obtain ⟨⟨t781,t782,t783⟩,A57,H⟩:=zB H
   (try dsimp only at H)
   have HC58:=aZ H
   clear H
   have hnb59:=NB741_742.out
   have hnc59:=NB742_741.out
   have hnb60:=NB741_761.out
   have hnc60:=NB761_741.out
   have hnb61:=NB741_762.out
   have hnc61:=NB762_741.out
   have hcz62_0:wc.cell? ⟨gb741,0,none⟩=some (.string t735):=(blk_cell BK741.out 0).trans rfl
   have hcz62_1:wc.cell? ⟨gb741,1,none⟩=some (.string t736):=(blk_cell BK741.out 1).trans rfl
   have hfz62_0:=blk_frozen BK741.out 0
   have hfz62_1:=blk_frozen BK741.out 1
   have hnb63:=NB742_761.out
   have hnc63:=NB761_742.out
   have hnb64:=NB742_762.out
   have hnc64:=NB762_742.out
   have hcz65_0:wc.cell? ⟨gb742,0,none⟩=some (.string t738):=(blk_cell BK742.out 0).trans rfl
   have hcz65_1:wc.cell? ⟨gb742,1,none⟩=some (.string t739):=(blk_cell BK742.out 1).trans rfl
   have hfz65_0:=blk_frozen BK742.out 0
   have hfz65_1:=blk_frozen BK742.out 1
   go_upto_region 9 with (first|(refine zg (some 37) func66 #[.agg #[.string t735,.string t736],.agg #[.string t738,.string t739]] ?_;(with_reducible refine (num_Add.calls kj6 t735 t736 t738 t739 t777 t778 t779 _ ?side1 A56.out).mono ?_);(case side1=>exact Tryz.Gl.below HG.out bw);rintro e w66 ⟨rfl,hb⟩;refine ⟨_,rfl,?_⟩;replace HO_762001:=yV HO_762001 hb;replace HO_762002:=yV HO_762002 hb;replace HO_763001:=yV HO_763001 hb;replace HO_763002:=yV HO_763002 hb;replace BK741:=sK BK741 hb;replace BK742:=sK BK742 hb;replace BK761:=sK BK761 hb;replace BK762:=sK BK762 hb;replace HB:=sB hb;clear hb)|(refine box_ev 9 #[.string ⟨#[]⟩,.string ⟨#[]⟩] 61 ?_;intro gb780 hg w67 hbox hb;replace HO_762001:=yE HO_762001 hg hb;replace HO_762002:=yE HO_762002 hg hb;replace HO_763001:=yE HO_763001 hg hb;replace HO_763002:=yE HO_763002 hg hb;have BK780:=aZ hbox;have GE780:=sG hg;replace HB:=sB hb;have NB741_780:=sl hg BK741;have NB780_741:=sg hg BK741;replace BK741:=sK BK741 hb;have NB742_780:=sl hg BK742;have NB780_742:=sg hg BK742;replace BK742:=sK BK742 hb;have NB761_780:=sl hg BK761;have NB780_761:=sg hg BK761;replace BK761:=sK BK761 hb;have NB762_780:=sl hg BK762;have NB780_762:=sg hg BK762;replace BK762:=sK BK762 hb;clear hb hbox hg;have hnb68:=NB780_741.out;have hnc68:=NB741_780.out;have hnb69:=NB780_742.out;have hnc69:=NB742_780.out;have hnb70:=NB780_761.out;have hnc70:=NB761_780.out;have hnb71:=NB780_762.out;have hnc71:=NB762_780.out;obtain ⟨hcz72_0,hfz72_0⟩:=zc BK780 0 (.string ⟨#[]⟩) rfl;obtain ⟨hcz72_1,hfz72_1⟩:=zc BK780 1 (.string ⟨#[]⟩) rfl;obtain ⟨hcz73_0,hfz73_0⟩:=zc BK741 0 (.string t735) rfl;obtain ⟨hcz73_1,hfz73_1⟩:=zc BK741 1 (.string t736) rfl;obtain ⟨hcz74_0,hfz74_0⟩:=zc BK742 0 (.string t738) rfl;obtain ⟨hcz74_1,hfz74_1⟩:=zc BK742 1 (.string t739) rfl)|(refine zg (some 43) func67 #[.agg #[.string t735,.string t736],.agg #[.string t738,.string t739]] ?_;(with_reducible refine (num_Sub.calls kj6 t735 t736 t738 t739 t781 t782 t783 _ ?side1 A57.out).mono ?_);(case side1=>exact Tryz.Gl.below HG.out bw);rintro e w75 ⟨rfl,hb⟩;refine ⟨_,rfl,?_⟩;replace HO_762001:=aZ (Kd.V_below (by (with_reducible repeat (first|apply Kd.V_alloc|apply Kd.V_drewN|apply Kd.V_drew));exact (Kd.V_mono (Kd.V_far (p:=⟨gb780,1,none⟩) (Kd.V_far (p:=⟨gb780,0,none⟩) (Kd.V_mono HO_762001.out (fun k_ hk=>(⟨hk,hk.2⟩:_∧k_≠gb780))) (fun _ hk=>hk.2) (.string t777)) (fun _ hk=>hk.2) (.string t778)) (fun _ h_=>h_.1))) hb);replace HO_762002:=aZ (Kd.V_below (by (with_reducible repeat (first|apply Kd.V_alloc|apply Kd.V_drewN|apply Kd.V_drew));exact (Kd.V_mono (Kd.V_far (p:=⟨gb780,1,none⟩) (Kd.V_far (p:=⟨gb780,0,none⟩) (Kd.V_mono HO_762002.out (fun k_ hk=>(⟨hk,hk.2⟩:_∧k_≠gb780))) (fun _ hk=>hk.2) (.string t777)) (fun _ hk=>hk.2) (.string t778)) (fun _ h_=>h_.1))) hb);replace HO_763001:=aZ (Kd.V_below (by (with_reducible repeat (first|apply Kd.V_alloc|apply Kd.V_drewN|apply Kd.V_drew));exact (Kd.V_mono (Kd.V_far (p:=⟨gb780,1,none⟩) (Kd.V_far (p:=⟨gb780,0,none⟩) (Kd.V_mono HO_763001.out (fun k_ hk=>(⟨hk,hk.2⟩:_∧k_≠gb780))) (fun _ hk=>hk.2) (.string t777)) (fun _ hk=>hk.2) (.string t778)) (fun _ h_=>h_.1))) hb);replace HO_763002:=aZ (Kd.V_below (by (with_reducible repeat (first|apply Kd.V_alloc|apply Kd.V_drewN|apply Kd.V_drew));exact (Kd.V_mono (Kd.V_far (p:=⟨gb780,1,none⟩) (Kd.V_far (p:=⟨gb780,0,none⟩) (Kd.V_mono HO_763002.out (fun k_ hk=>(⟨hk,hk.2⟩:_∧k_≠gb780))) (fun _ hk=>hk.2) (.string t777)) (fun _ hk=>hk.2) (.string t778)) (fun _ h_=>h_.1))) hb);replace BK741:=aZ (blk_below (g:=gb741) (o:=.cells #[.string t735,.string t736] 61 (0,0)) (zq BK741) hb);replace BK742:=aZ (blk_below (g:=gb742) (o:=.cells #[.string t738,.string t739] 61 (0,0)) (zq BK742) hb);replace BK761:=aZ (blk_below (g:=gb761) (o:=.cells #[.bool x762000_6,u762001,u762002] 67 (0,0)) (zq BK761) hb);replace BK762:=aZ (blk_below (g:=gb762) (o:=.cells #[.bool x763000_6,u763001,u763002] 67 (0,0)) (zq BK762) hb);replace BK780:=sP (.cells #[.string t777,.string t778] 61 (0,0)) BK780 hb;replace HB:=sB hb;clear hb)|(refine box_ev 11 #[.string ⟨#[]⟩,.string ⟨#[]⟩] 61 ?_;intro gb784 hg w76 hbox hb;replace HO_762001:=yE HO_762001 hg hb;replace HO_762002:=yE HO_762002 hg hb;replace HO_763001:=yE HO_763001 hg hb;replace HO_763002:=yE HO_763002 hg hb;have BK784:=aZ hbox;have GE784:=sG hg;replace HB:=sB hb;have NB741_784:=sl hg BK741;have NB784_741:=sg hg BK741;replace BK741:=sK BK741 hb;have NB742_784:=sl hg BK742;have NB784_742:=sg hg BK742;replace BK742:=sK BK742 hb;have NB761_784:=sl hg BK761;have NB784_761:=sg hg BK761;replace BK761:=sK BK761 hb;have NB762_784:=sl hg BK762;have NB784_762:=sg hg BK762;replace BK762:=sK BK762 hb;have NB780_784:=sl hg BK780;have NB784_780:=sg hg BK780;replace BK780:=sK BK780 hb;clear hb hbox hg;have hnb77:=NB784_741.out;have hnc77:=NB741_784.out;have hnb78:=NB784_742.out;have hnc78:=NB742_784.out;have hnb79:=NB784_761.out;have hnc79:=NB761_784.out;have hnb80:=NB784_762.out;have hnc80:=NB762_784.out;have hnb81:=NB784_780.out;have hnc81:=NB780_784.out;obtain ⟨hcz82_0,hfz82_0⟩:=zc BK784 0 (.string ⟨#[]⟩) rfl;obtain ⟨hcz82_1,hfz82_1⟩:=zc BK784 1 (.string ⟨#[]⟩) rfl))
   (try simp only [Act.put,List.setIfInBounds_toArray,List.set_cons_zero,List.set_cons_succ])
   go_cut [67] (fun v67 wc=>∃ (kq:Nat) (x67_57:Bool),v67 = .bool x67_57∧Aside0 (weftlaw1_NumSums.j1 kq x67_57 t735 t736=some r)∧Aside0 (kq≤kj6)∧Aside0 (Kd.V (Kd.int .i64) 3 wc w.heap.size (fun k_=>k_≠gb741∧k_≠gb742∧k_≠gb761∧k_≠gb762∧k_≠gb780∧k_≠gb784) u762001 x762001_6)∧Aside0 (Kd.V (Kd.int .i64) 3 wc w.heap.size (fun k_=>k_≠gb741∧k_≠gb742∧k_≠gb761∧k_≠gb762∧k_≠gb780∧k_≠gb784) u762002 x762002_6)∧Aside0 (Kd.V (Kd.int .i64) 3 wc w.heap.size (fun k_=>k_≠gb741∧k_≠gb742∧k_≠gb761∧k_≠gb762∧k_≠gb780∧k_≠gb784) u763001 x763001_6)∧Aside0 (Kd.V (Kd.int .i64) 3 wc w.heap.size (fun k_=>k_≠gb741∧k_≠gb742∧k_≠gb761∧k_≠gb762∧k_≠gb780∧k_≠gb784) u763002 x763002_6)∧Aside0 (wc.heap[gb741]? = some (.cells #[.string t735,.string t736] 61 (0,0)))∧Aside0 (wc.heap[gb742]? = some (.cells #[.string t738,.string t739] 61 (0,0)))∧Aside0 (wc.heap[gb761]? = some (.cells #[.bool x762000_6,u762001,u762002] 67 (0,0)))∧Aside0 (wc.heap[gb762]? = some (.cells #[.bool x763000_6,u763001,u763002] 67 (0,0)))∧Aside0 (wc.heap[gb780]? = some (.cells #[.string t777,.string t778] 61 (0,0)))∧Aside0 (wc.heap[gb784]? = some (.cells #[.string t781,.string t782] 61 (0,0)))∧Aside0 (Below w.heap.size w wc))
   case first =>
    have H:=HC58.out
    clear HC58
    obtain ⟨t785,A83,H⟩:=zB H
    by_cases c84:t785=true
    case neg=>
     replace c84:=Bool.eq_false_iff.mpr c84
     subst c84
     have H1:(weftlaw1_NumSums.j1 kj6 true t735 t736)=some r:=by rw [if_neg (show ¬ (false=true) by decide)] at H;exact H
     clear H
     have H:=H1
     clear H1
     have H':=aZ H
     clear H
     try go_wp2
     have n0_:Aside0 (Kd.V (Kd.int .i64) 3 ((w76.setCell ⟨gb784,0,none⟩ (.string t781)).setCell ⟨gb784,1,none⟩ (.string t782)) w.heap.size (fun k_=>k_≠gb741∧k_≠gb742∧k_≠gb761∧k_≠gb762∧k_≠gb780∧k_≠gb784) u762001 x762001_6):=⟨zF HO_762001⟩
     have n1_:Aside0 (Kd.V (Kd.int .i64) 3 ((w76.setCell ⟨gb784,0,none⟩ (.string t781)).setCell ⟨gb784,1,none⟩ (.string t782)) w.heap.size (fun k_=>k_≠gb741∧k_≠gb742∧k_≠gb761∧k_≠gb762∧k_≠gb780∧k_≠gb784) u762002 x762002_6):=⟨zF HO_762002⟩
     have n2_:Aside0 (Kd.V (Kd.int .i64) 3 ((w76.setCell ⟨gb784,0,none⟩ (.string t781)).setCell ⟨gb784,1,none⟩ (.string t782)) w.heap.size (fun k_=>k_≠gb741∧k_≠gb742∧k_≠gb761∧k_≠gb762∧k_≠gb780∧k_≠gb784) u763001 x763001_6):=⟨zF HO_763001⟩
     have n3_:Aside0 (Kd.V (Kd.int .i64) 3 ((w76.setCell ⟨gb784,0,none⟩ (.string t781)).setCell ⟨gb784,1,none⟩ (.string t782)) w.heap.size (fun k_=>k_≠gb741∧k_≠gb742∧k_≠gb761∧k_≠gb762∧k_≠gb780∧k_≠gb784) u763002 x763002_6):=⟨zF HO_763002⟩
     have n4_:Aside0 (((w76.setCell ⟨gb784,0,none⟩ (.string t781)).setCell ⟨gb784,1,none⟩ (.string t782)).heap[gb741]? = some (.cells #[.string t735,.string t736] 61 (0,0))):=⟨zq BK741⟩
     have n5_:Aside0 (((w76.setCell ⟨gb784,0,none⟩ (.string t781)).setCell ⟨gb784,1,none⟩ (.string t782)).heap[gb742]? = some (.cells #[.string t738,.string t739] 61 (0,0))):=⟨zq BK742⟩
     have n6_:Aside0 (((w76.setCell ⟨gb784,0,none⟩ (.string t781)).setCell ⟨gb784,1,none⟩ (.string t782)).heap[gb761]? = some (.cells #[.bool x762000_6,u762001,u762002] 67 (0,0))):=⟨zq BK761⟩
     have n7_:Aside0 (((w76.setCell ⟨gb784,0,none⟩ (.string t781)).setCell ⟨gb784,1,none⟩ (.string t782)).heap[gb762]? = some (.cells #[.bool x763000_6,u763001,u763002] 67 (0,0))):=⟨zq BK762⟩
     have n8_:Aside0 (((w76.setCell ⟨gb784,0,none⟩ (.string t781)).setCell ⟨gb784,1,none⟩ (.string t782)).heap[gb780]? = some (.cells #[.string t777,.string t778] 61 (0,0))):=⟨zq BK780⟩
     have n9_:Aside0 (((w76.setCell ⟨gb784,0,none⟩ (.string t781)).setCell ⟨gb784,1,none⟩ (.string t782)).heap[gb784]? = some (.cells #[.string t781,.string t782] 61 (0,0))):=⟨zq BK784⟩
     have n10_:Aside0 (Below w.heap.size w ((w76.setCell ⟨gb784,0,none⟩ (.string t781)).setCell ⟨gb784,1,none⟩ (.string t782))):=⟨bw⟩
     (try clear HO_762001)
     (try clear HO_762002)
     (try clear HO_763001)
     (try clear HO_763002)
     (try clear BK741)
     (try clear BK742)
     (try clear BK761)
     (try clear BK762)
     (try clear BK780)
     (try clear BK784)
     (try clear HB)
     generalize ((w76.setCell ⟨gb784,0,none⟩ (.string t781)).setCell ⟨gb784,1,none⟩ (.string t782))=w116 at n0_ n1_ n2_ n3_ n4_ n5_ n6_ n7_ n8_ n9_ n10_ ⊢
     have HO_762001:=n0_
     have HO_762002:=n1_
     have HO_763001:=n2_
     have HO_763002:=n3_
     have BK741:=n4_
     have BK742:=n5_
     have BK761:=n6_
     have BK762:=n7_
     have BK780:=n8_
     have BK784:=n9_
     have HB:=n10_
     clear n0_ n1_ n2_ n3_ n4_ n5_ n6_ n7_ n8_ n9_ n10_
     replace HO_762001:=aZ (Kd.V_drew HO_762001.out)
     replace HO_762002:=aZ (Kd.V_drew HO_762002.out)
     replace HO_763001:=aZ (Kd.V_drew HO_763001.out)
     replace HO_763002:=aZ (Kd.V_drew HO_763002.out)
     replace BK741:=aZ (blk_drew BK741.out)
     replace BK742:=aZ (blk_drew BK742.out)
     replace BK761:=aZ (blk_drew BK761.out)
     replace BK762:=aZ (blk_drew BK762.out)
     replace BK780:=aZ (blk_drew BK780.out)
     replace BK784:=aZ (blk_drew BK784.out)
     replace HB:=aZ (below_drew1 HB.out)
     refine start_ (n:=22) (S:=fun w'=>True) (ds:=[]) #[false,false,false,false,false,false,false,false,false,false,false,false,false,false,false,false,false,false,false,false,false,false] (by kernel_rfl) rfl rfl trivial (fun hHeld=>?_);refine with_tabW weftlaw1_NumSums.tab9 weftlaw1_NumSums.bits9 (fun HT_ HW_=>?_)
     generalize w116.drew=w117 at HO_762001 HO_762002 HO_763001 HO_763002 BK741 BK742 BK761 BK762 BK780 BK784 HB hHeld ⊢
     refine one_ (i:=0) (N:=some 46) #[true,false,false,false,false,false,false,false,false,false,false,false,false,false,false,false,false,false,false,false,false,false] rfl rfl (one_of HT_.out (by kernel_rfl)) (by decide) (fun K hK=>?_)
     refine goes_ func20 (by kernel_rfl) rfl #[] (by rfl) rfl rfl zm ?_
     with_reducible refine (weftlaw1_nums.calls kj6  false _ ?side1 A83.out).mono ?_
     (case side1=>exact Tryz.Gl.below HG.out bw)
     rintro e w118 ⟨rfl,hb⟩
     refine ⟨_,rfl,?_⟩
     replace HO_762001:=yV HO_762001 hb
     replace HO_762002:=yV HO_762002 hb
     replace HO_763001:=yV HO_763001 hb
     replace HO_763002:=yV HO_763002 hb
     replace BK741:=sK BK741 hb
     replace BK742:=sK BK742 hb
     replace BK761:=sK BK761 hb
     replace BK762:=sK BK762 hb
     replace BK780:=sK BK780 hb
     replace BK784:=sK BK784 hb
     replace HB:=sB hb
     clear hb
     refine hK.out _ _ trivial (fun hHeld=>?_)
     clear hK K
     refine nm ?_
     refine pu 1 (some 47) HT_ ?_
     refine pu 2 (some 48) HT_ ?_
     refine pure_ (i:=3) (N:=some 49) (v:=undef) (a':=?_) #[true,true,true,true,false,false,false,false,false,false,false,false,false,false,false,false,false,false,false,false,false,false] rfl rfl (any_of HT_.out (by kernel_rfl)) (fun _ _ _ h=>h) (Or.inr ⟨by rfl,rfl⟩) ?_ ?_
     rotate_left
     ·simp only [Act.put,List.setIfInBounds_toArray,List.set_cons_zero,List.set_cons_succ,i64_w,i32_w]
      rfl
     refine pure_ (i:=4) (N:=some 50) (v:=undef) (a':=?_) #[true,true,true,true,true,false,false,false,false,false,false,false,false,false,false,false,false,false,false,false,false,false] rfl rfl (any_of HT_.out (by kernel_rfl)) (fun _ _ _ h=>h) (Or.inr ⟨by rfl,rfl⟩) ?_ ?_
     rotate_left
     ·simp only [Act.put,List.setIfInBounds_toArray,List.set_cons_zero,List.set_cons_succ,i64_w,i32_w]
      rfl
     refine pure_ (i:=5) (N:=some 51) (v:=undef) (a':=?_) #[true,true,true,true,true,true,false,false,false,false,false,false,false,false,false,false,false,false,false,false,false,false] rfl rfl (any_of HT_.out (by kernel_rfl)) (fun _ _ _ h=>h) (Or.inr ⟨by rfl,rfl⟩) ?_ ?_
     rotate_left
     ·simp only [Act.put,List.setIfInBounds_toArray,List.set_cons_zero,List.set_cons_succ,i64_w,i32_w]
      rfl
     refine pure_ (i:=6) (N:=some 52) (v:=undef) (a':=?_) #[true,true,true,true,true,true,true,false,false,false,false,false,false,false,false,false,false,false,false,false,false,false] rfl rfl (any_of HT_.out (by kernel_rfl)) (fun _ _ _ h=>h) (Or.inr ⟨by rfl,rfl⟩) ?_ ?_
     rotate_left
     ·simp only [Act.put,List.setIfInBounds_toArray,List.set_cons_zero,List.set_cons_succ,i64_w,i32_w]
      rfl
     refine pure_ (i:=7) (N:=some 53) (v:=undef) (a':=?_) #[true,true,true,true,true,true,true,true,false,false,false,false,false,false,false,false,false,false,false,false,false,false] rfl rfl (any_of HT_.out (by kernel_rfl)) (fun _ _ _ h=>h) (Or.inr ⟨by rfl,rfl⟩) ?_ ?_
     rotate_left
     ·simp only [Act.put,List.setIfInBounds_toArray,List.set_cons_zero,List.set_cons_succ,i64_w,i32_w]
      rfl
     refine pure_ (i:=8) (N:=some 54) (v:=undef) (a':=?_) #[true,true,true,true,true,true,true,true,true,false,false,false,false,false,false,false,false,false,false,false,false,false] rfl rfl (any_of HT_.out (by kernel_rfl)) (fun _ _ _ h=>h) (Or.inr ⟨by rfl,rfl⟩) ?_ ?_
     rotate_left
     ·simp only [Act.put,List.setIfInBounds_toArray,List.set_cons_zero,List.set_cons_succ,i64_w,i32_w]
      rfl
     refine pure_ (i:=9) (N:=some 55) (v:=undef) (a':=?_) #[true,true,true,true,true,true,true,true,true,true,false,false,false,false,false,false,false,false,false,false,false,false] rfl rfl (any_of HT_.out (by kernel_rfl)) (fun _ _ _ h=>h) (Or.inr ⟨by rfl,rfl⟩) ?_ ?_
     rotate_left
     ·simp only [Act.put,List.setIfInBounds_toArray,List.set_cons_zero,List.set_cons_succ,i64_w,i32_w]
      rfl
     refine pure_ (i:=10) (N:=some 56) (v:=undef) (a':=?_) #[true,true,true,true,true,true,true,true,true,true,true,false,false,false,false,false,false,false,false,false,false,false] rfl rfl (any_of HT_.out (by kernel_rfl)) (fun _ _ _ h=>h) (Or.inr ⟨by rfl,rfl⟩) ?_ ?_
     rotate_left
     ·simp only [Act.put,List.setIfInBounds_toArray,List.set_cons_zero,List.set_cons_succ,i64_w,i32_w]
      rfl
     refine pu 11 (some 57) HT_ ?_
     refine pu 12 (some 58) HT_ ?_
     refine pure_ (i:=13) (N:=some 59) (v:=undef) (a':=?_) #[true,true,true,true,true,true,true,true,true,true,true,true,true,true,false,false,false,false,false,false,false,false] rfl rfl (any_of HT_.out (by kernel_rfl)) (fun _ _ _ h=>h) (Or.inr ⟨by rfl,rfl⟩) ?_ ?_
     rotate_left
     ·simp only [Act.put,List.setIfInBounds_toArray,List.set_cons_zero,List.set_cons_succ,i64_w,i32_w]
      rfl
     refine pure_ (i:=14) (N:=some 60) (v:=undef) (a':=?_) #[true,true,true,true,true,true,true,true,true,true,true,true,true,true,true,false,false,false,false,false,false,false] rfl rfl (any_of HT_.out (by kernel_rfl)) (fun _ _ _ h=>h) (Or.inr ⟨by rfl,rfl⟩) ?_ ?_
     rotate_left
     ·simp only [Act.put,List.setIfInBounds_toArray,List.set_cons_zero,List.set_cons_succ,i64_w,i32_w]
      rfl
     refine pure_ (i:=15) (N:=some 61) (v:=undef) (a':=?_) #[true,true,true,true,true,true,true,true,true,true,true,true,true,true,true,true,false,false,false,false,false,false] rfl rfl (any_of HT_.out (by kernel_rfl)) (fun _ _ _ h=>h) (Or.inr ⟨by rfl,rfl⟩) ?_ ?_
     rotate_left
     ·simp only [Act.put,List.setIfInBounds_toArray,List.set_cons_zero,List.set_cons_succ,i64_w,i32_w]
      rfl
     refine pure_ (i:=16) (N:=some 62) (v:=undef) (a':=?_) #[true,true,true,true,true,true,true,true,true,true,true,true,true,true,true,true,true,false,false,false,false,false] rfl rfl (any_of HT_.out (by kernel_rfl)) (fun _ _ _ h=>h) (Or.inr ⟨by rfl,rfl⟩) ?_ ?_
     rotate_left
     ·simp only [Act.put,List.setIfInBounds_toArray,List.set_cons_zero,List.set_cons_succ,i64_w,i32_w]
      rfl
     refine pure_ (i:=17) (N:=some 63) (v:=undef) (a':=?_) #[true,true,true,true,true,true,true,true,true,true,true,true,true,true,true,true,true,true,false,false,false,false] rfl rfl (any_of HT_.out (by kernel_rfl)) (fun _ _ _ h=>h) (Or.inr ⟨by rfl,rfl⟩) ?_ ?_
     rotate_left
     ·simp only [Act.put,List.setIfInBounds_toArray,List.set_cons_zero,List.set_cons_succ,i64_w,i32_w]
      rfl
     refine pure_ (i:=18) (N:=some 64) (v:=undef) (a':=?_) #[true,true,true,true,true,true,true,true,true,true,true,true,true,true,true,true,true,true,true,false,false,false] rfl rfl (any_of HT_.out (by kernel_rfl)) (fun _ _ _ h=>h) (Or.inr ⟨by rfl,rfl⟩) ?_ ?_
     rotate_left
     ·simp only [Act.put,List.setIfInBounds_toArray,List.set_cons_zero,List.set_cons_succ,i64_w,i32_w]
      rfl
     refine pure_ (i:=19) (N:=some 65) (v:=undef) (a':=?_) #[true,true,true,true,true,true,true,true,true,true,true,true,true,true,true,true,true,true,true,true,false,false] rfl rfl (any_of HT_.out (by kernel_rfl)) (fun _ _ _ h=>h) (Or.inr ⟨by rfl,rfl⟩) ?_ ?_
     rotate_left
     ·simp only [Act.put,List.setIfInBounds_toArray,List.set_cons_zero,List.set_cons_succ,i64_w,i32_w]
      rfl
     refine pure_ (i:=20) (N:=some 66) (v:=undef) (a':=?_) #[true,true,true,true,true,true,true,true,true,true,true,true,true,true,true,true,true,true,true,true,true,false] rfl rfl (any_of HT_.out (by kernel_rfl)) (fun _ _ _ h=>h) (Or.inr ⟨by rfl,rfl⟩) ?_ ?_
     rotate_left
     ·simp only [Act.put,List.setIfInBounds_toArray,List.set_cons_zero,List.set_cons_succ,i64_w,i32_w]
      rfl
     refine pu 21 (some 67) HT_ ?_
     refine done_ (done_of HT_.out (by kernel_rfl)) ?_
     try go_wp2
     go_meet
     case rel=>exact ⟨_,(true),zs,H',⟨by have:=HJ6.out;first|omega|exact Nat.le_refl _⟩,⟨zV HO_762001⟩,⟨zV HO_762002⟩,⟨zV HO_763001⟩,⟨zV HO_763002⟩,⟨zb BK741⟩,⟨zb BK742⟩,⟨zb BK761⟩,⟨zb BK762⟩,⟨zb BK780⟩,⟨zb BK784⟩,⟨bw⟩⟩
    subst c84
    have H1:((weftref1_Num_Add.f kj6 x762000_6 x762001_6 x762002_6 x763000_6 x763001_6 x763002_6).bind fun bt786=>((weftlaw1_same.f t777 t778 t779 bt786.1 bt786.2.1 bt786.2.2 t746).bind fun t793=>(if t793=true then ((weftref1_Num_Sub.f kj6 x762000_6 x762001_6 x762002_6 x763000_6 x763001_6 x763002_6).bind fun bt794=>((weftlaw1_same.f t781 t782 t783 bt794.1 bt794.2.1 bt794.2.2 t746).bind fun t801=>(weftlaw1_NumSums.j1 kj6 (!t801) t735 t736))) else (weftlaw1_NumSums.j1 kj6 true t735 t736))))=some r:=by rw [if_pos rfl] at H;exact H
    clear H
    have H:=H1
    clear H1
    obtain ⟨⟨t786,t787,t790⟩,A85,H⟩:=zB H
    (try dsimp only at H)
    obtain ⟨t793,A86,H⟩:=zB H
    by_cases c87:t793=true
    case neg=>
     replace c87:=Bool.eq_false_iff.mpr c87
     subst c87
     have H1:(weftlaw1_NumSums.j1 kj6 true t735 t736)=some r:=by rw [if_neg (show ¬ (false=true) by decide)] at H;exact H
     clear H
     have H:=H1
     clear H1
     have H':=aZ H
     clear H
     try go_wp2
     have n0_:Aside0 (Kd.V (Kd.int .i64) 3 ((w76.setCell ⟨gb784,0,none⟩ (.string t781)).setCell ⟨gb784,1,none⟩ (.string t782)) w.heap.size (fun k_=>k_≠gb741∧k_≠gb742∧k_≠gb761∧k_≠gb762∧k_≠gb780∧k_≠gb784) u762001 x762001_6):=⟨zF HO_762001⟩
     have n1_:Aside0 (Kd.V (Kd.int .i64) 3 ((w76.setCell ⟨gb784,0,none⟩ (.string t781)).setCell ⟨gb784,1,none⟩ (.string t782)) w.heap.size (fun k_=>k_≠gb741∧k_≠gb742∧k_≠gb761∧k_≠gb762∧k_≠gb780∧k_≠gb784) u762002 x762002_6):=⟨zF HO_762002⟩
     have n2_:Aside0 (Kd.V (Kd.int .i64) 3 ((w76.setCell ⟨gb784,0,none⟩ (.string t781)).setCell ⟨gb784,1,none⟩ (.string t782)) w.heap.size (fun k_=>k_≠gb741∧k_≠gb742∧k_≠gb761∧k_≠gb762∧k_≠gb780∧k_≠gb784) u763001 x763001_6):=⟨zF HO_763001⟩
     have n3_:Aside0 (Kd.V (Kd.int .i64) 3 ((w76.setCell ⟨gb784,0,none⟩ (.string t781)).setCell ⟨gb784,1,none⟩ (.string t782)) w.heap.size (fun k_=>k_≠gb741∧k_≠gb742∧k_≠gb761∧k_≠gb762∧k_≠gb780∧k_≠gb784) u763002 x763002_6):=⟨zF HO_763002⟩
     have n4_:Aside0 (((w76.setCell ⟨gb784,0,none⟩ (.string t781)).setCell ⟨gb784,1,none⟩ (.string t782)).heap[gb741]? = some (.cells #[.string t735,.string t736] 61 (0,0))):=⟨zq BK741⟩
     have n5_:Aside0 (((w76.setCell ⟨gb784,0,none⟩ (.string t781)).setCell ⟨gb784,1,none⟩ (.string t782)).heap[gb742]? = some (.cells #[.string t738,.string t739] 61 (0,0))):=⟨zq BK742⟩
     have n6_:Aside0 (((w76.setCell ⟨gb784,0,none⟩ (.string t781)).setCell ⟨gb784,1,none⟩ (.string t782)).heap[gb761]? = some (.cells #[.bool x762000_6,u762001,u762002] 67 (0,0))):=⟨zq BK761⟩
     have n7_:Aside0 (((w76.setCell ⟨gb784,0,none⟩ (.string t781)).setCell ⟨gb784,1,none⟩ (.string t782)).heap[gb762]? = some (.cells #[.bool x763000_6,u763001,u763002] 67 (0,0))):=⟨zq BK762⟩
     have n8_:Aside0 (((w76.setCell ⟨gb784,0,none⟩ (.string t781)).setCell ⟨gb784,1,none⟩ (.string t782)).heap[gb780]? = some (.cells #[.string t777,.string t778] 61 (0,0))):=⟨zq BK780⟩
     have n9_:Aside0 (((w76.setCell ⟨gb784,0,none⟩ (.string t781)).setCell ⟨gb784,1,none⟩ (.string t782)).heap[gb784]? = some (.cells #[.string t781,.string t782] 61 (0,0))):=⟨zq BK784⟩
     have n10_:Aside0 (Below w.heap.size w ((w76.setCell ⟨gb784,0,none⟩ (.string t781)).setCell ⟨gb784,1,none⟩ (.string t782))):=⟨bw⟩
     (try clear HO_762001)
     (try clear HO_762002)
     (try clear HO_763001)
     (try clear HO_763002)
     (try clear BK741)
     (try clear BK742)
     (try clear BK761)
     (try clear BK762)
     (try clear BK780)
     (try clear BK784)
     (try clear HB)
     generalize ((w76.setCell ⟨gb784,0,none⟩ (.string t781)).setCell ⟨gb784,1,none⟩ (.string t782))=w105 at n0_ n1_ n2_ n3_ n4_ n5_ n6_ n7_ n8_ n9_ n10_ ⊢
     have HO_762001:=n0_
     have HO_762002:=n1_
     have HO_763001:=n2_
     have HO_763002:=n3_
     have BK741:=n4_
     have BK742:=n5_
     have BK761:=n6_
     have BK762:=n7_
     have BK780:=n8_
     have BK784:=n9_
     have HB:=n10_
     clear n0_ n1_ n2_ n3_ n4_ n5_ n6_ n7_ n8_ n9_ n10_
     replace HO_762001:=aZ (Kd.V_drew HO_762001.out)
     replace HO_762002:=aZ (Kd.V_drew HO_762002.out)
     replace HO_763001:=aZ (Kd.V_drew HO_763001.out)
     replace HO_763002:=aZ (Kd.V_drew HO_763002.out)
     replace BK741:=aZ (blk_drew BK741.out)
     replace BK742:=aZ (blk_drew BK742.out)
     replace BK761:=aZ (blk_drew BK761.out)
     replace BK762:=aZ (blk_drew BK762.out)
     replace BK780:=aZ (blk_drew BK780.out)
     replace BK784:=aZ (blk_drew BK784.out)
     replace HB:=aZ (below_drew1 HB.out)
     refine start_ (n:=22) (S:=fun w'=>w'.cell? ⟨gb780,0,none⟩=some (.string t777)∧w'.cell? ⟨gb780,1,none⟩=some (.string t778)∧w'.cell? ⟨gb761,0,none⟩=some (.bool x762000_6)∧w'.cell? ⟨gb761,1,none⟩=some (u762001)∧w'.cell? ⟨gb761,2,none⟩=some (u762002)∧w'.cell? ⟨gb762,0,none⟩=some (.bool x763000_6)∧w'.cell? ⟨gb762,1,none⟩=some (u763001)∧w'.cell? ⟨gb762,2,none⟩=some (u763002)) (ds:=[]) #[false,false,false,false,false,false,false,false,false,false,false,false,false,false,false,false,false,false,false,false,false,false] (by kernel_rfl) rfl rfl ⟨zh BK780 0,zh BK780 1,zh BK761 0,zh BK761 1,zh BK761 2,zh BK762 0,zh BK762 1,zh BK762 2⟩ (fun hHeld=>?_);refine with_tabW weftlaw1_NumSums.tab9 weftlaw1_NumSums.bits9 (fun HT_ HW_=>?_)
     generalize w105.drew=w106 at HO_762001 HO_762002 HO_763001 HO_763002 BK741 BK742 BK761 BK762 BK780 BK784 HB hHeld ⊢
     refine one_ (i:=0) (N:=some 46) #[true,false,false,false,false,false,false,false,false,false,false,false,false,false,false,false,false,false,false,false,false,false] rfl rfl (one_of HT_.out (by kernel_rfl)) (by decide) (fun K hK=>?_)
     refine goes_ func20 (by kernel_rfl) rfl #[] (by rfl) rfl rfl zm ?_
     with_reducible refine (weftlaw1_nums.calls kj6  true _ ?side1 A83.out).mono ?_
     (case side1=>exact Tryz.Gl.below HG.out bw)
     rintro e w107 ⟨rfl,hb⟩
     refine ⟨_,rfl,?_⟩
     replace HO_762001:=yV HO_762001 hb
     replace HO_762002:=yV HO_762002 hb
     replace HO_763001:=yV HO_763001 hb
     replace HO_763002:=yV HO_763002 hb
     replace BK741:=sK BK741 hb
     replace BK742:=sK BK742 hb
     replace BK761:=sK BK761 hb
     replace BK762:=sK BK762 hb
     replace BK780:=sK BK780 hb
     replace BK784:=sK BK784 hb
     replace HB:=sB hb
     clear hb
     obtain ⟨Ao108,co108,eo108⟩:=Kd.V_slice HO_762001.out
     (first|subst eo108|(injection eo108 with f1_ f2_ f3_;have f4_:=f1_.symm;have f5_:=f3_.symm;clear f1_ f2_ f3_;subst f4_;subst f5_))
     obtain ⟨Ao109,co109,eo109⟩:=Kd.V_slice HO_762002.out
     (first|subst eo109|(injection eo109 with f1_ f2_ f3_;have f4_:=f1_.symm;have f5_:=f3_.symm;clear f1_ f2_ f3_;subst f4_;subst f5_))
     obtain ⟨Ao110,co110,eo110⟩:=Kd.V_slice HO_763001.out
     (first|subst eo110|(injection eo110 with f1_ f2_ f3_;have f4_:=f1_.symm;have f5_:=f3_.symm;clear f1_ f2_ f3_;subst f4_;subst f5_))
     obtain ⟨Ao111,co111,eo111⟩:=Kd.V_slice HO_763002.out
     (first|subst eo111|(injection eo111 with f1_ f2_ f3_;have f4_:=f1_.symm;have f5_:=f3_.symm;clear f1_ f2_ f3_;subst f4_;subst f5_))
     refine hK.out _ _ ⟨zh BK780 0,zh BK780 1,zh BK761 0,zh BK761 1,zh BK761 2,zh BK762 0,zh BK762 1,zh BK762 2⟩ (fun hHeld=>?_)
     clear hK K
     refine nm ?_
     refine pu 1 (some 47) HT_ ?_
     refine pu 2 (some 48) HT_ ?_
     refine pu 4 (some 50) HT_ ?_
     refine pu 8 (some 54) HT_ ?_
     refine tk 3 (some 49) HT_ HW_ hHeld ?_
     refine tk 5 (some 51) HT_ HW_ hHeld ?_
     refine tk 6 (some 52) HT_ HW_ hHeld ?_
     refine one_ (i:=7) (N:=some 53) #[true,true,true,true,true,true,true,true,true,false,false,false,false,false,false,false,false,false,false,false,false,false] rfl rfl (one_of HT_.out (by kernel_rfl)) (by decide) (fun K hK=>?_)
     refine goes_ func68 (by kernel_rfl) rfl #[.agg #[.bool x762000_6,.slice Ao108 x762001_6.length co108,.slice Ao109 x762002_6.length co109],.agg #[.bool x763000_6,.slice Ao110 x763001_6.length co110,.slice Ao111 x763002_6.length co111]] (by rfl) rfl rfl zm ?_
     with_reducible refine (weftref1_Num_Add.calls kj6 x762000_6 _ _ x762001_6 _ _ x762002_6 x763000_6 _ _ x763001_6 _ _ x763002_6 t786 t787 t790 _ ?side1 ?side2 ?side3 ?side4 ?side5 ?side6 ?side7 ?side8 A85.out).mono ?_
     (case side1=>exact zr HO_762001)
     (case side2=>exact zk HO_762001)
     (case side3=>exact zr HO_762002)
     (case side4=>exact zk HO_762002)
     (case side5=>exact zr HO_763001)
     (case side6=>exact zk HO_763001)
     (case side7=>exact zr HO_763002)
     (case side8=>exact zk HO_763002)
     rintro e w112 ⟨v788,v791,rfl,ho0,ho1,hb⟩
     refine ⟨_,rfl,?_⟩
     replace HO_762001:=yV HO_762001 hb
     replace HO_762002:=yV HO_762002 hb
     replace HO_763001:=yV HO_763001 hb
     replace HO_763002:=yV HO_763002 hb
     have HO789:=yL (fun k_=>k_≠gb741∧k_≠gb742∧k_≠gb761∧k_≠gb762∧k_≠gb780∧k_≠gb784) ho0 (fun k_ hk_=>⟨(zf BK741 hk_),(zf BK742 hk_),(zf BK761 hk_),(zf BK762 hk_),(zf BK780 hk_),(zf BK784 hk_)⟩)
     have HO792:=yL (fun k_=>k_≠gb741∧k_≠gb742∧k_≠gb761∧k_≠gb762∧k_≠gb780∧k_≠gb784) ho1 (fun k_ hk_=>⟨(zf BK741 hk_),(zf BK742 hk_),(zf BK761 hk_),(zf BK762 hk_),(zf BK780 hk_),(zf BK784 hk_)⟩)
     replace BK741:=sK BK741 hb
     replace BK742:=sK BK742 hb
     replace BK761:=sK BK761 hb
     replace BK762:=sK BK762 hb
     replace BK780:=sK BK780 hb
     replace BK784:=sK BK784 hb
     replace HB:=sB hb
     clear hb ho0 ho1
     obtain ⟨Ao113,co113,eo113⟩:=Kd.V_slice HO789.out
     (first|subst eo113|(injection eo113 with f1_ f2_ f3_;have f4_:=f1_.symm;have f5_:=f3_.symm;clear f1_ f2_ f3_;subst f4_;subst f5_))
     obtain ⟨Ao114,co114,eo114⟩:=Kd.V_slice HO792.out
     (first|subst eo114|(injection eo114 with f1_ f2_ f3_;have f4_:=f1_.symm;have f5_:=f3_.symm;clear f1_ f2_ f3_;subst f4_;subst f5_))
     refine hK.out _ _ ⟨zh BK780 0,zh BK780 1,zh BK761 0,zh BK761 1,zh BK761 2,zh BK762 0,zh BK762 1,zh BK762 2⟩ (fun hHeld=>?_)
     clear hK K
     refine nm ?_
     refine one_ (i:=9) (N:=some 55) #[true,true,true,true,true,true,true,true,true,true,false,false,false,false,false,false,false,false,false,false,false,false] rfl rfl (one_of HT_.out (by kernel_rfl)) (by decide) (fun K hK=>?_)
     refine goes_ func50 (by kernel_rfl) rfl #[.agg #[.string t777,.string t778],.int .i64 t779,.agg #[.bool t786,.slice Ao113 t787.length co113,.slice Ao114 t790.length co114],.int .i64 t746] (by rfl) rfl rfl zm ?_
     with_reducible refine (weftlaw1_same.calls t777 t778 t779 t786 _ _ t787 _ _ t790 t746 false _ ?side1 ?side2 ?side3 ?side4 ?side5 A86.out).mono ?_
     (case side1=>exact zr HO789)
     (case side2=>exact zk HO789)
     (case side3=>exact zr HO792)
     (case side4=>exact zk HO792)
     (case side5=>exact Tryz.Gl.below HG.out bw)
     rintro e w115 ⟨rfl,hb⟩
     refine ⟨_,rfl,?_⟩
     replace HO_762001:=yV HO_762001 hb
     replace HO_762002:=yV HO_762002 hb
     replace HO_763001:=yV HO_763001 hb
     replace HO_763002:=yV HO_763002 hb
     replace HO789:=yV HO789 hb
     replace HO792:=yV HO792 hb
     replace BK741:=sK BK741 hb
     replace BK742:=sK BK742 hb
     replace BK761:=sK BK761 hb
     replace BK762:=sK BK762 hb
     replace BK780:=sK BK780 hb
     replace BK784:=sK BK784 hb
     replace HB:=sB hb
     clear hb
     refine hK.out _ _ ⟨zh BK780 0,zh BK780 1,zh BK761 0,zh BK761 1,zh BK761 2,zh BK762 0,zh BK762 1,zh BK762 2⟩ (fun hHeld=>?_)
     clear hK K
     refine nm ?_
     refine pu 10 (some 56) HT_ ?_
     refine pu 11 (some 57) HT_ ?_
     refine pu 12 (some 58) HT_ ?_
     refine pure_ (i:=13) (N:=some 59) (v:=undef) (a':=?_) #[true,true,true,true,true,true,true,true,true,true,true,true,true,true,false,false,false,false,false,false,false,false] rfl rfl (any_of HT_.out (by kernel_rfl)) (fun _ _ _ h=>h) (Or.inr ⟨by rfl,rfl⟩) ?_ ?_
     rotate_left
     ·simp only [Act.put,List.setIfInBounds_toArray,List.set_cons_zero,List.set_cons_succ,i64_w,i32_w]
      rfl
     refine pure_ (i:=14) (N:=some 60) (v:=undef) (a':=?_) #[true,true,true,true,true,true,true,true,true,true,true,true,true,true,true,false,false,false,false,false,false,false] rfl rfl (any_of HT_.out (by kernel_rfl)) (fun _ _ _ h=>h) (Or.inr ⟨by rfl,rfl⟩) ?_ ?_
     rotate_left
     ·simp only [Act.put,List.setIfInBounds_toArray,List.set_cons_zero,List.set_cons_succ,i64_w,i32_w]
      rfl
     refine pure_ (i:=15) (N:=some 61) (v:=undef) (a':=?_) #[true,true,true,true,true,true,true,true,true,true,true,true,true,true,true,true,false,false,false,false,false,false] rfl rfl (any_of HT_.out (by kernel_rfl)) (fun _ _ _ h=>h) (Or.inr ⟨by rfl,rfl⟩) ?_ ?_
     rotate_left
     ·simp only [Act.put,List.setIfInBounds_toArray,List.set_cons_zero,List.set_cons_succ,i64_w,i32_w]
      rfl
     refine pure_ (i:=16) (N:=some 62) (v:=undef) (a':=?_) #[true,true,true,true,true,true,true,true,true,true,true,true,true,true,true,true,true,false,false,false,false,false] rfl rfl (any_of HT_.out (by kernel_rfl)) (fun _ _ _ h=>h) (Or.inr ⟨by rfl,rfl⟩) ?_ ?_
     rotate_left
     ·simp only [Act.put,List.setIfInBounds_toArray,List.set_cons_zero,List.set_cons_succ,i64_w,i32_w]
      rfl
     refine pure_ (i:=17) (N:=some 63) (v:=undef) (a':=?_) #[true,true,true,true,true,true,true,true,true,true,true,true,true,true,true,true,true,true,false,false,false,false] rfl rfl (any_of HT_.out (by kernel_rfl)) (fun _ _ _ h=>h) (Or.inr ⟨by rfl,rfl⟩) ?_ ?_
     rotate_left
     ·simp only [Act.put,List.setIfInBounds_toArray,List.set_cons_zero,List.set_cons_succ,i64_w,i32_w]
      rfl
     refine pure_ (i:=18) (N:=some 64) (v:=undef) (a':=?_) #[true,true,true,true,true,true,true,true,true,true,true,true,true,true,true,true,true,true,true,false,false,false] rfl rfl (any_of HT_.out (by kernel_rfl)) (fun _ _ _ h=>h) (Or.inr ⟨by rfl,rfl⟩) ?_ ?_
     rotate_left
     ·simp only [Act.put,List.setIfInBounds_toArray,List.set_cons_zero,List.set_cons_succ,i64_w,i32_w]
      rfl
     refine pure_ (i:=19) (N:=some 65) (v:=undef) (a':=?_) #[true,true,true,true,true,true,true,true,true,true,true,true,true,true,true,true,true,true,true,true,false,false] rfl rfl (any_of HT_.out (by kernel_rfl)) (fun _ _ _ h=>h) (Or.inr ⟨by rfl,rfl⟩) ?_ ?_
     rotate_left
     ·simp only [Act.put,List.setIfInBounds_toArray,List.set_cons_zero,List.set_cons_succ,i64_w,i32_w]
      rfl
     refine pure_ (i:=20) (N:=some 66) (v:=undef) (a':=?_) #[true,true,true,true,true,true,true,true,true,true,true,true,true,true,true,true,true,true,true,true,true,false] rfl rfl (any_of HT_.out (by kernel_rfl)) (fun _ _ _ h=>h) (Or.inr ⟨by rfl,rfl⟩) ?_ ?_
     rotate_left
     ·simp only [Act.put,List.setIfInBounds_toArray,List.set_cons_zero,List.set_cons_succ,i64_w,i32_w]
      rfl
     refine pu 21 (some 67) HT_ ?_
     refine done_ (done_of HT_.out (by kernel_rfl)) ?_
     try go_wp2
     go_meet
     case rel=>exact ⟨_,(true),zs,H',⟨by have:=HJ6.out;first|omega|exact Nat.le_refl _⟩,⟨zV HO_762001⟩,⟨zV HO_762002⟩,⟨zV HO_763001⟩,⟨zV HO_763002⟩,⟨zb BK741⟩,⟨zb BK742⟩,⟨zb BK761⟩,⟨zb BK762⟩,⟨zb BK780⟩,⟨zb BK784⟩,⟨bw⟩⟩
    subst c87
    have H1:((weftref1_Num_Sub.f kj6 x762000_6 x762001_6 x762002_6 x763000_6 x763001_6 x763002_6).bind fun bt794=>((weftlaw1_same.f t781 t782 t783 bt794.1 bt794.2.1 bt794.2.2 t746).bind fun t801=>(weftlaw1_NumSums.j1 kj6 (!t801) t735 t736)))=some r:=by rw [if_pos rfl] at H;exact H
    clear H
    have H:=H1
    clear H1
    obtain ⟨⟨t794,t795,t798⟩,A88,H⟩:=zB H
    (try dsimp only at H)
    obtain ⟨t801,A89,H⟩:=zB H
    have H':=aZ H
    clear H
    try go_wp2
    have n0_:Aside0 (Kd.V (Kd.int .i64) 3 ((w76.setCell ⟨gb784,0,none⟩ (.string t781)).setCell ⟨gb784,1,none⟩ (.string t782)) w.heap.size (fun k_=>k_≠gb741∧k_≠gb742∧k_≠gb761∧k_≠gb762∧k_≠gb780∧k_≠gb784) u762001 x762001_6):=⟨zF HO_762001⟩
    have n1_:Aside0 (Kd.V (Kd.int .i64) 3 ((w76.setCell ⟨gb784,0,none⟩ (.string t781)).setCell ⟨gb784,1,none⟩ (.string t782)) w.heap.size (fun k_=>k_≠gb741∧k_≠gb742∧k_≠gb761∧k_≠gb762∧k_≠gb780∧k_≠gb784) u762002 x762002_6):=⟨zF HO_762002⟩
    have n2_:Aside0 (Kd.V (Kd.int .i64) 3 ((w76.setCell ⟨gb784,0,none⟩ (.string t781)).setCell ⟨gb784,1,none⟩ (.string t782)) w.heap.size (fun k_=>k_≠gb741∧k_≠gb742∧k_≠gb761∧k_≠gb762∧k_≠gb780∧k_≠gb784) u763001 x763001_6):=⟨zF HO_763001⟩
    have n3_:Aside0 (Kd.V (Kd.int .i64) 3 ((w76.setCell ⟨gb784,0,none⟩ (.string t781)).setCell ⟨gb784,1,none⟩ (.string t782)) w.heap.size (fun k_=>k_≠gb741∧k_≠gb742∧k_≠gb761∧k_≠gb762∧k_≠gb780∧k_≠gb784) u763002 x763002_6):=⟨zF HO_763002⟩
    have n4_:Aside0 (((w76.setCell ⟨gb784,0,none⟩ (.string t781)).setCell ⟨gb784,1,none⟩ (.string t782)).heap[gb741]? = some (.cells #[.string t735,.string t736] 61 (0,0))):=⟨zq BK741⟩
    have n5_:Aside0 (((w76.setCell ⟨gb784,0,none⟩ (.string t781)).setCell ⟨gb784,1,none⟩ (.string t782)).heap[gb742]? = some (.cells #[.string t738,.string t739] 61 (0,0))):=⟨zq BK742⟩
    have n6_:Aside0 (((w76.setCell ⟨gb784,0,none⟩ (.string t781)).setCell ⟨gb784,1,none⟩ (.string t782)).heap[gb761]? = some (.cells #[.bool x762000_6,u762001,u762002] 67 (0,0))):=⟨zq BK761⟩
    have n7_:Aside0 (((w76.setCell ⟨gb784,0,none⟩ (.string t781)).setCell ⟨gb784,1,none⟩ (.string t782)).heap[gb762]? = some (.cells #[.bool x763000_6,u763001,u763002] 67 (0,0))):=⟨zq BK762⟩
    have n8_:Aside0 (((w76.setCell ⟨gb784,0,none⟩ (.string t781)).setCell ⟨gb784,1,none⟩ (.string t782)).heap[gb780]? = some (.cells #[.string t777,.string t778] 61 (0,0))):=⟨zq BK780⟩
    have n9_:Aside0 (((w76.setCell ⟨gb784,0,none⟩ (.string t781)).setCell ⟨gb784,1,none⟩ (.string t782)).heap[gb784]? = some (.cells #[.string t781,.string t782] 61 (0,0))):=⟨zq BK784⟩
    have n10_:Aside0 (Below w.heap.size w ((w76.setCell ⟨gb784,0,none⟩ (.string t781)).setCell ⟨gb784,1,none⟩ (.string t782))):=⟨bw⟩
    (try clear HO_762001)
    (try clear HO_762002)
    (try clear HO_763001)
    (try clear HO_763002)
    (try clear BK741)
    (try clear BK742)
    (try clear BK761)
    (try clear BK762)
    (try clear BK780)
    (try clear BK784)
    (try clear HB)
    generalize ((w76.setCell ⟨gb784,0,none⟩ (.string t781)).setCell ⟨gb784,1,none⟩ (.string t782))=w90 at n0_ n1_ n2_ n3_ n4_ n5_ n6_ n7_ n8_ n9_ n10_ ⊢
    have HO_762001:=n0_
    have HO_762002:=n1_
    have HO_763001:=n2_
    have HO_763002:=n3_
    have BK741:=n4_
    have BK742:=n5_
    have BK761:=n6_
    have BK762:=n7_
    have BK780:=n8_
    have BK784:=n9_
    have HB:=n10_
    clear n0_ n1_ n2_ n3_ n4_ n5_ n6_ n7_ n8_ n9_ n10_
    replace HO_762001:=aZ (Kd.V_drew HO_762001.out)
    replace HO_762002:=aZ (Kd.V_drew HO_762002.out)
    replace HO_763001:=aZ (Kd.V_drew HO_763001.out)
    replace HO_763002:=aZ (Kd.V_drew HO_763002.out)
    replace BK741:=aZ (blk_drew BK741.out)
    replace BK742:=aZ (blk_drew BK742.out)
    replace BK761:=aZ (blk_drew BK761.out)
    replace BK762:=aZ (blk_drew BK762.out)
    replace BK780:=aZ (blk_drew BK780.out)
    replace BK784:=aZ (blk_drew BK784.out)
    replace HB:=aZ (below_drew1 HB.out)
    refine start_ (n:=22) (S:=fun w'=>w'.cell? ⟨gb780,0,none⟩=some (.string t777)∧w'.cell? ⟨gb780,1,none⟩=some (.string t778)∧w'.cell? ⟨gb761,0,none⟩=some (.bool x762000_6)∧w'.cell? ⟨gb761,1,none⟩=some (u762001)∧w'.cell? ⟨gb761,2,none⟩=some (u762002)∧w'.cell? ⟨gb762,0,none⟩=some (.bool x763000_6)∧w'.cell? ⟨gb762,1,none⟩=some (u763001)∧w'.cell? ⟨gb762,2,none⟩=some (u763002)∧w'.cell? ⟨gb784,0,none⟩=some (.string t781)∧w'.cell? ⟨gb784,1,none⟩=some (.string t782)) (ds:=[]) #[false,false,false,false,false,false,false,false,false,false,false,false,false,false,false,false,false,false,false,false,false,false] (by kernel_rfl) rfl rfl ⟨zh BK780 0,zh BK780 1,zh BK761 0,zh BK761 1,zh BK761 2,zh BK762 0,zh BK762 1,zh BK762 2,zh BK784 0,zh BK784 1⟩ (fun hHeld=>?_);refine with_tabW weftlaw1_NumSums.tab9 weftlaw1_NumSums.bits9 (fun HT_ HW_=>?_)
    generalize w90.drew=w91 at HO_762001 HO_762002 HO_763001 HO_763002 BK741 BK742 BK761 BK762 BK780 BK784 HB hHeld ⊢
    refine one_ (i:=0) (N:=some 46) #[true,false,false,false,false,false,false,false,false,false,false,false,false,false,false,false,false,false,false,false,false,false] rfl rfl (one_of HT_.out (by kernel_rfl)) (by decide) (fun K hK=>?_)
    refine goes_ func20 (by kernel_rfl) rfl #[] (by rfl) rfl rfl zm ?_
    with_reducible refine (weftlaw1_nums.calls kj6  true _ ?side1 A83.out).mono ?_
    (case side1=>exact Tryz.Gl.below HG.out bw)
    rintro e w92 ⟨rfl,hb⟩
    refine ⟨_,rfl,?_⟩
    replace HO_762001:=yV HO_762001 hb
    replace HO_762002:=yV HO_762002 hb
    replace HO_763001:=yV HO_763001 hb
    replace HO_763002:=yV HO_763002 hb
    replace BK741:=sK BK741 hb
    replace BK742:=sK BK742 hb
    replace BK761:=sK BK761 hb
    replace BK762:=sK BK762 hb
    replace BK780:=sK BK780 hb
    replace BK784:=sK BK784 hb
    replace HB:=sB hb
    clear hb
    obtain ⟨Ao93,co93,eo93⟩:=Kd.V_slice HO_762001.out
    (first|subst eo93|(injection eo93 with f1_ f2_ f3_;have f4_:=f1_.symm;have f5_:=f3_.symm;clear f1_ f2_ f3_;subst f4_;subst f5_))
    obtain ⟨Ao94,co94,eo94⟩:=Kd.V_slice HO_762002.out
    (first|subst eo94|(injection eo94 with f1_ f2_ f3_;have f4_:=f1_.symm;have f5_:=f3_.symm;clear f1_ f2_ f3_;subst f4_;subst f5_))
    obtain ⟨Ao95,co95,eo95⟩:=Kd.V_slice HO_763001.out
    (first|subst eo95|(injection eo95 with f1_ f2_ f3_;have f4_:=f1_.symm;have f5_:=f3_.symm;clear f1_ f2_ f3_;subst f4_;subst f5_))
    obtain ⟨Ao96,co96,eo96⟩:=Kd.V_slice HO_763002.out
    (first|subst eo96|(injection eo96 with f1_ f2_ f3_;have f4_:=f1_.symm;have f5_:=f3_.symm;clear f1_ f2_ f3_;subst f4_;subst f5_))
    refine hK.out _ _ ⟨zh BK780 0,zh BK780 1,zh BK761 0,zh BK761 1,zh BK761 2,zh BK762 0,zh BK762 1,zh BK762 2,zh BK784 0,zh BK784 1⟩ (fun hHeld=>?_)
    clear hK K
    refine nm ?_
    refine pu 1 (some 47) HT_ ?_
    refine pu 2 (some 48) HT_ ?_
    refine pu 4 (some 50) HT_ ?_
    refine pu 8 (some 54) HT_ ?_
    refine tk 3 (some 49) HT_ HW_ hHeld ?_
    refine tk 5 (some 51) HT_ HW_ hHeld ?_
    refine tk 6 (some 52) HT_ HW_ hHeld ?_
    refine one_ (i:=7) (N:=some 53) #[true,true,true,true,true,true,true,true,true,false,false,false,false,false,false,false,false,false,false,false,false,false] rfl rfl (one_of HT_.out (by kernel_rfl)) (by decide) (fun K hK=>?_)
    refine goes_ func68 (by kernel_rfl) rfl #[.agg #[.bool x762000_6,.slice Ao93 x762001_6.length co93,.slice Ao94 x762002_6.length co94],.agg #[.bool x763000_6,.slice Ao95 x763001_6.length co95,.slice Ao96 x763002_6.length co96]] (by rfl) rfl rfl zm ?_
    with_reducible refine (weftref1_Num_Add.calls kj6 x762000_6 _ _ x762001_6 _ _ x762002_6 x763000_6 _ _ x763001_6 _ _ x763002_6 t786 t787 t790 _ ?side1 ?side2 ?side3 ?side4 ?side5 ?side6 ?side7 ?side8 A85.out).mono ?_
    (case side1=>exact zr HO_762001)
    (case side2=>exact zk HO_762001)
    (case side3=>exact zr HO_762002)
    (case side4=>exact zk HO_762002)
    (case side5=>exact zr HO_763001)
    (case side6=>exact zk HO_763001)
    (case side7=>exact zr HO_763002)
    (case side8=>exact zk HO_763002)
    rintro e w97 ⟨v788,v791,rfl,ho0,ho1,hb⟩
    refine ⟨_,rfl,?_⟩
    replace HO_762001:=yV HO_762001 hb
    replace HO_762002:=yV HO_762002 hb
    replace HO_763001:=yV HO_763001 hb
    replace HO_763002:=yV HO_763002 hb
    have HO789:=yL (fun k_=>k_≠gb741∧k_≠gb742∧k_≠gb761∧k_≠gb762∧k_≠gb780∧k_≠gb784) ho0 (fun k_ hk_=>⟨(zf BK741 hk_),(zf BK742 hk_),(zf BK761 hk_),(zf BK762 hk_),(zf BK780 hk_),(zf BK784 hk_)⟩)
    have HO792:=yL (fun k_=>k_≠gb741∧k_≠gb742∧k_≠gb761∧k_≠gb762∧k_≠gb780∧k_≠gb784) ho1 (fun k_ hk_=>⟨(zf BK741 hk_),(zf BK742 hk_),(zf BK761 hk_),(zf BK762 hk_),(zf BK780 hk_),(zf BK784 hk_)⟩)
    replace BK741:=sK BK741 hb
    replace BK742:=sK BK742 hb
    replace BK761:=sK BK761 hb
    replace BK762:=sK BK762 hb
    replace BK780:=sK BK780 hb
    replace BK784:=sK BK784 hb
    replace HB:=sB hb
    clear hb ho0 ho1
    obtain ⟨Ao98,co98,eo98⟩:=Kd.V_slice HO789.out
    (first|subst eo98|(injection eo98 with f1_ f2_ f3_;have f4_:=f1_.symm;have f5_:=f3_.symm;clear f1_ f2_ f3_;subst f4_;subst f5_))
    obtain ⟨Ao99,co99,eo99⟩:=Kd.V_slice HO792.out
    (first|subst eo99|(injection eo99 with f1_ f2_ f3_;have f4_:=f1_.symm;have f5_:=f3_.symm;clear f1_ f2_ f3_;subst f4_;subst f5_))
    refine hK.out _ _ ⟨zh BK780 0,zh BK780 1,zh BK761 0,zh BK761 1,zh BK761 2,zh BK762 0,zh BK762 1,zh BK762 2,zh BK784 0,zh BK784 1⟩ (fun hHeld=>?_)
    clear hK K
    refine nm ?_
    refine one_ (i:=9) (N:=some 55) #[true,true,true,true,true,true,true,true,true,true,false,false,false,false,false,false,false,false,false,false,false,false] rfl rfl (one_of HT_.out (by kernel_rfl)) (by decide) (fun K hK=>?_)
    refine goes_ func50 (by kernel_rfl) rfl #[.agg #[.string t777,.string t778],.int .i64 t779,.agg #[.bool t786,.slice Ao98 t787.length co98,.slice Ao99 t790.length co99],.int .i64 t746] (by rfl) rfl rfl zm ?_
    with_reducible refine (weftlaw1_same.calls t777 t778 t779 t786 _ _ t787 _ _ t790 t746 true _ ?side1 ?side2 ?side3 ?side4 ?side5 A86.out).mono ?_
    (case side1=>exact zr HO789)
    (case side2=>exact zk HO789)
    (case side3=>exact zr HO792)
    (case side4=>exact zk HO792)
    (case side5=>exact Tryz.Gl.below HG.out bw)
    rintro e w100 ⟨rfl,hb⟩
    refine ⟨_,rfl,?_⟩
    replace HO_762001:=yV HO_762001 hb
    replace HO_762002:=yV HO_762002 hb
    replace HO_763001:=yV HO_763001 hb
    replace HO_763002:=yV HO_763002 hb
    replace HO789:=yV HO789 hb
    replace HO792:=yV HO792 hb
    replace BK741:=sK BK741 hb
    replace BK742:=sK BK742 hb
    replace BK761:=sK BK761 hb
    replace BK762:=sK BK762 hb
    replace BK780:=sK BK780 hb
    replace BK784:=sK BK784 hb
    replace HB:=sB hb
    clear hb
    refine hK.out _ _ ⟨zh BK780 0,zh BK780 1,zh BK761 0,zh BK761 1,zh BK761 2,zh BK762 0,zh BK762 1,zh BK762 2,zh BK784 0,zh BK784 1⟩ (fun hHeld=>?_)
    clear hK K
    refine nm ?_
    refine pu 10 (some 56) HT_ ?_
    refine pu 11 (some 57) HT_ ?_
    refine pu 12 (some 58) HT_ ?_
    refine pu 14 (some 60) HT_ ?_
    refine pu 18 (some 64) HT_ ?_
    refine tk 13 (some 59) HT_ HW_ hHeld ?_
    refine tk 15 (some 61) HT_ HW_ hHeld ?_
    refine tk 16 (some 62) HT_ HW_ hHeld ?_
    refine one_ (i:=17) (N:=some 63) #[true,true,true,true,true,true,true,true,true,true,true,true,true,true,true,true,true,true,true,false,false,false] rfl rfl (one_of HT_.out (by kernel_rfl)) (by decide) (fun K hK=>?_)
    refine goes_ func69 (by kernel_rfl) rfl #[.agg #[.bool x762000_6,.slice Ao93 x762001_6.length co93,.slice Ao94 x762002_6.length co94],.agg #[.bool x763000_6,.slice Ao95 x763001_6.length co95,.slice Ao96 x763002_6.length co96]] (by rfl) rfl rfl zm ?_
    with_reducible refine (weftref1_Num_Sub.calls kj6 x762000_6 _ _ x762001_6 _ _ x762002_6 x763000_6 (fun k_=>(k_≠gb741∧(k_≠gb742∧(k_≠gb761∧(k_≠gb762∧(k_≠gb780∧k_≠gb784)))))) _ _ x763001_6 (fun k_=>(k_≠gb741∧(k_≠gb742∧(k_≠gb761∧(k_≠gb762∧(k_≠gb780∧k_≠gb784)))))) _ _ x763002_6 t794 t795 t798 _ ?side1 ?side2 ?side3 ?side4 ?side5 ?side6 A88.out).mono ?_
    (case side1=>exact zr HO_762001)
    (case side2=>exact zk HO_762001)
    (case side3=>exact zr HO_762002)
    (case side4=>exact zk HO_762002)
    (case side5=>exact HO_763001.out)
    (case side6=>exact HO_763002.out)
    rintro e w101 ⟨v796,v799,rfl,ho0,ho1,hb⟩
    refine ⟨_,rfl,?_⟩
    replace HO_762001:=yV HO_762001 hb
    replace HO_762002:=yV HO_762002 hb
    replace HO_763001:=yV HO_763001 hb
    replace HO_763002:=yV HO_763002 hb
    replace HO789:=yV HO789 hb
    replace HO792:=yV HO792 hb
    have HO797:=yL (fun k_=>k_≠gb741∧k_≠gb742∧k_≠gb761∧k_≠gb762∧k_≠gb780∧k_≠gb784) ho0 (fun k_ hk_=>⟨Or.elim hk_ (fun hs_=>Or.elim hs_ (fun hs_=>hs_.1) (fun hs_=>hs_.1)) (fun hn_=>(zf BK741 hn_)),Or.elim hk_ (fun hs_=>Or.elim hs_ (fun hs_=>hs_.2.1) (fun hs_=>hs_.2.1)) (fun hn_=>(zf BK742 hn_)),Or.elim hk_ (fun hs_=>Or.elim hs_ (fun hs_=>hs_.2.2.1) (fun hs_=>hs_.2.2.1)) (fun hn_=>(zf BK761 hn_)),Or.elim hk_ (fun hs_=>Or.elim hs_ (fun hs_=>hs_.2.2.2.1) (fun hs_=>hs_.2.2.2.1)) (fun hn_=>(zf BK762 hn_)),Or.elim hk_ (fun hs_=>Or.elim hs_ (fun hs_=>hs_.2.2.2.2.1) (fun hs_=>hs_.2.2.2.2.1)) (fun hn_=>(zf BK780 hn_)),Or.elim hk_ (fun hs_=>Or.elim hs_ (fun hs_=>hs_.2.2.2.2.2) (fun hs_=>hs_.2.2.2.2.2)) (fun hn_=>(zf BK784 hn_))⟩)
    have HO800:=yL (fun k_=>k_≠gb741∧k_≠gb742∧k_≠gb761∧k_≠gb762∧k_≠gb780∧k_≠gb784) ho1 (fun k_ hk_=>⟨Or.elim hk_ (fun hs_=>Or.elim hs_ (fun hs_=>hs_.1) (fun hs_=>hs_.1)) (fun hn_=>(zf BK741 hn_)),Or.elim hk_ (fun hs_=>Or.elim hs_ (fun hs_=>hs_.2.1) (fun hs_=>hs_.2.1)) (fun hn_=>(zf BK742 hn_)),Or.elim hk_ (fun hs_=>Or.elim hs_ (fun hs_=>hs_.2.2.1) (fun hs_=>hs_.2.2.1)) (fun hn_=>(zf BK761 hn_)),Or.elim hk_ (fun hs_=>Or.elim hs_ (fun hs_=>hs_.2.2.2.1) (fun hs_=>hs_.2.2.2.1)) (fun hn_=>(zf BK762 hn_)),Or.elim hk_ (fun hs_=>Or.elim hs_ (fun hs_=>hs_.2.2.2.2.1) (fun hs_=>hs_.2.2.2.2.1)) (fun hn_=>(zf BK780 hn_)),Or.elim hk_ (fun hs_=>Or.elim hs_ (fun hs_=>hs_.2.2.2.2.2) (fun hs_=>hs_.2.2.2.2.2)) (fun hn_=>(zf BK784 hn_))⟩)
    replace BK741:=sK BK741 hb
    replace BK742:=sK BK742 hb
    replace BK761:=sK BK761 hb
    replace BK762:=sK BK762 hb
    replace BK780:=sK BK780 hb
    replace BK784:=sK BK784 hb
    replace HB:=sB hb
    clear hb ho0 ho1
    obtain ⟨Ao102,co102,eo102⟩:=Kd.V_slice HO797.out
    (first|subst eo102|(injection eo102 with f1_ f2_ f3_;have f4_:=f1_.symm;have f5_:=f3_.symm;clear f1_ f2_ f3_;subst f4_;subst f5_))
    obtain ⟨Ao103,co103,eo103⟩:=Kd.V_slice HO800.out
    (first|subst eo103|(injection eo103 with f1_ f2_ f3_;have f4_:=f1_.symm;have f5_:=f3_.symm;clear f1_ f2_ f3_;subst f4_;subst f5_))
    refine hK.out _ _ ⟨zh BK780 0,zh BK780 1,zh BK761 0,zh BK761 1,zh BK761 2,zh BK762 0,zh BK762 1,zh BK762 2,zh BK784 0,zh BK784 1⟩ (fun hHeld=>?_)
    clear hK K
    refine nm ?_
    refine one_ (i:=19) (N:=some 65) #[true,true,true,true,true,true,true,true,true,true,true,true,true,true,true,true,true,true,true,true,false,false] rfl rfl (one_of HT_.out (by kernel_rfl)) (by decide) (fun K hK=>?_)
    refine goes_ func50 (by kernel_rfl) rfl #[.agg #[.string t781,.string t782],.int .i64 t783,.agg #[.bool t794,.slice Ao102 t795.length co102,.slice Ao103 t798.length co103],.int .i64 t746] (by rfl) rfl rfl zm ?_
    with_reducible refine (weftlaw1_same.calls t781 t782 t783 t794 _ _ t795 _ _ t798 t746 t801 _ ?side1 ?side2 ?side3 ?side4 ?side5 A89.out).mono ?_
    (case side1=>exact zr HO797)
    (case side2=>exact zk HO797)
    (case side3=>exact zr HO800)
    (case side4=>exact zk HO800)
    (case side5=>exact Tryz.Gl.below HG.out bw)
    rintro e w104 ⟨rfl,hb⟩
    refine ⟨_,rfl,?_⟩
    replace HO_762001:=yV HO_762001 hb
    replace HO_762002:=yV HO_762002 hb
    replace HO_763001:=yV HO_763001 hb
    replace HO_763002:=yV HO_763002 hb
    replace HO789:=yV HO789 hb
    replace HO792:=yV HO792 hb
    replace HO797:=yV HO797 hb
    replace HO800:=yV HO800 hb
    replace BK741:=sK BK741 hb
    replace BK742:=sK BK742 hb
    replace BK761:=sK BK761 hb
    replace BK762:=sK BK762 hb
    replace BK780:=sK BK780 hb
    replace BK784:=sK BK784 hb
    replace HB:=sB hb
    clear hb
    refine hK.out _ _ ⟨zh BK780 0,zh BK780 1,zh BK761 0,zh BK761 1,zh BK761 2,zh BK762 0,zh BK762 1,zh BK762 2,zh BK784 0,zh BK784 1⟩ (fun hHeld=>?_)
    clear hK K
    refine nm ?_
    refine pu 20 (some 66) HT_ ?_
    refine pu 21 (some 67) HT_ ?_
    refine done_ (done_of HT_.out (by kernel_rfl)) ?_
    try go_wp2
    go_meet
    case rel=>exact ⟨_,(!t801),zs,H',⟨by have:=HJ6.out;first|omega|exact Nat.le_refl _⟩,⟨zV HO_762001⟩,⟨zV HO_762002⟩,⟨zV HO_763001⟩,⟨zV HO_763002⟩,⟨zb BK741⟩,⟨zb BK742⟩,⟨zb BK761⟩,⟨zb BK762⟩,⟨zb BK780⟩,⟨zb BK784⟩,⟨bw⟩⟩
   case rest =>
    clear HC58
    try clear c2
    try clear c5
    try clear c6
    try clear c8
    try clear c20
    try clear c50
    try clear c68
    try clear c84
    obtain ⟨kq,x67_57,rfl,HA,HJ57,HO_762001,HO_762002,HO_763001,HO_763002,BK741,BK742,BK761,BK762,BK780,BK784,HB⟩:=hcut
    cases kq with
    | zero=>exact absurd HA.out (by simp [weftlaw1_NumSums.j1])
    | succ kj57 =>
     have H:=HA.out
     clear HA
     simp only [weftlaw1_NumSums.j1] at H
     by_cases c119:x67_57=true
     case neg=>
      replace c119:=Bool.eq_false_iff.mpr c119
      subst c119
      have H1:((num_Neg.f kj57 t735 t736).bind fun bt802=>((weftref1_RatFault.f kj57 t735 t736).bind fun t806=>(if t806=0 then ((weftref1_Of.f kj57 t735 t736).bind fun bt807=>((weftref1_Num_Neg.f bt807.1 bt807.2.1 bt807.2.2).bind fun bt814=>((weftlaw1_same.f bt802.1 bt802.2.1 bt802.2.2 bt814.1 bt814.2.1 bt814.2.2 0).bind fun t821=>(some t821)))) else (if bt802.2.2=t806 then (some (bt802.1.toList==([]:List UInt8)&&(bt802.2.1.toList==([]:List UInt8)))) else (some false)))))=some r:=by rw [if_neg (show ¬ (false=true) by decide)] at H;exact H
      clear H
      have H:=H1
      clear H1
      obtain ⟨⟨t802,t803,t804⟩,A120,H⟩:=zB H
      (try dsimp only at H)
      obtain ⟨t806,A121,H⟩:=zB H
      by_cases c122:t806=0
      case neg=>
       rw [if_neg c122] at H
       obtain ⟨c122b0,c122b1⟩:=zX c122
       by_cases c151:t804=t806
       case neg=>
        rw [if_neg c151] at H
        obtain ⟨c151b0,c151b1⟩:=zX c151
        obtain rfl:=Option.some.inj H
        have hnb170:=NB741_742.out
        have hnc170:=NB742_741.out
        have hnb171:=NB741_761.out
        have hnc171:=NB761_741.out
        have hnb172:=NB741_762.out
        have hnc172:=NB762_741.out
        have hnb173:=NB741_780.out
        have hnc173:=NB780_741.out
        have hnb174:=NB741_784.out
        have hnc174:=NB784_741.out
        have hcz175_0:wc.cell? ⟨gb741,0,none⟩=some (.string t735):=(blk_cell BK741.out 0).trans rfl
        have hcz175_1:wc.cell? ⟨gb741,1,none⟩=some (.string t736):=(blk_cell BK741.out 1).trans rfl
        have hfz175_0:=blk_frozen BK741.out 0
        have hfz175_1:=blk_frozen BK741.out 1
        go_wp2_with (first|(refine zg (some 70) func70 #[.agg #[.string t735,.string t736]] ?_;(with_reducible refine (num_Neg.calls kj57 t735 t736 t802 t803 t804 _ ?side1 A120.out).mono ?_);(case side1=>exact Tryz.Gl.below HG.out bw);rintro e w176 ⟨rfl,hb⟩;refine ⟨_,rfl,?_⟩;replace HO_762001:=yV HO_762001 hb;replace HO_762002:=yV HO_762002 hb;replace HO_763001:=yV HO_763001 hb;replace HO_763002:=yV HO_763002 hb;replace BK741:=sK BK741 hb;replace BK742:=sK BK742 hb;replace BK761:=sK BK761 hb;replace BK762:=sK BK762 hb;replace BK780:=sK BK780 hb;replace BK784:=sK BK784 hb;replace HB:=sB hb;clear hb)|(refine box_ev 13 #[.string ⟨#[]⟩,.string ⟨#[]⟩] 61 ?_;intro gb805 hg w177 hbox hb;replace HO_762001:=yE HO_762001 hg hb;replace HO_762002:=yE HO_762002 hg hb;replace HO_763001:=yE HO_763001 hg hb;replace HO_763002:=yE HO_763002 hg hb;have BK805:=aZ hbox;have GE805:=sG hg;replace HB:=sB hb;have NB741_805:=sl hg BK741;have NB805_741:=sg hg BK741;replace BK741:=sK BK741 hb;have NB742_805:=sl hg BK742;have NB805_742:=sg hg BK742;replace BK742:=sK BK742 hb;have NB761_805:=sl hg BK761;have NB805_761:=sg hg BK761;replace BK761:=sK BK761 hb;have NB762_805:=sl hg BK762;have NB805_762:=sg hg BK762;replace BK762:=sK BK762 hb;have NB780_805:=sl hg BK780;have NB805_780:=sg hg BK780;replace BK780:=sK BK780 hb;have NB784_805:=sl hg BK784;have NB805_784:=sg hg BK784;replace BK784:=sK BK784 hb;clear hb hbox hg;have hnb178:=NB805_741.out;have hnc178:=NB741_805.out;have hnb179:=NB805_742.out;have hnc179:=NB742_805.out;have hnb180:=NB805_761.out;have hnc180:=NB761_805.out;have hnb181:=NB805_762.out;have hnc181:=NB762_805.out;have hnb182:=NB805_780.out;have hnc182:=NB780_805.out;have hnb183:=NB805_784.out;have hnc183:=NB784_805.out;obtain ⟨hcz184_0,hfz184_0⟩:=zc BK805 0 (.string ⟨#[]⟩) rfl;obtain ⟨hcz184_1,hfz184_1⟩:=zc BK805 1 (.string ⟨#[]⟩) rfl;obtain ⟨hcz185_0,hfz185_0⟩:=zc BK741 0 (.string t735) rfl;obtain ⟨hcz185_1,hfz185_1⟩:=zc BK741 1 (.string t736) rfl)|(refine zg (some 74) func53 #[.agg #[.string t735,.string t736]] ?_;(with_reducible refine (weftref1_RatFault.calls kj57 t735 t736 t806 _ A121.out).mono ?_);rintro e w186 ⟨rfl,hb⟩;refine ⟨_,rfl,?_⟩;replace HO_762001:=aZ (Kd.V_below (by (with_reducible repeat (first|apply Kd.V_alloc|apply Kd.V_drewN|apply Kd.V_drew));exact (Kd.V_mono (Kd.V_far (p:=⟨gb805,1,none⟩) (Kd.V_far (p:=⟨gb805,0,none⟩) (Kd.V_mono HO_762001.out (fun k_ hk=>(⟨hk,hk.2⟩:_∧k_≠gb805))) (fun _ hk=>hk.2) (.string t802)) (fun _ hk=>hk.2) (.string t803)) (fun _ h_=>h_.1))) hb);replace HO_762002:=aZ (Kd.V_below (by (with_reducible repeat (first|apply Kd.V_alloc|apply Kd.V_drewN|apply Kd.V_drew));exact (Kd.V_mono (Kd.V_far (p:=⟨gb805,1,none⟩) (Kd.V_far (p:=⟨gb805,0,none⟩) (Kd.V_mono HO_762002.out (fun k_ hk=>(⟨hk,hk.2⟩:_∧k_≠gb805))) (fun _ hk=>hk.2) (.string t802)) (fun _ hk=>hk.2) (.string t803)) (fun _ h_=>h_.1))) hb);replace HO_763001:=aZ (Kd.V_below (by (with_reducible repeat (first|apply Kd.V_alloc|apply Kd.V_drewN|apply Kd.V_drew));exact (Kd.V_mono (Kd.V_far (p:=⟨gb805,1,none⟩) (Kd.V_far (p:=⟨gb805,0,none⟩) (Kd.V_mono HO_763001.out (fun k_ hk=>(⟨hk,hk.2⟩:_∧k_≠gb805))) (fun _ hk=>hk.2) (.string t802)) (fun _ hk=>hk.2) (.string t803)) (fun _ h_=>h_.1))) hb);replace HO_763002:=aZ (Kd.V_below (by (with_reducible repeat (first|apply Kd.V_alloc|apply Kd.V_drewN|apply Kd.V_drew));exact (Kd.V_mono (Kd.V_far (p:=⟨gb805,1,none⟩) (Kd.V_far (p:=⟨gb805,0,none⟩) (Kd.V_mono HO_763002.out (fun k_ hk=>(⟨hk,hk.2⟩:_∧k_≠gb805))) (fun _ hk=>hk.2) (.string t802)) (fun _ hk=>hk.2) (.string t803)) (fun _ h_=>h_.1))) hb);replace BK741:=aZ (blk_below (g:=gb741) (o:=.cells #[.string t735,.string t736] 61 (0,0)) (zq BK741) hb);replace BK742:=aZ (blk_below (g:=gb742) (o:=.cells #[.string t738,.string t739] 61 (0,0)) (zq BK742) hb);replace BK761:=aZ (blk_below (g:=gb761) (o:=.cells #[.bool x762000_6,u762001,u762002] 67 (0,0)) (zq BK761) hb);replace BK762:=aZ (blk_below (g:=gb762) (o:=.cells #[.bool x763000_6,u763001,u763002] 67 (0,0)) (zq BK762) hb);replace BK780:=aZ (blk_below (g:=gb780) (o:=.cells #[.string t777,.string t778] 61 (0,0)) (zq BK780) hb);replace BK784:=aZ (blk_below (g:=gb784) (o:=.cells #[.string t781,.string t782] 61 (0,0)) (zq BK784) hb);replace BK805:=sP (.cells #[.string t802,.string t803] 61 (0,0)) BK805 hb;replace HB:=sB hb;clear hb))
        go_ret
        exact ⟨ze,bw⟩
       rw [if_pos c151] at H
       obtain ⟨c151b0,c151b1⟩:=zY c151
       clear c151
       obtain rfl:=Option.some.inj H
       have hnb152:=NB741_742.out
       have hnc152:=NB742_741.out
       have hnb153:=NB741_761.out
       have hnc153:=NB761_741.out
       have hnb154:=NB741_762.out
       have hnc154:=NB762_741.out
       have hnb155:=NB741_780.out
       have hnc155:=NB780_741.out
       have hnb156:=NB741_784.out
       have hnc156:=NB784_741.out
       have hcz157_0:wc.cell? ⟨gb741,0,none⟩=some (.string t735):=(blk_cell BK741.out 0).trans rfl
       have hcz157_1:wc.cell? ⟨gb741,1,none⟩=some (.string t736):=(blk_cell BK741.out 1).trans rfl
       have hfz157_0:=blk_frozen BK741.out 0
       have hfz157_1:=blk_frozen BK741.out 1
       go_wp2_with (first|(refine zg (some 70) func70 #[.agg #[.string t735,.string t736]] ?_;(with_reducible refine (num_Neg.calls kj57 t735 t736 t802 t803 t804 _ ?side1 A120.out).mono ?_);(case side1=>exact Tryz.Gl.below HG.out bw);rintro e w158 ⟨rfl,hb⟩;refine ⟨_,rfl,?_⟩;replace HO_762001:=yV HO_762001 hb;replace HO_762002:=yV HO_762002 hb;replace HO_763001:=yV HO_763001 hb;replace HO_763002:=yV HO_763002 hb;replace BK741:=sK BK741 hb;replace BK742:=sK BK742 hb;replace BK761:=sK BK761 hb;replace BK762:=sK BK762 hb;replace BK780:=sK BK780 hb;replace BK784:=sK BK784 hb;replace HB:=sB hb;clear hb)|(refine box_ev 13 #[.string ⟨#[]⟩,.string ⟨#[]⟩] 61 ?_;intro gb805 hg w159 hbox hb;replace HO_762001:=yE HO_762001 hg hb;replace HO_762002:=yE HO_762002 hg hb;replace HO_763001:=yE HO_763001 hg hb;replace HO_763002:=yE HO_763002 hg hb;have BK805:=aZ hbox;have GE805:=sG hg;replace HB:=sB hb;have NB741_805:=sl hg BK741;have NB805_741:=sg hg BK741;replace BK741:=sK BK741 hb;have NB742_805:=sl hg BK742;have NB805_742:=sg hg BK742;replace BK742:=sK BK742 hb;have NB761_805:=sl hg BK761;have NB805_761:=sg hg BK761;replace BK761:=sK BK761 hb;have NB762_805:=sl hg BK762;have NB805_762:=sg hg BK762;replace BK762:=sK BK762 hb;have NB780_805:=sl hg BK780;have NB805_780:=sg hg BK780;replace BK780:=sK BK780 hb;have NB784_805:=sl hg BK784;have NB805_784:=sg hg BK784;replace BK784:=sK BK784 hb;clear hb hbox hg;have hnb160:=NB805_741.out;have hnc160:=NB741_805.out;have hnb161:=NB805_742.out;have hnc161:=NB742_805.out;have hnb162:=NB805_761.out;have hnc162:=NB761_805.out;have hnb163:=NB805_762.out;have hnc163:=NB762_805.out;have hnb164:=NB805_780.out;have hnc164:=NB780_805.out;have hnb165:=NB805_784.out;have hnc165:=NB784_805.out;obtain ⟨hcz166_0,hfz166_0⟩:=zc BK805 0 (.string ⟨#[]⟩) rfl;obtain ⟨hcz166_1,hfz166_1⟩:=zc BK805 1 (.string ⟨#[]⟩) rfl;obtain ⟨hcz167_0,hfz167_0⟩:=zc BK741 0 (.string t735) rfl;obtain ⟨hcz167_1,hfz167_1⟩:=zc BK741 1 (.string t736) rfl)|(refine zg (some 74) func53 #[.agg #[.string t735,.string t736]] ?_;(with_reducible refine (weftref1_RatFault.calls kj57 t735 t736 t806 _ A121.out).mono ?_);rintro e w168 ⟨rfl,hb⟩;refine ⟨_,rfl,?_⟩;replace HO_762001:=aZ (Kd.V_below (by (with_reducible repeat (first|apply Kd.V_alloc|apply Kd.V_drewN|apply Kd.V_drew));exact (Kd.V_mono (Kd.V_far (p:=⟨gb805,1,none⟩) (Kd.V_far (p:=⟨gb805,0,none⟩) (Kd.V_mono HO_762001.out (fun k_ hk=>(⟨hk,hk.2⟩:_∧k_≠gb805))) (fun _ hk=>hk.2) (.string t802)) (fun _ hk=>hk.2) (.string t803)) (fun _ h_=>h_.1))) hb);replace HO_762002:=aZ (Kd.V_below (by (with_reducible repeat (first|apply Kd.V_alloc|apply Kd.V_drewN|apply Kd.V_drew));exact (Kd.V_mono (Kd.V_far (p:=⟨gb805,1,none⟩) (Kd.V_far (p:=⟨gb805,0,none⟩) (Kd.V_mono HO_762002.out (fun k_ hk=>(⟨hk,hk.2⟩:_∧k_≠gb805))) (fun _ hk=>hk.2) (.string t802)) (fun _ hk=>hk.2) (.string t803)) (fun _ h_=>h_.1))) hb);replace HO_763001:=aZ (Kd.V_below (by (with_reducible repeat (first|apply Kd.V_alloc|apply Kd.V_drewN|apply Kd.V_drew));exact (Kd.V_mono (Kd.V_far (p:=⟨gb805,1,none⟩) (Kd.V_far (p:=⟨gb805,0,none⟩) (Kd.V_mono HO_763001.out (fun k_ hk=>(⟨hk,hk.2⟩:_∧k_≠gb805))) (fun _ hk=>hk.2) (.string t802)) (fun _ hk=>hk.2) (.string t803)) (fun _ h_=>h_.1))) hb);replace HO_763002:=aZ (Kd.V_below (by (with_reducible repeat (first|apply Kd.V_alloc|apply Kd.V_drewN|apply Kd.V_drew));exact (Kd.V_mono (Kd.V_far (p:=⟨gb805,1,none⟩) (Kd.V_far (p:=⟨gb805,0,none⟩) (Kd.V_mono HO_763002.out (fun k_ hk=>(⟨hk,hk.2⟩:_∧k_≠gb805))) (fun _ hk=>hk.2) (.string t802)) (fun _ hk=>hk.2) (.string t803)) (fun _ h_=>h_.1))) hb);replace BK741:=aZ (blk_below (g:=gb741) (o:=.cells #[.string t735,.string t736] 61 (0,0)) (zq BK741) hb);replace BK742:=aZ (blk_below (g:=gb742) (o:=.cells #[.string t738,.string t739] 61 (0,0)) (zq BK742) hb);replace BK761:=aZ (blk_below (g:=gb761) (o:=.cells #[.bool x762000_6,u762001,u762002] 67 (0,0)) (zq BK761) hb);replace BK762:=aZ (blk_below (g:=gb762) (o:=.cells #[.bool x763000_6,u763001,u763002] 67 (0,0)) (zq BK762) hb);replace BK780:=aZ (blk_below (g:=gb780) (o:=.cells #[.string t777,.string t778] 61 (0,0)) (zq BK780) hb);replace BK784:=aZ (blk_below (g:=gb784) (o:=.cells #[.string t781,.string t782] 61 (0,0)) (zq BK784) hb);replace BK805:=sP (.cells #[.string t802,.string t803] 61 (0,0)) BK805 hb;replace HB:=sB hb;clear hb;obtain ⟨hcz169_0,hfz169_0⟩:=zc BK805 0 (.string t802) rfl;obtain ⟨hcz169_1,hfz169_1⟩:=zc BK805 1 (.string t803) rfl))
       go_ret
       exact ⟨ze,bw⟩
      rw [if_pos c122] at H
      obtain ⟨c122b0,c122b1⟩:=zY c122
      clear c122
      obtain ⟨⟨t807,t808,t811⟩,A123,H⟩:=zB H
      (try dsimp only at H)
      obtain ⟨⟨t814,t815,t818⟩,A124,H⟩:=zB H
      (try dsimp only at H)
      obtain ⟨t821,A125,H⟩:=zB H
      obtain rfl:=Option.some.inj H
      have hnb126:=NB741_742.out
      have hnc126:=NB742_741.out
      have hnb127:=NB741_761.out
      have hnc127:=NB761_741.out
      have hnb128:=NB741_762.out
      have hnc128:=NB762_741.out
      have hnb129:=NB741_780.out
      have hnc129:=NB780_741.out
      have hnb130:=NB741_784.out
      have hnc130:=NB784_741.out
      have hcz131_0:wc.cell? ⟨gb741,0,none⟩=some (.string t735):=(blk_cell BK741.out 0).trans rfl
      have hcz131_1:wc.cell? ⟨gb741,1,none⟩=some (.string t736):=(blk_cell BK741.out 1).trans rfl
      have hfz131_0:=blk_frozen BK741.out 0
      have hfz131_1:=blk_frozen BK741.out 1
      try go_wp2_with (first|(refine zg (some 70) func70 #[.agg #[.string t735,.string t736]] ?_;(with_reducible refine (num_Neg.calls kj57 t735 t736 t802 t803 t804 _ ?side1 A120.out).mono ?_);(case side1=>exact Tryz.Gl.below HG.out bw);rintro e w132 ⟨rfl,hb⟩;refine ⟨_,rfl,?_⟩;replace HO_762001:=yV HO_762001 hb;replace HO_762002:=yV HO_762002 hb;replace HO_763001:=yV HO_763001 hb;replace HO_763002:=yV HO_763002 hb;replace BK741:=sK BK741 hb;replace BK742:=sK BK742 hb;replace BK761:=sK BK761 hb;replace BK762:=sK BK762 hb;replace BK780:=sK BK780 hb;replace BK784:=sK BK784 hb;replace HB:=sB hb;clear hb)|(refine box_ev 13 #[.string ⟨#[]⟩,.string ⟨#[]⟩] 61 ?_;intro gb805 hg w133 hbox hb;replace HO_762001:=yE HO_762001 hg hb;replace HO_762002:=yE HO_762002 hg hb;replace HO_763001:=yE HO_763001 hg hb;replace HO_763002:=yE HO_763002 hg hb;have BK805:=aZ hbox;have GE805:=sG hg;replace HB:=sB hb;have NB741_805:=sl hg BK741;have NB805_741:=sg hg BK741;replace BK741:=sK BK741 hb;have NB742_805:=sl hg BK742;have NB805_742:=sg hg BK742;replace BK742:=sK BK742 hb;have NB761_805:=sl hg BK761;have NB805_761:=sg hg BK761;replace BK761:=sK BK761 hb;have NB762_805:=sl hg BK762;have NB805_762:=sg hg BK762;replace BK762:=sK BK762 hb;have NB780_805:=sl hg BK780;have NB805_780:=sg hg BK780;replace BK780:=sK BK780 hb;have NB784_805:=sl hg BK784;have NB805_784:=sg hg BK784;replace BK784:=sK BK784 hb;clear hb hbox hg;have hnb134:=NB805_741.out;have hnc134:=NB741_805.out;have hnb135:=NB805_742.out;have hnc135:=NB742_805.out;have hnb136:=NB805_761.out;have hnc136:=NB761_805.out;have hnb137:=NB805_762.out;have hnc137:=NB762_805.out;have hnb138:=NB805_780.out;have hnc138:=NB780_805.out;have hnb139:=NB805_784.out;have hnc139:=NB784_805.out;obtain ⟨hcz140_0,hfz140_0⟩:=zc BK805 0 (.string ⟨#[]⟩) rfl;obtain ⟨hcz140_1,hfz140_1⟩:=zc BK805 1 (.string ⟨#[]⟩) rfl;obtain ⟨hcz141_0,hfz141_0⟩:=zc BK741 0 (.string t735) rfl;obtain ⟨hcz141_1,hfz141_1⟩:=zc BK741 1 (.string t736) rfl)|(refine zg (some 74) func53 #[.agg #[.string t735,.string t736]] ?_;(with_reducible refine (weftref1_RatFault.calls kj57 t735 t736 t806 _ A121.out).mono ?_);rintro e w142 ⟨rfl,hb⟩;refine ⟨_,rfl,?_⟩;replace HO_762001:=aZ (Kd.V_below (by (with_reducible repeat (first|apply Kd.V_alloc|apply Kd.V_drewN|apply Kd.V_drew));exact (Kd.V_mono (Kd.V_far (p:=⟨gb805,1,none⟩) (Kd.V_far (p:=⟨gb805,0,none⟩) (Kd.V_mono HO_762001.out (fun k_ hk=>(⟨hk,hk.2⟩:_∧k_≠gb805))) (fun _ hk=>hk.2) (.string t802)) (fun _ hk=>hk.2) (.string t803)) (fun _ h_=>h_.1))) hb);replace HO_762002:=aZ (Kd.V_below (by (with_reducible repeat (first|apply Kd.V_alloc|apply Kd.V_drewN|apply Kd.V_drew));exact (Kd.V_mono (Kd.V_far (p:=⟨gb805,1,none⟩) (Kd.V_far (p:=⟨gb805,0,none⟩) (Kd.V_mono HO_762002.out (fun k_ hk=>(⟨hk,hk.2⟩:_∧k_≠gb805))) (fun _ hk=>hk.2) (.string t802)) (fun _ hk=>hk.2) (.string t803)) (fun _ h_=>h_.1))) hb);replace HO_763001:=aZ (Kd.V_below (by (with_reducible repeat (first|apply Kd.V_alloc|apply Kd.V_drewN|apply Kd.V_drew));exact (Kd.V_mono (Kd.V_far (p:=⟨gb805,1,none⟩) (Kd.V_far (p:=⟨gb805,0,none⟩) (Kd.V_mono HO_763001.out (fun k_ hk=>(⟨hk,hk.2⟩:_∧k_≠gb805))) (fun _ hk=>hk.2) (.string t802)) (fun _ hk=>hk.2) (.string t803)) (fun _ h_=>h_.1))) hb);replace HO_763002:=aZ (Kd.V_below (by (with_reducible repeat (first|apply Kd.V_alloc|apply Kd.V_drewN|apply Kd.V_drew));exact (Kd.V_mono (Kd.V_far (p:=⟨gb805,1,none⟩) (Kd.V_far (p:=⟨gb805,0,none⟩) (Kd.V_mono HO_763002.out (fun k_ hk=>(⟨hk,hk.2⟩:_∧k_≠gb805))) (fun _ hk=>hk.2) (.string t802)) (fun _ hk=>hk.2) (.string t803)) (fun _ h_=>h_.1))) hb);replace BK741:=aZ (blk_below (g:=gb741) (o:=.cells #[.string t735,.string t736] 61 (0,0)) (zq BK741) hb);replace BK742:=aZ (blk_below (g:=gb742) (o:=.cells #[.string t738,.string t739] 61 (0,0)) (zq BK742) hb);replace BK761:=aZ (blk_below (g:=gb761) (o:=.cells #[.bool x762000_6,u762001,u762002] 67 (0,0)) (zq BK761) hb);replace BK762:=aZ (blk_below (g:=gb762) (o:=.cells #[.bool x763000_6,u763001,u763002] 67 (0,0)) (zq BK762) hb);replace BK780:=aZ (blk_below (g:=gb780) (o:=.cells #[.string t777,.string t778] 61 (0,0)) (zq BK780) hb);replace BK784:=aZ (blk_below (g:=gb784) (o:=.cells #[.string t781,.string t782] 61 (0,0)) (zq BK784) hb);replace BK805:=sP (.cells #[.string t802,.string t803] 61 (0,0)) BK805 hb;replace HB:=sB hb;clear hb))
      replace HO_762001:=aZ (Kd.V_drew HO_762001.out)
      replace HO_762002:=aZ (Kd.V_drew HO_762002.out)
      replace HO_763001:=aZ (Kd.V_drew HO_763001.out)
      replace HO_763002:=aZ (Kd.V_drew HO_763002.out)
      replace BK741:=aZ (blk_drew BK741.out)
      replace BK742:=aZ (blk_drew BK742.out)
      replace BK761:=aZ (blk_drew BK761.out)
      replace BK762:=aZ (blk_drew BK762.out)
      replace BK780:=aZ (blk_drew BK780.out)
      replace BK784:=aZ (blk_drew BK784.out)
      replace BK805:=aZ (blk_drew BK805.out)
      replace HB:=aZ (below_drew1 HB.out)
      refine start_ (n:=7) (S:=fun w'=>w'.cell? ⟨gb805,0,none⟩=some (.string t802)∧w'.cell? ⟨gb805,1,none⟩=some (.string t803)∧w'.cell? ⟨gb741,0,none⟩=some (.string t735)∧w'.cell? ⟨gb741,1,none⟩=some (.string t736)) (ds:=[]) #[false,false,false,false,false,false,false] (by kernel_rfl) rfl rfl ⟨zh BK805 0,zh BK805 1,zh BK741 0,zh BK741 1⟩ (fun hHeld=>?_)
      generalize w142.drew=w143 at HO_762001 HO_762002 HO_763001 HO_763002 BK741 BK742 BK761 BK762 BK780 BK784 BK805 HB hHeld ⊢
      refine pure_ (i:=1) (N:=some 86) (v:=?_) (a':=?_) #[false,true,false,false,false,false,false] rfl rfl (by kernel_rfl) (fun _ _ _ h=>h) (Or.inl ⟨by rfl,?_⟩) ?_ ?_
      rotate_left
      ·intro w'
       go_simp
       with_reducible rfl
      rotate_left
      ·simp only [Act.put,List.setIfInBounds_toArray,List.set_cons_zero,List.set_cons_succ,i64_w,i32_w]
       rfl
      refine take_ (i:=0) (N:=some 85) (v:=?_) (a':=?_) #[true,true,false,false,false,false,false] rfl rfl (by kernel_rfl) (fun _ _ _ h=>h) (Or.inl ⟨by rfl,?_⟩) hHeld ?_ ?_
      rotate_left
      ·rintro w' ⟨s0,s1,s2,s3⟩
       go_simp
       with_reducible rfl
      rotate_left
      ·simp only [Act.put,List.setIfInBounds_toArray,List.set_cons_zero,List.set_cons_succ,i64_w,i32_w]
       rfl
      refine take_ (i:=2) (N:=some 87) (v:=?_) (a':=?_) #[true,true,true,false,false,false,false] rfl rfl (by kernel_rfl) (fun _ _ _ h=>h) (Or.inl ⟨by rfl,?_⟩) hHeld ?_ ?_
      rotate_left
      ·rintro w' ⟨s0,s1,s2,s3⟩
       go_simp
       with_reducible rfl
      rotate_left
      ·simp only [Act.put,List.setIfInBounds_toArray,List.set_cons_zero,List.set_cons_succ,i64_w,i32_w]
       rfl
      refine one_ (i:=3) (N:=some 88) #[true,true,true,true,false,false,false] rfl rfl (by kernel_rfl) (by decide) (fun K hK=>?_)
      refine goes_ func58 (by kernel_rfl) rfl #[.agg #[.string t735,.string t736]] (by rfl) rfl rfl zm ?_
      with_reducible refine (weftref1_Of.calls kj57 t735 t736 t807 t808 t811 _ A123.out).mono ?_
      rintro e w144 ⟨v809,v812,rfl,ho0,ho1,hb⟩
      refine ⟨_,rfl,?_⟩
      replace HO_762001:=yV HO_762001 hb
      replace HO_762002:=yV HO_762002 hb
      replace HO_763001:=yV HO_763001 hb
      replace HO_763002:=yV HO_763002 hb
      have HO810:=yL (fun k_=>k_≠gb741∧k_≠gb742∧k_≠gb761∧k_≠gb762∧k_≠gb780∧k_≠gb784∧k_≠gb805) ho0 (fun k_ hk_=>⟨(zf BK741 hk_),(zf BK742 hk_),(zf BK761 hk_),(zf BK762 hk_),(zf BK780 hk_),(zf BK784 hk_),(zf BK805 hk_)⟩)
      have HO813:=yL (fun k_=>k_≠gb741∧k_≠gb742∧k_≠gb761∧k_≠gb762∧k_≠gb780∧k_≠gb784∧k_≠gb805) ho1 (fun k_ hk_=>⟨(zf BK741 hk_),(zf BK742 hk_),(zf BK761 hk_),(zf BK762 hk_),(zf BK780 hk_),(zf BK784 hk_),(zf BK805 hk_)⟩)
      replace BK741:=sK BK741 hb
      replace BK742:=sK BK742 hb
      replace BK761:=sK BK761 hb
      replace BK762:=sK BK762 hb
      replace BK780:=sK BK780 hb
      replace BK784:=sK BK784 hb
      replace BK805:=sK BK805 hb
      replace HB:=sB hb
      clear hb ho0 ho1
      obtain ⟨Ao145,co145,eo145⟩:=Kd.V_slice HO810.out
      (first|subst eo145|(injection eo145 with f1_ f2_ f3_;have f4_:=f1_.symm;have f5_:=f3_.symm;clear f1_ f2_ f3_;subst f4_;subst f5_))
      obtain ⟨Ao146,co146,eo146⟩:=Kd.V_slice HO813.out
      (first|subst eo146|(injection eo146 with f1_ f2_ f3_;have f4_:=f1_.symm;have f5_:=f3_.symm;clear f1_ f2_ f3_;subst f4_;subst f5_))
      refine hK.out _ _ ⟨zh BK805 0,zh BK805 1,zh BK741 0,zh BK741 1⟩ (fun hHeld=>?_)
      clear hK K
      refine nm ?_
      refine one_ (i:=4) (N:=some 89) #[true,true,true,true,true,false,false] rfl rfl (by kernel_rfl) (by decide) (fun K hK=>?_)
      refine goes_ func71 (by kernel_rfl) rfl #[.agg #[.bool t807,.slice Ao145 t808.length co145,.slice Ao146 t811.length co146]] (by rfl) rfl rfl zm ?_
      with_reducible refine (weftref1_Num_Neg.calls t807 (fun k_=>(k_≠gb741∧(k_≠gb742∧(k_≠gb761∧(k_≠gb762∧(k_≠gb780∧(k_≠gb784∧k_≠gb805))))))) _ _ t808 (fun k_=>(k_≠gb741∧(k_≠gb742∧(k_≠gb761∧(k_≠gb762∧(k_≠gb780∧(k_≠gb784∧k_≠gb805))))))) _ _ t811 t814 t815 t818 _ ?side1 ?side2 A124.out).mono ?_
      (case side1=>exact HO810.out)
      (case side2=>exact HO813.out)
      rintro e w147 ⟨v816,v819,rfl,ho0,ho1,hb⟩
      refine ⟨_,rfl,?_⟩
      replace HO_762001:=yV HO_762001 hb
      replace HO_762002:=yV HO_762002 hb
      replace HO_763001:=yV HO_763001 hb
      replace HO_763002:=yV HO_763002 hb
      replace HO810:=yV HO810 hb
      replace HO813:=yV HO813 hb
      have HO817:=yL (fun k_=>k_≠gb741∧k_≠gb742∧k_≠gb761∧k_≠gb762∧k_≠gb780∧k_≠gb784∧k_≠gb805) ho0 (fun k_ hk_=>⟨Or.elim hk_ (fun hs_=>Or.elim hs_ (fun hs_=>hs_.1) (fun hs_=>hs_.1)) (fun hn_=>(zf BK741 hn_)),Or.elim hk_ (fun hs_=>Or.elim hs_ (fun hs_=>hs_.2.1) (fun hs_=>hs_.2.1)) (fun hn_=>(zf BK742 hn_)),Or.elim hk_ (fun hs_=>Or.elim hs_ (fun hs_=>hs_.2.2.1) (fun hs_=>hs_.2.2.1)) (fun hn_=>(zf BK761 hn_)),Or.elim hk_ (fun hs_=>Or.elim hs_ (fun hs_=>hs_.2.2.2.1) (fun hs_=>hs_.2.2.2.1)) (fun hn_=>(zf BK762 hn_)),Or.elim hk_ (fun hs_=>Or.elim hs_ (fun hs_=>hs_.2.2.2.2.1) (fun hs_=>hs_.2.2.2.2.1)) (fun hn_=>(zf BK780 hn_)),Or.elim hk_ (fun hs_=>Or.elim hs_ (fun hs_=>hs_.2.2.2.2.2.1) (fun hs_=>hs_.2.2.2.2.2.1)) (fun hn_=>(zf BK784 hn_)),Or.elim hk_ (fun hs_=>Or.elim hs_ (fun hs_=>hs_.2.2.2.2.2.2) (fun hs_=>hs_.2.2.2.2.2.2)) (fun hn_=>(zf BK805 hn_))⟩)
      have HO820:=yL (fun k_=>k_≠gb741∧k_≠gb742∧k_≠gb761∧k_≠gb762∧k_≠gb780∧k_≠gb784∧k_≠gb805) ho1 (fun k_ hk_=>⟨Or.elim hk_ (fun hs_=>Or.elim hs_ (fun hs_=>hs_.1) (fun hs_=>hs_.1)) (fun hn_=>(zf BK741 hn_)),Or.elim hk_ (fun hs_=>Or.elim hs_ (fun hs_=>hs_.2.1) (fun hs_=>hs_.2.1)) (fun hn_=>(zf BK742 hn_)),Or.elim hk_ (fun hs_=>Or.elim hs_ (fun hs_=>hs_.2.2.1) (fun hs_=>hs_.2.2.1)) (fun hn_=>(zf BK761 hn_)),Or.elim hk_ (fun hs_=>Or.elim hs_ (fun hs_=>hs_.2.2.2.1) (fun hs_=>hs_.2.2.2.1)) (fun hn_=>(zf BK762 hn_)),Or.elim hk_ (fun hs_=>Or.elim hs_ (fun hs_=>hs_.2.2.2.2.1) (fun hs_=>hs_.2.2.2.2.1)) (fun hn_=>(zf BK780 hn_)),Or.elim hk_ (fun hs_=>Or.elim hs_ (fun hs_=>hs_.2.2.2.2.2.1) (fun hs_=>hs_.2.2.2.2.2.1)) (fun hn_=>(zf BK784 hn_)),Or.elim hk_ (fun hs_=>Or.elim hs_ (fun hs_=>hs_.2.2.2.2.2.2) (fun hs_=>hs_.2.2.2.2.2.2)) (fun hn_=>(zf BK805 hn_))⟩)
      replace BK741:=sK BK741 hb
      replace BK742:=sK BK742 hb
      replace BK761:=sK BK761 hb
      replace BK762:=sK BK762 hb
      replace BK780:=sK BK780 hb
      replace BK784:=sK BK784 hb
      replace BK805:=sK BK805 hb
      replace HB:=sB hb
      clear hb ho0 ho1
      obtain ⟨Ao148,co148,eo148⟩:=Kd.V_slice HO817.out
      (first|subst eo148|(injection eo148 with f1_ f2_ f3_;have f4_:=f1_.symm;have f5_:=f3_.symm;clear f1_ f2_ f3_;subst f4_;subst f5_))
      obtain ⟨Ao149,co149,eo149⟩:=Kd.V_slice HO820.out
      (first|subst eo149|(injection eo149 with f1_ f2_ f3_;have f4_:=f1_.symm;have f5_:=f3_.symm;clear f1_ f2_ f3_;subst f4_;subst f5_))
      refine hK.out _ _ ⟨zh BK805 0,zh BK805 1,zh BK741 0,zh BK741 1⟩ (fun hHeld=>?_)
      clear hK K
      refine nm ?_
      refine one_ (i:=5) (N:=some 90) #[true,true,true,true,true,true,false] rfl rfl (by kernel_rfl) (by decide) (fun K hK=>?_)
      refine goes_ func50 (by kernel_rfl) rfl #[.agg #[.string t802,.string t803],.int .i64 t804,.agg #[.bool t814,.slice Ao148 t815.length co148,.slice Ao149 t818.length co149],.int .i64 0] (by rfl) rfl rfl zm ?_
      with_reducible refine (weftlaw1_same.calls t802 t803 t804 t814 _ _ t815 _ _ t818 0 t821 _ ?side1 ?side2 ?side3 ?side4 ?side5 A125.out).mono ?_
      (case side1=>exact zr HO817)
      (case side2=>exact zk HO817)
      (case side3=>exact zr HO820)
      (case side4=>exact zk HO820)
      (case side5=>exact Tryz.Gl.below HG.out bw)
      rintro e w150 ⟨rfl,hb⟩
      refine ⟨_,rfl,?_⟩
      replace HO_762001:=yV HO_762001 hb
      replace HO_762002:=yV HO_762002 hb
      replace HO_763001:=yV HO_763001 hb
      replace HO_763002:=yV HO_763002 hb
      replace HO810:=yV HO810 hb
      replace HO813:=yV HO813 hb
      replace HO817:=yV HO817 hb
      replace HO820:=yV HO820 hb
      replace BK741:=sK BK741 hb
      replace BK742:=sK BK742 hb
      replace BK761:=sK BK761 hb
      replace BK762:=sK BK762 hb
      replace BK780:=sK BK780 hb
      replace BK784:=sK BK784 hb
      replace BK805:=sK BK805 hb
      replace HB:=sB hb
      clear hb
      refine hK.out _ _ ⟨zh BK805 0,zh BK805 1,zh BK741 0,zh BK741 1⟩ (fun hHeld=>?_)
      clear hK K
      refine nm ?_
      refine pure_ (i:=6) (N:=some 2) (v:=?_) (a':=?_) #[true,true,true,true,true,true,true] rfl rfl (by kernel_rfl) (fun _ _ _ h=>h) (Or.inl ⟨by rfl,?_⟩) ?_ ?_
      rotate_left
      ·intro w'
       go_simp
       with_reducible rfl
      rotate_left
      ·simp only [Act.put,List.setIfInBounds_toArray,List.set_cons_zero,List.set_cons_succ,i64_w,i32_w]
       rfl
      refine done_ (by kernel_rfl) ?_
      try go_wp2
      go_ret
      exact ⟨ze,bw⟩
     subst c119
     have H1:(some false)=some r:=by rw [if_pos rfl] at H;exact H
     clear H
     have H:=H1
     clear H1
     obtain rfl:=Option.some.inj H
     go_wp2
     go_ret
     exact ⟨ze,bw⟩
def weftlaw1_NumSums.Pure:Prop:=∀ (l0:List Int),l0.length≤maxLen→l0.length*8≤140737488351232→(∀ x ∈ l0,(Lit.int .i64 x).wf=true)→∃ k,weftlaw1_NumSums.f k l0=some true
theorem weftlaw1_NumSums.walk (P:weftlaw1_NumSums.Pure) (a0:Option Addr) (len0 cap0:Nat) (z0:List Int) (w:World) (w0:(a0=none∧len0=0∧cap0=0∧z0=[])∨∃ x,a0=some x∧len0≤cap0∧cap0≤maxLen∧z0.length=cap0∧(∀ i,i<z0.length→w.cell? (x.add i)=some (.int .i64 (z0.getD i 0)))∧∀ n ∈ z0,(Lit.int .i64 n).wf=true) (y0:len0*8≤140737488351232) (hG:Tryz.Gl w) :
  Calls Tryz.prog 15 #[.slice a0 len0 cap0] w fun e w'=>e = .returned (.bool true)∧Below w.heap.size w w':=by
 obtain ⟨l0,rfl,hr0,hm0,hw0,hc0⟩:=ReadsInt.ofRowC w0
 obtain ⟨k,h⟩:=P l0 hm0 y0 hw0
 refine (weftlaw1_NumSums.calls k _ _ l0 true w (Kd.C_of_reads (d:=(0:Int)) (h1:=fun _=>rfl) hr0) hc0 hG h).mono ?_
 rintro e w' ⟨rfl,hd⟩
 exact ⟨rfl,hd⟩
end Go.Proofs.YtaffkbemjbfajaaGreatDoor.PNumSums
