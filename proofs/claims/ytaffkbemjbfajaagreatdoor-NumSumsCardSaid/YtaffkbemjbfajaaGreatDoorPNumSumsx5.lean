-- By a program of this session: functions as plain Lean functions, each with its proof over the machine.
import Derived.Test.YtaffkbemjbfajaaGreatDoorPNumSumsx0
import Derived.Test.YtaffkbemjbfajaaGreatDoorPNumSumsx2
import Derived.Test.YtaffkbemjbfajaaGreatDoorPNumSumsx3
import Derived.Test.YtaffkbemjbfajaaGreatDoorPNumSumsx4
namespace Go.Proofs.YtaffkbemjbfajaaGreatDoor.PNumSums
open Go.RowKit Go.Proofs.Tryz Go.Proofs.YtaffkbemjbfajaaGreatDoorW.PrintWords Go.Proofs.YtaffkbemjbfajaaGreatDoorW.PrintLast Go.Proofs.YtaffkbemjbfajaaGreatDoorW.PrintMore
attribute [local go_sem] max2_int min2_int max_two min_two max_three min_three max_four min_four
set_option linter.unusedVariables false
set_option linter.unusedSimpArgs false
set_option maxHeartbeats 8000000
set_option maxRecDepth 100000
def num_two_at_frac_Sub.f (k:Nat) (a0_0:ByteArray) (a0_1:ByteArray) (a1_0:ByteArray) (a1_1:ByteArray):Option (ByteArray×ByteArray×Int):=(num_Check.f k a0_0 a0_1).bind fun t600=>(if t600=0 then ((num_Check.f k a1_0 a1_1).bind fun t601=>(if t601=0 then ((frac_Of.f k a0_0 a0_1).bind fun bt602=>((frac_Of.f k a1_0 a1_1).bind fun bt609=>((frac_Sub.f k bt602.1 bt602.2.1 bt602.2.2 bt609.1 bt609.2.1 bt609.2.2).bind fun bt616=>((frac_Frac_Rat.f bt616.1 bt616.2.1 bt616.2.2).bind fun bt623=>(some (bt623.1,bt623.2,0)))))) else (some ((⟨#[]⟩:ByteArray),(⟨#[]⟩:ByteArray),t601)))) else (some ((⟨#[]⟩:ByteArray),(⟨#[]⟩:ByteArray),t600)))
def num_two_at_frac_Sub.T7:Bool×List (List Nat×List Nat):=(true,[([],[]),([],[]),([1],[1]),([],[]),([3,2],[3]),([0,2,4,4],[0,2,4]),([5,5],[5]),([6,6,0,1,2,3,4,5,6],[6]),([7,0,1,2,3,4,5,6,7],[])])
def num_two_at_frac_Sub.B7:List Nat:=[0,0,2,0,14,31,63,127,255]
theorem num_two_at_frac_Sub.tab7:rtab .any (opsOf Tryz.f110 7)=num_two_at_frac_Sub.T7:=by kernel_rfl
theorem num_two_at_frac_Sub.bits7:waitsOk num_two_at_frac_Sub.T7.2 num_two_at_frac_Sub.B7=true:=by kernel_rfl
theorem num_two_at_frac_Sub.calls (k:Nat) (a0_0:ByteArray) (a0_1:ByteArray) (a1_0:ByteArray) (a1_1:ByteArray) (r1:ByteArray) (r2:ByteArray) (r3:Int) (w:World) (hG:Tryz.Gl w) (h:num_two_at_frac_Sub.f k a0_0 a0_1 a1_0 a1_1=some (r1,r2,r3)) :
  Calls Tryz.prog 110 #[.agg #[.string a0_0,.string a0_1],.agg #[.string a1_0,.string a1_1],.func (.func 118) #[] #[]] w fun e w'=>e = .returned (.tuple #[.agg #[.string r1,.string r2],.int .i64 r3])∧Below w.heap.size w w':=by
 have hu61:=underlying61
 have HG:=aZ hG
 clear hG
 have HB:=aZ (Below.refl w.heap.size w)
 have H:=h
 unfold num_two_at_frac_Sub.f at H
 clear h
 obtain ⟨t600,A3,H⟩:=zB H
 by_cases c4:t600=0
 case neg=>
  rw [if_neg c4] at H
  obtain ⟨c4b0,c4b1⟩:=zX c4
  simp only [Option.some.injEq,Prod.mk.injEq] at H
  obtain ⟨rfl,rfl,rfl⟩:=H
  go_enter func110,ntmps110
  go_wp2_with (first|(refine box_ev 3 #[.string a0_0,.string a0_1] 61 ?_;intro gb597 hg w45 hbox hb;have BK597:=aZ hbox;have GE597:=sG hg;replace HB:=sB hb;clear hb hbox hg)|(refine box_ev 4 #[.string a1_0,.string a1_1] 61 ?_;intro gb598 hg w46 hbox hb;have BK598:=aZ hbox;have GE598:=sG hg;replace HB:=sB hb;have NB597_598:=sl hg BK597;have NB598_597:=sg hg BK597;replace BK597:=sK BK597 hb;clear hb hbox hg)|(refine box_ev 6 #[.string ⟨#[]⟩,.string ⟨#[]⟩] 61 ?_;intro gb599 hg w47 hbox hb;have BK599:=aZ hbox;have GE599:=sG hg;replace HB:=sB hb;have NB597_599:=sl hg BK597;have NB599_597:=sg hg BK597;replace BK597:=sK BK597 hb;have NB598_599:=sl hg BK598;have NB599_598:=sg hg BK598;replace BK598:=sK BK598 hb;clear hb hbox hg;have hnb48:=NB597_598.out;have hnc48:=NB598_597.out;have hnb49:=NB597_599.out;have hnc49:=NB599_597.out;obtain ⟨hcz50_0,hfz50_0⟩:=zc BK597 0 (.string a0_0) rfl;obtain ⟨hcz50_1,hfz50_1⟩:=zc BK597 1 (.string a0_1) rfl)|(refine zg (some 11) func56 #[.agg #[.string a0_0,.string a0_1]] ?_;(with_reducible refine (num_Check.calls k a0_0 a0_1 t600 _ A3.out).mono ?_);rintro e w51 ⟨rfl,hb⟩;refine ⟨_,rfl,?_⟩;replace BK597:=sK BK597 hb;replace BK598:=sK BK598 hb;replace BK599:=sK BK599 hb;replace HB:=sB hb;clear hb;have hnb52:=NB599_598.out;have hnc52:=NB598_599.out;obtain ⟨hcz53_0,hfz53_0⟩:=zc BK599 0 (.string ⟨#[]⟩) rfl;obtain ⟨hcz53_1,hfz53_1⟩:=zc BK599 1 (.string ⟨#[]⟩) rfl))
  refine bodyPost_ret (results_ct rfl _ _ gb599 61 #[.string ⟨#[]⟩,.string ⟨#[]⟩] (0,0) _ rfl (zp BK599) underlying61 rfl (by kernel_rfl)) rfl ?_
  exact ⟨ze,bw⟩
 rw [if_pos c4] at H
 obtain ⟨c4b0,c4b1⟩:=zY c4
 clear c4
 obtain ⟨t601,A5,H⟩:=zB H
 by_cases c6:t601=0
 case neg=>
  rw [if_neg c6] at H
  obtain ⟨c6b0,c6b1⟩:=zX c6
  simp only [Option.some.injEq,Prod.mk.injEq] at H
  obtain ⟨rfl,rfl,rfl⟩:=H
  go_enter func110,ntmps110
  go_wp2_with (first|(refine box_ev 3 #[.string a0_0,.string a0_1] 61 ?_;intro gb597 hg w34 hbox hb;have BK597:=aZ hbox;have GE597:=sG hg;replace HB:=sB hb;clear hb hbox hg)|(refine box_ev 4 #[.string a1_0,.string a1_1] 61 ?_;intro gb598 hg w35 hbox hb;have BK598:=aZ hbox;have GE598:=sG hg;replace HB:=sB hb;have NB597_598:=sl hg BK597;have NB598_597:=sg hg BK597;replace BK597:=sK BK597 hb;clear hb hbox hg)|(refine box_ev 6 #[.string ⟨#[]⟩,.string ⟨#[]⟩] 61 ?_;intro gb599 hg w36 hbox hb;have BK599:=aZ hbox;have GE599:=sG hg;replace HB:=sB hb;have NB597_599:=sl hg BK597;have NB599_597:=sg hg BK597;replace BK597:=sK BK597 hb;have NB598_599:=sl hg BK598;have NB599_598:=sg hg BK598;replace BK598:=sK BK598 hb;clear hb hbox hg;have hnb37:=NB597_598.out;have hnc37:=NB598_597.out;have hnb38:=NB597_599.out;have hnc38:=NB599_597.out;obtain ⟨hcz39_0,hfz39_0⟩:=zc BK597 0 (.string a0_0) rfl;obtain ⟨hcz39_1,hfz39_1⟩:=zc BK597 1 (.string a0_1) rfl)|(refine zg (some 11) func56 #[.agg #[.string a0_0,.string a0_1]] ?_;(with_reducible refine (num_Check.calls k a0_0 a0_1 t600 _ A3.out).mono ?_);rintro e w40 ⟨rfl,hb⟩;refine ⟨_,rfl,?_⟩;replace BK597:=sK BK597 hb;replace BK598:=sK BK598 hb;replace BK599:=sK BK599 hb;replace HB:=sB hb;clear hb;have hnb41:=NB598_599.out;have hnc41:=NB599_598.out;obtain ⟨hcz42_0,hfz42_0⟩:=zc BK598 0 (.string a1_0) rfl;obtain ⟨hcz42_1,hfz42_1⟩:=zc BK598 1 (.string a1_1) rfl)|(refine zg (some 17) func56 #[.agg #[.string a1_0,.string a1_1]] ?_;(with_reducible refine (num_Check.calls k a1_0 a1_1 t601 _ A5.out).mono ?_);rintro e w43 ⟨rfl,hb⟩;refine ⟨_,rfl,?_⟩;replace BK597:=sK BK597 hb;replace BK598:=sK BK598 hb;replace BK599:=sK BK599 hb;replace HB:=sB hb;clear hb;obtain ⟨hcz44_0,hfz44_0⟩:=zc BK599 0 (.string ⟨#[]⟩) rfl;obtain ⟨hcz44_1,hfz44_1⟩:=zc BK599 1 (.string ⟨#[]⟩) rfl))
  refine bodyPost_ret (results_ct rfl _ _ gb599 61 #[.string ⟨#[]⟩,.string ⟨#[]⟩] (0,0) _ rfl (zp BK599) underlying61 rfl (by kernel_rfl)) rfl ?_
  exact ⟨ze,bw⟩
 rw [if_pos c6] at H
 obtain ⟨c6b0,c6b1⟩:=zY c6
 clear c6
 obtain ⟨⟨t602,t603,t606⟩,A7,H⟩:=zB H
 (try dsimp only at H)
 obtain ⟨⟨t609,t610,t613⟩,A8,H⟩:=zB H
 (try dsimp only at H)
 obtain ⟨⟨t616,t617,t620⟩,A9,H⟩:=zB H
 (try dsimp only at H)
 obtain ⟨⟨t623,t624⟩,A10,H⟩:=zB H
 (try dsimp only at H)
 simp only [Option.some.injEq,Prod.mk.injEq] at H
 obtain ⟨rfl,rfl,rfl⟩:=H
 go_enter func110,ntmps110
 try go_wp2_with (first|(refine box_ev 3 #[.string a0_0,.string a0_1] 61 ?_;intro gb597 hg w11 hbox hb;have BK597:=aZ hbox;have GE597:=sG hg;replace HB:=sB hb;clear hb hbox hg)|(refine box_ev 4 #[.string a1_0,.string a1_1] 61 ?_;intro gb598 hg w12 hbox hb;have BK598:=aZ hbox;have GE598:=sG hg;replace HB:=sB hb;have NB597_598:=sl hg BK597;have NB598_597:=sg hg BK597;replace BK597:=sK BK597 hb;clear hb hbox hg)|(refine box_ev 6 #[.string ⟨#[]⟩,.string ⟨#[]⟩] 61 ?_;intro gb599 hg w13 hbox hb;have BK599:=aZ hbox;have GE599:=sG hg;replace HB:=sB hb;have NB597_599:=sl hg BK597;have NB599_597:=sg hg BK597;replace BK597:=sK BK597 hb;have NB598_599:=sl hg BK598;have NB599_598:=sg hg BK598;replace BK598:=sK BK598 hb;clear hb hbox hg;have hnb14:=NB597_598.out;have hnc14:=NB598_597.out;have hnb15:=NB597_599.out;have hnc15:=NB599_597.out;obtain ⟨hcz16_0,hfz16_0⟩:=zc BK597 0 (.string a0_0) rfl;obtain ⟨hcz16_1,hfz16_1⟩:=zc BK597 1 (.string a0_1) rfl)|(refine zg (some 11) func56 #[.agg #[.string a0_0,.string a0_1]] ?_;(with_reducible refine (num_Check.calls k a0_0 a0_1 t600 _ A3.out).mono ?_);rintro e w17 ⟨rfl,hb⟩;refine ⟨_,rfl,?_⟩;replace BK597:=sK BK597 hb;replace BK598:=sK BK598 hb;replace BK599:=sK BK599 hb;replace HB:=sB hb;clear hb;have hnb18:=NB598_599.out;have hnc18:=NB599_598.out;obtain ⟨hcz19_0,hfz19_0⟩:=zc BK598 0 (.string a1_0) rfl;obtain ⟨hcz19_1,hfz19_1⟩:=zc BK598 1 (.string a1_1) rfl)|(refine zg (some 17) func56 #[.agg #[.string a1_0,.string a1_1]] ?_;(with_reducible refine (num_Check.calls k a1_0 a1_1 t601 _ A5.out).mono ?_);rintro e w20 ⟨rfl,hb⟩;refine ⟨_,rfl,?_⟩;replace BK597:=sK BK597 hb;replace BK598:=sK BK598 hb;replace BK599:=sK BK599 hb;replace HB:=sB hb;clear hb))
 replace BK597:=aZ (blk_drew BK597.out)
 replace BK598:=aZ (blk_drew BK598.out)
 replace BK599:=aZ (blk_drew BK599.out)
 replace HB:=aZ (below_drew1 HB.out)
 refine start_ (n:=9) (S:=fun w'=>w'.cell? ⟨gb597,0,none⟩=some (.string a0_0)∧w'.cell? ⟨gb597,1,none⟩=some (.string a0_1)∧w'.cell? ⟨gb598,0,none⟩=some (.string a1_0)∧w'.cell? ⟨gb598,1,none⟩=some (.string a1_1)) (ds:=[]) #[false,false,false,false,false,false,false,false,false] (by kernel_rfl) rfl rfl ⟨zh BK597 0,zh BK597 1,zh BK598 0,zh BK598 1⟩ (fun hHeld=>?_);refine with_tabW num_two_at_frac_Sub.tab7 num_two_at_frac_Sub.bits7 (fun HT_ HW_=>?_)
 generalize w20.drew=w21 at BK597 BK598 BK599 HB hHeld ⊢
 refine pu 0 (some 22) HT_ ?_
 refine tk 1 (some 23) HT_ HW_ hHeld ?_
 refine tk 3 (some 25) HT_ HW_ hHeld ?_
 refine one_ (i:=2) (N:=some 24) #[true,true,true,true,false,false,false,false,false] rfl rfl (one_of HT_.out (by kernel_rfl)) (by decide) (fun K hK=>?_)
 refine goes_ func127 (by kernel_rfl) rfl #[.agg #[.string a0_0,.string a0_1]] (by rfl) rfl rfl zm ?_
 with_reducible refine (frac_Of.calls k a0_0 a0_1 t602 t603 t606 _ A7.out).mono ?_
 rintro e w22 ⟨v604,v607,rfl,ho0,ho1,hb⟩
 refine ⟨_,rfl,?_⟩
 have HO605:=yL (fun k_=>k_≠gb597∧k_≠gb598∧k_≠gb599) ho0 (fun k_ hk_=>⟨(zf BK597 hk_),(zf BK598 hk_),(zf BK599 hk_)⟩)
 have HO608:=yL (fun k_=>k_≠gb597∧k_≠gb598∧k_≠gb599) ho1 (fun k_ hk_=>⟨(zf BK597 hk_),(zf BK598 hk_),(zf BK599 hk_)⟩)
 replace BK597:=sK BK597 hb
 replace BK598:=sK BK598 hb
 replace BK599:=sK BK599 hb
 replace HB:=sB hb
 clear hb ho0 ho1
 refine hK.out _ _ ⟨zh BK597 0,zh BK597 1,zh BK598 0,zh BK598 1⟩ (fun hHeld=>?_)
 clear hK K
 refine nm ?_
 refine one_ (i:=4) (N:=some 26) #[true,true,true,true,true,false,false,false,false] rfl rfl (one_of HT_.out (by kernel_rfl)) (by decide) (fun K hK=>?_)
 refine goes_ func127 (by kernel_rfl) rfl #[.agg #[.string a1_0,.string a1_1]] (by rfl) rfl rfl zm ?_
 with_reducible refine (frac_Of.calls k a1_0 a1_1 t609 t610 t613 _ A8.out).mono ?_
 rintro e w23 ⟨v611,v614,rfl,ho0,ho1,hb⟩
 refine ⟨_,rfl,?_⟩
 replace HO605:=yV HO605 hb
 replace HO608:=yV HO608 hb
 have HO612:=yL (fun k_=>k_≠gb597∧k_≠gb598∧k_≠gb599) ho0 (fun k_ hk_=>⟨(zf BK597 hk_),(zf BK598 hk_),(zf BK599 hk_)⟩)
 have HO615:=yL (fun k_=>k_≠gb597∧k_≠gb598∧k_≠gb599) ho1 (fun k_ hk_=>⟨(zf BK597 hk_),(zf BK598 hk_),(zf BK599 hk_)⟩)
 replace BK597:=sK BK597 hb
 replace BK598:=sK BK598 hb
 replace BK599:=sK BK599 hb
 replace HB:=sB hb
 clear hb ho0 ho1
 obtain ⟨Ao24,co24,eo24⟩:=Kd.V_slice HO605.out
 (first|subst eo24|(injection eo24 with f1_ f2_ f3_;have f4_:=f1_.symm;have f5_:=f3_.symm;clear f1_ f2_ f3_;subst f4_;subst f5_))
 obtain ⟨Ao25,co25,eo25⟩:=Kd.V_slice HO608.out
 (first|subst eo25|(injection eo25 with f1_ f2_ f3_;have f4_:=f1_.symm;have f5_:=f3_.symm;clear f1_ f2_ f3_;subst f4_;subst f5_))
 obtain ⟨Ao26,co26,eo26⟩:=Kd.V_slice HO612.out
 (first|subst eo26|(injection eo26 with f1_ f2_ f3_;have f4_:=f1_.symm;have f5_:=f3_.symm;clear f1_ f2_ f3_;subst f4_;subst f5_))
 obtain ⟨Ao27,co27,eo27⟩:=Kd.V_slice HO615.out
 (first|subst eo27|(injection eo27 with f1_ f2_ f3_;have f4_:=f1_.symm;have f5_:=f3_.symm;clear f1_ f2_ f3_;subst f4_;subst f5_))
 refine hK.out _ _ ⟨zh BK597 0,zh BK597 1,zh BK598 0,zh BK598 1⟩ (fun hHeld=>?_)
 clear hK K
 refine nm ?_
 refine one_ (i:=5) (N:=some 27) #[true,true,true,true,true,true,false,false,false] rfl rfl (one_of HT_.out (by kernel_rfl)) (by decide) (fun K hK=>?_)
 refine goesU_ (t:=22) (by rfl) func118 (by kernel_rfl) rfl #[.agg #[.bool t602,.slice Ao24 t603.length co24,.slice Ao25 t606.length co25],.agg #[.bool t609,.slice Ao26 t610.length co26,.slice Ao27 t613.length co27]] (by rfl) rfl rfl zm ?_
 with_reducible refine (frac_Sub.calls k t602 (fun k_=>(k_≠gb597∧(k_≠gb598∧k_≠gb599))) _ _ t603 (fun k_=>(k_≠gb597∧(k_≠gb598∧k_≠gb599))) _ _ t606 t609 (fun k_=>(k_≠gb597∧(k_≠gb598∧k_≠gb599))) _ _ t610 (fun k_=>(k_≠gb597∧(k_≠gb598∧k_≠gb599))) _ _ t613 t616 t617 t620 _ ?side1 ?side2 ?side3 ?side4 A9.out).mono ?_
 (case side1=>exact HO605.out)
 (case side2=>exact HO608.out)
 (case side3=>exact HO612.out)
 (case side4=>exact HO615.out)
 rintro e w28 ⟨v618,v621,rfl,ho0,ho1,hb⟩
 refine ⟨_,rfl,?_⟩
 replace HO605:=yV HO605 hb
 replace HO608:=yV HO608 hb
 replace HO612:=yV HO612 hb
 replace HO615:=yV HO615 hb
 have HO619:=yL (fun k_=>k_≠gb597∧k_≠gb598∧k_≠gb599) ho0 (fun k_ hk_=>⟨Or.elim hk_ (fun hs_=>Or.elim hs_ (fun hs_=>hs_.1) (fun hs_=>Or.elim hs_ (fun hs_=>hs_.1) (fun hs_=>Or.elim hs_ (fun hs_=>hs_.1) (fun hs_=>hs_.1)))) (fun hn_=>(zf BK597 hn_)),Or.elim hk_ (fun hs_=>Or.elim hs_ (fun hs_=>hs_.2.1) (fun hs_=>Or.elim hs_ (fun hs_=>hs_.2.1) (fun hs_=>Or.elim hs_ (fun hs_=>hs_.2.1) (fun hs_=>hs_.2.1)))) (fun hn_=>(zf BK598 hn_)),Or.elim hk_ (fun hs_=>Or.elim hs_ (fun hs_=>hs_.2.2) (fun hs_=>Or.elim hs_ (fun hs_=>hs_.2.2) (fun hs_=>Or.elim hs_ (fun hs_=>hs_.2.2) (fun hs_=>hs_.2.2)))) (fun hn_=>(zf BK599 hn_))⟩)
 have HO622:=yL (fun k_=>k_≠gb597∧k_≠gb598∧k_≠gb599) ho1 (fun k_ hk_=>⟨Or.elim hk_ (fun hs_=>Or.elim hs_ (fun hs_=>hs_.1) (fun hs_=>Or.elim hs_ (fun hs_=>hs_.1) (fun hs_=>Or.elim hs_ (fun hs_=>hs_.1) (fun hs_=>hs_.1)))) (fun hn_=>(zf BK597 hn_)),Or.elim hk_ (fun hs_=>Or.elim hs_ (fun hs_=>hs_.2.1) (fun hs_=>Or.elim hs_ (fun hs_=>hs_.2.1) (fun hs_=>Or.elim hs_ (fun hs_=>hs_.2.1) (fun hs_=>hs_.2.1)))) (fun hn_=>(zf BK598 hn_)),Or.elim hk_ (fun hs_=>Or.elim hs_ (fun hs_=>hs_.2.2) (fun hs_=>Or.elim hs_ (fun hs_=>hs_.2.2) (fun hs_=>Or.elim hs_ (fun hs_=>hs_.2.2) (fun hs_=>hs_.2.2)))) (fun hn_=>(zf BK599 hn_))⟩)
 replace BK597:=sK BK597 hb
 replace BK598:=sK BK598 hb
 replace BK599:=sK BK599 hb
 replace HB:=sB hb
 clear hb ho0 ho1
 obtain ⟨Ao29,co29,eo29⟩:=Kd.V_slice HO619.out
 (first|subst eo29|(injection eo29 with f1_ f2_ f3_;have f4_:=f1_.symm;have f5_:=f3_.symm;clear f1_ f2_ f3_;subst f4_;subst f5_))
 obtain ⟨Ao30,co30,eo30⟩:=Kd.V_slice HO622.out
 (first|subst eo30|(injection eo30 with f1_ f2_ f3_;have f4_:=f1_.symm;have f5_:=f3_.symm;clear f1_ f2_ f3_;subst f4_;subst f5_))
 refine hK.out _ _ ⟨zh BK597 0,zh BK597 1,zh BK598 0,zh BK598 1⟩ (fun hHeld=>?_)
 clear hK K
 refine nm ?_
 refine one_ (i:=6) (N:=some 28) #[true,true,true,true,true,true,true,false,false] rfl rfl (one_of HT_.out (by kernel_rfl)) (by decide) (fun K hK=>?_)
 refine goes_ func96 (by kernel_rfl) rfl #[.agg #[.bool t616,.slice Ao29 t617.length co29,.slice Ao30 t620.length co30]] (by rfl) rfl rfl zm ?_
 with_reducible refine (frac_Frac_Rat.calls t616 _ _ t617 _ _ t620 t623 t624 _ ?side1 ?side2 ?side3 ?side4 ?side5 A10.out).mono ?_
 (case side1=>exact zr HO619)
 (case side2=>exact zk HO619)
 (case side3=>exact zr HO622)
 (case side4=>exact zk HO622)
 (case side5=>exact Tryz.Gl.below HG.out bw)
 rintro e w31 ⟨rfl,hb⟩
 refine ⟨_,rfl,?_⟩
 replace HO605:=yV HO605 hb
 replace HO608:=yV HO608 hb
 replace HO612:=yV HO612 hb
 replace HO615:=yV HO615 hb
 replace HO619:=yV HO619 hb
 replace HO622:=yV HO622 hb
 replace BK597:=sK BK597 hb
 replace BK598:=sK BK598 hb
 replace BK599:=sK BK599 hb
 replace HB:=sB hb
 clear hb
 refine hK.out _ _ ⟨zh BK597 0,zh BK597 1,zh BK598 0,zh BK598 1⟩ (fun hHeld=>?_)
 clear hK K
 refine nm ?_
 refine one_ (i:=7) (N:=none) #[true,true,true,true,true,true,true,true,false] rfl rfl (one_of HT_.out (by kernel_rfl)) (by decide) (fun K hK=>?_)
 have hs32:w31.cell? ⟨gb599,0,none⟩=some (.string (⟨#[]⟩:ByteArray)):=(blk_cell BK599.out 0).trans rfl
 have hfs32:=blk_frozen BK599.out 0
 have hns32_0:=NB597_599.out
 have hns32_1:=NB598_599.out
 have hms32_0:=NB599_597.out
 have hms32_1:=NB599_598.out
 have hs33:w31.cell? ⟨gb599,1,none⟩=some (.string (⟨#[]⟩:ByteArray)):=(blk_cell BK599.out 1).trans rfl
 have hfs33:=blk_frozen BK599.out 1
 have hns33_0:=NB597_599.out
 have hns33_1:=NB598_599.out
 have hms33_0:=NB599_597.out
 have hms33_1:=NB599_598.out
 refine skip_ (w1:=?_) (by rfl) rfl ?_ ?_
 rotate_left
 ·go_simp
  rfl
 refine hK.out _ _ ⟨((cell_far (p:=⟨gb599,_,none⟩) NB597_599.out _).trans (((cell_far (p:=⟨gb599,_,none⟩) NB597_599.out _).trans (hHeld.1)))),((cell_far (p:=⟨gb599,_,none⟩) NB597_599.out _).trans (((cell_far (p:=⟨gb599,_,none⟩) NB597_599.out _).trans (hHeld.2.1)))),((cell_far (p:=⟨gb599,_,none⟩) NB598_599.out _).trans (((cell_far (p:=⟨gb599,_,none⟩) NB598_599.out _).trans (hHeld.2.2.1)))),((cell_far (p:=⟨gb599,_,none⟩) NB598_599.out _).trans (((cell_far (p:=⟨gb599,_,none⟩) NB598_599.out _).trans (hHeld.2.2.2))))⟩ (fun hHeld=>?_)
 clear hK K
 refine pu 8 (some 7) HT_ ?_
 refine done_ (done_of HT_.out (by kernel_rfl)) ?_
 try go_wp2
 refine bodyPost_ret (results_ct rfl _ _ gb599 61 #[.string t623,.string t624] (0,0) _ rfl (zp BK599) underlying61 rfl (by kernel_rfl)) rfl ?_
 exact ⟨ze,bw⟩
def num_Sub.f (k:Nat) (a0_0:ByteArray) (a0_1:ByteArray) (a1_0:ByteArray) (a1_1:ByteArray):Option (ByteArray×ByteArray×Int):=(num_two_at_frac_Sub.f k a0_0 a0_1 a1_0 a1_1).bind fun bt628=>(some (bt628.1,bt628.2.1,bt628.2.2))
theorem num_Sub.calls (k:Nat) (a0_0:ByteArray) (a0_1:ByteArray) (a1_0:ByteArray) (a1_1:ByteArray) (r1:ByteArray) (r2:ByteArray) (r3:Int) (w:World) (hG:Tryz.Gl w) (h:num_Sub.f k a0_0 a0_1 a1_0 a1_1=some (r1,r2,r3)) :
  Calls Tryz.prog 67 #[.agg #[.string a0_0,.string a0_1],.agg #[.string a1_0,.string a1_1]] w fun e w'=>e = .returned (.tuple #[.agg #[.string r1,.string r2],.int .i64 r3])∧Below w.heap.size w w':=by
 have hu61:=underlying61
 have HG:=aZ hG
 clear hG
 have HB:=aZ (Below.refl w.heap.size w)
 have H:=h
 unfold num_Sub.f at H
 clear h
 obtain ⟨⟨t628,t629,t630⟩,A3,H⟩:=zB H
 (try dsimp only at H)
 simp only [Option.some.injEq,Prod.mk.injEq] at H
 obtain ⟨rfl,rfl,rfl⟩:=H
 go_enter func67,ntmps67
 go_wp2_with (first|(refine box_ev 2 #[.string a0_0,.string a0_1] 61 ?_;intro gb625 hg w4 hbox hb;have BK625:=aZ hbox;have GE625:=sG hg;replace HB:=sB hb;clear hb hbox hg)|(refine box_ev 3 #[.string a1_0,.string a1_1] 61 ?_;intro gb626 hg w5 hbox hb;have BK626:=aZ hbox;have GE626:=sG hg;replace HB:=sB hb;have NB625_626:=sl hg BK625;have NB626_625:=sg hg BK625;replace BK625:=sK BK625 hb;clear hb hbox hg)|(refine box_ev 4 #[.string ⟨#[]⟩,.string ⟨#[]⟩] 61 ?_;intro gb627 hg w6 hbox hb;have BK627:=aZ hbox;have GE627:=sG hg;replace HB:=sB hb;have NB625_627:=sl hg BK625;have NB627_625:=sg hg BK625;replace BK625:=sK BK625 hb;have NB626_627:=sl hg BK626;have NB627_626:=sg hg BK626;replace BK626:=sK BK626 hb;clear hb hbox hg;have hnb7:=NB625_626.out;have hnc7:=NB626_625.out;have hnb8:=NB625_627.out;have hnc8:=NB627_625.out;obtain ⟨hcz9_0,hfz9_0⟩:=zc BK625 0 (.string a0_0) rfl;obtain ⟨hcz9_1,hfz9_1⟩:=zc BK625 1 (.string a0_1) rfl;have hnb10:=NB626_627.out;have hnc10:=NB627_626.out;obtain ⟨hcz11_0,hfz11_0⟩:=zc BK626 0 (.string a1_0) rfl;obtain ⟨hcz11_1,hfz11_1⟩:=zc BK626 1 (.string a1_1) rfl)|(refine zg (some 8) func110 #[.agg #[.string a0_0,.string a0_1],.agg #[.string a1_0,.string a1_1],.func (.func 118) #[] #[]] ?_;(with_reducible refine (num_two_at_frac_Sub.calls k a0_0 a0_1 a1_0 a1_1 t628 t629 t630 _ ?side1 A3.out).mono ?_);(case side1=>exact Tryz.Gl.below HG.out bw);rintro e w12 ⟨rfl,hb⟩;refine ⟨_,rfl,?_⟩;replace BK625:=sK BK625 hb;replace BK626:=sK BK626 hb;replace BK627:=sK BK627 hb;replace HB:=sB hb;clear hb;obtain ⟨hcz13_0,hfz13_0⟩:=zc BK627 0 (.string ⟨#[]⟩) rfl;obtain ⟨hcz13_1,hfz13_1⟩:=zc BK627 1 (.string ⟨#[]⟩) rfl))
 refine bodyPost_ret (results_ct rfl _ _ gb627 61 #[.string t628,.string t629] (0,0) _ rfl (zp BK627) underlying61 rfl (by kernel_rfl)) rfl ?_
 exact ⟨ze,bw⟩
def weftref1_numOf.j0:Nat→Bool→List Int→List Int→List Int→Bool→Option (Bool×List Int×List Int)
 | 0,_,_,_,_,_=>none
 | k+1,x0,x1,x2,x7,x19=>if x19=true then ((weftref1_natDiv.f k x1 x7).bind fun bt636=>((weftref1_natDiv.f k x2 x7).bind fun bt642=>(if x0=true then (some (decide (0<bt636.1.length),bt636.1,bt642.1)) else (some (false,bt636.1,bt642.1))))) else (if x0=true then (some (decide (0<x1.length),x1,x2)) else (some (false,x1,x2)))
def weftref1_numOf.f (k:Nat) (a0:Bool) (l1:List Int) (l2:List Int):Option (Bool×List Int×List Int):=(weftref1_natGCD.f k l1 l2).bind fun t632=>(if (t632.length:Int)=1 then (if 0<(t632.length:Int) then (weftref1_numOf.j0 k a0 l1 l2 t632 ((rd t632 0) != 1)) else (none)) else (weftref1_numOf.j0 k a0 l1 l2 t632 true))
theorem weftref1_numOf.calls (k:Nat) (a0:Bool) (P1_:Nat→Prop) (A1:Option Addr) (c1:Nat) (l1:List Int) (P2_:Nat→Prop) (A2:Option Addr) (c2:Nat) (l2:List Int) (r1:Bool) (r2:List Int) (r3:List Int) (w:World) (hs1:Kd.V (Kd.int .i64) 3 w w.heap.size (fun k_=>P1_ k_) (.slice A1 l1.length c1) l1) (hs2:Kd.V (Kd.int .i64) 3 w w.heap.size (fun k_=>P2_ k_) (.slice A2 l2.length c2) l2) (h:weftref1_numOf.f k a0 l1 l2=some (r1,r2,r3)) :
  Calls Tryz.prog 101 #[.bool a0,.slice A1 l1.length c1,.slice A2 l2.length c2] w fun e w'=>∃ v1_ v2_:Value,e = .returned (.agg #[.bool r1,v1_,v2_])∧Kd.V (Kd.int .i64) 3 w' w.heap.size (fun k_=>((P1_ k_∨P2_ k_)∨w.heap.size≤k_)) v1_ r2∧Kd.V (Kd.int .i64) 3 w' w.heap.size (fun k_=>((P1_ k_∨P2_ k_)∨w.heap.size≤k_)) v2_ r3∧Below w.heap.size w w':=by
 have hu67:=underlying67
 have HO1:=aZ (show Kd.V (Kd.int .i64) 3 w w.heap.size (fun k_=>((P1_ k_∨P2_ k_)∨w.heap.size≤k_)) (.slice A1 l1.length c1) l1 from Kd.V_mono hs1 (fun k_ hk=>.inl (.inl hk)))
 have HO2:=aZ (show Kd.V (Kd.int .i64) 3 w w.heap.size (fun k_=>((P1_ k_∨P2_ k_)∨w.heap.size≤k_)) (.slice A2 l2.length c2) l2 from Kd.V_mono hs2 (fun k_ hk=>.inl (.inr hk)))
 have HB:=aZ (Below.refl w.heap.size w)
 have H:=h
 unfold weftref1_numOf.f at H
 clear h
 obtain ⟨t632,A4,H⟩:=zB H
 have HC5:=aZ H
 clear H
 go_enter func101,ntmps101
 go_upto_region 2 with (first|((with_reducible refine gate_dst (N:=6) rfl ?_);(try (refine gate_guard (by rfl) ?_;dsimp only));refine box_ev 6 #[.bool false,.slice none 0 0,.slice none 0 0] 67 ?_;intro gb631 hg w6 hbox hb;replace HO1:=yE HO1 hg hb;replace HO2:=yE HO2 hg hb;have BK631:=aZ hbox;have GE631:=sG hg;replace HB:=sB hb;clear hb hbox hg)|(refine zg (some 10) func104 #[.slice A1 l1.length c1,.slice A2 l2.length c2] ?_;(with_reducible refine (weftref1_natGCD.calls k (fun k_=>(((P1_ k_∨P2_ k_)∨w.heap.size≤k_)∧k_≠gb631)) _ _ l1 (fun k_=>(((P1_ k_∨P2_ k_)∨w.heap.size≤k_)∧k_≠gb631)) _ _ l2 t632 _ ?side1 ?side2 A4.out).mono ?_);(case side1=>exact HO1.out);(case side2=>exact HO2.out);rintro e w7 ⟨v633,rfl,ho0,hb⟩;refine ⟨_,rfl,?_⟩;replace HO1:=yV HO1 hb;replace HO2:=yV HO2 hb;have HO634:=yL (fun k_=>((P1_ k_∨P2_ k_)∨w.heap.size≤k_)∧k_≠gb631) ho0 (fun k_ hk_=>⟨Or.elim hk_ (fun hs_=>Or.elim hs_ (fun hs_=>hs_.1) (fun hs_=>hs_.1)) (fun hn_=>(.inr (Nat.le_trans bs hn_))),Or.elim hk_ (fun hs_=>Or.elim hs_ (fun hs_=>hs_.2) (fun hs_=>hs_.2)) (fun hn_=>(zf BK631 hn_))⟩);replace BK631:=sK BK631 hb;replace HB:=sB hb;clear hb ho0))
 (try simp only [Act.put,List.setIfInBounds_toArray,List.set_cons_zero,List.set_cons_succ])
 go_cut [19] (fun v19 wc=>∃ (kq:Nat) (x19_4:Bool),v19 = .bool x19_4∧Aside0 (weftref1_numOf.j0 kq a0 l1 l2 t632 x19_4=some (r1,r2,r3))∧Aside0 (kq≤k)∧Aside0 (Kd.V (Kd.int .i64) 3 wc w.heap.size (fun k_=>((P1_ k_∨P2_ k_)∨w.heap.size≤k_)∧k_≠gb631) (.slice A1 l1.length c1) l1)∧Aside0 (Kd.V (Kd.int .i64) 3 wc w.heap.size (fun k_=>((P1_ k_∨P2_ k_)∨w.heap.size≤k_)∧k_≠gb631) (.slice A2 l2.length c2) l2)∧Aside0 (Kd.V (Kd.int .i64) 3 wc w.heap.size (fun k_=>((P1_ k_∨P2_ k_)∨w.heap.size≤k_)∧k_≠gb631) v633 t632)∧Aside0 (wc.heap[gb631]? = some (.cells #[.bool false,(.slice none 0 0),(.slice none 0 0)] 67 (0,0)))∧Aside0 (Below w.heap.size w wc))
 case first =>
  have H:=HC5.out
  clear HC5
  by_cases c8:(t632.length:Int)=1
  case neg=>
   rw [if_neg c8] at H
   obtain ⟨c8b0,c8b1⟩:=zX c8
   (first|rw [c8b0]|(simp only [i64_w,i32_w];rw [c8b0])|skip)
   have H':=aZ H
   clear H
   obtain ⟨Ao11,co11,rfl⟩:=Kd.V_slice HO634.out
   go_wp2
   go_meet
   case rel=>exact ⟨_,(true),zs,H',⟨by first|omega|exact Nat.le_refl _⟩,⟨zV HO1⟩,⟨zV HO2⟩,⟨zV HO634⟩,⟨zb BK631⟩,⟨bw⟩⟩
  rw [if_pos c8] at H
  obtain ⟨c8b0,c8b1⟩:=zY c8
  clear c8
  (first|rw [c8b0]|(simp only [i64_w,i32_w];rw [c8b0])|skip)
  by_cases c9:0<(t632.length:Int)
  case neg=>
   rw [if_neg c9] at H
   cases H
  rw [if_pos c9] at H
  have c9b0:=decide_eq_true c9
  have c9b1:decide (0<t632.length)=true:=decide_eq_true (by omega)
  clear c9
  have H':=aZ H
  clear H
  obtain ⟨Ao10,co10,rfl⟩:=Kd.V_slice HO634.out
  have p635:0≤(0:Int):=(by omega)
  have q635:0<(t632.length:Int):=zd
  obtain ⟨ad635,e635,hx635_0⟩:=Kd.at_int (Kd.V_reads' HO634.out).2.2 0 p635 q635
  cases e635
  have qi635:(0<t632.length)=True:=eq_true (by omega)
  (try rw [show ((0:Int)).toNat=0 from rfl] at hx635_0)
  (try rw [Addr.add_zero'] at hx635_0)
  replace p635:=eq_true p635
  replace q635:=eq_true q635
  go_wp2
  go_meet
  case rel=>exact ⟨_,(((rd t632 0) != 1)),zs,H',⟨by first|omega|exact Nat.le_refl _⟩,⟨zV HO1⟩,⟨zV HO2⟩,⟨zV HO634⟩,⟨zb BK631⟩,⟨bw⟩⟩
 case rest =>
  clear HC5
  try clear c1
  try clear c2
  try clear q6
  try clear hx6
  try clear qi6
  try clear c8
  try clear c8b0
  try clear c8b1
  try clear c9
  try clear c9b0
  try clear c9b1
  try clear c10
  try clear hx635_0
  try clear q635
  obtain ⟨kq,x19_4,rfl,HA,HJ4,HO_1,HO_2,HO_7,BK631,HB⟩:=hcut
  cases kq with
  | zero=>exact absurd HA.out (by simp [weftref1_numOf.j0])
  | succ kj4 =>
   have H:=HA.out
   clear HA
   simp only [weftref1_numOf.j0] at H
   by_cases c12:x19_4=true
   case neg=>
    replace c12:=Bool.eq_false_iff.mpr c12
    subst c12
    have H1:(if a0=true then (some (decide (0<l1.length),l1,l2)) else (some (false,l1,l2)))=some (r1,r2,r3):=by rw [if_neg (show ¬ (false=true) by decide)] at H;exact H
    clear H
    have H:=H1
    clear H1
    by_cases c28:a0=true
    case neg=>
     replace c28:=Bool.eq_false_iff.mpr c28
     subst c28
     have H1:(some (false,l1,l2))=some (r1,r2,r3):=by rw [if_neg (show ¬ (false=true) by decide)] at H;exact H
     clear H
     have H:=H1
     clear H1
     simp only [Option.some.injEq,Prod.mk.injEq] at H
     obtain ⟨rfl,rfl,rfl⟩:=H
     have hcz30_0:wc.cell? ⟨gb631,0,none⟩=some (.bool false):=(blk_cell BK631.out 0).trans rfl
     have hcz30_1:wc.cell? ⟨gb631,1,none⟩=some (.slice none 0 0):=(blk_cell BK631.out 1).trans rfl
     have hcz30_2:wc.cell? ⟨gb631,2,none⟩=some (.slice none 0 0):=(blk_cell BK631.out 2).trans rfl
     have hfz30_0:=blk_frozen BK631.out 0
     have hfz30_1:=blk_frozen BK631.out 1
     have hfz30_2:=blk_frozen BK631.out 2
     go_wp2
     refine bodyPost_ret (results_cell_row rfl _ _ gb631 67 #[.bool false,.slice A1 l1.length c1,.slice A2 l2.length c2] (0,0) _ rfl (zp BK631) underlying67 rfl (by kernel_rfl)) rfl ?_
     exact ⟨_,_,ze,zF HO_1,zF HO_2,bw⟩
    subst c28
    have H1:(some (decide (0<l1.length),l1,l2))=some (r1,r2,r3):=by rw [if_pos rfl] at H;exact H
    clear H
    have H:=H1
    clear H1
    simp only [Option.some.injEq,Prod.mk.injEq] at H
    obtain ⟨rfl,rfl,rfl⟩:=H
    have hcz29_0:wc.cell? ⟨gb631,0,none⟩=some (.bool false):=(blk_cell BK631.out 0).trans rfl
    have hcz29_1:wc.cell? ⟨gb631,1,none⟩=some (.slice none 0 0):=(blk_cell BK631.out 1).trans rfl
    have hcz29_2:wc.cell? ⟨gb631,2,none⟩=some (.slice none 0 0):=(blk_cell BK631.out 2).trans rfl
    have hfz29_0:=blk_frozen BK631.out 0
    have hfz29_1:=blk_frozen BK631.out 1
    have hfz29_2:=blk_frozen BK631.out 2
    go_wp2
    refine bodyPost_ret (results_cell_row rfl _ _ gb631 67 #[.bool (decide (0<l1.length)),.slice A1 l1.length c1,.slice A2 l2.length c2] (0,0) _ rfl (zp BK631) underlying67 rfl (by kernel_rfl)) rfl ?_
    exact ⟨_,_,ze,zF HO_1,zF HO_2,bw⟩
   subst c12
   have H1:((weftref1_natDiv.f kj4 l1 t632).bind fun bt636=>((weftref1_natDiv.f kj4 l2 t632).bind fun bt642=>(if a0=true then (some (decide (0<bt636.1.length),bt636.1,bt642.1)) else (some (false,bt636.1,bt642.1)))))=some (r1,r2,r3):=by rw [if_pos rfl] at H;exact H
   clear H
   have H:=H1
   clear H1
   obtain ⟨⟨t636,t639⟩,A13,H⟩:=zB H
   (try dsimp only at H)
   obtain ⟨⟨t642,t645⟩,A14,H⟩:=zB H
   (try dsimp only at H)
   by_cases c15:a0=true
   case neg=>
    replace c15:=Bool.eq_false_iff.mpr c15
    subst c15
    have H1:(some (false,t636,t642))=some (r1,r2,r3):=by rw [if_neg (show ¬ (false=true) by decide)] at H;exact H
    clear H
    have H:=H1
    clear H1
    simp only [Option.some.injEq,Prod.mk.injEq] at H
    obtain ⟨rfl,rfl,rfl⟩:=H
    obtain ⟨Ao22,co22,rfl⟩:=Kd.V_slice HO_7.out
    go_wp2_with (first|(refine zg (some 23) func134 #[.slice A1 l1.length c1,.slice Ao22 t632.length co22] ?_;(with_reducible refine (weftref1_natDiv.calls kj4 (fun k_=>(((P1_ k_∨P2_ k_)∨w.heap.size≤k_)∧k_≠gb631)) _ _ l1 _ _ t632 t636 t639 _ ?side1 ?side2 ?side3 A13.out).mono ?_);(case side1=>exact HO_1.out);(case side2=>exact zr HO_7);(case side3=>exact zk HO_7);rintro e w23 ⟨v637,v640,rfl,ho0,ho1,hb⟩;refine ⟨_,rfl,?_⟩;replace HO_1:=yV HO_1 hb;replace HO_2:=yV HO_2 hb;replace HO_7:=yV HO_7 hb;have HO638:=yL (fun k_=>((P1_ k_∨P2_ k_)∨w.heap.size≤k_)∧k_≠gb631) ho0 (fun k_ hk_=>⟨Or.elim hk_ (fun hs_=>hs_.1) (fun hn_=>(.inr (Nat.le_trans bs hn_))),Or.elim hk_ (fun hs_=>hs_.2) (fun hn_=>(zf BK631 hn_))⟩);have HO641:=yL (fun k_=>((P1_ k_∨P2_ k_)∨w.heap.size≤k_)∧k_≠gb631) ho1 (fun k_ hk_=>⟨Or.elim hk_ (fun hs_=>hs_.1) (fun hn_=>(.inr (Nat.le_trans bs hn_))),Or.elim hk_ (fun hs_=>hs_.2) (fun hn_=>(zf BK631 hn_))⟩);replace BK631:=sK BK631 hb;replace HB:=sB hb;clear hb ho0 ho1)|(refine zg (some 29) func134 #[.slice A2 l2.length c2,.slice Ao22 t632.length co22] ?_;(with_reducible refine (weftref1_natDiv.calls kj4 (fun k_=>(((P1_ k_∨P2_ k_)∨w.heap.size≤k_)∧k_≠gb631)) _ _ l2 _ _ t632 t642 t645 _ ?side1 ?side2 ?side3 A14.out).mono ?_);(case side1=>exact HO_2.out);(case side2=>exact zr HO_7);(case side3=>exact zk HO_7);rintro e w24 ⟨v643,v646,rfl,ho0,ho1,hb⟩;refine ⟨_,rfl,?_⟩;replace HO_1:=yV HO_1 hb;replace HO_2:=yV HO_2 hb;replace HO_7:=yV HO_7 hb;replace HO638:=yV HO638 hb;replace HO641:=yV HO641 hb;have HO644:=yL (fun k_=>((P1_ k_∨P2_ k_)∨w.heap.size≤k_)∧k_≠gb631) ho0 (fun k_ hk_=>⟨Or.elim hk_ (fun hs_=>hs_.1) (fun hn_=>(.inr (Nat.le_trans bs hn_))),Or.elim hk_ (fun hs_=>hs_.2) (fun hn_=>(zf BK631 hn_))⟩);have HO647:=yL (fun k_=>((P1_ k_∨P2_ k_)∨w.heap.size≤k_)∧k_≠gb631) ho1 (fun k_ hk_=>⟨Or.elim hk_ (fun hs_=>hs_.1) (fun hn_=>(.inr (Nat.le_trans bs hn_))),Or.elim hk_ (fun hs_=>hs_.2) (fun hn_=>(zf BK631 hn_))⟩);replace BK631:=sK BK631 hb;replace HB:=sB hb;clear hb ho0 ho1;obtain ⟨Ao25,co25,rfl⟩:=Kd.V_slice HO644.out;obtain ⟨Ao26,co26,rfl⟩:=Kd.V_slice HO638.out;obtain ⟨hcz27_0,hfz27_0⟩:=zc BK631 0 (.bool false) rfl;obtain ⟨hcz27_1,hfz27_1⟩:=zc BK631 1 (.slice none 0 0) rfl;obtain ⟨hcz27_2,hfz27_2⟩:=zc BK631 2 (.slice none 0 0) rfl))
    refine bodyPost_ret (results_cell_row rfl _ _ gb631 67 #[.bool false,.slice Ao26 t636.length co26,.slice Ao25 t642.length co25] (0,0) _ rfl (zp BK631) underlying67 rfl (by kernel_rfl)) rfl ?_
    exact ⟨_,_,ze,zF HO638,zF HO644,bw⟩
   subst c15
   have H1:(some (decide (0<t636.length),t636,t642))=some (r1,r2,r3):=by rw [if_pos rfl] at H;exact H
   clear H
   have H:=H1
   clear H1
   simp only [Option.some.injEq,Prod.mk.injEq] at H
   obtain ⟨rfl,rfl,rfl⟩:=H
   obtain ⟨Ao16,co16,rfl⟩:=Kd.V_slice HO_7.out
   go_wp2_with (first|(refine zg (some 23) func134 #[.slice A1 l1.length c1,.slice Ao16 t632.length co16] ?_;(with_reducible refine (weftref1_natDiv.calls kj4 (fun k_=>(((P1_ k_∨P2_ k_)∨w.heap.size≤k_)∧k_≠gb631)) _ _ l1 _ _ t632 t636 t639 _ ?side1 ?side2 ?side3 A13.out).mono ?_);(case side1=>exact HO_1.out);(case side2=>exact zr HO_7);(case side3=>exact zk HO_7);rintro e w17 ⟨v637,v640,rfl,ho0,ho1,hb⟩;refine ⟨_,rfl,?_⟩;replace HO_1:=yV HO_1 hb;replace HO_2:=yV HO_2 hb;replace HO_7:=yV HO_7 hb;have HO638:=yL (fun k_=>((P1_ k_∨P2_ k_)∨w.heap.size≤k_)∧k_≠gb631) ho0 (fun k_ hk_=>⟨Or.elim hk_ (fun hs_=>hs_.1) (fun hn_=>(.inr (Nat.le_trans bs hn_))),Or.elim hk_ (fun hs_=>hs_.2) (fun hn_=>(zf BK631 hn_))⟩);have HO641:=yL (fun k_=>((P1_ k_∨P2_ k_)∨w.heap.size≤k_)∧k_≠gb631) ho1 (fun k_ hk_=>⟨Or.elim hk_ (fun hs_=>hs_.1) (fun hn_=>(.inr (Nat.le_trans bs hn_))),Or.elim hk_ (fun hs_=>hs_.2) (fun hn_=>(zf BK631 hn_))⟩);replace BK631:=sK BK631 hb;replace HB:=sB hb;clear hb ho0 ho1)|(refine zg (some 29) func134 #[.slice A2 l2.length c2,.slice Ao16 t632.length co16] ?_;(with_reducible refine (weftref1_natDiv.calls kj4 (fun k_=>(((P1_ k_∨P2_ k_)∨w.heap.size≤k_)∧k_≠gb631)) _ _ l2 _ _ t632 t642 t645 _ ?side1 ?side2 ?side3 A14.out).mono ?_);(case side1=>exact HO_2.out);(case side2=>exact zr HO_7);(case side3=>exact zk HO_7);rintro e w18 ⟨v643,v646,rfl,ho0,ho1,hb⟩;refine ⟨_,rfl,?_⟩;replace HO_1:=yV HO_1 hb;replace HO_2:=yV HO_2 hb;replace HO_7:=yV HO_7 hb;replace HO638:=yV HO638 hb;replace HO641:=yV HO641 hb;have HO644:=yL (fun k_=>((P1_ k_∨P2_ k_)∨w.heap.size≤k_)∧k_≠gb631) ho0 (fun k_ hk_=>⟨Or.elim hk_ (fun hs_=>hs_.1) (fun hn_=>(.inr (Nat.le_trans bs hn_))),Or.elim hk_ (fun hs_=>hs_.2) (fun hn_=>(zf BK631 hn_))⟩);have HO647:=yL (fun k_=>((P1_ k_∨P2_ k_)∨w.heap.size≤k_)∧k_≠gb631) ho1 (fun k_ hk_=>⟨Or.elim hk_ (fun hs_=>hs_.1) (fun hn_=>(.inr (Nat.le_trans bs hn_))),Or.elim hk_ (fun hs_=>hs_.2) (fun hn_=>(zf BK631 hn_))⟩);replace BK631:=sK BK631 hb;replace HB:=sB hb;clear hb ho0 ho1;obtain ⟨Ao19,co19,rfl⟩:=Kd.V_slice HO638.out;obtain ⟨Ao20,co20,rfl⟩:=Kd.V_slice HO644.out;obtain ⟨hcz21_0,hfz21_0⟩:=zc BK631 0 (.bool false) rfl;obtain ⟨hcz21_1,hfz21_1⟩:=zc BK631 1 (.slice none 0 0) rfl;obtain ⟨hcz21_2,hfz21_2⟩:=zc BK631 2 (.slice none 0 0) rfl))
   refine bodyPost_ret (results_cell_row rfl _ _ gb631 67 #[.bool (decide (0<t636.length)),.slice Ao19 t636.length co19,.slice Ao20 t642.length co20] (0,0) _ rfl (zp BK631) underlying67 rfl (by kernel_rfl)) rfl ?_
   exact ⟨_,_,ze,zF HO638,zF HO644,bw⟩
def weftref1_Num_Add.f (k:Nat) (a0_0:Bool) (l0_1:List Int) (l0_2:List Int) (a1_0:Bool) (l1_1:List Int) (l1_2:List Int):Option (Bool×List Int×List Int):=(weftref1_natMul.f k l0_1 l1_2).bind fun t651=>((weftref1_natMul.f k l1_1 l0_2).bind fun t654=>((weftref1_natMul.f k l0_2 l1_2).bind fun t657=>(if (a0_0==a1_0)=true then ((weftref1_natAdd.f k t651 t654 1).bind fun t660=>((weftref1_numOf.f k a0_0 t660 t657).bind fun bt663=>(some (bt663.1,bt663.2.1,bt663.2.2)))) else ((weftref1_natCmp.f k t651 t654).bind fun t670=>(if t670≥0 then ((weftref1_natAdd.f k t651 t654 (-1)).bind fun t671=>((weftref1_numOf.f k a0_0 t671 t657).bind fun bt674=>(some (bt674.1,bt674.2.1,bt674.2.2)))) else ((weftref1_natAdd.f k t654 t651 (-1)).bind fun t681=>((weftref1_numOf.f k a1_0 t681 t657).bind fun bt684=>(some (bt684.1,bt684.2.1,bt684.2.2)))))))))
def weftref1_Num_Add.T1:Bool×List (List Nat×List Nat):=(true,[([],[]),([0],[0]),([],[]),([2],[2]),([1,3],[1,3]),([],[]),([5],[5]),([],[]),([7],[7]),([6,8,4],[6,8]),([4,9,0,1,2,3,4],[4]),([9,10,0,1,2,3,4,5,6,7,8,9,10],[9])])
def weftref1_Num_Add.B1:List Nat:=[0,1,0,4,15,0,32,0,128,511,1023,2047]
theorem weftref1_Num_Add.tab1:rtab .any (opsOf Tryz.f68 1)=weftref1_Num_Add.T1:=by kernel_rfl
theorem weftref1_Num_Add.bits1:waitsOk weftref1_Num_Add.T1.2 weftref1_Num_Add.B1=true:=by kernel_rfl
def weftref1_Num_Add.T4:Bool×List (List Nat×List Nat):=(true,[([],[]),([0],[0]),([],[]),([],[]),([2,3],[2,3]),([],[]),([1,4,5,4],[1,4,5]),([6,6,0,1,2,3,4,5,6],[6])])
def weftref1_Num_Add.B4:List Nat:=[0,1,0,0,12,0,63,127]
theorem weftref1_Num_Add.tab4:rtab .any (opsOf Tryz.f68 4)=weftref1_Num_Add.T4:=by kernel_rfl
theorem weftref1_Num_Add.bits4:waitsOk weftref1_Num_Add.T4.2 weftref1_Num_Add.B4=true:=by kernel_rfl
def weftref1_Num_Add.T6:Bool×List (List Nat×List Nat):=(true,[([],[]),([0],[0]),([],[]),([],[]),([2,3],[2,3]),([],[]),([1,4,5,4],[1,4,5]),([6,6,0,1,2,3,4,5,6],[6])])
def weftref1_Num_Add.B6:List Nat:=[0,1,0,0,12,0,63,127]
theorem weftref1_Num_Add.tab6:rtab .any (opsOf Tryz.f68 6)=weftref1_Num_Add.T6:=by kernel_rfl
theorem weftref1_Num_Add.bits6:waitsOk weftref1_Num_Add.T6.2 weftref1_Num_Add.B6=true:=by kernel_rfl
def weftref1_Num_Add.T7:Bool×List (List Nat×List Nat):=(true,[([],[]),([0],[0]),([],[]),([],[]),([2,3],[2,3]),([],[]),([1,4,5,4],[1,4,5]),([6,6,0,1,2,3,4,5,6],[6])])
def weftref1_Num_Add.B7:List Nat:=[0,1,0,0,12,0,63,127]
theorem weftref1_Num_Add.tab7:rtab .any (opsOf Tryz.f68 7)=weftref1_Num_Add.T7:=by kernel_rfl
theorem weftref1_Num_Add.bits7:waitsOk weftref1_Num_Add.T7.2 weftref1_Num_Add.B7=true:=by kernel_rfl
theorem weftref1_Num_Add.calls (k:Nat) (a0_0:Bool) (A0_1:Option Addr) (c0_1:Nat) (l0_1:List Int) (A0_2:Option Addr) (c0_2:Nat) (l0_2:List Int) (a1_0:Bool) (A1_1:Option Addr) (c1_1:Nat) (l1_1:List Int) (A1_2:Option Addr) (c1_2:Nat) (l1_2:List Int) (r1:Bool) (r2:List Int) (r3:List Int) (w:World) (hr0_1:Kd.C (Kd.int .i64) w A0_1 l0_1.length l0_1) (hc0_1:l0_1.length≤c0_1) (hr0_2:Kd.C (Kd.int .i64) w A0_2 l0_2.length l0_2) (hc0_2:l0_2.length≤c0_2) (hr1_1:Kd.C (Kd.int .i64) w A1_1 l1_1.length l1_1) (hc1_1:l1_1.length≤c1_1) (hr1_2:Kd.C (Kd.int .i64) w A1_2 l1_2.length l1_2) (hc1_2:l1_2.length≤c1_2) (h:weftref1_Num_Add.f k a0_0 l0_1 l0_2 a1_0 l1_1 l1_2=some (r1,r2,r3)) :
  Calls Tryz.prog 68 #[.agg #[.bool a0_0,.slice A0_1 l0_1.length c0_1,.slice A0_2 l0_2.length c0_2],.agg #[.bool a1_0,.slice A1_1 l1_1.length c1_1,.slice A1_2 l1_2.length c1_2]] w fun e w'=>∃ v1_ v2_:Value,e = .returned (.agg #[.bool r1,v1_,v2_])∧Kd.V (Kd.int .i64) 3 w' w.heap.size (fun k_=>(w.heap.size≤k_)) v1_ r2∧Kd.V (Kd.int .i64) 3 w' w.heap.size (fun k_=>(w.heap.size≤k_)) v2_ r3∧Below w.heap.size w w':=by
 have hu67:=underlying67
 have HR0_1:=aZ hr0_1
 have HC0_1:=aZ hc0_1
 clear hr0_1 hc0_1
 have HR0_2:=aZ hr0_2
 have HC0_2:=aZ hc0_2
 clear hr0_2 hc0_2
 have HR1_1:=aZ hr1_1
 have HC1_1:=aZ hc1_1
 clear hr1_1 hc1_1
 have HR1_2:=aZ hr1_2
 have HC1_2:=aZ hc1_2
 clear hr1_2 hc1_2
 have HB:=aZ (Below.refl w.heap.size w)
 have H:=h
 unfold weftref1_Num_Add.f at H
 clear h
 obtain ⟨t651,A3,H⟩:=zB H
 obtain ⟨t654,A4,H⟩:=zB H
 obtain ⟨t657,A5,H⟩:=zB H
 by_cases c6:(a0_0==a1_0)=true
 case neg=>
  rw [if_neg c6] at H
  have c6b0:(a0_0==a1_0)=false:=by simpa using c6
  (try (have c6b1:decide (a0_0=a1_0)=false:=by simpa using c6))
  (try (have c6b2:(a0_0==a1_0)=false:=by simpa using c6))
  (try (have c6b3:¬ (a0_0=a1_0):=by simpa using c6))
  clear c6
  obtain ⟨t670,A35,H⟩:=zB H
  by_cases c36:t670≥0
  case neg=>
   rw [if_neg c36] at H
   have c36b0:=decide_eq_false c36
   clear c36
   obtain ⟨t681,A65,H⟩:=zB H
   obtain ⟨⟨t684,t685,t688⟩,A66,H⟩:=zB H
   (try dsimp only at H)
   simp only [Option.some.injEq,Prod.mk.injEq] at H
   obtain ⟨rfl,rfl,rfl⟩:=H
   go_enter func68,ntmps68
   try go_wp2_with (first|(refine box_ev 2 #[.bool a0_0,.slice A0_1 l0_1.length c0_1,.slice A0_2 l0_2.length c0_2] 67 ?_;intro gb648 hg w67 hbox hb;have BK648:=aZ hbox;have GE648:=sG hg;replace HB:=sB hb;clear hb hbox hg)|(refine box_ev 3 #[.bool a1_0,.slice A1_1 l1_1.length c1_1,.slice A1_2 l1_2.length c1_2] 67 ?_;intro gb649 hg w68 hbox hb;have BK649:=aZ hbox;have GE649:=sG hg;replace HB:=sB hb;have NB648_649:=sl hg BK648;have NB649_648:=sg hg BK648;replace BK648:=sK BK648 hb;clear hb hbox hg)|(refine box_ev 4 #[.bool false,.slice none 0 0,.slice none 0 0] 67 ?_;intro gb650 hg w69 hbox hb;have BK650:=aZ hbox;have GE650:=sG hg;replace HB:=sB hb;have NB648_650:=sl hg BK648;have NB650_648:=sg hg BK648;replace BK648:=sK BK648 hb;have NB649_650:=sl hg BK649;have NB650_649:=sg hg BK649;replace BK649:=sK BK649 hb;clear hb hbox hg))
   replace BK648:=aZ (blk_drew BK648.out)
   replace BK649:=aZ (blk_drew BK649.out)
   replace BK650:=aZ (blk_drew BK650.out)
   replace HB:=aZ (below_drew1 HB.out)
   refine start_ (n:=12) (S:=fun w'=>w'.cell? ⟨gb648,0,none⟩=some (.bool a0_0)∧w'.cell? ⟨gb648,1,none⟩=some (.slice A0_1 l0_1.length c0_1)∧w'.cell? ⟨gb648,2,none⟩=some (.slice A0_2 l0_2.length c0_2)∧w'.cell? ⟨gb649,0,none⟩=some (.bool a1_0)∧w'.cell? ⟨gb649,1,none⟩=some (.slice A1_1 l1_1.length c1_1)∧w'.cell? ⟨gb649,2,none⟩=some (.slice A1_2 l1_2.length c1_2)) (ds:=[]) #[false,false,false,false,false,false,false,false,false,false,false,false] (by kernel_rfl) rfl rfl ⟨zh BK648 0,zh BK648 1,zh BK648 2,zh BK649 0,zh BK649 1,zh BK649 2⟩ (fun hHeld=>?_);refine with_tabW weftref1_Num_Add.tab1 weftref1_Num_Add.bits1 (fun HT_ HW_=>?_)
   generalize w69.drew=w70 at BK648 BK649 BK650 HB hHeld ⊢
   refine pu 0 (some 8) HT_ ?_
   refine pu 2 (some 10) HT_ ?_
   refine pu 5 (some 13) HT_ ?_
   refine pu 7 (some 15) HT_ ?_
   refine tk 1 (some 9) HT_ HW_ hHeld ?_
   refine tk 3 (some 11) HT_ HW_ hHeld ?_
   refine tk 6 (some 14) HT_ HW_ hHeld ?_
   refine tk 8 (some 16) HT_ HW_ hHeld ?_
   refine one_ (i:=4) (N:=some 12) #[true,true,true,true,true,true,true,true,true,false,false,false] rfl rfl (one_of HT_.out (by kernel_rfl)) (by decide) (fun K hK=>?_)
   refine goes_ func112 (by kernel_rfl) rfl #[.slice A0_1 l0_1.length c0_1,.slice A1_2 l1_2.length c1_2] (by rfl) rfl rfl zm ?_
   with_reducible refine (weftref1_natMul.calls k _ _ l0_1 _ _ l1_2 t651 _ ?side1 ?side2 ?side3 ?side4 A3.out).mono ?_
   (case side1=>exact zC (Kd.C_below HR0_1.out HB.out))
   (case side2=>exact HC0_1.out)
   (case side3=>exact zC (Kd.C_below HR1_2.out HB.out))
   (case side4=>exact HC1_2.out)
   rintro e w71 ⟨v652,rfl,ho0,hb⟩
   refine ⟨_,rfl,?_⟩
   have HO653:=yL (fun k_=>(w.heap.size≤k_)∧k_≠gb648∧k_≠gb649∧k_≠gb650) ho0 (fun k_ hk_=>⟨(Nat.le_trans bs hk_),(zf BK648 hk_),(zf BK649 hk_),(zf BK650 hk_)⟩)
   replace BK648:=sK BK648 hb
   replace BK649:=sK BK649 hb
   replace BK650:=sK BK650 hb
   replace HB:=sB hb
   clear hb ho0
   refine hK.out _ _ ⟨zh BK648 0,zh BK648 1,zh BK648 2,zh BK649 0,zh BK649 1,zh BK649 2⟩ (fun hHeld=>?_)
   clear hK K
   refine nm ?_
   refine one_ (i:=9) (N:=some 17) #[true,true,true,true,true,true,true,true,true,true,false,false] rfl rfl (one_of HT_.out (by kernel_rfl)) (by decide) (fun K hK=>?_)
   refine goes_ func112 (by kernel_rfl) rfl #[.slice A1_1 l1_1.length c1_1,.slice A0_2 l0_2.length c0_2] (by rfl) rfl rfl zm ?_
   with_reducible refine (weftref1_natMul.calls k _ _ l1_1 _ _ l0_2 t654 _ ?side1 ?side2 ?side3 ?side4 A4.out).mono ?_
   (case side1=>exact zC (Kd.C_below HR1_1.out HB.out))
   (case side2=>exact HC1_1.out)
   (case side3=>exact zC (Kd.C_below HR0_2.out HB.out))
   (case side4=>exact HC0_2.out)
   rintro e w72 ⟨v655,rfl,ho0,hb⟩
   refine ⟨_,rfl,?_⟩
   replace HO653:=yV HO653 hb
   have HO656:=yL (fun k_=>(w.heap.size≤k_)∧k_≠gb648∧k_≠gb649∧k_≠gb650) ho0 (fun k_ hk_=>⟨(Nat.le_trans bs hk_),(zf BK648 hk_),(zf BK649 hk_),(zf BK650 hk_)⟩)
   replace BK648:=sK BK648 hb
   replace BK649:=sK BK649 hb
   replace BK650:=sK BK650 hb
   replace HB:=sB hb
   clear hb ho0
   refine hK.out _ _ ⟨zh BK648 0,zh BK648 1,zh BK648 2,zh BK649 0,zh BK649 1,zh BK649 2⟩ (fun hHeld=>?_)
   clear hK K
   refine nm ?_
   refine pu 10 (some 5) HT_ ?_
   refine pu 11 (some 6) HT_ ?_
   refine done_ (done_of HT_.out (by kernel_rfl)) ?_
   have hnb73:=NB648_649.out
   have hnc73:=NB649_648.out
   have hnb74:=NB648_650.out
   have hnc74:=NB650_648.out
   have hcz75_0:w72.cell? ⟨gb648,0,none⟩=some (.bool a0_0):=(blk_cell BK648.out 0).trans rfl
   have hcz75_1:w72.cell? ⟨gb648,1,none⟩=some (.slice A0_1 l0_1.length c0_1):=(blk_cell BK648.out 1).trans rfl
   have hcz75_2:w72.cell? ⟨gb648,2,none⟩=some (.slice A0_2 l0_2.length c0_2):=(blk_cell BK648.out 2).trans rfl
   have hfz75_0:=blk_frozen BK648.out 0
   have hfz75_1:=blk_frozen BK648.out 1
   have hfz75_2:=blk_frozen BK648.out 2
   have hnb76:=NB649_650.out
   have hnc76:=NB650_649.out
   have hcz77_0:w72.cell? ⟨gb649,0,none⟩=some (.bool a1_0):=(blk_cell BK649.out 0).trans rfl
   have hcz77_1:w72.cell? ⟨gb649,1,none⟩=some (.slice A1_1 l1_1.length c1_1):=(blk_cell BK649.out 1).trans rfl
   have hcz77_2:w72.cell? ⟨gb649,2,none⟩=some (.slice A1_2 l1_2.length c1_2):=(blk_cell BK649.out 2).trans rfl
   have hfz77_0:=blk_frozen BK649.out 0
   have hfz77_1:=blk_frozen BK649.out 1
   have hfz77_2:=blk_frozen BK649.out 2
   try go_wp2_with (first|(refine zg (some 22) func112 #[.slice A0_2 l0_2.length c0_2,.slice A1_2 l1_2.length c1_2] ?_;(with_reducible refine (weftref1_natMul.calls k _ _ l0_2 _ _ l1_2 t657 _ ?side1 ?side2 ?side3 ?side4 A5.out).mono ?_);(case side1=>exact zC (Kd.C_below HR0_2.out HB.out));(case side2=>exact HC0_2.out);(case side3=>exact zC (Kd.C_below HR1_2.out HB.out));(case side4=>exact HC1_2.out);rintro e w78 ⟨v658,rfl,ho0,hb⟩;refine ⟨_,rfl,?_⟩;replace HO653:=yV HO653 hb;replace HO656:=yV HO656 hb;have HO659:=yL (fun k_=>(w.heap.size≤k_)∧k_≠gb648∧k_≠gb649∧k_≠gb650) ho0 (fun k_ hk_=>⟨(Nat.le_trans bs hk_),(zf BK648 hk_),(zf BK649 hk_),(zf BK650 hk_)⟩);replace BK648:=sK BK648 hb;replace BK649:=sK BK649 hb;replace BK650:=sK BK650 hb;replace HB:=sB hb;clear hb ho0;obtain ⟨hcz79_0,hfz79_0⟩:=zc BK648 0 (.bool a0_0) rfl;obtain ⟨hcz79_1,hfz79_1⟩:=zc BK648 1 (.slice A0_1 l0_1.length c0_1) rfl;obtain ⟨hcz79_2,hfz79_2⟩:=zc BK648 2 (.slice A0_2 l0_2.length c0_2) rfl;obtain ⟨hcz80_0,hfz80_0⟩:=zc BK649 0 (.bool a1_0) rfl;obtain ⟨hcz80_1,hfz80_1⟩:=zc BK649 1 (.slice A1_1 l1_1.length c1_1) rfl;obtain ⟨hcz80_2,hfz80_2⟩:=zc BK649 2 (.slice A1_2 l1_2.length c1_2) rfl;obtain ⟨Ao81,co81,rfl⟩:=Kd.V_slice HO653.out;obtain ⟨Ao82,co82,rfl⟩:=Kd.V_slice HO656.out)|(refine zg (some 39) func120 #[.slice Ao81 t651.length co81,.slice Ao82 t654.length co82] ?_;(with_reducible refine (weftref1_natCmp.calls k _ _ t651 _ _ t654 t670 _ ?side1 ?side2 ?side3 ?side4 A35.out).mono ?_);(case side1=>exact zr HO653);(case side2=>exact zk HO653);(case side3=>exact zr HO656);(case side4=>exact zk HO656);rintro e w' ⟨rfl,⟨nd,rfl⟩⟩;refine ⟨_,rfl,?_⟩;(try (rw [drewN_self w78];generalize hq_:World.drewN w78 _=w78;have n0_:Aside0 (Kd.V (Kd.int .i64) 3 w78 w.heap.size (fun k_=>(w.heap.size≤k_)∧k_≠gb648∧k_≠gb649∧k_≠gb650) (.slice Ao81 t651.length co81) t651):=⟨by rw [← hq_];exact (zV HO653)⟩;have n1_:Aside0 (Kd.V (Kd.int .i64) 3 w78 w.heap.size (fun k_=>(w.heap.size≤k_)∧k_≠gb648∧k_≠gb649∧k_≠gb650) (.slice Ao82 t654.length co82) t654):=⟨by rw [← hq_];exact (zV HO656)⟩;have n2_:Aside0 (Kd.V (Kd.int .i64) 3 w78 w.heap.size (fun k_=>(w.heap.size≤k_)∧k_≠gb648∧k_≠gb649∧k_≠gb650) v658 t657):=⟨by rw [← hq_];exact (zV HO659)⟩;have n3_:Aside0 (w78.heap[gb648]? = some (.cells #[.bool a0_0,.slice A0_1 l0_1.length c0_1,.slice A0_2 l0_2.length c0_2] 67 (0,0))):=⟨by rw [← hq_];exact (zb BK648)⟩;have n4_:Aside0 (w78.heap[gb649]? = some (.cells #[.bool a1_0,.slice A1_1 l1_1.length c1_1,.slice A1_2 l1_2.length c1_2] 67 (0,0))):=⟨by rw [← hq_];exact (zb BK649)⟩;have n5_:Aside0 (w78.heap[gb650]? = some (.cells #[.bool false,.slice none 0 0,.slice none 0 0] 67 (0,0))):=⟨by rw [← hq_];exact (zb BK650)⟩;have n6_:Aside0 (Below w.heap.size w w78):=⟨by rw [← hq_];exact bw⟩;clear HO653 HO656 HO659 BK648 BK649 BK650 HB hq_;have HO653:=n0_;have HO656:=n1_;have HO659:=n2_;have BK648:=n3_;have BK649:=n4_;have BK650:=n5_;have HB:=n6_;clear n0_ n1_ n2_ n3_ n4_ n5_ n6_))))
   replace HO653:=aZ (Kd.V_drew HO653.out)
   replace HO656:=aZ (Kd.V_drew HO656.out)
   replace HO659:=aZ (Kd.V_drew HO659.out)
   replace BK648:=aZ (blk_drew BK648.out)
   replace BK649:=aZ (blk_drew BK649.out)
   replace BK650:=aZ (blk_drew BK650.out)
   replace HB:=aZ (below_drew1 HB.out)
   refine start_ (n:=8) (S:=fun w'=>w'.cell? ⟨gb649,0,none⟩=some (.bool a1_0)∧w'.cell? ⟨gb649,1,none⟩=some (.slice A1_1 l1_1.length c1_1)∧w'.cell? ⟨gb649,2,none⟩=some (.slice A1_2 l1_2.length c1_2)) (ds:=[]) #[false,false,false,false,false,false,false,false] (by kernel_rfl) rfl rfl ⟨zh BK649 0,zh BK649 1,zh BK649 2⟩ (fun hHeld=>?_);refine with_tabW weftref1_Num_Add.tab7 weftref1_Num_Add.bits7 (fun HT_ HW_=>?_)
   generalize w78.drew=w83 at HO653 HO656 HO659 BK648 BK649 BK650 HB hHeld ⊢
   refine pu 0 (some 48) HT_ ?_
   refine pu 2 (some 50) HT_ ?_
   refine pu 3 (some 51) HT_ ?_
   refine pu 5 (some 53) HT_ ?_
   refine tk 1 (some 49) HT_ HW_ hHeld ?_
   refine one_ (i:=4) (N:=some 52) #[true,true,true,true,true,true,false,false] rfl rfl (one_of HT_.out (by kernel_rfl)) (by decide) (fun K hK=>?_)
   refine goes_ func119 (by kernel_rfl) rfl #[.slice Ao82 t654.length co82,.slice Ao81 t651.length co81,.int .i64 (-1)] (by rfl) rfl rfl zm ?_
   with_reducible refine (weftref1_natAdd.calls k _ _ t654 _ _ t651 (-1) t681 _ ?side1 ?side2 ?side3 ?side4 A65.out).mono ?_
   (case side1=>exact zr HO656)
   (case side2=>exact zk HO656)
   (case side3=>exact zr HO653)
   (case side4=>exact zk HO653)
   rintro e w84 ⟨v682,rfl,ho0,hb⟩
   refine ⟨_,rfl,?_⟩
   replace HO653:=yV HO653 hb
   replace HO656:=yV HO656 hb
   replace HO659:=yV HO659 hb
   have HO683:=yL (fun k_=>(w.heap.size≤k_)∧k_≠gb648∧k_≠gb649∧k_≠gb650) ho0 (fun k_ hk_=>⟨(Nat.le_trans bs hk_),(zf BK648 hk_),(zf BK649 hk_),(zf BK650 hk_)⟩)
   replace BK648:=sK BK648 hb
   replace BK649:=sK BK649 hb
   replace BK650:=sK BK650 hb
   replace HB:=sB hb
   clear hb ho0
   obtain ⟨Ao85,co85,eo85⟩:=Kd.V_slice HO683.out
   (first|subst eo85|(injection eo85 with f1_ f2_ f3_;have f4_:=f1_.symm;have f5_:=f3_.symm;clear f1_ f2_ f3_;subst f4_;subst f5_))
   obtain ⟨Ao86,co86,eo86⟩:=Kd.V_slice HO659.out
   (first|subst eo86|(injection eo86 with f1_ f2_ f3_;have f4_:=f1_.symm;have f5_:=f3_.symm;clear f1_ f2_ f3_;subst f4_;subst f5_))
   refine hK.out _ _ ⟨zh BK649 0,zh BK649 1,zh BK649 2⟩ (fun hHeld=>?_)
   clear hK K
   refine nm ?_
   refine one_ (i:=6) (N:=some 54) #[true,true,true,true,true,true,true,false] rfl rfl (one_of HT_.out (by kernel_rfl)) (by decide) (fun K hK=>?_)
   refine goes_ func101 (by kernel_rfl) rfl #[.bool a1_0,.slice Ao85 t681.length co85,.slice Ao86 t657.length co86] (by rfl) rfl rfl zm ?_
   with_reducible refine (weftref1_numOf.calls k a1_0 (fun k_=>((w.heap.size≤k_)∧(k_≠gb648∧(k_≠gb649∧k_≠gb650)))) _ _ t681 (fun k_=>((w.heap.size≤k_)∧(k_≠gb648∧(k_≠gb649∧k_≠gb650)))) _ _ t657 t684 t685 t688 _ ?side1 ?side2 A66.out).mono ?_
   (case side1=>exact HO683.out)
   (case side2=>exact HO659.out)
   rintro e w87 ⟨v686,v689,rfl,ho0,ho1,hb⟩
   refine ⟨_,rfl,?_⟩
   replace HO653:=yV HO653 hb
   replace HO656:=yV HO656 hb
   replace HO659:=yV HO659 hb
   replace HO683:=yV HO683 hb
   have HO687:=yL (fun k_=>(w.heap.size≤k_)∧k_≠gb648∧k_≠gb649∧k_≠gb650) ho0 (fun k_ hk_=>⟨Or.elim hk_ (fun hs_=>Or.elim hs_ (fun hs_=>hs_.1) (fun hs_=>hs_.1)) (fun hn_=>(Nat.le_trans bs hn_)),Or.elim hk_ (fun hs_=>Or.elim hs_ (fun hs_=>hs_.2.1) (fun hs_=>hs_.2.1)) (fun hn_=>(zf BK648 hn_)),Or.elim hk_ (fun hs_=>Or.elim hs_ (fun hs_=>hs_.2.2.1) (fun hs_=>hs_.2.2.1)) (fun hn_=>(zf BK649 hn_)),Or.elim hk_ (fun hs_=>Or.elim hs_ (fun hs_=>hs_.2.2.2) (fun hs_=>hs_.2.2.2)) (fun hn_=>(zf BK650 hn_))⟩)
   have HO690:=yL (fun k_=>(w.heap.size≤k_)∧k_≠gb648∧k_≠gb649∧k_≠gb650) ho1 (fun k_ hk_=>⟨Or.elim hk_ (fun hs_=>Or.elim hs_ (fun hs_=>hs_.1) (fun hs_=>hs_.1)) (fun hn_=>(Nat.le_trans bs hn_)),Or.elim hk_ (fun hs_=>Or.elim hs_ (fun hs_=>hs_.2.1) (fun hs_=>hs_.2.1)) (fun hn_=>(zf BK648 hn_)),Or.elim hk_ (fun hs_=>Or.elim hs_ (fun hs_=>hs_.2.2.1) (fun hs_=>hs_.2.2.1)) (fun hn_=>(zf BK649 hn_)),Or.elim hk_ (fun hs_=>Or.elim hs_ (fun hs_=>hs_.2.2.2) (fun hs_=>hs_.2.2.2)) (fun hn_=>(zf BK650 hn_))⟩)
   replace BK648:=sK BK648 hb
   replace BK649:=sK BK649 hb
   replace BK650:=sK BK650 hb
   replace HB:=sB hb
   clear hb ho0 ho1
   obtain ⟨Ao89,co89,eo89⟩:=Kd.V_slice HO687.out
   (first|subst eo89|(injection eo89 with f1_ f2_ f3_;have f4_:=f1_.symm;have f5_:=f3_.symm;clear f1_ f2_ f3_;subst f4_;subst f5_))
   obtain ⟨Ao91,co91,eo91⟩:=Kd.V_slice HO690.out
   (first|subst eo91|(injection eo91 with f1_ f2_ f3_;have f4_:=f1_.symm;have f5_:=f3_.symm;clear f1_ f2_ f3_;subst f4_;subst f5_))
   refine hK.out _ _ ⟨zh BK649 0,zh BK649 1,zh BK649 2⟩ (fun hHeld=>?_)
   clear hK K
   refine nm ?_
   refine one_ (i:=7) (N:=none) #[true,true,true,true,true,true,true,true] rfl rfl (one_of HT_.out (by kernel_rfl)) (by decide) (fun K hK=>?_)
   have hs88:w87.cell? ⟨gb650,0,none⟩=some (.bool false):=(blk_cell BK650.out 0).trans rfl
   have hfs88:=blk_frozen BK650.out 0
   have hns88_0:=NB648_650.out
   have hns88_1:=NB649_650.out
   have hms88_0:=NB650_648.out
   have hms88_1:=NB650_649.out
   have hs90:w87.cell? ⟨gb650,1,none⟩=some (.slice none 0 0):=(blk_cell BK650.out 1).trans rfl
   have hfs90:=blk_frozen BK650.out 1
   have hns90_0:=NB648_650.out
   have hns90_1:=NB649_650.out
   have hms90_0:=NB650_648.out
   have hms90_1:=NB650_649.out
   have hs92:w87.cell? ⟨gb650,2,none⟩=some (.slice none 0 0):=(blk_cell BK650.out 2).trans rfl
   have hfs92:=blk_frozen BK650.out 2
   have hns92_0:=NB648_650.out
   have hns92_1:=NB649_650.out
   have hms92_0:=NB650_648.out
   have hms92_1:=NB650_649.out
   refine skip_ (w1:=?_) (by rfl) rfl ?_ ?_
   rotate_left
   ·go_simp
    rfl
   refine hK.out _ _ ⟨((cell_far (p:=⟨gb650,_,none⟩) NB649_650.out _).trans (((cell_far (p:=⟨gb650,_,none⟩) NB649_650.out _).trans (((cell_far (p:=⟨gb650,_,none⟩) NB649_650.out _).trans (hHeld.1)))))),((cell_far (p:=⟨gb650,_,none⟩) NB649_650.out _).trans (((cell_far (p:=⟨gb650,_,none⟩) NB649_650.out _).trans (((cell_far (p:=⟨gb650,_,none⟩) NB649_650.out _).trans (hHeld.2.1)))))),((cell_far (p:=⟨gb650,_,none⟩) NB649_650.out _).trans (((cell_far (p:=⟨gb650,_,none⟩) NB649_650.out _).trans (((cell_far (p:=⟨gb650,_,none⟩) NB649_650.out _).trans (hHeld.2.2))))))⟩ (fun hHeld=>?_)
   clear hK K
   refine done_ (done_of HT_.out (by kernel_rfl)) ?_
   try go_wp2
   refine bodyPost_ret (results_cell_row rfl _ _ gb650 67 #[.bool t684,.slice Ao89 t685.length co89,.slice Ao91 t688.length co91] (0,0) _ rfl (zp BK650) underlying67 rfl (by kernel_rfl)) rfl ?_
   exact ⟨_,_,ze,zF HO687,zF HO690,bw⟩
  rw [if_pos c36] at H
  have c36b0:=decide_eq_true c36
  clear c36
  obtain ⟨t671,A37,H⟩:=zB H
  obtain ⟨⟨t674,t675,t678⟩,A38,H⟩:=zB H
  (try dsimp only at H)
  simp only [Option.some.injEq,Prod.mk.injEq] at H
  obtain ⟨rfl,rfl,rfl⟩:=H
  go_enter func68,ntmps68
  try go_wp2_with (first|(refine box_ev 2 #[.bool a0_0,.slice A0_1 l0_1.length c0_1,.slice A0_2 l0_2.length c0_2] 67 ?_;intro gb648 hg w39 hbox hb;have BK648:=aZ hbox;have GE648:=sG hg;replace HB:=sB hb;clear hb hbox hg)|(refine box_ev 3 #[.bool a1_0,.slice A1_1 l1_1.length c1_1,.slice A1_2 l1_2.length c1_2] 67 ?_;intro gb649 hg w40 hbox hb;have BK649:=aZ hbox;have GE649:=sG hg;replace HB:=sB hb;have NB648_649:=sl hg BK648;have NB649_648:=sg hg BK648;replace BK648:=sK BK648 hb;clear hb hbox hg)|(refine box_ev 4 #[.bool false,.slice none 0 0,.slice none 0 0] 67 ?_;intro gb650 hg w41 hbox hb;have BK650:=aZ hbox;have GE650:=sG hg;replace HB:=sB hb;have NB648_650:=sl hg BK648;have NB650_648:=sg hg BK648;replace BK648:=sK BK648 hb;have NB649_650:=sl hg BK649;have NB650_649:=sg hg BK649;replace BK649:=sK BK649 hb;clear hb hbox hg))
  replace BK648:=aZ (blk_drew BK648.out)
  replace BK649:=aZ (blk_drew BK649.out)
  replace BK650:=aZ (blk_drew BK650.out)
  replace HB:=aZ (below_drew1 HB.out)
  refine start_ (n:=12) (S:=fun w'=>w'.cell? ⟨gb648,0,none⟩=some (.bool a0_0)∧w'.cell? ⟨gb648,1,none⟩=some (.slice A0_1 l0_1.length c0_1)∧w'.cell? ⟨gb648,2,none⟩=some (.slice A0_2 l0_2.length c0_2)∧w'.cell? ⟨gb649,0,none⟩=some (.bool a1_0)∧w'.cell? ⟨gb649,1,none⟩=some (.slice A1_1 l1_1.length c1_1)∧w'.cell? ⟨gb649,2,none⟩=some (.slice A1_2 l1_2.length c1_2)) (ds:=[]) #[false,false,false,false,false,false,false,false,false,false,false,false] (by kernel_rfl) rfl rfl ⟨zh BK648 0,zh BK648 1,zh BK648 2,zh BK649 0,zh BK649 1,zh BK649 2⟩ (fun hHeld=>?_);refine with_tabW weftref1_Num_Add.tab1 weftref1_Num_Add.bits1 (fun HT_ HW_=>?_)
  generalize w41.drew=w42 at BK648 BK649 BK650 HB hHeld ⊢
  refine pu 0 (some 8) HT_ ?_
  refine pu 2 (some 10) HT_ ?_
  refine pu 5 (some 13) HT_ ?_
  refine pu 7 (some 15) HT_ ?_
  refine tk 1 (some 9) HT_ HW_ hHeld ?_
  refine tk 3 (some 11) HT_ HW_ hHeld ?_
  refine tk 6 (some 14) HT_ HW_ hHeld ?_
  refine tk 8 (some 16) HT_ HW_ hHeld ?_
  refine one_ (i:=4) (N:=some 12) #[true,true,true,true,true,true,true,true,true,false,false,false] rfl rfl (one_of HT_.out (by kernel_rfl)) (by decide) (fun K hK=>?_)
  refine goes_ func112 (by kernel_rfl) rfl #[.slice A0_1 l0_1.length c0_1,.slice A1_2 l1_2.length c1_2] (by rfl) rfl rfl zm ?_
  with_reducible refine (weftref1_natMul.calls k _ _ l0_1 _ _ l1_2 t651 _ ?side1 ?side2 ?side3 ?side4 A3.out).mono ?_
  (case side1=>exact zC (Kd.C_below HR0_1.out HB.out))
  (case side2=>exact HC0_1.out)
  (case side3=>exact zC (Kd.C_below HR1_2.out HB.out))
  (case side4=>exact HC1_2.out)
  rintro e w43 ⟨v652,rfl,ho0,hb⟩
  refine ⟨_,rfl,?_⟩
  have HO653:=yL (fun k_=>(w.heap.size≤k_)∧k_≠gb648∧k_≠gb649∧k_≠gb650) ho0 (fun k_ hk_=>⟨(Nat.le_trans bs hk_),(zf BK648 hk_),(zf BK649 hk_),(zf BK650 hk_)⟩)
  replace BK648:=sK BK648 hb
  replace BK649:=sK BK649 hb
  replace BK650:=sK BK650 hb
  replace HB:=sB hb
  clear hb ho0
  refine hK.out _ _ ⟨zh BK648 0,zh BK648 1,zh BK648 2,zh BK649 0,zh BK649 1,zh BK649 2⟩ (fun hHeld=>?_)
  clear hK K
  refine nm ?_
  refine one_ (i:=9) (N:=some 17) #[true,true,true,true,true,true,true,true,true,true,false,false] rfl rfl (one_of HT_.out (by kernel_rfl)) (by decide) (fun K hK=>?_)
  refine goes_ func112 (by kernel_rfl) rfl #[.slice A1_1 l1_1.length c1_1,.slice A0_2 l0_2.length c0_2] (by rfl) rfl rfl zm ?_
  with_reducible refine (weftref1_natMul.calls k _ _ l1_1 _ _ l0_2 t654 _ ?side1 ?side2 ?side3 ?side4 A4.out).mono ?_
  (case side1=>exact zC (Kd.C_below HR1_1.out HB.out))
  (case side2=>exact HC1_1.out)
  (case side3=>exact zC (Kd.C_below HR0_2.out HB.out))
  (case side4=>exact HC0_2.out)
  rintro e w44 ⟨v655,rfl,ho0,hb⟩
  refine ⟨_,rfl,?_⟩
  replace HO653:=yV HO653 hb
  have HO656:=yL (fun k_=>(w.heap.size≤k_)∧k_≠gb648∧k_≠gb649∧k_≠gb650) ho0 (fun k_ hk_=>⟨(Nat.le_trans bs hk_),(zf BK648 hk_),(zf BK649 hk_),(zf BK650 hk_)⟩)
  replace BK648:=sK BK648 hb
  replace BK649:=sK BK649 hb
  replace BK650:=sK BK650 hb
  replace HB:=sB hb
  clear hb ho0
  refine hK.out _ _ ⟨zh BK648 0,zh BK648 1,zh BK648 2,zh BK649 0,zh BK649 1,zh BK649 2⟩ (fun hHeld=>?_)
  clear hK K
  refine nm ?_
  refine pu 10 (some 5) HT_ ?_
  refine pu 11 (some 6) HT_ ?_
  refine done_ (done_of HT_.out (by kernel_rfl)) ?_
  have hnb45:=NB648_649.out
  have hnc45:=NB649_648.out
  have hnb46:=NB648_650.out
  have hnc46:=NB650_648.out
  have hcz47_0:w44.cell? ⟨gb648,0,none⟩=some (.bool a0_0):=(blk_cell BK648.out 0).trans rfl
  have hcz47_1:w44.cell? ⟨gb648,1,none⟩=some (.slice A0_1 l0_1.length c0_1):=(blk_cell BK648.out 1).trans rfl
  have hcz47_2:w44.cell? ⟨gb648,2,none⟩=some (.slice A0_2 l0_2.length c0_2):=(blk_cell BK648.out 2).trans rfl
  have hfz47_0:=blk_frozen BK648.out 0
  have hfz47_1:=blk_frozen BK648.out 1
  have hfz47_2:=blk_frozen BK648.out 2
  have hnb48:=NB649_650.out
  have hnc48:=NB650_649.out
  have hcz49_0:w44.cell? ⟨gb649,0,none⟩=some (.bool a1_0):=(blk_cell BK649.out 0).trans rfl
  have hcz49_1:w44.cell? ⟨gb649,1,none⟩=some (.slice A1_1 l1_1.length c1_1):=(blk_cell BK649.out 1).trans rfl
  have hcz49_2:w44.cell? ⟨gb649,2,none⟩=some (.slice A1_2 l1_2.length c1_2):=(blk_cell BK649.out 2).trans rfl
  have hfz49_0:=blk_frozen BK649.out 0
  have hfz49_1:=blk_frozen BK649.out 1
  have hfz49_2:=blk_frozen BK649.out 2
  try go_wp2_with (first|(refine zg (some 22) func112 #[.slice A0_2 l0_2.length c0_2,.slice A1_2 l1_2.length c1_2] ?_;(with_reducible refine (weftref1_natMul.calls k _ _ l0_2 _ _ l1_2 t657 _ ?side1 ?side2 ?side3 ?side4 A5.out).mono ?_);(case side1=>exact zC (Kd.C_below HR0_2.out HB.out));(case side2=>exact HC0_2.out);(case side3=>exact zC (Kd.C_below HR1_2.out HB.out));(case side4=>exact HC1_2.out);rintro e w50 ⟨v658,rfl,ho0,hb⟩;refine ⟨_,rfl,?_⟩;replace HO653:=yV HO653 hb;replace HO656:=yV HO656 hb;have HO659:=yL (fun k_=>(w.heap.size≤k_)∧k_≠gb648∧k_≠gb649∧k_≠gb650) ho0 (fun k_ hk_=>⟨(Nat.le_trans bs hk_),(zf BK648 hk_),(zf BK649 hk_),(zf BK650 hk_)⟩);replace BK648:=sK BK648 hb;replace BK649:=sK BK649 hb;replace BK650:=sK BK650 hb;replace HB:=sB hb;clear hb ho0;obtain ⟨hcz51_0,hfz51_0⟩:=zc BK648 0 (.bool a0_0) rfl;obtain ⟨hcz51_1,hfz51_1⟩:=zc BK648 1 (.slice A0_1 l0_1.length c0_1) rfl;obtain ⟨hcz51_2,hfz51_2⟩:=zc BK648 2 (.slice A0_2 l0_2.length c0_2) rfl;obtain ⟨hcz52_0,hfz52_0⟩:=zc BK649 0 (.bool a1_0) rfl;obtain ⟨hcz52_1,hfz52_1⟩:=zc BK649 1 (.slice A1_1 l1_1.length c1_1) rfl;obtain ⟨hcz52_2,hfz52_2⟩:=zc BK649 2 (.slice A1_2 l1_2.length c1_2) rfl;obtain ⟨Ao53,co53,rfl⟩:=Kd.V_slice HO653.out;obtain ⟨Ao54,co54,rfl⟩:=Kd.V_slice HO656.out)|(refine zg (some 39) func120 #[.slice Ao53 t651.length co53,.slice Ao54 t654.length co54] ?_;(with_reducible refine (weftref1_natCmp.calls k _ _ t651 _ _ t654 t670 _ ?side1 ?side2 ?side3 ?side4 A35.out).mono ?_);(case side1=>exact zr HO653);(case side2=>exact zk HO653);(case side3=>exact zr HO656);(case side4=>exact zk HO656);rintro e w' ⟨rfl,⟨nd,rfl⟩⟩;refine ⟨_,rfl,?_⟩;(try (rw [drewN_self w50];generalize hq_:World.drewN w50 _=w50;have n0_:Aside0 (Kd.V (Kd.int .i64) 3 w50 w.heap.size (fun k_=>(w.heap.size≤k_)∧k_≠gb648∧k_≠gb649∧k_≠gb650) (.slice Ao53 t651.length co53) t651):=⟨by rw [← hq_];exact (zV HO653)⟩;have n1_:Aside0 (Kd.V (Kd.int .i64) 3 w50 w.heap.size (fun k_=>(w.heap.size≤k_)∧k_≠gb648∧k_≠gb649∧k_≠gb650) (.slice Ao54 t654.length co54) t654):=⟨by rw [← hq_];exact (zV HO656)⟩;have n2_:Aside0 (Kd.V (Kd.int .i64) 3 w50 w.heap.size (fun k_=>(w.heap.size≤k_)∧k_≠gb648∧k_≠gb649∧k_≠gb650) v658 t657):=⟨by rw [← hq_];exact (zV HO659)⟩;have n3_:Aside0 (w50.heap[gb648]? = some (.cells #[.bool a0_0,.slice A0_1 l0_1.length c0_1,.slice A0_2 l0_2.length c0_2] 67 (0,0))):=⟨by rw [← hq_];exact (zb BK648)⟩;have n4_:Aside0 (w50.heap[gb649]? = some (.cells #[.bool a1_0,.slice A1_1 l1_1.length c1_1,.slice A1_2 l1_2.length c1_2] 67 (0,0))):=⟨by rw [← hq_];exact (zb BK649)⟩;have n5_:Aside0 (w50.heap[gb650]? = some (.cells #[.bool false,.slice none 0 0,.slice none 0 0] 67 (0,0))):=⟨by rw [← hq_];exact (zb BK650)⟩;have n6_:Aside0 (Below w.heap.size w w50):=⟨by rw [← hq_];exact bw⟩;clear HO653 HO656 HO659 BK648 BK649 BK650 HB hq_;have HO653:=n0_;have HO656:=n1_;have HO659:=n2_;have BK648:=n3_;have BK649:=n4_;have BK650:=n5_;have HB:=n6_;clear n0_ n1_ n2_ n3_ n4_ n5_ n6_))))
  replace HO653:=aZ (Kd.V_drew HO653.out)
  replace HO656:=aZ (Kd.V_drew HO656.out)
  replace HO659:=aZ (Kd.V_drew HO659.out)
  replace BK648:=aZ (blk_drew BK648.out)
  replace BK649:=aZ (blk_drew BK649.out)
  replace BK650:=aZ (blk_drew BK650.out)
  replace HB:=aZ (below_drew1 HB.out)
  refine start_ (n:=8) (S:=fun w'=>w'.cell? ⟨gb648,0,none⟩=some (.bool a0_0)∧w'.cell? ⟨gb648,1,none⟩=some (.slice A0_1 l0_1.length c0_1)∧w'.cell? ⟨gb648,2,none⟩=some (.slice A0_2 l0_2.length c0_2)) (ds:=[]) #[false,false,false,false,false,false,false,false] (by kernel_rfl) rfl rfl ⟨zh BK648 0,zh BK648 1,zh BK648 2⟩ (fun hHeld=>?_);refine with_tabW weftref1_Num_Add.tab6 weftref1_Num_Add.bits6 (fun HT_ HW_=>?_)
  generalize w50.drew=w55 at HO653 HO656 HO659 BK648 BK649 BK650 HB hHeld ⊢
  refine pu 0 (some 41) HT_ ?_
  refine pu 2 (some 43) HT_ ?_
  refine pu 3 (some 44) HT_ ?_
  refine pu 5 (some 46) HT_ ?_
  refine tk 1 (some 42) HT_ HW_ hHeld ?_
  refine one_ (i:=4) (N:=some 45) #[true,true,true,true,true,true,false,false] rfl rfl (one_of HT_.out (by kernel_rfl)) (by decide) (fun K hK=>?_)
  refine goes_ func119 (by kernel_rfl) rfl #[.slice Ao53 t651.length co53,.slice Ao54 t654.length co54,.int .i64 (-1)] (by rfl) rfl rfl zm ?_
  with_reducible refine (weftref1_natAdd.calls k _ _ t651 _ _ t654 (-1) t671 _ ?side1 ?side2 ?side3 ?side4 A37.out).mono ?_
  (case side1=>exact zr HO653)
  (case side2=>exact zk HO653)
  (case side3=>exact zr HO656)
  (case side4=>exact zk HO656)
  rintro e w56 ⟨v672,rfl,ho0,hb⟩
  refine ⟨_,rfl,?_⟩
  replace HO653:=yV HO653 hb
  replace HO656:=yV HO656 hb
  replace HO659:=yV HO659 hb
  have HO673:=yL (fun k_=>(w.heap.size≤k_)∧k_≠gb648∧k_≠gb649∧k_≠gb650) ho0 (fun k_ hk_=>⟨(Nat.le_trans bs hk_),(zf BK648 hk_),(zf BK649 hk_),(zf BK650 hk_)⟩)
  replace BK648:=sK BK648 hb
  replace BK649:=sK BK649 hb
  replace BK650:=sK BK650 hb
  replace HB:=sB hb
  clear hb ho0
  obtain ⟨Ao57,co57,eo57⟩:=Kd.V_slice HO673.out
  (first|subst eo57|(injection eo57 with f1_ f2_ f3_;have f4_:=f1_.symm;have f5_:=f3_.symm;clear f1_ f2_ f3_;subst f4_;subst f5_))
  obtain ⟨Ao58,co58,eo58⟩:=Kd.V_slice HO659.out
  (first|subst eo58|(injection eo58 with f1_ f2_ f3_;have f4_:=f1_.symm;have f5_:=f3_.symm;clear f1_ f2_ f3_;subst f4_;subst f5_))
  refine hK.out _ _ ⟨zh BK648 0,zh BK648 1,zh BK648 2⟩ (fun hHeld=>?_)
  clear hK K
  refine nm ?_
  refine one_ (i:=6) (N:=some 47) #[true,true,true,true,true,true,true,false] rfl rfl (one_of HT_.out (by kernel_rfl)) (by decide) (fun K hK=>?_)
  refine goes_ func101 (by kernel_rfl) rfl #[.bool a0_0,.slice Ao57 t671.length co57,.slice Ao58 t657.length co58] (by rfl) rfl rfl zm ?_
  with_reducible refine (weftref1_numOf.calls k a0_0 (fun k_=>((w.heap.size≤k_)∧(k_≠gb648∧(k_≠gb649∧k_≠gb650)))) _ _ t671 (fun k_=>((w.heap.size≤k_)∧(k_≠gb648∧(k_≠gb649∧k_≠gb650)))) _ _ t657 t674 t675 t678 _ ?side1 ?side2 A38.out).mono ?_
  (case side1=>exact HO673.out)
  (case side2=>exact HO659.out)
  rintro e w59 ⟨v676,v679,rfl,ho0,ho1,hb⟩
  refine ⟨_,rfl,?_⟩
  replace HO653:=yV HO653 hb
  replace HO656:=yV HO656 hb
  replace HO659:=yV HO659 hb
  replace HO673:=yV HO673 hb
  have HO677:=yL (fun k_=>(w.heap.size≤k_)∧k_≠gb648∧k_≠gb649∧k_≠gb650) ho0 (fun k_ hk_=>⟨Or.elim hk_ (fun hs_=>Or.elim hs_ (fun hs_=>hs_.1) (fun hs_=>hs_.1)) (fun hn_=>(Nat.le_trans bs hn_)),Or.elim hk_ (fun hs_=>Or.elim hs_ (fun hs_=>hs_.2.1) (fun hs_=>hs_.2.1)) (fun hn_=>(zf BK648 hn_)),Or.elim hk_ (fun hs_=>Or.elim hs_ (fun hs_=>hs_.2.2.1) (fun hs_=>hs_.2.2.1)) (fun hn_=>(zf BK649 hn_)),Or.elim hk_ (fun hs_=>Or.elim hs_ (fun hs_=>hs_.2.2.2) (fun hs_=>hs_.2.2.2)) (fun hn_=>(zf BK650 hn_))⟩)
  have HO680:=yL (fun k_=>(w.heap.size≤k_)∧k_≠gb648∧k_≠gb649∧k_≠gb650) ho1 (fun k_ hk_=>⟨Or.elim hk_ (fun hs_=>Or.elim hs_ (fun hs_=>hs_.1) (fun hs_=>hs_.1)) (fun hn_=>(Nat.le_trans bs hn_)),Or.elim hk_ (fun hs_=>Or.elim hs_ (fun hs_=>hs_.2.1) (fun hs_=>hs_.2.1)) (fun hn_=>(zf BK648 hn_)),Or.elim hk_ (fun hs_=>Or.elim hs_ (fun hs_=>hs_.2.2.1) (fun hs_=>hs_.2.2.1)) (fun hn_=>(zf BK649 hn_)),Or.elim hk_ (fun hs_=>Or.elim hs_ (fun hs_=>hs_.2.2.2) (fun hs_=>hs_.2.2.2)) (fun hn_=>(zf BK650 hn_))⟩)
  replace BK648:=sK BK648 hb
  replace BK649:=sK BK649 hb
  replace BK650:=sK BK650 hb
  replace HB:=sB hb
  clear hb ho0 ho1
  obtain ⟨Ao61,co61,eo61⟩:=Kd.V_slice HO677.out
  (first|subst eo61|(injection eo61 with f1_ f2_ f3_;have f4_:=f1_.symm;have f5_:=f3_.symm;clear f1_ f2_ f3_;subst f4_;subst f5_))
  obtain ⟨Ao63,co63,eo63⟩:=Kd.V_slice HO680.out
  (first|subst eo63|(injection eo63 with f1_ f2_ f3_;have f4_:=f1_.symm;have f5_:=f3_.symm;clear f1_ f2_ f3_;subst f4_;subst f5_))
  refine hK.out _ _ ⟨zh BK648 0,zh BK648 1,zh BK648 2⟩ (fun hHeld=>?_)
  clear hK K
  refine nm ?_
  refine one_ (i:=7) (N:=none) #[true,true,true,true,true,true,true,true] rfl rfl (one_of HT_.out (by kernel_rfl)) (by decide) (fun K hK=>?_)
  have hs60:w59.cell? ⟨gb650,0,none⟩=some (.bool false):=(blk_cell BK650.out 0).trans rfl
  have hfs60:=blk_frozen BK650.out 0
  have hns60_0:=NB648_650.out
  have hns60_1:=NB649_650.out
  have hms60_0:=NB650_648.out
  have hms60_1:=NB650_649.out
  have hs62:w59.cell? ⟨gb650,1,none⟩=some (.slice none 0 0):=(blk_cell BK650.out 1).trans rfl
  have hfs62:=blk_frozen BK650.out 1
  have hns62_0:=NB648_650.out
  have hns62_1:=NB649_650.out
  have hms62_0:=NB650_648.out
  have hms62_1:=NB650_649.out
  have hs64:w59.cell? ⟨gb650,2,none⟩=some (.slice none 0 0):=(blk_cell BK650.out 2).trans rfl
  have hfs64:=blk_frozen BK650.out 2
  have hns64_0:=NB648_650.out
  have hns64_1:=NB649_650.out
  have hms64_0:=NB650_648.out
  have hms64_1:=NB650_649.out
  refine skip_ (w1:=?_) (by rfl) rfl ?_ ?_
  rotate_left
  ·go_simp
   rfl
  refine hK.out _ _ ⟨((cell_far (p:=⟨gb650,_,none⟩) NB648_650.out _).trans (((cell_far (p:=⟨gb650,_,none⟩) NB648_650.out _).trans (((cell_far (p:=⟨gb650,_,none⟩) NB648_650.out _).trans (hHeld.1)))))),((cell_far (p:=⟨gb650,_,none⟩) NB648_650.out _).trans (((cell_far (p:=⟨gb650,_,none⟩) NB648_650.out _).trans (((cell_far (p:=⟨gb650,_,none⟩) NB648_650.out _).trans (hHeld.2.1)))))),((cell_far (p:=⟨gb650,_,none⟩) NB648_650.out _).trans (((cell_far (p:=⟨gb650,_,none⟩) NB648_650.out _).trans (((cell_far (p:=⟨gb650,_,none⟩) NB648_650.out _).trans (hHeld.2.2))))))⟩ (fun hHeld=>?_)
  clear hK K
  refine done_ (done_of HT_.out (by kernel_rfl)) ?_
  try go_wp2
  refine bodyPost_ret (results_cell_row rfl _ _ gb650 67 #[.bool t674,.slice Ao61 t675.length co61,.slice Ao63 t678.length co63] (0,0) _ rfl (zp BK650) underlying67 rfl (by kernel_rfl)) rfl ?_
  exact ⟨_,_,ze,zF HO677,zF HO680,bw⟩
 rw [if_pos c6] at H
 have c6b0:(a0_0==a1_0)=true:=c6
 (try (have c6b1:decide (a0_0=a1_0)=true:=by simpa using c6))
 (try (have c6b2:(a0_0==a1_0)=true:=by simpa using c6))
 clear c6
 obtain ⟨t660,A7,H⟩:=zB H
 obtain ⟨⟨t663,t664,t667⟩,A8,H⟩:=zB H
 (try dsimp only at H)
 simp only [Option.some.injEq,Prod.mk.injEq] at H
 obtain ⟨rfl,rfl,rfl⟩:=H
 go_enter func68,ntmps68
 try go_wp2_with (first|(refine box_ev 2 #[.bool a0_0,.slice A0_1 l0_1.length c0_1,.slice A0_2 l0_2.length c0_2] 67 ?_;intro gb648 hg w9 hbox hb;have BK648:=aZ hbox;have GE648:=sG hg;replace HB:=sB hb;clear hb hbox hg)|(refine box_ev 3 #[.bool a1_0,.slice A1_1 l1_1.length c1_1,.slice A1_2 l1_2.length c1_2] 67 ?_;intro gb649 hg w10 hbox hb;have BK649:=aZ hbox;have GE649:=sG hg;replace HB:=sB hb;have NB648_649:=sl hg BK648;have NB649_648:=sg hg BK648;replace BK648:=sK BK648 hb;clear hb hbox hg)|(refine box_ev 4 #[.bool false,.slice none 0 0,.slice none 0 0] 67 ?_;intro gb650 hg w11 hbox hb;have BK650:=aZ hbox;have GE650:=sG hg;replace HB:=sB hb;have NB648_650:=sl hg BK648;have NB650_648:=sg hg BK648;replace BK648:=sK BK648 hb;have NB649_650:=sl hg BK649;have NB650_649:=sg hg BK649;replace BK649:=sK BK649 hb;clear hb hbox hg))
 replace BK648:=aZ (blk_drew BK648.out)
 replace BK649:=aZ (blk_drew BK649.out)
 replace BK650:=aZ (blk_drew BK650.out)
 replace HB:=aZ (below_drew1 HB.out)
 refine start_ (n:=12) (S:=fun w'=>w'.cell? ⟨gb648,0,none⟩=some (.bool a0_0)∧w'.cell? ⟨gb648,1,none⟩=some (.slice A0_1 l0_1.length c0_1)∧w'.cell? ⟨gb648,2,none⟩=some (.slice A0_2 l0_2.length c0_2)∧w'.cell? ⟨gb649,0,none⟩=some (.bool a1_0)∧w'.cell? ⟨gb649,1,none⟩=some (.slice A1_1 l1_1.length c1_1)∧w'.cell? ⟨gb649,2,none⟩=some (.slice A1_2 l1_2.length c1_2)) (ds:=[]) #[false,false,false,false,false,false,false,false,false,false,false,false] (by kernel_rfl) rfl rfl ⟨zh BK648 0,zh BK648 1,zh BK648 2,zh BK649 0,zh BK649 1,zh BK649 2⟩ (fun hHeld=>?_);refine with_tabW weftref1_Num_Add.tab1 weftref1_Num_Add.bits1 (fun HT_ HW_=>?_)
 generalize w11.drew=w12 at BK648 BK649 BK650 HB hHeld ⊢
 refine pu 0 (some 8) HT_ ?_
 refine pu 2 (some 10) HT_ ?_
 refine pu 5 (some 13) HT_ ?_
 refine pu 7 (some 15) HT_ ?_
 refine tk 1 (some 9) HT_ HW_ hHeld ?_
 refine tk 3 (some 11) HT_ HW_ hHeld ?_
 refine tk 6 (some 14) HT_ HW_ hHeld ?_
 refine tk 8 (some 16) HT_ HW_ hHeld ?_
 refine one_ (i:=4) (N:=some 12) #[true,true,true,true,true,true,true,true,true,false,false,false] rfl rfl (one_of HT_.out (by kernel_rfl)) (by decide) (fun K hK=>?_)
 refine goes_ func112 (by kernel_rfl) rfl #[.slice A0_1 l0_1.length c0_1,.slice A1_2 l1_2.length c1_2] (by rfl) rfl rfl zm ?_
 with_reducible refine (weftref1_natMul.calls k _ _ l0_1 _ _ l1_2 t651 _ ?side1 ?side2 ?side3 ?side4 A3.out).mono ?_
 (case side1=>exact zC (Kd.C_below HR0_1.out HB.out))
 (case side2=>exact HC0_1.out)
 (case side3=>exact zC (Kd.C_below HR1_2.out HB.out))
 (case side4=>exact HC1_2.out)
 rintro e w13 ⟨v652,rfl,ho0,hb⟩
 refine ⟨_,rfl,?_⟩
 have HO653:=yL (fun k_=>(w.heap.size≤k_)∧k_≠gb648∧k_≠gb649∧k_≠gb650) ho0 (fun k_ hk_=>⟨(Nat.le_trans bs hk_),(zf BK648 hk_),(zf BK649 hk_),(zf BK650 hk_)⟩)
 replace BK648:=sK BK648 hb
 replace BK649:=sK BK649 hb
 replace BK650:=sK BK650 hb
 replace HB:=sB hb
 clear hb ho0
 refine hK.out _ _ ⟨zh BK648 0,zh BK648 1,zh BK648 2,zh BK649 0,zh BK649 1,zh BK649 2⟩ (fun hHeld=>?_)
 clear hK K
 refine nm ?_
 refine one_ (i:=9) (N:=some 17) #[true,true,true,true,true,true,true,true,true,true,false,false] rfl rfl (one_of HT_.out (by kernel_rfl)) (by decide) (fun K hK=>?_)
 refine goes_ func112 (by kernel_rfl) rfl #[.slice A1_1 l1_1.length c1_1,.slice A0_2 l0_2.length c0_2] (by rfl) rfl rfl zm ?_
 with_reducible refine (weftref1_natMul.calls k _ _ l1_1 _ _ l0_2 t654 _ ?side1 ?side2 ?side3 ?side4 A4.out).mono ?_
 (case side1=>exact zC (Kd.C_below HR1_1.out HB.out))
 (case side2=>exact HC1_1.out)
 (case side3=>exact zC (Kd.C_below HR0_2.out HB.out))
 (case side4=>exact HC0_2.out)
 rintro e w14 ⟨v655,rfl,ho0,hb⟩
 refine ⟨_,rfl,?_⟩
 replace HO653:=yV HO653 hb
 have HO656:=yL (fun k_=>(w.heap.size≤k_)∧k_≠gb648∧k_≠gb649∧k_≠gb650) ho0 (fun k_ hk_=>⟨(Nat.le_trans bs hk_),(zf BK648 hk_),(zf BK649 hk_),(zf BK650 hk_)⟩)
 replace BK648:=sK BK648 hb
 replace BK649:=sK BK649 hb
 replace BK650:=sK BK650 hb
 replace HB:=sB hb
 clear hb ho0
 refine hK.out _ _ ⟨zh BK648 0,zh BK648 1,zh BK648 2,zh BK649 0,zh BK649 1,zh BK649 2⟩ (fun hHeld=>?_)
 clear hK K
 refine nm ?_
 refine pu 10 (some 5) HT_ ?_
 refine pu 11 (some 6) HT_ ?_
 refine done_ (done_of HT_.out (by kernel_rfl)) ?_
 have hnb15:=NB648_649.out
 have hnc15:=NB649_648.out
 have hnb16:=NB648_650.out
 have hnc16:=NB650_648.out
 have hcz17_0:w14.cell? ⟨gb648,0,none⟩=some (.bool a0_0):=(blk_cell BK648.out 0).trans rfl
 have hcz17_1:w14.cell? ⟨gb648,1,none⟩=some (.slice A0_1 l0_1.length c0_1):=(blk_cell BK648.out 1).trans rfl
 have hcz17_2:w14.cell? ⟨gb648,2,none⟩=some (.slice A0_2 l0_2.length c0_2):=(blk_cell BK648.out 2).trans rfl
 have hfz17_0:=blk_frozen BK648.out 0
 have hfz17_1:=blk_frozen BK648.out 1
 have hfz17_2:=blk_frozen BK648.out 2
 have hnb18:=NB649_650.out
 have hnc18:=NB650_649.out
 have hcz19_0:w14.cell? ⟨gb649,0,none⟩=some (.bool a1_0):=(blk_cell BK649.out 0).trans rfl
 have hcz19_1:w14.cell? ⟨gb649,1,none⟩=some (.slice A1_1 l1_1.length c1_1):=(blk_cell BK649.out 1).trans rfl
 have hcz19_2:w14.cell? ⟨gb649,2,none⟩=some (.slice A1_2 l1_2.length c1_2):=(blk_cell BK649.out 2).trans rfl
 have hfz19_0:=blk_frozen BK649.out 0
 have hfz19_1:=blk_frozen BK649.out 1
 have hfz19_2:=blk_frozen BK649.out 2
 try go_wp2_with (first|(refine zg (some 22) func112 #[.slice A0_2 l0_2.length c0_2,.slice A1_2 l1_2.length c1_2] ?_;(with_reducible refine (weftref1_natMul.calls k _ _ l0_2 _ _ l1_2 t657 _ ?side1 ?side2 ?side3 ?side4 A5.out).mono ?_);(case side1=>exact zC (Kd.C_below HR0_2.out HB.out));(case side2=>exact HC0_2.out);(case side3=>exact zC (Kd.C_below HR1_2.out HB.out));(case side4=>exact HC1_2.out);rintro e w20 ⟨v658,rfl,ho0,hb⟩;refine ⟨_,rfl,?_⟩;replace HO653:=yV HO653 hb;replace HO656:=yV HO656 hb;have HO659:=yL (fun k_=>(w.heap.size≤k_)∧k_≠gb648∧k_≠gb649∧k_≠gb650) ho0 (fun k_ hk_=>⟨(Nat.le_trans bs hk_),(zf BK648 hk_),(zf BK649 hk_),(zf BK650 hk_)⟩);replace BK648:=sK BK648 hb;replace BK649:=sK BK649 hb;replace BK650:=sK BK650 hb;replace HB:=sB hb;clear hb ho0;obtain ⟨hcz21_0,hfz21_0⟩:=zc BK648 0 (.bool a0_0) rfl;obtain ⟨hcz21_1,hfz21_1⟩:=zc BK648 1 (.slice A0_1 l0_1.length c0_1) rfl;obtain ⟨hcz21_2,hfz21_2⟩:=zc BK648 2 (.slice A0_2 l0_2.length c0_2) rfl;obtain ⟨hcz22_0,hfz22_0⟩:=zc BK649 0 (.bool a1_0) rfl;obtain ⟨hcz22_1,hfz22_1⟩:=zc BK649 1 (.slice A1_1 l1_1.length c1_1) rfl;obtain ⟨hcz22_2,hfz22_2⟩:=zc BK649 2 (.slice A1_2 l1_2.length c1_2) rfl))
 replace HO653:=aZ (Kd.V_drew HO653.out)
 replace HO656:=aZ (Kd.V_drew HO656.out)
 replace HO659:=aZ (Kd.V_drew HO659.out)
 replace BK648:=aZ (blk_drew BK648.out)
 replace BK649:=aZ (blk_drew BK649.out)
 replace BK650:=aZ (blk_drew BK650.out)
 replace HB:=aZ (below_drew1 HB.out)
 obtain ⟨Ao24,co24,eo24⟩:=Kd.V_slice HO653.out
 (first|subst eo24|(injection eo24 with f1_ f2_ f3_;have f4_:=f1_.symm;have f5_:=f3_.symm;clear f1_ f2_ f3_;subst f4_;subst f5_))
 obtain ⟨Ao25,co25,eo25⟩:=Kd.V_slice HO656.out
 (first|subst eo25|(injection eo25 with f1_ f2_ f3_;have f4_:=f1_.symm;have f5_:=f3_.symm;clear f1_ f2_ f3_;subst f4_;subst f5_))
 refine start_ (n:=8) (S:=fun w'=>w'.cell? ⟨gb648,0,none⟩=some (.bool a0_0)∧w'.cell? ⟨gb648,1,none⟩=some (.slice A0_1 l0_1.length c0_1)∧w'.cell? ⟨gb648,2,none⟩=some (.slice A0_2 l0_2.length c0_2)) (ds:=[]) #[false,false,false,false,false,false,false,false] (by kernel_rfl) rfl rfl ⟨zh BK648 0,zh BK648 1,zh BK648 2⟩ (fun hHeld=>?_);refine with_tabW weftref1_Num_Add.tab4 weftref1_Num_Add.bits4 (fun HT_ HW_=>?_)
 generalize w20.drew=w23 at HO653 HO656 HO659 BK648 BK649 BK650 HB hHeld ⊢
 refine pu 0 (some 29) HT_ ?_
 refine pu 2 (some 31) HT_ ?_
 refine pu 3 (some 32) HT_ ?_
 refine pu 5 (some 34) HT_ ?_
 refine tk 1 (some 30) HT_ HW_ hHeld ?_
 refine one_ (i:=4) (N:=some 33) #[true,true,true,true,true,true,false,false] rfl rfl (one_of HT_.out (by kernel_rfl)) (by decide) (fun K hK=>?_)
 refine goes_ func119 (by kernel_rfl) rfl #[.slice Ao24 t651.length co24,.slice Ao25 t654.length co25,.int .i64 1] (by rfl) rfl rfl zm ?_
 with_reducible refine (weftref1_natAdd.calls k _ _ t651 _ _ t654 1 t660 _ ?side1 ?side2 ?side3 ?side4 A7.out).mono ?_
 (case side1=>exact zr HO653)
 (case side2=>exact zk HO653)
 (case side3=>exact zr HO656)
 (case side4=>exact zk HO656)
 rintro e w26 ⟨v661,rfl,ho0,hb⟩
 refine ⟨_,rfl,?_⟩
 replace HO653:=yV HO653 hb
 replace HO656:=yV HO656 hb
 replace HO659:=yV HO659 hb
 have HO662:=yL (fun k_=>(w.heap.size≤k_)∧k_≠gb648∧k_≠gb649∧k_≠gb650) ho0 (fun k_ hk_=>⟨(Nat.le_trans bs hk_),(zf BK648 hk_),(zf BK649 hk_),(zf BK650 hk_)⟩)
 replace BK648:=sK BK648 hb
 replace BK649:=sK BK649 hb
 replace BK650:=sK BK650 hb
 replace HB:=sB hb
 clear hb ho0
 obtain ⟨Ao27,co27,eo27⟩:=Kd.V_slice HO662.out
 (first|subst eo27|(injection eo27 with f1_ f2_ f3_;have f4_:=f1_.symm;have f5_:=f3_.symm;clear f1_ f2_ f3_;subst f4_;subst f5_))
 obtain ⟨Ao28,co28,eo28⟩:=Kd.V_slice HO659.out
 (first|subst eo28|(injection eo28 with f1_ f2_ f3_;have f4_:=f1_.symm;have f5_:=f3_.symm;clear f1_ f2_ f3_;subst f4_;subst f5_))
 refine hK.out _ _ ⟨zh BK648 0,zh BK648 1,zh BK648 2⟩ (fun hHeld=>?_)
 clear hK K
 refine nm ?_
 refine one_ (i:=6) (N:=some 35) #[true,true,true,true,true,true,true,false] rfl rfl (one_of HT_.out (by kernel_rfl)) (by decide) (fun K hK=>?_)
 refine goes_ func101 (by kernel_rfl) rfl #[.bool a0_0,.slice Ao27 t660.length co27,.slice Ao28 t657.length co28] (by rfl) rfl rfl zm ?_
 with_reducible refine (weftref1_numOf.calls k a0_0 (fun k_=>((w.heap.size≤k_)∧(k_≠gb648∧(k_≠gb649∧k_≠gb650)))) _ _ t660 (fun k_=>((w.heap.size≤k_)∧(k_≠gb648∧(k_≠gb649∧k_≠gb650)))) _ _ t657 t663 t664 t667 _ ?side1 ?side2 A8.out).mono ?_
 (case side1=>exact HO662.out)
 (case side2=>exact HO659.out)
 rintro e w29 ⟨v665,v668,rfl,ho0,ho1,hb⟩
 refine ⟨_,rfl,?_⟩
 replace HO653:=yV HO653 hb
 replace HO656:=yV HO656 hb
 replace HO659:=yV HO659 hb
 replace HO662:=yV HO662 hb
 have HO666:=yL (fun k_=>(w.heap.size≤k_)∧k_≠gb648∧k_≠gb649∧k_≠gb650) ho0 (fun k_ hk_=>⟨Or.elim hk_ (fun hs_=>Or.elim hs_ (fun hs_=>hs_.1) (fun hs_=>hs_.1)) (fun hn_=>(Nat.le_trans bs hn_)),Or.elim hk_ (fun hs_=>Or.elim hs_ (fun hs_=>hs_.2.1) (fun hs_=>hs_.2.1)) (fun hn_=>(zf BK648 hn_)),Or.elim hk_ (fun hs_=>Or.elim hs_ (fun hs_=>hs_.2.2.1) (fun hs_=>hs_.2.2.1)) (fun hn_=>(zf BK649 hn_)),Or.elim hk_ (fun hs_=>Or.elim hs_ (fun hs_=>hs_.2.2.2) (fun hs_=>hs_.2.2.2)) (fun hn_=>(zf BK650 hn_))⟩)
 have HO669:=yL (fun k_=>(w.heap.size≤k_)∧k_≠gb648∧k_≠gb649∧k_≠gb650) ho1 (fun k_ hk_=>⟨Or.elim hk_ (fun hs_=>Or.elim hs_ (fun hs_=>hs_.1) (fun hs_=>hs_.1)) (fun hn_=>(Nat.le_trans bs hn_)),Or.elim hk_ (fun hs_=>Or.elim hs_ (fun hs_=>hs_.2.1) (fun hs_=>hs_.2.1)) (fun hn_=>(zf BK648 hn_)),Or.elim hk_ (fun hs_=>Or.elim hs_ (fun hs_=>hs_.2.2.1) (fun hs_=>hs_.2.2.1)) (fun hn_=>(zf BK649 hn_)),Or.elim hk_ (fun hs_=>Or.elim hs_ (fun hs_=>hs_.2.2.2) (fun hs_=>hs_.2.2.2)) (fun hn_=>(zf BK650 hn_))⟩)
 replace BK648:=sK BK648 hb
 replace BK649:=sK BK649 hb
 replace BK650:=sK BK650 hb
 replace HB:=sB hb
 clear hb ho0 ho1
 obtain ⟨Ao31,co31,eo31⟩:=Kd.V_slice HO666.out
 (first|subst eo31|(injection eo31 with f1_ f2_ f3_;have f4_:=f1_.symm;have f5_:=f3_.symm;clear f1_ f2_ f3_;subst f4_;subst f5_))
 obtain ⟨Ao33,co33,eo33⟩:=Kd.V_slice HO669.out
 (first|subst eo33|(injection eo33 with f1_ f2_ f3_;have f4_:=f1_.symm;have f5_:=f3_.symm;clear f1_ f2_ f3_;subst f4_;subst f5_))
 refine hK.out _ _ ⟨zh BK648 0,zh BK648 1,zh BK648 2⟩ (fun hHeld=>?_)
 clear hK K
 refine nm ?_
 refine one_ (i:=7) (N:=none) #[true,true,true,true,true,true,true,true] rfl rfl (one_of HT_.out (by kernel_rfl)) (by decide) (fun K hK=>?_)
 have hs30:w29.cell? ⟨gb650,0,none⟩=some (.bool false):=(blk_cell BK650.out 0).trans rfl
 have hfs30:=blk_frozen BK650.out 0
 have hns30_0:=NB648_650.out
 have hns30_1:=NB649_650.out
 have hms30_0:=NB650_648.out
 have hms30_1:=NB650_649.out
 have hs32:w29.cell? ⟨gb650,1,none⟩=some (.slice none 0 0):=(blk_cell BK650.out 1).trans rfl
 have hfs32:=blk_frozen BK650.out 1
 have hns32_0:=NB648_650.out
 have hns32_1:=NB649_650.out
 have hms32_0:=NB650_648.out
 have hms32_1:=NB650_649.out
 have hs34:w29.cell? ⟨gb650,2,none⟩=some (.slice none 0 0):=(blk_cell BK650.out 2).trans rfl
 have hfs34:=blk_frozen BK650.out 2
 have hns34_0:=NB648_650.out
 have hns34_1:=NB649_650.out
 have hms34_0:=NB650_648.out
 have hms34_1:=NB650_649.out
 refine skip_ (w1:=?_) (by rfl) rfl ?_ ?_
 rotate_left
 ·go_simp
  rfl
 refine hK.out _ _ ⟨((cell_far (p:=⟨gb650,_,none⟩) NB648_650.out _).trans (((cell_far (p:=⟨gb650,_,none⟩) NB648_650.out _).trans (((cell_far (p:=⟨gb650,_,none⟩) NB648_650.out _).trans (hHeld.1)))))),((cell_far (p:=⟨gb650,_,none⟩) NB648_650.out _).trans (((cell_far (p:=⟨gb650,_,none⟩) NB648_650.out _).trans (((cell_far (p:=⟨gb650,_,none⟩) NB648_650.out _).trans (hHeld.2.1)))))),((cell_far (p:=⟨gb650,_,none⟩) NB648_650.out _).trans (((cell_far (p:=⟨gb650,_,none⟩) NB648_650.out _).trans (((cell_far (p:=⟨gb650,_,none⟩) NB648_650.out _).trans (hHeld.2.2))))))⟩ (fun hHeld=>?_)
 clear hK K
 refine done_ (done_of HT_.out (by kernel_rfl)) ?_
 try go_wp2
 refine bodyPost_ret (results_cell_row rfl _ _ gb650 67 #[.bool t663,.slice Ao31 t664.length co31,.slice Ao33 t667.length co33] (0,0) _ rfl (zp BK650) underlying67 rfl (by kernel_rfl)) rfl ?_
 exact ⟨_,_,ze,zF HO666,zF HO669,bw⟩
def weftref1_Num_Neg.f (a0_0:Bool) (l0_1:List Int) (l0_2:List Int):Option (Bool×List Int×List Int):=if a0_0=true then (some (false,l0_1,l0_2)) else (some (decide (0<l0_1.length),l0_1,l0_2))
theorem weftref1_Num_Neg.calls (a0_0:Bool) (P0_1_:Nat→Prop) (A0_1:Option Addr) (c0_1:Nat) (l0_1:List Int) (P0_2_:Nat→Prop) (A0_2:Option Addr) (c0_2:Nat) (l0_2:List Int) (r1:Bool) (r2:List Int) (r3:List Int) (w:World) (hs0_1:Kd.V (Kd.int .i64) 3 w w.heap.size (fun k_=>P0_1_ k_) (.slice A0_1 l0_1.length c0_1) l0_1) (hs0_2:Kd.V (Kd.int .i64) 3 w w.heap.size (fun k_=>P0_2_ k_) (.slice A0_2 l0_2.length c0_2) l0_2) (h:weftref1_Num_Neg.f a0_0 l0_1 l0_2=some (r1,r2,r3)) :
  Calls Tryz.prog 71 #[.agg #[.bool a0_0,.slice A0_1 l0_1.length c0_1,.slice A0_2 l0_2.length c0_2]] w fun e w'=>∃ v1_ v2_:Value,e = .returned (.agg #[.bool r1,v1_,v2_])∧Kd.V (Kd.int .i64) 3 w' w.heap.size (fun k_=>((P0_1_ k_∨P0_2_ k_)∨w.heap.size≤k_)) v1_ r2∧Kd.V (Kd.int .i64) 3 w' w.heap.size (fun k_=>((P0_1_ k_∨P0_2_ k_)∨w.heap.size≤k_)) v2_ r3∧Below w.heap.size w w':=by
 have hu67:=underlying67
 have HO0_1:=aZ (show Kd.V (Kd.int .i64) 3 w w.heap.size (fun k_=>((P0_1_ k_∨P0_2_ k_)∨w.heap.size≤k_)) (.slice A0_1 l0_1.length c0_1) l0_1 from Kd.V_mono hs0_1 (fun k_ hk=>.inl (.inl hk)))
 have HO0_2:=aZ (show Kd.V (Kd.int .i64) 3 w w.heap.size (fun k_=>((P0_1_ k_∨P0_2_ k_)∨w.heap.size≤k_)) (.slice A0_2 l0_2.length c0_2) l0_2 from Kd.V_mono hs0_2 (fun k_ hk=>.inl (.inr hk)))
 have HB:=aZ (Below.refl w.heap.size w)
 have H:=h
 unfold weftref1_Num_Neg.f at H
 clear h
 by_cases c2:a0_0=true
 case neg=>
  replace c2:=Bool.eq_false_iff.mpr c2
  subst c2
  have H1:(some (decide (0<l0_1.length),l0_1,l0_2))=some (r1,r2,r3):=by rw [if_neg (show ¬ (false=true) by decide)] at H;exact H
  clear H
  have H:=H1
  clear H1
  simp only [Option.some.injEq,Prod.mk.injEq] at H
  obtain ⟨rfl,rfl,rfl⟩:=H
  go_enter func71,ntmps71
  go_wp2_with (first|((with_reducible refine gate_dst (N:=1) rfl ?_);(try (refine gate_guard (by rfl) ?_;dsimp only));refine box_ev 1 #[.bool false,.slice A0_1 l0_1.length c0_1,.slice A0_2 l0_2.length c0_2] 67 ?_;intro gb691 hg w8 hbox hb;replace HO0_1:=yE HO0_1 hg hb;replace HO0_2:=yE HO0_2 hg hb;have BK691:=aZ hbox;have GE691:=sG hg;replace HB:=sB hb;clear hb hbox hg)|((with_reducible refine gate_dst (N:=2) rfl ?_);(try (refine gate_guard (by rfl) ?_;dsimp only));refine box_ev 2 #[.bool false,.slice none 0 0,.slice none 0 0] 67 ?_;intro gb692 hg w9 hbox hb;replace HO0_1:=yE HO0_1 hg hb;replace HO0_2:=yE HO0_2 hg hb;have BK692:=aZ hbox;have GE692:=sG hg;replace HB:=sB hb;have NB691_692:=sl hg BK691;have NB692_691:=sg hg BK691;replace BK691:=sK BK691 hb;clear hb hbox hg;have hnb10:=NB691_692.out;have hnc10:=NB692_691.out;obtain ⟨hcz11_0,hfz11_0⟩:=zc BK691 0 (.bool false) rfl;obtain ⟨hcz11_1,hfz11_1⟩:=zc BK691 1 (.slice A0_1 l0_1.length c0_1) rfl;obtain ⟨hcz11_2,hfz11_2⟩:=zc BK691 2 (.slice A0_2 l0_2.length c0_2) rfl;obtain ⟨hcz12_0,hfz12_0⟩:=zc BK692 0 (.bool false) rfl;obtain ⟨hcz12_1,hfz12_1⟩:=zc BK692 1 (.slice none 0 0) rfl;obtain ⟨hcz12_2,hfz12_2⟩:=zc BK692 2 (.slice none 0 0) rfl))
  refine bodyPost_ret (results_cell_row rfl _ _ gb692 67 #[.bool (decide (0<l0_1.length)),.slice A0_1 l0_1.length c0_1,.slice A0_2 l0_2.length c0_2] (0,0) _ rfl (zp BK692) underlying67 rfl (by kernel_rfl)) rfl ?_
  exact ⟨_,_,ze,zF HO0_1,zF HO0_2,bw⟩
 subst c2
 have H1:(some (false,l0_1,l0_2))=some (r1,r2,r3):=by rw [if_pos rfl] at H;exact H
 clear H
 have H:=H1
 clear H1
 simp only [Option.some.injEq,Prod.mk.injEq] at H
 obtain ⟨rfl,rfl,rfl⟩:=H
 go_enter func71,ntmps71
 go_wp2_with (first|((with_reducible refine gate_dst (N:=1) rfl ?_);(try (refine gate_guard (by rfl) ?_;dsimp only));refine box_ev 1 #[.bool true,.slice A0_1 l0_1.length c0_1,.slice A0_2 l0_2.length c0_2] 67 ?_;intro gb691 hg w3 hbox hb;replace HO0_1:=yE HO0_1 hg hb;replace HO0_2:=yE HO0_2 hg hb;have BK691:=aZ hbox;have GE691:=sG hg;replace HB:=sB hb;clear hb hbox hg)|((with_reducible refine gate_dst (N:=2) rfl ?_);(try (refine gate_guard (by rfl) ?_;dsimp only));refine box_ev 2 #[.bool false,.slice none 0 0,.slice none 0 0] 67 ?_;intro gb692 hg w4 hbox hb;replace HO0_1:=yE HO0_1 hg hb;replace HO0_2:=yE HO0_2 hg hb;have BK692:=aZ hbox;have GE692:=sG hg;replace HB:=sB hb;have NB691_692:=sl hg BK691;have NB692_691:=sg hg BK691;replace BK691:=sK BK691 hb;clear hb hbox hg;have hnb5:=NB691_692.out;have hnc5:=NB692_691.out;obtain ⟨hcz6_0,hfz6_0⟩:=zc BK691 0 (.bool true) rfl;obtain ⟨hcz6_1,hfz6_1⟩:=zc BK691 1 (.slice A0_1 l0_1.length c0_1) rfl;obtain ⟨hcz6_2,hfz6_2⟩:=zc BK691 2 (.slice A0_2 l0_2.length c0_2) rfl;obtain ⟨hcz7_0,hfz7_0⟩:=zc BK692 0 (.bool false) rfl;obtain ⟨hcz7_1,hfz7_1⟩:=zc BK692 1 (.slice none 0 0) rfl;obtain ⟨hcz7_2,hfz7_2⟩:=zc BK692 2 (.slice none 0 0) rfl))
 refine bodyPost_ret (results_cell_row rfl _ _ gb692 67 #[.bool false,.slice A0_1 l0_1.length c0_1,.slice A0_2 l0_2.length c0_2] (0,0) _ rfl (zp BK692) underlying67 rfl (by kernel_rfl)) rfl ?_
 exact ⟨_,_,ze,zF HO0_1,zF HO0_2,bw⟩
def weftref1_Num_Sub.f (k:Nat) (a0_0:Bool) (l0_1:List Int) (l0_2:List Int) (a1_0:Bool) (l1_1:List Int) (l1_2:List Int):Option (Bool×List Int×List Int):=(weftref1_Num_Neg.f a1_0 l1_1 l1_2).bind fun bt696=>((weftref1_Num_Add.f k a0_0 l0_1 l0_2 bt696.1 bt696.2.1 bt696.2.2).bind fun bt703=>(some (bt703.1,bt703.2.1,bt703.2.2)))
theorem weftref1_Num_Sub.calls (k:Nat) (a0_0:Bool) (A0_1:Option Addr) (c0_1:Nat) (l0_1:List Int) (A0_2:Option Addr) (c0_2:Nat) (l0_2:List Int) (a1_0:Bool) (P1_1_:Nat→Prop) (A1_1:Option Addr) (c1_1:Nat) (l1_1:List Int) (P1_2_:Nat→Prop) (A1_2:Option Addr) (c1_2:Nat) (l1_2:List Int) (r1:Bool) (r2:List Int) (r3:List Int) (w:World) (hr0_1:Kd.C (Kd.int .i64) w A0_1 l0_1.length l0_1) (hc0_1:l0_1.length≤c0_1) (hr0_2:Kd.C (Kd.int .i64) w A0_2 l0_2.length l0_2) (hc0_2:l0_2.length≤c0_2) (hs1_1:Kd.V (Kd.int .i64) 3 w w.heap.size (fun k_=>P1_1_ k_) (.slice A1_1 l1_1.length c1_1) l1_1) (hs1_2:Kd.V (Kd.int .i64) 3 w w.heap.size (fun k_=>P1_2_ k_) (.slice A1_2 l1_2.length c1_2) l1_2) (h:weftref1_Num_Sub.f k a0_0 l0_1 l0_2 a1_0 l1_1 l1_2=some (r1,r2,r3)) :
  Calls Tryz.prog 69 #[.agg #[.bool a0_0,.slice A0_1 l0_1.length c0_1,.slice A0_2 l0_2.length c0_2],.agg #[.bool a1_0,.slice A1_1 l1_1.length c1_1,.slice A1_2 l1_2.length c1_2]] w fun e w'=>∃ v1_ v2_:Value,e = .returned (.agg #[.bool r1,v1_,v2_])∧Kd.V (Kd.int .i64) 3 w' w.heap.size (fun k_=>((P1_1_ k_∨P1_2_ k_)∨w.heap.size≤k_)) v1_ r2∧Kd.V (Kd.int .i64) 3 w' w.heap.size (fun k_=>((P1_1_ k_∨P1_2_ k_)∨w.heap.size≤k_)) v2_ r3∧Below w.heap.size w w':=by
 have hu67:=underlying67
 have HR0_1:=aZ hr0_1
 have HC0_1:=aZ hc0_1
 clear hr0_1 hc0_1
 have HR0_2:=aZ hr0_2
 have HC0_2:=aZ hc0_2
 clear hr0_2 hc0_2
 have HO1_1:=aZ (show Kd.V (Kd.int .i64) 3 w w.heap.size (fun k_=>((P1_1_ k_∨P1_2_ k_)∨w.heap.size≤k_)) (.slice A1_1 l1_1.length c1_1) l1_1 from Kd.V_mono hs1_1 (fun k_ hk=>.inl (.inl hk)))
 have HO1_2:=aZ (show Kd.V (Kd.int .i64) 3 w w.heap.size (fun k_=>((P1_1_ k_∨P1_2_ k_)∨w.heap.size≤k_)) (.slice A1_2 l1_2.length c1_2) l1_2 from Kd.V_mono hs1_2 (fun k_ hk=>.inl (.inr hk)))
 have HB:=aZ (Below.refl w.heap.size w)
 have H:=h
 unfold weftref1_Num_Sub.f at H
 clear h
 obtain ⟨⟨t696,t697,t700⟩,A3,H⟩:=zB H
 (try dsimp only at H)
 obtain ⟨⟨t703,t704,t707⟩,A4,H⟩:=zB H
 (try dsimp only at H)
 simp only [Option.some.injEq,Prod.mk.injEq] at H
 obtain ⟨rfl,rfl,rfl⟩:=H
 go_enter func69,ntmps69
 try go_wp2_with (first|(refine box_ev 2 #[.bool a0_0,.slice A0_1 l0_1.length c0_1,.slice A0_2 l0_2.length c0_2] 67 ?_;intro gb693 hg w5 hbox hb;replace HO1_1:=yE HO1_1 hg hb;replace HO1_2:=yE HO1_2 hg hb;have BK693:=aZ hbox;have GE693:=sG hg;replace HB:=sB hb;clear hb hbox hg)|(refine box_ev 3 #[.bool a1_0,.slice A1_1 l1_1.length c1_1,.slice A1_2 l1_2.length c1_2] 67 ?_;intro gb694 hg w6 hbox hb;replace HO1_1:=yE HO1_1 hg hb;replace HO1_2:=yE HO1_2 hg hb;have BK694:=aZ hbox;have GE694:=sG hg;replace HB:=sB hb;have NB693_694:=sl hg BK693;have NB694_693:=sg hg BK693;replace BK693:=sK BK693 hb;clear hb hbox hg)|(refine box_ev 4 #[.bool false,.slice none 0 0,.slice none 0 0] 67 ?_;intro gb695 hg w7 hbox hb;replace HO1_1:=yE HO1_1 hg hb;replace HO1_2:=yE HO1_2 hg hb;have BK695:=aZ hbox;have GE695:=sG hg;replace HB:=sB hb;have NB693_695:=sl hg BK693;have NB695_693:=sg hg BK693;replace BK693:=sK BK693 hb;have NB694_695:=sl hg BK694;have NB695_694:=sg hg BK694;replace BK694:=sK BK694 hb;clear hb hbox hg))
 replace HO1_1:=aZ (Kd.V_drew HO1_1.out)
 replace HO1_2:=aZ (Kd.V_drew HO1_2.out)
 replace BK693:=aZ (blk_drew BK693.out)
 replace BK694:=aZ (blk_drew BK694.out)
 replace BK695:=aZ (blk_drew BK695.out)
 replace HB:=aZ (below_drew1 HB.out)
 refine start_ (n:=5) (S:=fun w'=>w'.cell? ⟨gb693,0,none⟩=some (.bool a0_0)∧w'.cell? ⟨gb693,1,none⟩=some (.slice A0_1 l0_1.length c0_1)∧w'.cell? ⟨gb693,2,none⟩=some (.slice A0_2 l0_2.length c0_2)∧w'.cell? ⟨gb694,0,none⟩=some (.bool a1_0)∧w'.cell? ⟨gb694,1,none⟩=some (.slice A1_1 l1_1.length c1_1)∧w'.cell? ⟨gb694,2,none⟩=some (.slice A1_2 l1_2.length c1_2)) (ds:=[]) #[false,false,false,false,false] (by kernel_rfl) rfl rfl ⟨zh BK693 0,zh BK693 1,zh BK693 2,zh BK694 0,zh BK694 1,zh BK694 2⟩ (fun hHeld=>?_)
 generalize w7.drew=w8 at HO1_1 HO1_2 BK693 BK694 BK695 HB hHeld ⊢
 refine take_ (i:=0) (N:=some 5) (v:=?_) (a':=?_) #[true,false,false,false,false] rfl rfl (by kernel_rfl) (fun _ _ _ h=>h) (Or.inl ⟨by rfl,?_⟩) hHeld ?_ ?_
 rotate_left
 ·rintro w' ⟨s0,s1,s2,s3,s4,s5⟩
  go_simp
  with_reducible rfl
 rotate_left
 ·simp only [Act.put,List.setIfInBounds_toArray,List.set_cons_zero,List.set_cons_succ,i64_w,i32_w]
  rfl
 refine take_ (i:=1) (N:=some 6) (v:=?_) (a':=?_) #[true,true,false,false,false] rfl rfl (by kernel_rfl) (fun _ _ _ h=>h) (Or.inl ⟨by rfl,?_⟩) hHeld ?_ ?_
 rotate_left
 ·rintro w' ⟨s0,s1,s2,s3,s4,s5⟩
  go_simp
  with_reducible rfl
 rotate_left
 ·simp only [Act.put,List.setIfInBounds_toArray,List.set_cons_zero,List.set_cons_succ,i64_w,i32_w]
  rfl
 refine one_ (i:=2) (N:=some 7) #[true,true,true,false,false] rfl rfl (by kernel_rfl) (by decide) (fun K hK=>?_)
 refine goes_ func71 (by kernel_rfl) rfl #[.agg #[.bool a1_0,.slice A1_1 l1_1.length c1_1,.slice A1_2 l1_2.length c1_2]] (by rfl) rfl rfl zm ?_
 with_reducible refine (weftref1_Num_Neg.calls a1_0 (fun k_=>(((((P1_1_ k_∨P1_2_ k_)∨w.heap.size≤k_)∧k_≠gb693)∧k_≠gb694)∧k_≠gb695)) _ _ l1_1 (fun k_=>(((((P1_1_ k_∨P1_2_ k_)∨w.heap.size≤k_)∧k_≠gb693)∧k_≠gb694)∧k_≠gb695)) _ _ l1_2 t696 t697 t700 _ ?side1 ?side2 A3.out).mono ?_
 (case side1=>exact HO1_1.out)
 (case side2=>exact HO1_2.out)
 rintro e w9 ⟨v698,v701,rfl,ho0,ho1,hb⟩
 refine ⟨_,rfl,?_⟩
 replace HO1_1:=yV HO1_1 hb
 replace HO1_2:=yV HO1_2 hb
 have HO699:=yL (fun k_=>((P1_1_ k_∨P1_2_ k_)∨w.heap.size≤k_)∧k_≠gb693∧k_≠gb694∧k_≠gb695) ho0 (fun k_ hk_=>⟨Or.elim hk_ (fun hs_=>Or.elim hs_ (fun hs_=>hs_.1.1.1) (fun hs_=>hs_.1.1.1)) (fun hn_=>(.inr (Nat.le_trans bs hn_))),Or.elim hk_ (fun hs_=>Or.elim hs_ (fun hs_=>hs_.1.1.2) (fun hs_=>hs_.1.1.2)) (fun hn_=>(zf BK693 hn_)),Or.elim hk_ (fun hs_=>Or.elim hs_ (fun hs_=>hs_.1.2) (fun hs_=>hs_.1.2)) (fun hn_=>(zf BK694 hn_)),Or.elim hk_ (fun hs_=>Or.elim hs_ (fun hs_=>hs_.2) (fun hs_=>hs_.2)) (fun hn_=>(zf BK695 hn_))⟩)
 have HO702:=yL (fun k_=>((P1_1_ k_∨P1_2_ k_)∨w.heap.size≤k_)∧k_≠gb693∧k_≠gb694∧k_≠gb695) ho1 (fun k_ hk_=>⟨Or.elim hk_ (fun hs_=>Or.elim hs_ (fun hs_=>hs_.1.1.1) (fun hs_=>hs_.1.1.1)) (fun hn_=>(.inr (Nat.le_trans bs hn_))),Or.elim hk_ (fun hs_=>Or.elim hs_ (fun hs_=>hs_.1.1.2) (fun hs_=>hs_.1.1.2)) (fun hn_=>(zf BK693 hn_)),Or.elim hk_ (fun hs_=>Or.elim hs_ (fun hs_=>hs_.1.2) (fun hs_=>hs_.1.2)) (fun hn_=>(zf BK694 hn_)),Or.elim hk_ (fun hs_=>Or.elim hs_ (fun hs_=>hs_.2) (fun hs_=>hs_.2)) (fun hn_=>(zf BK695 hn_))⟩)
 replace BK693:=sK BK693 hb
 replace BK694:=sK BK694 hb
 replace BK695:=sK BK695 hb
 replace HB:=sB hb
 clear hb ho0 ho1
 obtain ⟨Ao10,co10,eo10⟩:=Kd.V_slice HO699.out
 (first|subst eo10|(injection eo10 with f1_ f2_ f3_;have f4_:=f1_.symm;have f5_:=f3_.symm;clear f1_ f2_ f3_;subst f4_;subst f5_))
 obtain ⟨Ao11,co11,eo11⟩:=Kd.V_slice HO702.out
 (first|subst eo11|(injection eo11 with f1_ f2_ f3_;have f4_:=f1_.symm;have f5_:=f3_.symm;clear f1_ f2_ f3_;subst f4_;subst f5_))
 refine hK.out _ _ ⟨zh BK693 0,zh BK693 1,zh BK693 2,zh BK694 0,zh BK694 1,zh BK694 2⟩ (fun hHeld=>?_)
 clear hK K
 refine nm ?_
 refine one_ (i:=3) (N:=some 8) #[true,true,true,true,false] rfl rfl (by kernel_rfl) (by decide) (fun K hK=>?_)
 refine goes_ func68 (by kernel_rfl) rfl #[.agg #[.bool a0_0,.slice A0_1 l0_1.length c0_1,.slice A0_2 l0_2.length c0_2],.agg #[.bool t696,.slice Ao10 t697.length co10,.slice Ao11 t700.length co11]] (by rfl) rfl rfl zm ?_
 with_reducible refine (weftref1_Num_Add.calls k a0_0 _ _ l0_1 _ _ l0_2 t696 _ _ t697 _ _ t700 t703 t704 t707 _ ?side1 ?side2 ?side3 ?side4 ?side5 ?side6 ?side7 ?side8 A4.out).mono ?_
 (case side1=>exact zC (Kd.C_below HR0_1.out HB.out))
 (case side2=>exact HC0_1.out)
 (case side3=>exact zC (Kd.C_below HR0_2.out HB.out))
 (case side4=>exact HC0_2.out)
 (case side5=>exact zr HO699)
 (case side6=>exact zk HO699)
 (case side7=>exact zr HO702)
 (case side8=>exact zk HO702)
 rintro e w12 ⟨v705,v708,rfl,ho0,ho1,hb⟩
 refine ⟨_,rfl,?_⟩
 replace HO1_1:=yV HO1_1 hb
 replace HO1_2:=yV HO1_2 hb
 replace HO699:=yV HO699 hb
 replace HO702:=yV HO702 hb
 have HO706:=yL (fun k_=>((P1_1_ k_∨P1_2_ k_)∨w.heap.size≤k_)∧k_≠gb693∧k_≠gb694∧k_≠gb695) ho0 (fun k_ hk_=>⟨(.inr (Nat.le_trans bs hk_)),(zf BK693 hk_),(zf BK694 hk_),(zf BK695 hk_)⟩)
 have HO709:=yL (fun k_=>((P1_1_ k_∨P1_2_ k_)∨w.heap.size≤k_)∧k_≠gb693∧k_≠gb694∧k_≠gb695) ho1 (fun k_ hk_=>⟨(.inr (Nat.le_trans bs hk_)),(zf BK693 hk_),(zf BK694 hk_),(zf BK695 hk_)⟩)
 replace BK693:=sK BK693 hb
 replace BK694:=sK BK694 hb
 replace BK695:=sK BK695 hb
 replace HB:=sB hb
 clear hb ho0 ho1
 obtain ⟨Ao14,co14,eo14⟩:=Kd.V_slice HO706.out
 (first|subst eo14|(injection eo14 with f1_ f2_ f3_;have f4_:=f1_.symm;have f5_:=f3_.symm;clear f1_ f2_ f3_;subst f4_;subst f5_))
 obtain ⟨Ao16,co16,eo16⟩:=Kd.V_slice HO709.out
 (first|subst eo16|(injection eo16 with f1_ f2_ f3_;have f4_:=f1_.symm;have f5_:=f3_.symm;clear f1_ f2_ f3_;subst f4_;subst f5_))
 refine hK.out _ _ ⟨zh BK693 0,zh BK693 1,zh BK693 2,zh BK694 0,zh BK694 1,zh BK694 2⟩ (fun hHeld=>?_)
 clear hK K
 refine nm ?_
 refine one_ (i:=4) (N:=none) #[true,true,true,true,true] rfl rfl (by kernel_rfl) (by decide) (fun K hK=>?_)
 have hs13:w12.cell? ⟨gb695,0,none⟩=some (.bool false):=(blk_cell BK695.out 0).trans rfl
 have hfs13:=blk_frozen BK695.out 0
 have hns13_0:=NB693_695.out
 have hns13_1:=NB694_695.out
 have hms13_0:=NB695_693.out
 have hms13_1:=NB695_694.out
 have hs15:w12.cell? ⟨gb695,1,none⟩=some (.slice none 0 0):=(blk_cell BK695.out 1).trans rfl
 have hfs15:=blk_frozen BK695.out 1
 have hns15_0:=NB693_695.out
 have hns15_1:=NB694_695.out
 have hms15_0:=NB695_693.out
 have hms15_1:=NB695_694.out
 have hs17:w12.cell? ⟨gb695,2,none⟩=some (.slice none 0 0):=(blk_cell BK695.out 2).trans rfl
 have hfs17:=blk_frozen BK695.out 2
 have hns17_0:=NB693_695.out
 have hns17_1:=NB694_695.out
 have hms17_0:=NB695_693.out
 have hms17_1:=NB695_694.out
 refine skip_ (w1:=?_) (by rfl) rfl ?_ ?_
 rotate_left
 ·go_simp
  rfl
 refine hK.out _ _ ⟨((cell_far (p:=⟨gb695,_,none⟩) NB693_695.out _).trans (((cell_far (p:=⟨gb695,_,none⟩) NB693_695.out _).trans (((cell_far (p:=⟨gb695,_,none⟩) NB693_695.out _).trans (hHeld.1)))))),((cell_far (p:=⟨gb695,_,none⟩) NB693_695.out _).trans (((cell_far (p:=⟨gb695,_,none⟩) NB693_695.out _).trans (((cell_far (p:=⟨gb695,_,none⟩) NB693_695.out _).trans (hHeld.2.1)))))),((cell_far (p:=⟨gb695,_,none⟩) NB693_695.out _).trans (((cell_far (p:=⟨gb695,_,none⟩) NB693_695.out _).trans (((cell_far (p:=⟨gb695,_,none⟩) NB693_695.out _).trans (hHeld.2.2.1)))))),((cell_far (p:=⟨gb695,_,none⟩) NB694_695.out _).trans (((cell_far (p:=⟨gb695,_,none⟩) NB694_695.out _).trans (((cell_far (p:=⟨gb695,_,none⟩) NB694_695.out _).trans (hHeld.2.2.2.1)))))),((cell_far (p:=⟨gb695,_,none⟩) NB694_695.out _).trans (((cell_far (p:=⟨gb695,_,none⟩) NB694_695.out _).trans (((cell_far (p:=⟨gb695,_,none⟩) NB694_695.out _).trans (hHeld.2.2.2.2.1)))))),((cell_far (p:=⟨gb695,_,none⟩) NB694_695.out _).trans (((cell_far (p:=⟨gb695,_,none⟩) NB694_695.out _).trans (((cell_far (p:=⟨gb695,_,none⟩) NB694_695.out _).trans (hHeld.2.2.2.2.2))))))⟩ (fun hHeld=>?_)
 clear hK K
 refine done_ (by kernel_rfl) ?_
 try go_wp2
 refine bodyPost_ret (results_cell_row rfl _ _ gb695 67 #[.bool t703,.slice Ao14 t704.length co14,.slice Ao16 t707.length co16] (0,0) _ rfl (zp BK695) underlying67 rfl (by kernel_rfl)) rfl ?_
 exact ⟨_,_,ze,zF HO706,zF HO709,bw⟩
-- NOT PRINTED: function 114 (num_one)
def num_one_at_frac_Neg.f (k:Nat) (a0_0:ByteArray) (a0_1:ByteArray):Option (ByteArray×ByteArray×Int):=(num_Check.f k a0_0 a0_1).bind fun t712=>(if t712=0 then ((frac_Of.f k a0_0 a0_1).bind fun bt713=>((frac_Neg.f bt713.1 bt713.2.1 bt713.2.2).bind fun bt720=>((frac_Frac_Rat.f bt720.1 bt720.2.1 bt720.2.2).bind fun bt727=>(some (bt727.1,bt727.2,0))))) else (some ((⟨#[]⟩:ByteArray),(⟨#[]⟩:ByteArray),t712)))
theorem num_one_at_frac_Neg.calls (k:Nat) (a0_0:ByteArray) (a0_1:ByteArray) (r1:ByteArray) (r2:ByteArray) (r3:Int) (w:World) (hG:Tryz.Gl w) (h:num_one_at_frac_Neg.f k a0_0 a0_1=some (r1,r2,r3)) :
  Calls Tryz.prog 114 #[.agg #[.string a0_0,.string a0_1],.func (.func 121) #[] #[]] w fun e w'=>e = .returned (.tuple #[.agg #[.string r1,.string r2],.int .i64 r3])∧Below w.heap.size w w':=by
 have hu61:=underlying61
 have HG:=aZ hG
 clear hG
 have HB:=aZ (Below.refl w.heap.size w)
 have H:=h
 unfold num_one_at_frac_Neg.f at H
 clear h
 obtain ⟨t712,A2,H⟩:=zB H
 by_cases c3:t712=0
 case neg=>
  rw [if_neg c3] at H
  obtain ⟨c3b0,c3b1⟩:=zX c3
  simp only [Option.some.injEq,Prod.mk.injEq] at H
  obtain ⟨rfl,rfl,rfl⟩:=H
  go_enter func114,ntmps114
  go_wp2_with (first|(refine box_ev 2 #[.string a0_0,.string a0_1] 61 ?_;intro gb710 hg w21 hbox hb;have BK710:=aZ hbox;have GE710:=sG hg;replace HB:=sB hb;clear hb hbox hg)|(refine box_ev 4 #[.string ⟨#[]⟩,.string ⟨#[]⟩] 61 ?_;intro gb711 hg w22 hbox hb;have BK711:=aZ hbox;have GE711:=sG hg;replace HB:=sB hb;have NB710_711:=sl hg BK710;have NB711_710:=sg hg BK710;replace BK710:=sK BK710 hb;clear hb hbox hg;have hnb23:=NB710_711.out;have hnc23:=NB711_710.out;obtain ⟨hcz24_0,hfz24_0⟩:=zc BK710 0 (.string a0_0) rfl;obtain ⟨hcz24_1,hfz24_1⟩:=zc BK710 1 (.string a0_1) rfl)|(refine zg (some 8) func56 #[.agg #[.string a0_0,.string a0_1]] ?_;(with_reducible refine (num_Check.calls k a0_0 a0_1 t712 _ A2.out).mono ?_);rintro e w25 ⟨rfl,hb⟩;refine ⟨_,rfl,?_⟩;replace BK710:=sK BK710 hb;replace BK711:=sK BK711 hb;replace HB:=sB hb;clear hb;obtain ⟨hcz26_0,hfz26_0⟩:=zc BK711 0 (.string ⟨#[]⟩) rfl;obtain ⟨hcz26_1,hfz26_1⟩:=zc BK711 1 (.string ⟨#[]⟩) rfl))
  refine bodyPost_ret (results_ct rfl _ _ gb711 61 #[.string ⟨#[]⟩,.string ⟨#[]⟩] (0,0) _ rfl (zp BK711) underlying61 rfl (by kernel_rfl)) rfl ?_
  exact ⟨ze,bw⟩
 rw [if_pos c3] at H
 obtain ⟨c3b0,c3b1⟩:=zY c3
 clear c3
 obtain ⟨⟨t713,t714,t717⟩,A4,H⟩:=zB H
 (try dsimp only at H)
 obtain ⟨⟨t720,t721,t724⟩,A5,H⟩:=zB H
 (try dsimp only at H)
 obtain ⟨⟨t727,t728⟩,A6,H⟩:=zB H
 (try dsimp only at H)
 simp only [Option.some.injEq,Prod.mk.injEq] at H
 obtain ⟨rfl,rfl,rfl⟩:=H
 go_enter func114,ntmps114
 go_wp2_with (first|(refine box_ev 2 #[.string a0_0,.string a0_1] 61 ?_;intro gb710 hg w7 hbox hb;have BK710:=aZ hbox;have GE710:=sG hg;replace HB:=sB hb;clear hb hbox hg)|(refine box_ev 4 #[.string ⟨#[]⟩,.string ⟨#[]⟩] 61 ?_;intro gb711 hg w8 hbox hb;have BK711:=aZ hbox;have GE711:=sG hg;replace HB:=sB hb;have NB710_711:=sl hg BK710;have NB711_710:=sg hg BK710;replace BK710:=sK BK710 hb;clear hb hbox hg;have hnb9:=NB710_711.out;have hnc9:=NB711_710.out;obtain ⟨hcz10_0,hfz10_0⟩:=zc BK710 0 (.string a0_0) rfl;obtain ⟨hcz10_1,hfz10_1⟩:=zc BK710 1 (.string a0_1) rfl)|(refine zg (some 8) func56 #[.agg #[.string a0_0,.string a0_1]] ?_;(with_reducible refine (num_Check.calls k a0_0 a0_1 t712 _ A2.out).mono ?_);rintro e w11 ⟨rfl,hb⟩;refine ⟨_,rfl,?_⟩;replace BK710:=sK BK710 hb;replace BK711:=sK BK711 hb;replace HB:=sB hb;clear hb;obtain ⟨hcz12_0,hfz12_0⟩:=zc BK710 0 (.string a0_0) rfl;obtain ⟨hcz12_1,hfz12_1⟩:=zc BK710 1 (.string a0_1) rfl)|(refine zg (some 15) func127 #[.agg #[.string a0_0,.string a0_1]] ?_;(with_reducible refine (frac_Of.calls k a0_0 a0_1 t713 t714 t717 _ A4.out).mono ?_);rintro e w13 ⟨v715,v718,rfl,ho0,ho1,hb⟩;refine ⟨_,rfl,?_⟩;have HO716:=yL (fun k_=>k_≠gb710∧k_≠gb711) ho0 (fun k_ hk_=>⟨(zf BK710 hk_),(zf BK711 hk_)⟩);have HO719:=yL (fun k_=>k_≠gb710∧k_≠gb711) ho1 (fun k_ hk_=>⟨(zf BK710 hk_),(zf BK711 hk_)⟩);replace BK710:=sK BK710 hb;replace BK711:=sK BK711 hb;replace HB:=sB hb;clear hb ho0 ho1;obtain ⟨Ao14,co14,rfl⟩:=Kd.V_slice HO716.out;obtain ⟨Ao15,co15,rfl⟩:=Kd.V_slice HO719.out)|((with_reducible refine gate_tmp (t:=13) rfl ?_);refine goesT_ (some 16) rfl rfl (t:=13) (by rfl) func121 (by kernel_rfl) rfl #[.agg #[.bool t713,.slice Ao14 t714.length co14,.slice Ao15 t717.length co15]] rfl zm ?_;(with_reducible refine (frac_Neg.calls t713 (fun k_=>(k_≠gb710∧k_≠gb711)) _ _ t714 (fun k_=>(k_≠gb710∧k_≠gb711)) _ _ t717 t720 t721 t724 _ ?side1 ?side2 A5.out).mono ?_);(case side1=>exact HO716.out);(case side2=>exact HO719.out);rintro e w16 ⟨v722,v725,rfl,ho0,ho1,hb⟩;refine ⟨_,rfl,?_⟩;replace HO716:=yV HO716 hb;replace HO719:=yV HO719 hb;have HO723:=yL (fun k_=>k_≠gb710∧k_≠gb711) ho0 (fun k_ hk_=>⟨Or.elim hk_ (fun hs_=>Or.elim hs_ (fun hs_=>hs_.1) (fun hs_=>hs_.1)) (fun hn_=>(zf BK710 hn_)),Or.elim hk_ (fun hs_=>Or.elim hs_ (fun hs_=>hs_.2) (fun hs_=>hs_.2)) (fun hn_=>(zf BK711 hn_))⟩);have HO726:=yL (fun k_=>k_≠gb710∧k_≠gb711) ho1 (fun k_ hk_=>⟨Or.elim hk_ (fun hs_=>Or.elim hs_ (fun hs_=>hs_.1) (fun hs_=>hs_.1)) (fun hn_=>(zf BK710 hn_)),Or.elim hk_ (fun hs_=>Or.elim hs_ (fun hs_=>hs_.2) (fun hs_=>hs_.2)) (fun hn_=>(zf BK711 hn_))⟩);replace BK710:=sK BK710 hb;replace BK711:=sK BK711 hb;replace HB:=sB hb;clear hb ho0 ho1;obtain ⟨Ao17,co17,rfl⟩:=Kd.V_slice HO723.out;obtain ⟨Ao18,co18,rfl⟩:=Kd.V_slice HO726.out)|(refine zg (some 17) func96 #[.agg #[.bool t720,.slice Ao17 t721.length co17,.slice Ao18 t724.length co18]] ?_;(with_reducible refine (frac_Frac_Rat.calls t720 _ _ t721 _ _ t724 t727 t728 _ ?side1 ?side2 ?side3 ?side4 ?side5 A6.out).mono ?_);(case side1=>exact zr HO723);(case side2=>exact zk HO723);(case side3=>exact zr HO726);(case side4=>exact zk HO726);(case side5=>exact Tryz.Gl.below HG.out bw);rintro e w19 ⟨rfl,hb⟩;refine ⟨_,rfl,?_⟩;replace HO716:=yV HO716 hb;replace HO719:=yV HO719 hb;replace HO723:=yV HO723 hb;replace HO726:=yV HO726 hb;replace BK710:=sK BK710 hb;replace BK711:=sK BK711 hb;replace HB:=sB hb;clear hb;obtain ⟨hcz20_0,hfz20_0⟩:=zc BK711 0 (.string ⟨#[]⟩) rfl;obtain ⟨hcz20_1,hfz20_1⟩:=zc BK711 1 (.string ⟨#[]⟩) rfl))
 refine bodyPost_ret (results_ct rfl _ _ gb711 61 #[.string t727,.string t728] (0,0) _ rfl (zp BK711) underlying61 rfl (by kernel_rfl)) rfl ?_
 exact ⟨ze,bw⟩
def num_Neg.f (k:Nat) (a0_0:ByteArray) (a0_1:ByteArray):Option (ByteArray×ByteArray×Int):=(num_one_at_frac_Neg.f k a0_0 a0_1).bind fun bt731=>(some (bt731.1,bt731.2.1,bt731.2.2))
theorem num_Neg.calls (k:Nat) (a0_0:ByteArray) (a0_1:ByteArray) (r1:ByteArray) (r2:ByteArray) (r3:Int) (w:World) (hG:Tryz.Gl w) (h:num_Neg.f k a0_0 a0_1=some (r1,r2,r3)) :
  Calls Tryz.prog 70 #[.agg #[.string a0_0,.string a0_1]] w fun e w'=>e = .returned (.tuple #[.agg #[.string r1,.string r2],.int .i64 r3])∧Below w.heap.size w w':=by
 have hu61:=underlying61
 have HG:=aZ hG
 clear hG
 have HB:=aZ (Below.refl w.heap.size w)
 have H:=h
 unfold num_Neg.f at H
 clear h
 obtain ⟨⟨t731,t732,t733⟩,A2,H⟩:=zB H
 (try dsimp only at H)
 simp only [Option.some.injEq,Prod.mk.injEq] at H
 obtain ⟨rfl,rfl,rfl⟩:=H
 go_enter func70,ntmps70
 go_wp2_with (first|(refine box_ev 1 #[.string a0_0,.string a0_1] 61 ?_;intro gb729 hg w3 hbox hb;have BK729:=aZ hbox;have GE729:=sG hg;replace HB:=sB hb;clear hb hbox hg)|(refine box_ev 2 #[.string ⟨#[]⟩,.string ⟨#[]⟩] 61 ?_;intro gb730 hg w4 hbox hb;have BK730:=aZ hbox;have GE730:=sG hg;replace HB:=sB hb;have NB729_730:=sl hg BK729;have NB730_729:=sg hg BK729;replace BK729:=sK BK729 hb;clear hb hbox hg;have hnb5:=NB729_730.out;have hnc5:=NB730_729.out;obtain ⟨hcz6_0,hfz6_0⟩:=zc BK729 0 (.string a0_0) rfl;obtain ⟨hcz6_1,hfz6_1⟩:=zc BK729 1 (.string a0_1) rfl)|(refine zg (some 5) func114 #[.agg #[.string a0_0,.string a0_1],.func (.func 121) #[] #[]] ?_;(with_reducible refine (num_one_at_frac_Neg.calls k a0_0 a0_1 t731 t732 t733 _ ?side1 A2.out).mono ?_);(case side1=>exact Tryz.Gl.below HG.out bw);rintro e w7 ⟨rfl,hb⟩;refine ⟨_,rfl,?_⟩;replace BK729:=sK BK729 hb;replace BK730:=sK BK730 hb;replace HB:=sB hb;clear hb;obtain ⟨hcz8_0,hfz8_0⟩:=zc BK730 0 (.string ⟨#[]⟩) rfl;obtain ⟨hcz8_1,hfz8_1⟩:=zc BK730 1 (.string ⟨#[]⟩) rfl))
 refine bodyPost_ret (results_ct rfl _ _ gb730 61 #[.string t731,.string t732] (0,0) _ rfl (zp BK730) underlying61 rfl (by kernel_rfl)) rfl ?_
 exact ⟨ze,bw⟩
end Go.Proofs.YtaffkbemjbfajaaGreatDoor.PNumSums
