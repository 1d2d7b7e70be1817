-- By a program of this session: functions as plain Lean functions, each with its proof over the machine.
import Derived.Test.YtaffkbemjbfajaaGreatDoorPNumMultipliersx0
import Derived.Test.YtaffkbemjbfajaaGreatDoorPNumMultipliersx1
import Derived.Test.YtaffkbemjbfajaaGreatDoorPNumMultipliersx2
import Derived.Test.YtaffkbemjbfajaaGreatDoorPNumMultipliersx3
import Derived.Test.YtaffkbemjbfajaaGreatDoorPNumMultipliersx4
import Derived.Test.YtaffkbemjbfajaaGreatDoorPNumMultipliersx5
namespace Go.Proofs.YtaffkbemjbfajaaGreatDoor.PNumMultipliers
open Go.RowKit Go.Proofs.Tryz Go.Proofs.YtaffkbemjbfajaaGreatDoorW.PrintWords Go.Proofs.YtaffkbemjbfajaaGreatDoorW.PrintLast Go.Proofs.YtaffkbemjbfajaaGreatDoorW.PrintMore
attribute [local go_sem] max2_int min2_int max_two min_two max_three min_three max_four min_four
set_option linter.unusedVariables false
set_option linter.unusedSimpArgs false
def YD.f (k:Nat) (l0:List Int):Option (Bool):=(YK.f k l0 0).bind fun bt792=>((Y8.f k bt792.1 bt792.2.1).bind fun bt796=>((Yk.f k bt792.1 bt792.2.1).bind fun t799=>(if t799=0 then ((YI.f k bt792.1 bt792.2.1).bind fun bt800=>((YT.f bt800.1 bt800.2.1 bt800.2.2).bind fun t807=>(if t807≤0 then ((YE.f k).bind fun t808=>(if t808=true then (if bt796.2.2=1 then (if bt796.1=0 then (some (bt796.2.1==0)) else (some false)) else (some false)) else (some false))) else ((YI.f k bt792.1 bt792.2.1).bind fun bt809=>((Y7.f k bt809.1 bt809.2.1 bt809.2.2 2147483647 62).bind fun bt816=>(if bt816.2.2=true then (if bt816.1=0 then ((YE.f k).bind fun t819=>(if t819=true then (if bt796.2.2=22 then (if bt796.1=0 then (some (bt796.2.1==0)) else (some false)) else (some false)) else (some false))) else ((YE.f k).bind fun t820=>(if t820=true then (if bt796.2.2=t799 then (if bt796.1=bt816.1 then (some (bt796.2.1==bt816.2.1)) else (some false)) else (some false)) else (some false)))) else ((YE.f k).bind fun t821=>(if t821=true then (if bt796.2.2=22 then (if bt796.1=0 then (some (bt796.2.1==0)) else (some false)) else (some false)) else (some false))))))))) else ((YE.f k).bind fun t822=>(if t822=true then (if bt796.2.2=t799 then (if bt796.1=0 then (some (bt796.2.1==0)) else (some false)) else (some false)) else (some false))))))
set_option maxHeartbeats 80000000 in
set_option maxRecDepth 100000 in
theorem YD.calls (k:Nat) (A0:Option Addr) (c0:Nat) (l0:List Int) (r:Bool) (w:World) (hr0:Kd.C (Kd.int .i64) w A0 l0.length l0) (hc0:l0.length≤c0) (hG:Tryz.Gl w) (h:YD.f k l0=some r) (hr:Aside0 (r=true)) :
  Calls Tryz.prog 17 #[.slice A0 l0.length c0] w fun e w'=>e = .returned (.bool r)∧Below w.heap.size w w':=by
 have hu44:=underlying44
 have hu61:=underlying61
 have HG:=aZ hG
 clear hG
 have HR0:=aZ hr0
 have HC0:=aZ hc0
 clear hr0 hc0
 have HB:=aZ (Below.refl w.heap.size w)
 have H:=h
 unfold YD.f at H
 clear h
 obtain ⟨⟨t792,t793,t794⟩,A2,H⟩:=zB H
 (try dsimp only at H)
 obtain ⟨⟨t796,t797,t798⟩,A3,H⟩:=zB H
 (try dsimp only at H)
 obtain ⟨t799,A4,H⟩:=zB H
 by_cases c5:t799=0
 case neg=>
  rw [if_neg c5] at H
  obtain ⟨c5b0,c5b1⟩:=zX c5
  obtain ⟨t822,A313,H⟩:=zB H
  by_cases c314:t822=true
  case neg=>
   replace c314:=Bool.eq_false_iff.mpr c314
   subst c314
   replace H:=zU H
   exact absurd ((Option.some.inj H).trans hr.out) (by decide)
  subst c314
  replace H:=zT H
  by_cases c315:t798=t799
  case neg=>
   rw [if_neg c315] at H
   obtain ⟨c315b0,c315b1⟩:=zX c315
   exact absurd ((Option.some.inj H).trans hr.out) (by decide)
  rw [if_pos c315] at H
  obtain ⟨c315b0,c315b1⟩:=zY c315
  clear c315
  by_cases c316:t796=0
  case neg=>
   rw [if_neg c316] at H
   obtain ⟨c316b0,c316b1⟩:=zX c316
   exact absurd ((Option.some.inj H).trans hr.out) (by decide)
  rw [if_pos c316] at H
  obtain ⟨c316b0,c316b1⟩:=zY c316
  clear c316
  obtain rfl:=Option.some.inj H
  go_enter func17,ntmps17
  go_wp2_with (first|(refine box_ev 14 #[.slice A0 l0.length c0,.int .i64 0] 44 ?_;intro gb791 hg w317 hbox hb;have GE791:=sG hg;have HI791:=aZ ((by refine ⟨_,_,hbox,(by rw [hg];exact bs),HR0.out⟩:IsS44 w _ gb791 l0 0));replace HB:=sB hb;clear hb hbox hg)|(refine zg (some 16) func52 #[.pointer (some ⟨gb791,0,none⟩)] ?_;(with_reducible refine (YK.calls k gb791 l0 0 t792 t793 t794 w _ (zi HI791) bw HG.out A2.out).mono ?_);rintro e w318 ⟨rfl,hi,hb,hk⟩;refine ⟨_,rfl,?_⟩;replace HB:=aZ (hb);replace HI791:=aZ (hi);clear hb hk hi)|(refine box_ev 4 #[.string ⟨#[]⟩,.string ⟨#[]⟩] 61 ?_;intro gb795 hg w319 hbox hb;have BK795:=aZ hbox;have GE795:=sG hg;replace HB:=sB hb;have NB791_795:=aZ ((by rw [hg];exact Nat.ne_of_lt (IsS44.lt (show IsS44 w _ gb791 l0 t794 from zi HI791)):gb791≠gb795));have NB795_791:=aZ ((by rw [hg];exact Nat.ne_of_gt (IsS44.lt (show IsS44 w _ gb791 l0 t794 from zi HI791)):gb795≠gb791));replace HI791:=aZ (IsS44.below (zi HI791) hb);clear hb hbox hg;have hnb320:=NB795_791.out;have hnc320:=NB791_795.out;obtain ⟨hcz321_0,hfz321_0⟩:=zc BK795 0 (.string ⟨#[]⟩) rfl;obtain ⟨hcz321_1,hfz321_1⟩:=zc BK795 1 (.string ⟨#[]⟩) rfl)|(refine zg (some 19) func76 #[.agg #[.string t792,.string t793]] ?_;(with_reducible refine (Y8.calls k t792 t793 t796 t797 t798 _ A3.out).mono ?_);rintro e w322 ⟨rfl,hb⟩;refine ⟨_,rfl,?_⟩;replace HI791:=aZ (IsS44.below (show IsS44 w ((w319.setCell ⟨gb795,0,none⟩ (.string t792)).setCell ⟨gb795,1,none⟩ (.string t793)) gb791 l0 t794 from zi HI791) hb);replace BK795:=sP (.cells #[.string t792,.string t793] 61 (0,0)) BK795 hb;replace HB:=sB hb;clear hb;obtain ⟨hcz323_0,hfz323_0⟩:=zc BK795 0 (.string t792) rfl;obtain ⟨hcz323_1,hfz323_1⟩:=zc BK795 1 (.string t793) rfl)|(refine zg (some 24) func53 #[.agg #[.string t792,.string t793]] ?_;(with_reducible refine (Yk.calls k t792 t793 t799 _ A4.out).mono ?_);rintro e w324 ⟨rfl,hb⟩;refine ⟨_,rfl,?_⟩;replace HI791:=aZ (IsS44.below (zi HI791) hb);replace BK795:=sK BK795 hb;replace HB:=sB hb;clear hb)|(refine zg (some 45) func20 #[] ?_;(with_reducible refine (YE.calls k  true _ (Tryz.Gl.below HG.out bw) A313.out).mono ?_);rintro e w325 ⟨rfl,hb⟩;refine ⟨_,rfl,?_⟩;replace HI791:=aZ (IsS44.below (zi HI791) hb);replace BK795:=sK BK795 hb;replace HB:=sB hb;clear hb))
  go_ret
  exact ⟨ze,bw⟩
 rw [if_pos c5] at H
 obtain ⟨c5b0,c5b1⟩:=zY c5
 clear c5
 obtain ⟨⟨t800,t801,t804⟩,A6,H⟩:=zB H
 (try dsimp only at H)
 obtain ⟨t807,A7,H⟩:=zB H
 by_cases c8:t807≤0
 case neg=>
  rw [if_neg c8] at H
  have c8b0:=decide_eq_false c8
  clear c8
  obtain ⟨⟨t809,t810,t813⟩,A69,H⟩:=zB H
  (try dsimp only at H)
  obtain ⟨⟨t816,t817,t818⟩,A70,H⟩:=zB H
  (try dsimp only at H)
  by_cases c71:t818=true
  case neg=>
   replace c71:=Bool.eq_false_iff.mpr c71
   subst c71
   replace H:=zU H
   obtain ⟨t821,A233,H⟩:=zB H
   by_cases c234:t821=true
   case neg=>
    replace c234:=Bool.eq_false_iff.mpr c234
    subst c234
    replace H:=zU H
    exact absurd ((Option.some.inj H).trans hr.out) (by decide)
   subst c234
   replace H:=zT H
   by_cases c235:t798=22
   case neg=>
    rw [if_neg c235] at H
    obtain ⟨c235b0,c235b1⟩:=zX c235
    exact absurd ((Option.some.inj H).trans hr.out) (by decide)
   rw [if_pos c235] at H
   obtain ⟨c235b0,c235b1⟩:=zY c235
   clear c235
   by_cases c236:t796=0
   case neg=>
    rw [if_neg c236] at H
    obtain ⟨c236b0,c236b1⟩:=zX c236
    exact absurd ((Option.some.inj H).trans hr.out) (by decide)
   rw [if_pos c236] at H
   obtain ⟨c236b0,c236b1⟩:=zY c236
   clear c236
   obtain rfl:=Option.some.inj H
   go_enter func17,ntmps17
   go_wp2_with (first|(refine box_ev 14 #[.slice A0 l0.length c0,.int .i64 0] 44 ?_;intro gb791 hg w237 hbox hb;have GE791:=sG hg;have HI791:=aZ ((by refine ⟨_,_,hbox,(by rw [hg];exact bs),HR0.out⟩:IsS44 w _ gb791 l0 0));replace HB:=sB hb;clear hb hbox hg)|(refine zg (some 16) func52 #[.pointer (some ⟨gb791,0,none⟩)] ?_;(with_reducible refine (YK.calls k gb791 l0 0 t792 t793 t794 w _ (zi HI791) bw HG.out A2.out).mono ?_);rintro e w238 ⟨rfl,hi,hb,hk⟩;refine ⟨_,rfl,?_⟩;replace HB:=aZ (hb);replace HI791:=aZ (hi);clear hb hk hi)|(refine box_ev 4 #[.string ⟨#[]⟩,.string ⟨#[]⟩] 61 ?_;intro gb795 hg w239 hbox hb;have BK795:=aZ hbox;have GE795:=sG hg;replace HB:=sB hb;have NB791_795:=aZ ((by rw [hg];exact Nat.ne_of_lt (IsS44.lt (show IsS44 w _ gb791 l0 t794 from zi HI791)):gb791≠gb795));have NB795_791:=aZ ((by rw [hg];exact Nat.ne_of_gt (IsS44.lt (show IsS44 w _ gb791 l0 t794 from zi HI791)):gb795≠gb791));replace HI791:=aZ (IsS44.below (zi HI791) hb);clear hb hbox hg;have hnb240:=NB795_791.out;have hnc240:=NB791_795.out;obtain ⟨hcz241_0,hfz241_0⟩:=zc BK795 0 (.string ⟨#[]⟩) rfl;obtain ⟨hcz241_1,hfz241_1⟩:=zc BK795 1 (.string ⟨#[]⟩) rfl)|(refine zg (some 19) func76 #[.agg #[.string t792,.string t793]] ?_;(with_reducible refine (Y8.calls k t792 t793 t796 t797 t798 _ A3.out).mono ?_);rintro e w242 ⟨rfl,hb⟩;refine ⟨_,rfl,?_⟩;replace HI791:=aZ (IsS44.below (show IsS44 w ((w239.setCell ⟨gb795,0,none⟩ (.string t792)).setCell ⟨gb795,1,none⟩ (.string t793)) gb791 l0 t794 from zi HI791) hb);replace BK795:=sP (.cells #[.string t792,.string t793] 61 (0,0)) BK795 hb;replace HB:=sB hb;clear hb;obtain ⟨hcz243_0,hfz243_0⟩:=zc BK795 0 (.string t792) rfl;obtain ⟨hcz243_1,hfz243_1⟩:=zc BK795 1 (.string t793) rfl)|(refine zg (some 24) func53 #[.agg #[.string t792,.string t793]] ?_;(with_reducible refine (Yk.calls k t792 t793 t799 _ A4.out).mono ?_);rintro e w244 ⟨rfl,hb⟩;refine ⟨_,rfl,?_⟩;replace HI791:=aZ (IsS44.below (zi HI791) hb);replace BK795:=sK BK795 hb;replace HB:=sB hb;clear hb;obtain ⟨hcz245_0,hfz245_0⟩:=zc BK795 0 (.string t792) rfl;obtain ⟨hcz245_1,hfz245_1⟩:=zc BK795 1 (.string t793) rfl)|(refine zg (some 42) func58 #[.agg #[.string t792,.string t793]] ?_;(with_reducible refine (YI.calls k t792 t793 t800 t801 t804 _ A6.out).mono ?_);rintro e w246 ⟨v802,v805,rfl,ho0,ho1,hb⟩;refine ⟨_,rfl,?_⟩;have HO803:=yL (fun k_=>k_≠gb795∧k_≠gb791) ho0 (fun k_ hk_=>⟨(zf BK795 hk_),(IsS44.fresh (zi HI791) k_ hk_)⟩);have HO806:=yL (fun k_=>k_≠gb795∧k_≠gb791) ho1 (fun k_ hk_=>⟨(zf BK795 hk_),(IsS44.fresh (zi HI791) k_ hk_)⟩);replace HI791:=aZ (IsS44.below (zi HI791) hb);replace BK795:=sK BK795 hb;replace HB:=sB hb;clear hb ho0 ho1;obtain ⟨Ao247,co247,rfl⟩:=Kd.V_slice HO803.out;obtain ⟨Ao248,co248,rfl⟩:=Kd.V_slice HO806.out)|(refine zg (some 43) func61 #[.agg #[.bool t800,.slice Ao247 t801.length co247,.slice Ao248 t804.length co248]] ?_;(with_reducible refine (YT.calls t800 _ _ t801 _ _ t804 t807 _ (zC (Kd.V_reads' HO803.out).2.2) ((Kd.V_reads' HO803.out).2.1) (zC (Kd.V_reads' HO806.out).2.2) ((Kd.V_reads' HO806.out).2.1) A7.out).mono ?_);rintro e w249 ⟨rfl,hb⟩;refine ⟨_,rfl,?_⟩;replace HO803:=yV HO803 hb;replace HO806:=yV HO806 hb;replace HI791:=aZ (IsS44.below (zi HI791) hb);replace BK795:=sK BK795 hb;replace HB:=sB hb;clear hb;obtain ⟨hcz250_0,hfz250_0⟩:=zc BK795 0 (.string t792) rfl;obtain ⟨hcz250_1,hfz250_1⟩:=zc BK795 1 (.string t793) rfl)|(refine zg (some 29) func58 #[.agg #[.string t792,.string t793]] ?_;(with_reducible refine (YI.calls k t792 t793 t809 t810 t813 _ A69.out).mono ?_);rintro e w251 ⟨v811,v814,rfl,ho0,ho1,hb⟩;refine ⟨_,rfl,?_⟩;replace HO803:=yV HO803 hb;replace HO806:=yV HO806 hb;have HO812:=yL (fun k_=>k_≠gb795∧k_≠gb791) ho0 (fun k_ hk_=>⟨(zf BK795 hk_),(IsS44.fresh (zi HI791) k_ hk_)⟩);have HO815:=yL (fun k_=>k_≠gb795∧k_≠gb791) ho1 (fun k_ hk_=>⟨(zf BK795 hk_),(IsS44.fresh (zi HI791) k_ hk_)⟩);replace HI791:=aZ (IsS44.below (zi HI791) hb);replace BK795:=sK BK795 hb;replace HB:=sB hb;clear hb ho0 ho1;obtain ⟨Ao252,co252,rfl⟩:=Kd.V_slice HO812.out;obtain ⟨Ao253,co253,rfl⟩:=Kd.V_slice HO815.out)|(refine zg (some 30) func77 #[.agg #[.bool t809,.slice Ao252 t810.length co252,.slice Ao253 t813.length co253],.int .i64 2147483647,.int .i64 62] ?_;(with_reducible refine (Y7.calls k t809 _ _ t810 _ _ t813 2147483647 62 t816 t817 false _ (zC (Kd.V_reads' HO812.out).2.2) ((Kd.V_reads' HO812.out).2.1) (zC (Kd.V_reads' HO815.out).2.2) ((Kd.V_reads' HO815.out).2.1) (Tryz.Gl.below HG.out bw) A70.out).mono ?_);rintro e w254 ⟨rfl,hb⟩;refine ⟨_,rfl,?_⟩;replace HO803:=yV HO803 hb;replace HO806:=yV HO806 hb;replace HO812:=yV HO812 hb;replace HO815:=yV HO815 hb;replace HI791:=aZ (IsS44.below (zi HI791) hb);replace BK795:=sK BK795 hb;replace HB:=sB hb;clear hb)|(refine zg (some 45) func20 #[] ?_;(with_reducible refine (YE.calls k  true _ (Tryz.Gl.below HG.out bw) A233.out).mono ?_);rintro e w255 ⟨rfl,hb⟩;refine ⟨_,rfl,?_⟩;replace HO803:=yV HO803 hb;replace HO806:=yV HO806 hb;replace HO812:=yV HO812 hb;replace HO815:=yV HO815 hb;replace HI791:=aZ (IsS44.below (zi HI791) hb);replace BK795:=sK BK795 hb;replace HB:=sB hb;clear hb))
   go_ret
   exact ⟨ze,bw⟩
  subst c71
  replace H:=zT H
  by_cases c72:t816=0
  case neg=>
   rw [if_neg c72] at H
   obtain ⟨c72b0,c72b1⟩:=zX c72
   obtain ⟨t820,A153,H⟩:=zB H
   by_cases c154:t820=true
   case neg=>
    replace c154:=Bool.eq_false_iff.mpr c154
    subst c154
    replace H:=zU H
    exact absurd ((Option.some.inj H).trans hr.out) (by decide)
   subst c154
   replace H:=zT H
   by_cases c155:t798=t799
   case neg=>
    rw [if_neg c155] at H
    obtain ⟨c155b0,c155b1⟩:=zX c155
    exact absurd ((Option.some.inj H).trans hr.out) (by decide)
   rw [if_pos c155] at H
   obtain ⟨c155b0,c155b1⟩:=zY c155
   clear c155
   by_cases c156:t796=t816
   case neg=>
    rw [if_neg c156] at H
    obtain ⟨c156b0,c156b1⟩:=zX c156
    exact absurd ((Option.some.inj H).trans hr.out) (by decide)
   rw [if_pos c156] at H
   obtain ⟨c156b0,c156b1⟩:=zY c156
   clear c156
   obtain rfl:=Option.some.inj H
   go_enter func17,ntmps17
   go_wp2_with (first|(refine box_ev 14 #[.slice A0 l0.length c0,.int .i64 0] 44 ?_;intro gb791 hg w157 hbox hb;have GE791:=sG hg;have HI791:=aZ ((by refine ⟨_,_,hbox,(by rw [hg];exact bs),HR0.out⟩:IsS44 w _ gb791 l0 0));replace HB:=sB hb;clear hb hbox hg)|(refine zg (some 16) func52 #[.pointer (some ⟨gb791,0,none⟩)] ?_;(with_reducible refine (YK.calls k gb791 l0 0 t792 t793 t794 w _ (zi HI791) bw HG.out A2.out).mono ?_);rintro e w158 ⟨rfl,hi,hb,hk⟩;refine ⟨_,rfl,?_⟩;replace HB:=aZ (hb);replace HI791:=aZ (hi);clear hb hk hi)|(refine box_ev 4 #[.string ⟨#[]⟩,.string ⟨#[]⟩] 61 ?_;intro gb795 hg w159 hbox hb;have BK795:=aZ hbox;have GE795:=sG hg;replace HB:=sB hb;have NB791_795:=aZ ((by rw [hg];exact Nat.ne_of_lt (IsS44.lt (show IsS44 w _ gb791 l0 t794 from zi HI791)):gb791≠gb795));have NB795_791:=aZ ((by rw [hg];exact Nat.ne_of_gt (IsS44.lt (show IsS44 w _ gb791 l0 t794 from zi HI791)):gb795≠gb791));replace HI791:=aZ (IsS44.below (zi HI791) hb);clear hb hbox hg;have hnb160:=NB795_791.out;have hnc160:=NB791_795.out;obtain ⟨hcz161_0,hfz161_0⟩:=zc BK795 0 (.string ⟨#[]⟩) rfl;obtain ⟨hcz161_1,hfz161_1⟩:=zc BK795 1 (.string ⟨#[]⟩) rfl)|(refine zg (some 19) func76 #[.agg #[.string t792,.string t793]] ?_;(with_reducible refine (Y8.calls k t792 t793 t796 t797 t798 _ A3.out).mono ?_);rintro e w162 ⟨rfl,hb⟩;refine ⟨_,rfl,?_⟩;replace HI791:=aZ (IsS44.below (show IsS44 w ((w159.setCell ⟨gb795,0,none⟩ (.string t792)).setCell ⟨gb795,1,none⟩ (.string t793)) gb791 l0 t794 from zi HI791) hb);replace BK795:=sP (.cells #[.string t792,.string t793] 61 (0,0)) BK795 hb;replace HB:=sB hb;clear hb;obtain ⟨hcz163_0,hfz163_0⟩:=zc BK795 0 (.string t792) rfl;obtain ⟨hcz163_1,hfz163_1⟩:=zc BK795 1 (.string t793) rfl)|(refine zg (some 24) func53 #[.agg #[.string t792,.string t793]] ?_;(with_reducible refine (Yk.calls k t792 t793 t799 _ A4.out).mono ?_);rintro e w164 ⟨rfl,hb⟩;refine ⟨_,rfl,?_⟩;replace HI791:=aZ (IsS44.below (zi HI791) hb);replace BK795:=sK BK795 hb;replace HB:=sB hb;clear hb;obtain ⟨hcz165_0,hfz165_0⟩:=zc BK795 0 (.string t792) rfl;obtain ⟨hcz165_1,hfz165_1⟩:=zc BK795 1 (.string t793) rfl)|(refine zg (some 42) func58 #[.agg #[.string t792,.string t793]] ?_;(with_reducible refine (YI.calls k t792 t793 t800 t801 t804 _ A6.out).mono ?_);rintro e w166 ⟨v802,v805,rfl,ho0,ho1,hb⟩;refine ⟨_,rfl,?_⟩;have HO803:=yL (fun k_=>k_≠gb795∧k_≠gb791) ho0 (fun k_ hk_=>⟨(zf BK795 hk_),(IsS44.fresh (zi HI791) k_ hk_)⟩);have HO806:=yL (fun k_=>k_≠gb795∧k_≠gb791) ho1 (fun k_ hk_=>⟨(zf BK795 hk_),(IsS44.fresh (zi HI791) k_ hk_)⟩);replace HI791:=aZ (IsS44.below (zi HI791) hb);replace BK795:=sK BK795 hb;replace HB:=sB hb;clear hb ho0 ho1;obtain ⟨Ao167,co167,rfl⟩:=Kd.V_slice HO803.out;obtain ⟨Ao168,co168,rfl⟩:=Kd.V_slice HO806.out)|(refine zg (some 43) func61 #[.agg #[.bool t800,.slice Ao167 t801.length co167,.slice Ao168 t804.length co168]] ?_;(with_reducible refine (YT.calls t800 _ _ t801 _ _ t804 t807 _ (zC (Kd.V_reads' HO803.out).2.2) ((Kd.V_reads' HO803.out).2.1) (zC (Kd.V_reads' HO806.out).2.2) ((Kd.V_reads' HO806.out).2.1) A7.out).mono ?_);rintro e w169 ⟨rfl,hb⟩;refine ⟨_,rfl,?_⟩;replace HO803:=yV HO803 hb;replace HO806:=yV HO806 hb;replace HI791:=aZ (IsS44.below (zi HI791) hb);replace BK795:=sK BK795 hb;replace HB:=sB hb;clear hb;obtain ⟨hcz170_0,hfz170_0⟩:=zc BK795 0 (.string t792) rfl;obtain ⟨hcz170_1,hfz170_1⟩:=zc BK795 1 (.string t793) rfl)|(refine zg (some 29) func58 #[.agg #[.string t792,.string t793]] ?_;(with_reducible refine (YI.calls k t792 t793 t809 t810 t813 _ A69.out).mono ?_);rintro e w171 ⟨v811,v814,rfl,ho0,ho1,hb⟩;refine ⟨_,rfl,?_⟩;replace HO803:=yV HO803 hb;replace HO806:=yV HO806 hb;have HO812:=yL (fun k_=>k_≠gb795∧k_≠gb791) ho0 (fun k_ hk_=>⟨(zf BK795 hk_),(IsS44.fresh (zi HI791) k_ hk_)⟩);have HO815:=yL (fun k_=>k_≠gb795∧k_≠gb791) ho1 (fun k_ hk_=>⟨(zf BK795 hk_),(IsS44.fresh (zi HI791) k_ hk_)⟩);replace HI791:=aZ (IsS44.below (zi HI791) hb);replace BK795:=sK BK795 hb;replace HB:=sB hb;clear hb ho0 ho1;obtain ⟨Ao172,co172,rfl⟩:=Kd.V_slice HO812.out;obtain ⟨Ao173,co173,rfl⟩:=Kd.V_slice HO815.out)|(refine zg (some 30) func77 #[.agg #[.bool t809,.slice Ao172 t810.length co172,.slice Ao173 t813.length co173],.int .i64 2147483647,.int .i64 62] ?_;(with_reducible refine (Y7.calls k t809 _ _ t810 _ _ t813 2147483647 62 t816 t817 true _ (zC (Kd.V_reads' HO812.out).2.2) ((Kd.V_reads' HO812.out).2.1) (zC (Kd.V_reads' HO815.out).2.2) ((Kd.V_reads' HO815.out).2.1) (Tryz.Gl.below HG.out bw) A70.out).mono ?_);rintro e w174 ⟨rfl,hb⟩;refine ⟨_,rfl,?_⟩;replace HO803:=yV HO803 hb;replace HO806:=yV HO806 hb;replace HO812:=yV HO812 hb;replace HO815:=yV HO815 hb;replace HI791:=aZ (IsS44.below (zi HI791) hb);replace BK795:=sK BK795 hb;replace HB:=sB hb;clear hb)|(refine zg (some 45) func20 #[] ?_;(with_reducible refine (YE.calls k  true _ (Tryz.Gl.below HG.out bw) A153.out).mono ?_);rintro e w175 ⟨rfl,hb⟩;refine ⟨_,rfl,?_⟩;replace HO803:=yV HO803 hb;replace HO806:=yV HO806 hb;replace HO812:=yV HO812 hb;replace HO815:=yV HO815 hb;replace HI791:=aZ (IsS44.below (zi HI791) hb);replace BK795:=sK BK795 hb;replace HB:=sB hb;clear hb))
   go_ret
   exact ⟨ze,bw⟩
  rw [if_pos c72] at H
  obtain ⟨c72b0,c72b1⟩:=zY c72
  clear c72
  obtain ⟨t819,A73,H⟩:=zB H
  by_cases c74:t819=true
  case neg=>
   replace c74:=Bool.eq_false_iff.mpr c74
   subst c74
   replace H:=zU H
   exact absurd ((Option.some.inj H).trans hr.out) (by decide)
  subst c74
  replace H:=zT H
  by_cases c75:t798=22
  case neg=>
   rw [if_neg c75] at H
   obtain ⟨c75b0,c75b1⟩:=zX c75
   exact absurd ((Option.some.inj H).trans hr.out) (by decide)
  rw [if_pos c75] at H
  obtain ⟨c75b0,c75b1⟩:=zY c75
  clear c75
  by_cases c76:t796=0
  case neg=>
   rw [if_neg c76] at H
   obtain ⟨c76b0,c76b1⟩:=zX c76
   exact absurd ((Option.some.inj H).trans hr.out) (by decide)
  rw [if_pos c76] at H
  obtain ⟨c76b0,c76b1⟩:=zY c76
  clear c76
  obtain rfl:=Option.some.inj H
  go_enter func17,ntmps17
  go_wp2_with (first|(refine box_ev 14 #[.slice A0 l0.length c0,.int .i64 0] 44 ?_;intro gb791 hg w77 hbox hb;have GE791:=sG hg;have HI791:=aZ ((by refine ⟨_,_,hbox,(by rw [hg];exact bs),HR0.out⟩:IsS44 w _ gb791 l0 0));replace HB:=sB hb;clear hb hbox hg)|(refine zg (some 16) func52 #[.pointer (some ⟨gb791,0,none⟩)] ?_;(with_reducible refine (YK.calls k gb791 l0 0 t792 t793 t794 w _ (zi HI791) bw HG.out A2.out).mono ?_);rintro e w78 ⟨rfl,hi,hb,hk⟩;refine ⟨_,rfl,?_⟩;replace HB:=aZ (hb);replace HI791:=aZ (hi);clear hb hk hi)|(refine box_ev 4 #[.string ⟨#[]⟩,.string ⟨#[]⟩] 61 ?_;intro gb795 hg w79 hbox hb;have BK795:=aZ hbox;have GE795:=sG hg;replace HB:=sB hb;have NB791_795:=aZ ((by rw [hg];exact Nat.ne_of_lt (IsS44.lt (show IsS44 w _ gb791 l0 t794 from zi HI791)):gb791≠gb795));have NB795_791:=aZ ((by rw [hg];exact Nat.ne_of_gt (IsS44.lt (show IsS44 w _ gb791 l0 t794 from zi HI791)):gb795≠gb791));replace HI791:=aZ (IsS44.below (zi HI791) hb);clear hb hbox hg;have hnb80:=NB795_791.out;have hnc80:=NB791_795.out;obtain ⟨hcz81_0,hfz81_0⟩:=zc BK795 0 (.string ⟨#[]⟩) rfl;obtain ⟨hcz81_1,hfz81_1⟩:=zc BK795 1 (.string ⟨#[]⟩) rfl)|(refine zg (some 19) func76 #[.agg #[.string t792,.string t793]] ?_;(with_reducible refine (Y8.calls k t792 t793 t796 t797 t798 _ A3.out).mono ?_);rintro e w82 ⟨rfl,hb⟩;refine ⟨_,rfl,?_⟩;replace HI791:=aZ (IsS44.below (show IsS44 w ((w79.setCell ⟨gb795,0,none⟩ (.string t792)).setCell ⟨gb795,1,none⟩ (.string t793)) gb791 l0 t794 from zi HI791) hb);replace BK795:=sP (.cells #[.string t792,.string t793] 61 (0,0)) BK795 hb;replace HB:=sB hb;clear hb;obtain ⟨hcz83_0,hfz83_0⟩:=zc BK795 0 (.string t792) rfl;obtain ⟨hcz83_1,hfz83_1⟩:=zc BK795 1 (.string t793) rfl)|(refine zg (some 24) func53 #[.agg #[.string t792,.string t793]] ?_;(with_reducible refine (Yk.calls k t792 t793 t799 _ A4.out).mono ?_);rintro e w84 ⟨rfl,hb⟩;refine ⟨_,rfl,?_⟩;replace HI791:=aZ (IsS44.below (zi HI791) hb);replace BK795:=sK BK795 hb;replace HB:=sB hb;clear hb;obtain ⟨hcz85_0,hfz85_0⟩:=zc BK795 0 (.string t792) rfl;obtain ⟨hcz85_1,hfz85_1⟩:=zc BK795 1 (.string t793) rfl)|(refine zg (some 42) func58 #[.agg #[.string t792,.string t793]] ?_;(with_reducible refine (YI.calls k t792 t793 t800 t801 t804 _ A6.out).mono ?_);rintro e w86 ⟨v802,v805,rfl,ho0,ho1,hb⟩;refine ⟨_,rfl,?_⟩;have HO803:=yL (fun k_=>k_≠gb795∧k_≠gb791) ho0 (fun k_ hk_=>⟨(zf BK795 hk_),(IsS44.fresh (zi HI791) k_ hk_)⟩);have HO806:=yL (fun k_=>k_≠gb795∧k_≠gb791) ho1 (fun k_ hk_=>⟨(zf BK795 hk_),(IsS44.fresh (zi HI791) k_ hk_)⟩);replace HI791:=aZ (IsS44.below (zi HI791) hb);replace BK795:=sK BK795 hb;replace HB:=sB hb;clear hb ho0 ho1;obtain ⟨Ao87,co87,rfl⟩:=Kd.V_slice HO803.out;obtain ⟨Ao88,co88,rfl⟩:=Kd.V_slice HO806.out)|(refine zg (some 43) func61 #[.agg #[.bool t800,.slice Ao87 t801.length co87,.slice Ao88 t804.length co88]] ?_;(with_reducible refine (YT.calls t800 _ _ t801 _ _ t804 t807 _ (zC (Kd.V_reads' HO803.out).2.2) ((Kd.V_reads' HO803.out).2.1) (zC (Kd.V_reads' HO806.out).2.2) ((Kd.V_reads' HO806.out).2.1) A7.out).mono ?_);rintro e w89 ⟨rfl,hb⟩;refine ⟨_,rfl,?_⟩;replace HO803:=yV HO803 hb;replace HO806:=yV HO806 hb;replace HI791:=aZ (IsS44.below (zi HI791) hb);replace BK795:=sK BK795 hb;replace HB:=sB hb;clear hb;obtain ⟨hcz90_0,hfz90_0⟩:=zc BK795 0 (.string t792) rfl;obtain ⟨hcz90_1,hfz90_1⟩:=zc BK795 1 (.string t793) rfl)|(refine zg (some 29) func58 #[.agg #[.string t792,.string t793]] ?_;(with_reducible refine (YI.calls k t792 t793 t809 t810 t813 _ A69.out).mono ?_);rintro e w91 ⟨v811,v814,rfl,ho0,ho1,hb⟩;refine ⟨_,rfl,?_⟩;replace HO803:=yV HO803 hb;replace HO806:=yV HO806 hb;have HO812:=yL (fun k_=>k_≠gb795∧k_≠gb791) ho0 (fun k_ hk_=>⟨(zf BK795 hk_),(IsS44.fresh (zi HI791) k_ hk_)⟩);have HO815:=yL (fun k_=>k_≠gb795∧k_≠gb791) ho1 (fun k_ hk_=>⟨(zf BK795 hk_),(IsS44.fresh (zi HI791) k_ hk_)⟩);replace HI791:=aZ (IsS44.below (zi HI791) hb);replace BK795:=sK BK795 hb;replace HB:=sB hb;clear hb ho0 ho1;obtain ⟨Ao92,co92,rfl⟩:=Kd.V_slice HO812.out;obtain ⟨Ao93,co93,rfl⟩:=Kd.V_slice HO815.out)|(refine zg (some 30) func77 #[.agg #[.bool t809,.slice Ao92 t810.length co92,.slice Ao93 t813.length co93],.int .i64 2147483647,.int .i64 62] ?_;(with_reducible refine (Y7.calls k t809 _ _ t810 _ _ t813 2147483647 62 t816 t817 true _ (zC (Kd.V_reads' HO812.out).2.2) ((Kd.V_reads' HO812.out).2.1) (zC (Kd.V_reads' HO815.out).2.2) ((Kd.V_reads' HO815.out).2.1) (Tryz.Gl.below HG.out bw) A70.out).mono ?_);rintro e w94 ⟨rfl,hb⟩;refine ⟨_,rfl,?_⟩;replace HO803:=yV HO803 hb;replace HO806:=yV HO806 hb;replace HO812:=yV HO812 hb;replace HO815:=yV HO815 hb;replace HI791:=aZ (IsS44.below (zi HI791) hb);replace BK795:=sK BK795 hb;replace HB:=sB hb;clear hb)|(refine zg (some 45) func20 #[] ?_;(with_reducible refine (YE.calls k  true _ (Tryz.Gl.below HG.out bw) A73.out).mono ?_);rintro e w95 ⟨rfl,hb⟩;refine ⟨_,rfl,?_⟩;replace HO803:=yV HO803 hb;replace HO806:=yV HO806 hb;replace HO812:=yV HO812 hb;replace HO815:=yV HO815 hb;replace HI791:=aZ (IsS44.below (zi HI791) hb);replace BK795:=sK BK795 hb;replace HB:=sB hb;clear hb))
  go_ret
  exact ⟨ze,bw⟩
 rw [if_pos c8] at H
 have c8b0:=decide_eq_true c8
 clear c8
 obtain ⟨t808,A9,H⟩:=zB H
 by_cases c10:t808=true
 case neg=>
  replace c10:=Bool.eq_false_iff.mpr c10
  subst c10
  replace H:=zU H
  exact absurd ((Option.some.inj H).trans hr.out) (by decide)
 subst c10
 replace H:=zT H
 by_cases c11:t798=1
 case neg=>
  rw [if_neg c11] at H
  obtain ⟨c11b0,c11b1⟩:=zX c11
  exact absurd ((Option.some.inj H).trans hr.out) (by decide)
 rw [if_pos c11] at H
 obtain ⟨c11b0,c11b1⟩:=zY c11
 clear c11
 by_cases c12:t796=0
 case neg=>
  rw [if_neg c12] at H
  obtain ⟨c12b0,c12b1⟩:=zX c12
  exact absurd ((Option.some.inj H).trans hr.out) (by decide)
 rw [if_pos c12] at H
 obtain ⟨c12b0,c12b1⟩:=zY c12
 clear c12
 obtain rfl:=Option.some.inj H
 go_enter func17,ntmps17
 go_wp2_with (first|(refine box_ev 14 #[.slice A0 l0.length c0,.int .i64 0] 44 ?_;intro gb791 hg w13 hbox hb;have GE791:=sG hg;have HI791:=aZ ((by refine ⟨_,_,hbox,(by rw [hg];exact bs),HR0.out⟩:IsS44 w _ gb791 l0 0));replace HB:=sB hb;clear hb hbox hg)|(refine zg (some 16) func52 #[.pointer (some ⟨gb791,0,none⟩)] ?_;(with_reducible refine (YK.calls k gb791 l0 0 t792 t793 t794 w _ (zi HI791) bw HG.out A2.out).mono ?_);rintro e w14 ⟨rfl,hi,hb,hk⟩;refine ⟨_,rfl,?_⟩;replace HB:=aZ (hb);replace HI791:=aZ (hi);clear hb hk hi)|(refine box_ev 4 #[.string ⟨#[]⟩,.string ⟨#[]⟩] 61 ?_;intro gb795 hg w15 hbox hb;have BK795:=aZ hbox;have GE795:=sG hg;replace HB:=sB hb;have NB791_795:=aZ ((by rw [hg];exact Nat.ne_of_lt (IsS44.lt (show IsS44 w _ gb791 l0 t794 from zi HI791)):gb791≠gb795));have NB795_791:=aZ ((by rw [hg];exact Nat.ne_of_gt (IsS44.lt (show IsS44 w _ gb791 l0 t794 from zi HI791)):gb795≠gb791));replace HI791:=aZ (IsS44.below (zi HI791) hb);clear hb hbox hg;have hnb16:=NB795_791.out;have hnc16:=NB791_795.out;obtain ⟨hcz17_0,hfz17_0⟩:=zc BK795 0 (.string ⟨#[]⟩) rfl;obtain ⟨hcz17_1,hfz17_1⟩:=zc BK795 1 (.string ⟨#[]⟩) rfl)|(refine zg (some 19) func76 #[.agg #[.string t792,.string t793]] ?_;(with_reducible refine (Y8.calls k t792 t793 t796 t797 t798 _ A3.out).mono ?_);rintro e w18 ⟨rfl,hb⟩;refine ⟨_,rfl,?_⟩;replace HI791:=aZ (IsS44.below (show IsS44 w ((w15.setCell ⟨gb795,0,none⟩ (.string t792)).setCell ⟨gb795,1,none⟩ (.string t793)) gb791 l0 t794 from zi HI791) hb);replace BK795:=sP (.cells #[.string t792,.string t793] 61 (0,0)) BK795 hb;replace HB:=sB hb;clear hb;obtain ⟨hcz19_0,hfz19_0⟩:=zc BK795 0 (.string t792) rfl;obtain ⟨hcz19_1,hfz19_1⟩:=zc BK795 1 (.string t793) rfl)|(refine zg (some 24) func53 #[.agg #[.string t792,.string t793]] ?_;(with_reducible refine (Yk.calls k t792 t793 t799 _ A4.out).mono ?_);rintro e w20 ⟨rfl,hb⟩;refine ⟨_,rfl,?_⟩;replace HI791:=aZ (IsS44.below (zi HI791) hb);replace BK795:=sK BK795 hb;replace HB:=sB hb;clear hb;obtain ⟨hcz21_0,hfz21_0⟩:=zc BK795 0 (.string t792) rfl;obtain ⟨hcz21_1,hfz21_1⟩:=zc BK795 1 (.string t793) rfl)|(refine zg (some 42) func58 #[.agg #[.string t792,.string t793]] ?_;(with_reducible refine (YI.calls k t792 t793 t800 t801 t804 _ A6.out).mono ?_);rintro e w22 ⟨v802,v805,rfl,ho0,ho1,hb⟩;refine ⟨_,rfl,?_⟩;have HO803:=yL (fun k_=>k_≠gb795∧k_≠gb791) ho0 (fun k_ hk_=>⟨(zf BK795 hk_),(IsS44.fresh (zi HI791) k_ hk_)⟩);have HO806:=yL (fun k_=>k_≠gb795∧k_≠gb791) ho1 (fun k_ hk_=>⟨(zf BK795 hk_),(IsS44.fresh (zi HI791) k_ hk_)⟩);replace HI791:=aZ (IsS44.below (zi HI791) hb);replace BK795:=sK BK795 hb;replace HB:=sB hb;clear hb ho0 ho1;obtain ⟨Ao23,co23,rfl⟩:=Kd.V_slice HO803.out;obtain ⟨Ao24,co24,rfl⟩:=Kd.V_slice HO806.out)|(refine zg (some 43) func61 #[.agg #[.bool t800,.slice Ao23 t801.length co23,.slice Ao24 t804.length co24]] ?_;(with_reducible refine (YT.calls t800 _ _ t801 _ _ t804 t807 _ (zC (Kd.V_reads' HO803.out).2.2) ((Kd.V_reads' HO803.out).2.1) (zC (Kd.V_reads' HO806.out).2.2) ((Kd.V_reads' HO806.out).2.1) A7.out).mono ?_);rintro e w25 ⟨rfl,hb⟩;refine ⟨_,rfl,?_⟩;replace HO803:=yV HO803 hb;replace HO806:=yV HO806 hb;replace HI791:=aZ (IsS44.below (zi HI791) hb);replace BK795:=sK BK795 hb;replace HB:=sB hb;clear hb)|(refine zg (some 45) func20 #[] ?_;(with_reducible refine (YE.calls k  true _ (Tryz.Gl.below HG.out bw) A9.out).mono ?_);rintro e w26 ⟨rfl,hb⟩;refine ⟨_,rfl,?_⟩;replace HO803:=yV HO803 hb;replace HO806:=yV HO806 hb;replace HI791:=aZ (IsS44.below (zi HI791) hb);replace BK795:=sK BK795 hb;replace HB:=sB hb;clear hb))
 go_ret
 exact ⟨ze,bw⟩
def YD.Pure:Prop:=∀ (l0:List Int),l0.length≤maxLen→l0.length*8≤140737488351232→(∀ x ∈ l0,(Lit.int .i64 x).wf=true)→∃ k,YD.f k l0=some true
theorem YD.walk (P:YD.Pure) (a0:Option Addr) (len0 cap0:Nat) (z0:List Int) (w:World) (w0:(a0=none∧len0=0∧cap0=0∧z0=[])∨∃ x,a0=some x∧len0≤cap0∧cap0≤maxLen∧z0.length=cap0∧(∀ i,i<z0.length→w.cell? (x.add i)=some (.int .i64 (z0.getD i 0)))∧∀ n ∈ z0,(Lit.int .i64 n).wf=true) (y0:len0*8≤140737488351232) (hG:Tryz.Gl w) :
  Calls Tryz.prog 17 #[.slice a0 len0 cap0] w fun e w'=>e = .returned (.bool true)∧Below w.heap.size w w':=by
 obtain ⟨l0,rfl,hr0,hm0,hw0,hc0⟩:=ReadsInt.ofRowC w0
 obtain ⟨k,h⟩:=P l0 hm0 y0 hw0
 refine (YD.calls k _ _ l0 true w (Kd.C_of_reads (d:=(0:Int)) (h1:=fun _=>rfl) hr0) hc0 hG h ⟨rfl⟩).mono ?_
 rintro e w' ⟨rfl,hd⟩
 exact ⟨rfl,hd⟩
end Go.Proofs.YtaffkbemjbfajaaGreatDoor.PNumMultipliers
