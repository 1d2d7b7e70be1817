-- By a program of this session: functions as plain Lean functions, each with its proof over the machine.
import Derived.Test.YtaffkbemjbfajaaGreatDoorPNumMultipliersx0
import Derived.Test.YtaffkbemjbfajaaGreatDoorPNumMultipliersx1
import Derived.Test.YtaffkbemjbfajaaGreatDoorPNumMultipliersx3
import Derived.Test.YtaffkbemjbfajaaGreatDoorPNumMultipliersx2
namespace Go.Proofs.YtaffkbemjbfajaaGreatDoor.PNumMultipliers
open Go.RowKit Go.Proofs.Tryz Go.Proofs.YtaffkbemjbfajaaGreatDoorW.PrintWords Go.Proofs.YtaffkbemjbfajaaGreatDoorW.PrintLast Go.Proofs.YtaffkbemjbfajaaGreatDoorW.PrintMore
attribute [local go_sem] max2_int min2_int max_two min_two max_three min_three max_four min_four
set_option linter.unusedVariables false
set_option linter.unusedSimpArgs false
set_option maxHeartbeats 8000000
set_option maxRecDepth 100000
mutual
def Yd.j0:Nat→List Int→List Int→List Int→Bool→Bool→List Int→List Int→Bool→List Int→List Int→Option (Bool×List Int×List Int)
 | 0,_,_,_,_,_,_,_,_,_,_=>none
 | k+1,x5,x6,x7,x23,x498000,x498001,x498002,x499000,x499001,x499002=>if x23=true then ((Ye.f k x498001 x499002).bind fun t502=>((Ye.f k x499001 x498002).bind fun t505=>((Ye.f k x498002 x499002).bind fun t508=>(Yd.j1 k t502 t505 t508 x498000 x498001 x498002 x499000 x499001 x499002)))) else (Yd.j1 k x5 x6 x7 x498000 x498001 x498002 x499000 x499001 x499002)
def Yd.j1:Nat→List Int→List Int→List Int→Bool→List Int→List Int→Bool→List Int→List Int→Option (Bool×List Int×List Int)
 | 0,_,_,_,_,_,_,_,_,_=>none
 | k+1,x5,x6,x7,x498000,x498001,x498002,x499000,x499001,x499002=>if (x498000==x499000)=true then ((Y0k.f k x5 x6).bind fun t511=>((Yz.f k x498000 t511 x7).bind fun bt514=>(some (bt514.1,bt514.2.1,bt514.2.2)))) else ((YG.f k x5 x6).bind fun t521=>(if t521≥0 then ((YN.f k x5 x6).bind fun t522=>((Yz.f k x498000 t522 x7).bind fun bt525=>(some (bt525.1,bt525.2.1,bt525.2.2)))) else ((YN.f k x6 x5).bind fun t532=>((Yz.f k x499000 t532 x7).bind fun bt535=>(some (bt535.1,bt535.2.1,bt535.2.2))))))
end
def Yd.f (k:Nat) (a0_0:Bool) (l0_1:List Int) (l0_2:List Int) (a1_0:Bool) (l1_1:List Int) (l1_2:List Int):Option (Bool×List Int×List Int):=(YJ.f l0_2).bind fun t500=>(if t500=true then ((YJ.f l1_2).bind fun t501=>(Yd.j0 k l0_1 l1_1 l0_2 (!t501) a0_0 l0_1 l0_2 a1_0 l1_1 l1_2)) else (Yd.j0 k l0_1 l1_1 l0_2 true a0_0 l0_1 l0_2 a1_0 l1_1 l1_2))
def Yd.T4:Bool×List (List Nat×List Nat):=(true,[([],[]),([0],[0]),([],[]),([2],[2]),([1,3],[1,3]),([],[]),([5],[5]),([],[]),([7],[7]),([6,8,4],[6,8]),([],[]),([10],[10]),([],[]),([12],[12]),([11,13,9],[11,13]),([4,14,0,1,2,3,4],[4]),([9,15,0,1,2,3,4,5,6,7,8,9,15],[9]),([14,16,0,1,2,3,4,5,6,7,8,9,10,11,12,13,14,15,16],[14])])
def Yd.B4:List Nat:=[0,1,0,4,15,0,32,0,128,511,0,1024,0,4096,16383,32767,65535,131071]
theorem Yd.tab4:rtab .any (opsOf Tryz.f117 4)=Yd.T4:=by kernel_rfl
theorem Yd.bits4:waitsOk Yd.T4.2 Yd.B4=true:=by kernel_rfl
def Yd.T6:Bool×List (List Nat×List Nat):=(true,[([],[]),([0],[0]),([],[]),([],[]),([2,3],[2,3]),([],[]),([1,4,5,4],[1,4,5]),([6,6,0,1,2,3,4,5,6],[6])])
def Yd.B6:List Nat:=[0,1,0,0,12,0,63,127]
theorem Yd.tab6:rtab .any (opsOf Tryz.f117 6)=Yd.T6:=by kernel_rfl
theorem Yd.bits6:waitsOk Yd.T6.2 Yd.B6=true:=by kernel_rfl
def Yd.T8:Bool×List (List Nat×List Nat):=(true,[([],[]),([0],[0]),([],[]),([],[]),([2,3],[2,3]),([],[]),([1,4,5,4],[1,4,5]),([6,6,0,1,2,3,4,5,6],[6])])
def Yd.B8:List Nat:=[0,1,0,0,12,0,63,127]
theorem Yd.tab8:rtab .any (opsOf Tryz.f117 8)=Yd.T8:=by kernel_rfl
theorem Yd.bits8:waitsOk Yd.T8.2 Yd.B8=true:=by kernel_rfl
def Yd.T9:Bool×List (List Nat×List Nat):=(true,[([],[]),([0],[0]),([],[]),([],[]),([2,3],[2,3]),([],[]),([1,4,5,4],[1,4,5]),([6,6,0,1,2,3,4,5,6],[6])])
def Yd.B9:List Nat:=[0,1,0,0,12,0,63,127]
theorem Yd.tab9:rtab .any (opsOf Tryz.f117 9)=Yd.T9:=by kernel_rfl
theorem Yd.bits9:waitsOk Yd.T9.2 Yd.B9=true:=by kernel_rfl
theorem Yd.calls (k:Nat) (a0_0:Bool) (P0_1_:Nat→Prop) (A0_1:Option Addr) (c0_1:Nat) (l0_1:List Int) (P0_2_:Nat→Prop) (A0_2:Option Addr) (c0_2:Nat) (l0_2:List Int) (a1_0:Bool) (P1_1_:Nat→Prop) (A1_1:Option Addr) (c1_1:Nat) (l1_1:List Int) (A1_2:Option Addr) (c1_2:Nat) (l1_2:List Int) (r1:Bool) (r2:List Int) (r3:List Int) (w:World) (hs0_1:Kd.V (Kd.int .u32) 97 w w.heap.size (fun k_=>P0_1_ k_) (.slice A0_1 l0_1.length c0_1) l0_1) (hs0_2:Kd.V (Kd.int .u32) 97 w w.heap.size (fun k_=>P0_2_ k_) (.slice A0_2 l0_2.length c0_2) l0_2) (hs1_1:Kd.V (Kd.int .u32) 97 w w.heap.size (fun k_=>P1_1_ k_) (.slice A1_1 l1_1.length c1_1) l1_1) (hr1_2:Kd.C (Kd.int .u32) w A1_2 l1_2.length l1_2) (hc1_2:l1_2.length≤c1_2) (h:Yd.f k a0_0 l0_1 l0_2 a1_0 l1_1 l1_2=some (r1,r2,r3)) :
  Calls Tryz.prog 117 #[.agg #[.bool a0_0,.slice A0_1 l0_1.length c0_1,.slice A0_2 l0_2.length c0_2],.agg #[.bool a1_0,.slice A1_1 l1_1.length c1_1,.slice A1_2 l1_2.length c1_2]] w fun e w'=>∃ v1_ v2_:Value,e = .returned (.agg #[.bool r1,v1_,v2_])∧Kd.V (Kd.int .u32) 97 w' w.heap.size (fun k_=>((P0_1_ k_∨P0_2_ k_∨P1_1_ k_)∨w.heap.size≤k_)) v1_ r2∧Kd.V (Kd.int .u32) 97 w' w.heap.size (fun k_=>((P0_1_ k_∨P0_2_ k_∨P1_1_ k_)∨w.heap.size≤k_)) v2_ r3∧Below w.heap.size w w':=by
 have hu103:=underlying103
 have HO0_1:=aZ (show Kd.V (Kd.int .u32) 97 w w.heap.size (fun k_=>((P0_1_ k_∨P0_2_ k_∨P1_1_ k_)∨w.heap.size≤k_)) (.slice A0_1 l0_1.length c0_1) l0_1 from Kd.V_mono hs0_1 (fun k_ hk=>.inl (.inl hk)))
 have HO0_2:=aZ (show Kd.V (Kd.int .u32) 97 w w.heap.size (fun k_=>((P0_1_ k_∨P0_2_ k_∨P1_1_ k_)∨w.heap.size≤k_)) (.slice A0_2 l0_2.length c0_2) l0_2 from Kd.V_mono hs0_2 (fun k_ hk=>.inl (.inr (.inl hk))))
 have HO1_1:=aZ (show Kd.V (Kd.int .u32) 97 w w.heap.size (fun k_=>((P0_1_ k_∨P0_2_ k_∨P1_1_ k_)∨w.heap.size≤k_)) (.slice A1_1 l1_1.length c1_1) l1_1 from Kd.V_mono hs1_1 (fun k_ hk=>.inl (.inr (.inr hk))))
 have HR1_2:=aZ hr1_2
 have HC1_2:=aZ hc1_2
 clear hr1_2 hc1_2
 have HB:=aZ (Below.refl w.heap.size w)
 have H:=h
 unfold Yd.f at H
 clear h
 have HC3:=aZ H
 clear H
 go_enter func117,ntmps117
 try go_wp2_with (first|(refine box_ev 2 #[.bool a0_0,.slice A0_1 l0_1.length c0_1,.slice A0_2 l0_2.length c0_2] 103 ?_;intro gb497 hg w4 hbox hb;replace HO0_1:=yE HO0_1 hg hb;replace HO0_2:=yE HO0_2 hg hb;replace HO1_1:=yE HO1_1 hg hb;have BK497:=aZ hbox;have GE497:=sG hg;replace HB:=sB hb;clear hb hbox hg)|(refine box_ev 3 #[.bool a1_0,.slice A1_1 l1_1.length c1_1,.slice A1_2 l1_2.length c1_2] 103 ?_;intro gb498 hg w5 hbox hb;replace HO0_1:=yE HO0_1 hg hb;replace HO0_2:=yE HO0_2 hg hb;replace HO1_1:=yE HO1_1 hg hb;have BK498:=aZ hbox;have GE498:=sG hg;replace HB:=sB hb;obtain ⟨NB497_498,NB498_497,BK497⟩:=sX hg hb BK497;clear hb hbox hg)|(refine box_ev 4 #[.bool false,.slice none 0 0,.slice none 0 0] 103 ?_;intro gb499 hg w6 hbox hb;replace HO0_1:=yE HO0_1 hg hb;replace HO0_2:=yE HO0_2 hg hb;replace HO1_1:=yE HO1_1 hg hb;have BK499:=aZ hbox;have GE499:=sG hg;replace HB:=sB hb;obtain ⟨NB497_499,NB499_497,BK497⟩:=sX hg hb BK497;obtain ⟨NB498_499,NB499_498,BK498⟩:=sX hg hb BK498;clear hb hbox hg))
 replace HO0_1:=aZ (Kd.V_drew HO0_1.out)
 replace HO0_2:=aZ (Kd.V_drew HO0_2.out)
 replace HO1_1:=aZ (Kd.V_drew HO1_1.out)
 replace BK497:=aZ (blk_drew BK497.out)
 replace BK498:=aZ (blk_drew BK498.out)
 replace BK499:=aZ (blk_drew BK499.out)
 replace HB:=aZ (below_drew1 HB.out)
 refine start_ (n:=6) (S:=fun w'=>w'.cell? ⟨gb497,0,none⟩=some (.bool a0_0)∧w'.cell? ⟨gb497,1,none⟩=some (.slice A0_1 l0_1.length c0_1)∧w'.cell? ⟨gb497,2,none⟩=some (.slice A0_2 l0_2.length c0_2)∧w'.cell? ⟨gb498,0,none⟩=some (.bool a1_0)∧w'.cell? ⟨gb498,1,none⟩=some (.slice A1_1 l1_1.length c1_1)∧w'.cell? ⟨gb498,2,none⟩=some (.slice A1_2 l1_2.length c1_2)) (ds:=[]) #[false,false,false,false,false,false] (by kernel_rfl) rfl rfl ⟨zh BK497 0,zh BK497 1,zh BK497 2,zh BK498 0,zh BK498 1,zh BK498 2⟩ (fun hHeld=>?_)
 generalize w6.drew=w7 at HO0_1 HO0_2 HO1_1 BK497 BK498 BK499 HB hHeld ⊢
 refine pv 0 (some 8) ?_
 refine pv 2 (some 10) ?_
 refine tv 1 (some 9) hHeld ?_
 refine pv 4 (some 5) ?_
 refine tv 3 (some 11) hHeld ?_
 refine pv 5 (some 6) ?_
 refine done_ (by kernel_rfl) ?_
 have hnb8:=NB497_498.out
 have hnc8:=NB498_497.out
 have hnb9:=NB497_499.out
 have hnc9:=NB499_497.out
 obtain ⟨hcz10_0,hfz10_0⟩:=zc BK497 0 (.bool a0_0) rfl
 obtain ⟨hcz10_1,hfz10_1⟩:=zc BK497 1 (.slice A0_1 l0_1.length c0_1) rfl
 obtain ⟨hcz10_2,hfz10_2⟩:=zc BK497 2 (.slice A0_2 l0_2.length c0_2) rfl
 go_upto_region 3 with (fail)
 go_cut [23] (fun v23 wc=>∃ (kq:Nat) (x23_2:Bool),v23 = .bool x23_2∧Aside0 (Yd.j0 kq l0_1 l1_1 l0_2 x23_2 a0_0 l0_1 l0_2 a1_0 l1_1 l1_2=some (r1,r2,r3))∧Aside0 (kq≤k)∧Aside0 (Kd.V (Kd.int .u32) 97 wc w.heap.size (fun k_=>((P0_1_ k_∨P0_2_ k_∨P1_1_ k_)∨w.heap.size≤k_)∧k_≠gb497∧k_≠gb498∧k_≠gb499) (.slice A0_1 l0_1.length c0_1) l0_1)∧Aside0 (Kd.V (Kd.int .u32) 97 wc w.heap.size (fun k_=>((P0_1_ k_∨P0_2_ k_∨P1_1_ k_)∨w.heap.size≤k_)∧k_≠gb497∧k_≠gb498∧k_≠gb499) (.slice A1_1 l1_1.length c1_1) l1_1)∧Aside0 (Kd.V (Kd.int .u32) 97 wc w.heap.size (fun k_=>((P0_1_ k_∨P0_2_ k_∨P1_1_ k_)∨w.heap.size≤k_)∧k_≠gb497∧k_≠gb498∧k_≠gb499) (.slice A0_2 l0_2.length c0_2) l0_2)∧Aside0 (Kd.V (Kd.int .u32) 97 wc w.heap.size (fun k_=>((P0_1_ k_∨P0_2_ k_∨P1_1_ k_)∨w.heap.size≤k_)∧k_≠gb497∧k_≠gb498∧k_≠gb499) (.slice A0_1 l0_1.length c0_1) l0_1)∧Aside0 (Kd.V (Kd.int .u32) 97 wc w.heap.size (fun k_=>((P0_1_ k_∨P0_2_ k_∨P1_1_ k_)∨w.heap.size≤k_)∧k_≠gb497∧k_≠gb498∧k_≠gb499) (.slice A0_2 l0_2.length c0_2) l0_2)∧Aside0 (Kd.V (Kd.int .u32) 97 wc w.heap.size (fun k_=>((P0_1_ k_∨P0_2_ k_∨P1_1_ k_)∨w.heap.size≤k_)∧k_≠gb497∧k_≠gb498∧k_≠gb499) (.slice A1_1 l1_1.length c1_1) l1_1)∧Aside0 (wc.heap[gb497]? = some (.cells #[.bool a0_0,(.slice A0_1 l0_1.length c0_1),(.slice A0_2 l0_2.length c0_2)] 103 (0,0)))∧Aside0 (wc.heap[gb498]? = some (.cells #[.bool a1_0,(.slice A1_1 l1_1.length c1_1),(.slice A1_2 l1_2.length c1_2)] 103 (0,0)))∧Aside0 (wc.heap[gb499]? = some (.cells #[.bool false,(.slice none 0 0),(.slice none 0 0)] 103 (0,0)))∧Aside0 (Below w.heap.size w wc))
 case first =>
  have H:=HC3.out
  clear HC3
  obtain ⟨t500,A11,H⟩:=zB H
  by_cases c12:t500=true
  case neg=>
   replace c12:=Bool.eq_false_iff.mpr c12
   subst c12
   replace H:=zU H
   have H':=aZ H
   clear H
   have hnb19:=NB497_498.out
   have hnc19:=NB498_497.out
   have hnb20:=NB497_499.out
   have hnc20:=NB499_497.out
   obtain ⟨hcz21_0,hfz21_0⟩:=zc BK497 0 (.bool a0_0) rfl
   obtain ⟨hcz21_1,hfz21_1⟩:=zc BK497 1 (.slice A0_1 l0_1.length c0_1) rfl
   obtain ⟨hcz21_2,hfz21_2⟩:=zc BK497 2 (.slice A0_2 l0_2.length c0_2) rfl
   go_wp2_with (first|(refine zg (some 16) func109 #[.slice A0_2 l0_2.length c0_2] ?_;(with_reducible refine (YJ.calls _ _ l0_2 false _ (zC (Kd.V_reads' HO0_2.out).2.2) ((Kd.V_reads' HO0_2.out).2.1) A11.out).mono ?_);rintro e w' ⟨rfl,⟨nd,rfl⟩⟩;refine ⟨_,rfl,?_⟩))
   go_meet
   case rel=>exact ⟨_,(true),zs,H',⟨by first|omega|exact Nat.le_refl _⟩,⟨vM HO0_1 (fun _ hk=>⟨hk.1.1.1,⟨hk.1.1.2,⟨hk.1.2,hk.2⟩⟩⟩)⟩,⟨vM HO1_1 (fun _ hk=>⟨hk.1.1.1,⟨hk.1.1.2,⟨hk.1.2,hk.2⟩⟩⟩)⟩,⟨vM HO0_2 (fun _ hk=>⟨hk.1.1.1,⟨hk.1.1.2,⟨hk.1.2,hk.2⟩⟩⟩)⟩,⟨vM HO0_1 (fun _ hk=>⟨hk.1.1.1,⟨hk.1.1.2,⟨hk.1.2,hk.2⟩⟩⟩)⟩,⟨vM HO0_2 (fun _ hk=>⟨hk.1.1.1,⟨hk.1.1.2,⟨hk.1.2,hk.2⟩⟩⟩)⟩,⟨vM HO1_1 (fun _ hk=>⟨hk.1.1.1,⟨hk.1.1.2,⟨hk.1.2,hk.2⟩⟩⟩)⟩,⟨zb BK497⟩,⟨zb BK498⟩,⟨zb BK499⟩,⟨bw⟩⟩
  subst c12
  replace H:=zT H
  obtain ⟨t501,A13,H⟩:=zB H
  have H':=aZ H
  clear H
  have hnb14:=NB497_498.out
  have hnc14:=NB498_497.out
  have hnb15:=NB497_499.out
  have hnc15:=NB499_497.out
  obtain ⟨hcz16_0,hfz16_0⟩:=zc BK497 0 (.bool a0_0) rfl
  obtain ⟨hcz16_1,hfz16_1⟩:=zc BK497 1 (.slice A0_1 l0_1.length c0_1) rfl
  obtain ⟨hcz16_2,hfz16_2⟩:=zc BK497 2 (.slice A0_2 l0_2.length c0_2) rfl
  go_wp2_with (first|(refine zg (some 16) func109 #[.slice A0_2 l0_2.length c0_2] ?_;(with_reducible refine (YJ.calls _ _ l0_2 true _ (zC (Kd.V_reads' HO0_2.out).2.2) ((Kd.V_reads' HO0_2.out).2.1) A11.out).mono ?_);rintro e w' ⟨rfl,⟨nd,rfl⟩⟩;refine ⟨_,rfl,?_⟩;have hnb17:=NB498_499.out;have hnc17:=NB499_498.out;obtain ⟨hcz18_0,hfz18_0⟩:=zc BK498 0 (.bool a1_0) rfl;obtain ⟨hcz18_1,hfz18_1⟩:=zc BK498 1 (.slice A1_1 l1_1.length c1_1) rfl;obtain ⟨hcz18_2,hfz18_2⟩:=zc BK498 2 (.slice A1_2 l1_2.length c1_2) rfl)|(go_at_call 109;(with_reducible refine (YJ.calls _ _ l1_2 t501 _ (zC (Kd.C_below HR1_2.out bw)) HC1_2.out A13.out).mono ?_);rintro e w' ⟨rfl,⟨nd,rfl⟩⟩))
  go_meet
  case rel=>exact ⟨_,(!t501),zs,H',⟨by first|omega|exact Nat.le_refl _⟩,⟨vM HO0_1 (fun _ hk=>⟨hk.1.1.1,⟨hk.1.1.2,⟨hk.1.2,hk.2⟩⟩⟩)⟩,⟨vM HO1_1 (fun _ hk=>⟨hk.1.1.1,⟨hk.1.1.2,⟨hk.1.2,hk.2⟩⟩⟩)⟩,⟨vM HO0_2 (fun _ hk=>⟨hk.1.1.1,⟨hk.1.1.2,⟨hk.1.2,hk.2⟩⟩⟩)⟩,⟨vM HO0_1 (fun _ hk=>⟨hk.1.1.1,⟨hk.1.1.2,⟨hk.1.2,hk.2⟩⟩⟩)⟩,⟨vM HO0_2 (fun _ hk=>⟨hk.1.1.1,⟨hk.1.1.2,⟨hk.1.2,hk.2⟩⟩⟩)⟩,⟨vM HO1_1 (fun _ hk=>⟨hk.1.1.1,⟨hk.1.1.2,⟨hk.1.2,hk.2⟩⟩⟩)⟩,⟨zb BK497⟩,⟨zb BK498⟩,⟨zb BK499⟩,⟨bw⟩⟩
 case rest =>
  clear HC3
  obtain ⟨kq,x23_2,rfl,HA,HJ2,HO_5,HO_6,HO_7,HO_498001,HO_498002,HO_499001,BK497,BK498,BK499,HB⟩:=hcut
  cases kq with
  | zero=>exact absurd HA.out (by simp [Yd.j0])
  | succ kj2 =>
   have H:=HA.out
   clear HA
   simp only [Yd.j0] at H
   have HC22:=aZ H
   clear H
   go_upto_if 23 with (fail)
   go_cut [5,6,7] (fun v5 v6 v7 wc=>∃ (kq:Nat) (x5_21:List Int) (x6_21:List Int) (x7_21:List Int),Aside0 (Yd.j1 kq x5_21 x6_21 x7_21 a0_0 l0_1 l0_2 a1_0 l1_1 l1_2=some (r1,r2,r3))∧Aside0 (kq≤kj2)∧Aside0 (Kd.V (Kd.int .u32) 97 wc w.heap.size (fun k_=>((P0_1_ k_∨P0_2_ k_∨P1_1_ k_)∨w.heap.size≤k_)∧k_≠gb497∧k_≠gb498∧k_≠gb499) v5 x5_21)∧Aside0 (Kd.V (Kd.int .u32) 97 wc w.heap.size (fun k_=>((P0_1_ k_∨P0_2_ k_∨P1_1_ k_)∨w.heap.size≤k_)∧k_≠gb497∧k_≠gb498∧k_≠gb499) v6 x6_21)∧Aside0 (Kd.V (Kd.int .u32) 97 wc w.heap.size (fun k_=>((P0_1_ k_∨P0_2_ k_∨P1_1_ k_)∨w.heap.size≤k_)∧k_≠gb497∧k_≠gb498∧k_≠gb499) v7 x7_21)∧Aside0 (Kd.V (Kd.int .u32) 97 wc w.heap.size (fun k_=>((P0_1_ k_∨P0_2_ k_∨P1_1_ k_)∨w.heap.size≤k_)∧k_≠gb497∧k_≠gb498∧k_≠gb499) (.slice A0_1 l0_1.length c0_1) l0_1)∧Aside0 (Kd.V (Kd.int .u32) 97 wc w.heap.size (fun k_=>((P0_1_ k_∨P0_2_ k_∨P1_1_ k_)∨w.heap.size≤k_)∧k_≠gb497∧k_≠gb498∧k_≠gb499) (.slice A0_2 l0_2.length c0_2) l0_2)∧Aside0 (Kd.V (Kd.int .u32) 97 wc w.heap.size (fun k_=>((P0_1_ k_∨P0_2_ k_∨P1_1_ k_)∨w.heap.size≤k_)∧k_≠gb497∧k_≠gb498∧k_≠gb499) (.slice A1_1 l1_1.length c1_1) l1_1)∧Aside0 (wc.heap[gb497]? = some (.cells #[.bool a0_0,(.slice A0_1 l0_1.length c0_1),(.slice A0_2 l0_2.length c0_2)] 103 (0,0)))∧Aside0 (wc.heap[gb498]? = some (.cells #[.bool a1_0,(.slice A1_1 l1_1.length c1_1),(.slice A1_2 l1_2.length c1_2)] 103 (0,0)))∧Aside0 (wc.heap[gb499]? = some (.cells #[.bool false,(.slice none 0 0),(.slice none 0 0)] 103 (0,0)))∧Aside0 (Below w.heap.size w wc))
   case first =>
    have H:=HC22.out
    clear HC22
    by_cases c23:x23_2=true
    case neg=>
     replace c23:=Bool.eq_false_iff.mpr c23
     subst c23
     replace H:=zU H
     have H':=aZ H
     clear H
     go_wp2
     go_meet
     case rel=>exact ⟨_,(l0_1),(l1_1),(l0_2),H',⟨by have:=HJ2.out;first|omega|exact Nat.le_refl _⟩,⟨zV HO_5⟩,⟨zV HO_6⟩,⟨zV HO_7⟩,⟨zV HO_498001⟩,⟨zV HO_498002⟩,⟨zV HO_499001⟩,⟨zb BK497⟩,⟨zb BK498⟩,⟨zb BK499⟩,⟨bw⟩⟩
    subst c23
    replace H:=zT H
    obtain ⟨t502,A24,H⟩:=zB H
    obtain ⟨t505,A25,H⟩:=zB H
    obtain ⟨t508,A26,H⟩:=zB H
    have H':=aZ H
    clear H
    try go_wp2
    replace HO_5:=aZ (Kd.V_drew HO_5.out)
    replace HO_6:=aZ (Kd.V_drew HO_6.out)
    replace HO_7:=aZ (Kd.V_drew HO_7.out)
    replace HO_498001:=aZ (Kd.V_drew HO_498001.out)
    replace HO_498002:=aZ (Kd.V_drew HO_498002.out)
    replace HO_499001:=aZ (Kd.V_drew HO_499001.out)
    replace BK497:=aZ (blk_drew BK497.out)
    replace BK498:=aZ (blk_drew BK498.out)
    replace BK499:=aZ (blk_drew BK499.out)
    replace HB:=aZ (below_drew1 HB.out)
    refine start_ (n:=18) (S:=fun w'=>w'.cell? ⟨gb497,0,none⟩=some (.bool a0_0)∧w'.cell? ⟨gb497,1,none⟩=some (.slice A0_1 l0_1.length c0_1)∧w'.cell? ⟨gb497,2,none⟩=some (.slice A0_2 l0_2.length c0_2)∧w'.cell? ⟨gb498,0,none⟩=some (.bool a1_0)∧w'.cell? ⟨gb498,1,none⟩=some (.slice A1_1 l1_1.length c1_1)∧w'.cell? ⟨gb498,2,none⟩=some (.slice A1_2 l1_2.length c1_2)) (ds:=[]) #[false,false,false,false,false,false,false,false,false,false,false,false,false,false,false,false,false,false] (by kernel_rfl) rfl rfl ⟨zh BK497 0,zh BK497 1,zh BK497 2,zh BK498 0,zh BK498 1,zh BK498 2⟩ (fun hHeld=>?_);refine with_tabW Yd.tab4 Yd.bits4 (fun HT_ HW_=>?_)
    generalize wc.drew=w27 at HO_5 HO_6 HO_7 HO_498001 HO_498002 HO_499001 BK497 BK498 BK499 HB hHeld ⊢
    refine pu 0 (some 24) HT_ ?_
    refine pu 2 (some 26) HT_ ?_
    refine pu 5 (some 29) HT_ ?_
    refine pu 7 (some 31) HT_ ?_
    refine pu 10 (some 34) HT_ ?_
    refine pu 12 (some 36) HT_ ?_
    refine tk 1 (some 25) HT_ HW_ hHeld ?_
    refine tk 3 (some 27) HT_ HW_ hHeld ?_
    refine tk 6 (some 30) HT_ HW_ hHeld ?_
    refine tk 8 (some 32) HT_ HW_ hHeld ?_
    refine tk 11 (some 35) HT_ HW_ hHeld ?_
    refine tk 13 (some 37) HT_ HW_ hHeld ?_
    refine one_ (i:=4) (N:=some 28) #[true,true,true,true,true,true,true,true,true,false,true,true,true,true,false,false,false,false] rfl rfl (one_of HT_.out (by kernel_rfl)) (by decide) (fun K hK=>?_)
    refine goes_ func149 (by kernel_rfl) rfl #[.slice A0_1 l0_1.length c0_1,.slice A1_2 l1_2.length c1_2] (by rfl) rfl rfl zm ?_
    with_reducible refine (Ye.calls kj2 _ _ l0_1 _ _ l1_2 t502 _ (zC (Kd.V_reads' HO_498001.out).2.2) ((Kd.V_reads' HO_498001.out).2.1) (zC (Kd.C_below HR1_2.out HB.out)) HC1_2.out A24.out).mono ?_
    rintro e w28 ⟨v503,rfl,ho0,hb⟩
    refine ⟨_,rfl,?_⟩
    replace HO_5:=yV HO_5 hb
    replace HO_6:=yV HO_6 hb
    replace HO_7:=yV HO_7 hb
    replace HO_498001:=yV HO_498001 hb
    replace HO_498002:=yV HO_498002 hb
    replace HO_499001:=yV HO_499001 hb
    have HO504:=yL (fun k_=>((P0_1_ k_∨P0_2_ k_∨P1_1_ k_)∨w.heap.size≤k_)∧k_≠gb497∧k_≠gb498∧k_≠gb499) ho0 (fun k_ hk_=>⟨(.inr (Nat.le_trans bs hk_)),(zf BK497 hk_),(zf BK498 hk_),(zf BK499 hk_)⟩)
    replace BK497:=sK BK497 hb
    replace BK498:=sK BK498 hb
    replace BK499:=sK BK499 hb
    replace HB:=sB hb
    clear hb ho0
    refine hK.out _ _ ⟨zh BK497 0,zh BK497 1,zh BK497 2,zh BK498 0,zh BK498 1,zh BK498 2⟩ (fun hHeld=>?_)
    clear hK K
    refine nm ?_
    refine one_ (i:=9) (N:=some 33) #[true,true,true,true,true,true,true,true,true,true,true,true,true,true,false,false,false,false] rfl rfl (one_of HT_.out (by kernel_rfl)) (by decide) (fun K hK=>?_)
    refine goes_ func149 (by kernel_rfl) rfl #[.slice A1_1 l1_1.length c1_1,.slice A0_2 l0_2.length c0_2] (by rfl) rfl rfl zm ?_
    with_reducible refine (Ye.calls kj2 _ _ l1_1 _ _ l0_2 t505 _ (zC (Kd.V_reads' HO_499001.out).2.2) ((Kd.V_reads' HO_499001.out).2.1) (zC (Kd.V_reads' HO_498002.out).2.2) ((Kd.V_reads' HO_498002.out).2.1) A25.out).mono ?_
    rintro e w29 ⟨v506,rfl,ho0,hb⟩
    refine ⟨_,rfl,?_⟩
    replace HO_5:=yV HO_5 hb
    replace HO_6:=yV HO_6 hb
    replace HO_7:=yV HO_7 hb
    replace HO_498001:=yV HO_498001 hb
    replace HO_498002:=yV HO_498002 hb
    replace HO_499001:=yV HO_499001 hb
    replace HO504:=yV HO504 hb
    have HO507:=yL (fun k_=>((P0_1_ k_∨P0_2_ k_∨P1_1_ k_)∨w.heap.size≤k_)∧k_≠gb497∧k_≠gb498∧k_≠gb499) ho0 (fun k_ hk_=>⟨(.inr (Nat.le_trans bs hk_)),(zf BK497 hk_),(zf BK498 hk_),(zf BK499 hk_)⟩)
    replace BK497:=sK BK497 hb
    replace BK498:=sK BK498 hb
    replace BK499:=sK BK499 hb
    replace HB:=sB hb
    clear hb ho0
    refine hK.out _ _ ⟨zh BK497 0,zh BK497 1,zh BK497 2,zh BK498 0,zh BK498 1,zh BK498 2⟩ (fun hHeld=>?_)
    clear hK K
    refine nm ?_
    refine one_ (i:=14) (N:=some 38) #[true,true,true,true,true,true,true,true,true,true,true,true,true,true,true,false,false,false] rfl rfl (one_of HT_.out (by kernel_rfl)) (by decide) (fun K hK=>?_)
    refine goes_ func149 (by kernel_rfl) rfl #[.slice A0_2 l0_2.length c0_2,.slice A1_2 l1_2.length c1_2] (by rfl) rfl rfl zm ?_
    with_reducible refine (Ye.calls kj2 _ _ l0_2 _ _ l1_2 t508 _ (zC (Kd.V_reads' HO_498002.out).2.2) ((Kd.V_reads' HO_498002.out).2.1) (zC (Kd.C_below HR1_2.out HB.out)) HC1_2.out A26.out).mono ?_
    rintro e w30 ⟨v509,rfl,ho0,hb⟩
    refine ⟨_,rfl,?_⟩
    replace HO_5:=yV HO_5 hb
    replace HO_6:=yV HO_6 hb
    replace HO_7:=yV HO_7 hb
    replace HO_498001:=yV HO_498001 hb
    replace HO_498002:=yV HO_498002 hb
    replace HO_499001:=yV HO_499001 hb
    replace HO504:=yV HO504 hb
    replace HO507:=yV HO507 hb
    have HO510:=yL (fun k_=>((P0_1_ k_∨P0_2_ k_∨P1_1_ k_)∨w.heap.size≤k_)∧k_≠gb497∧k_≠gb498∧k_≠gb499) ho0 (fun k_ hk_=>⟨(.inr (Nat.le_trans bs hk_)),(zf BK497 hk_),(zf BK498 hk_),(zf BK499 hk_)⟩)
    replace BK497:=sK BK497 hb
    replace BK498:=sK BK498 hb
    replace BK499:=sK BK499 hb
    replace HB:=sB hb
    clear hb ho0
    refine hK.out _ _ ⟨zh BK497 0,zh BK497 1,zh BK497 2,zh BK498 0,zh BK498 1,zh BK498 2⟩ (fun hHeld=>?_)
    clear hK K
    refine nm ?_
    refine pu 15 (some 5) HT_ ?_
    refine pu 16 (some 6) HT_ ?_
    refine pu 17 (some 7) HT_ ?_
    refine done_ (done_of HT_.out (by kernel_rfl)) ?_
    try go_wp2
    go_meet
    case rel=>exact ⟨_,(t502),(t505),(t508),H',⟨by have:=HJ2.out;first|omega|exact Nat.le_refl _⟩,⟨zV HO504⟩,⟨zV HO507⟩,⟨zV HO510⟩,⟨zV HO_498001⟩,⟨zV HO_498002⟩,⟨zV HO_499001⟩,⟨zb BK497⟩,⟨zb BK498⟩,⟨zb BK499⟩,⟨bw⟩⟩
   case rest =>
    clear HC22
    try clear c12
    obtain ⟨kq,x5_21,x6_21,x7_21,HA,HJ21,HO_5,HO_6,HO_7,HO_498001,HO_498002,HO_499001,BK497,BK498,BK499,HB⟩:=hcut
    cases kq with
    | zero=>exact absurd HA.out (by simp [Yd.j1])
    | succ kj21 =>
     have H:=HA.out
     clear HA
     simp only [Yd.j1] at H
     by_cases c31:(a0_0==a1_0)=true
     case neg=>
      rw [if_neg c31] at H
      have c31b0:(a0_0==a1_0)=false:=by simpa using c31
      (try (have c31b1:decide (a0_0=a1_0)=false:=by simpa using c31))
      (try (have c31b2:(a0_0==a1_0)=false:=by simpa using c31))
      (try (have c31b3:¬ (a0_0=a1_0):=by simpa using c31))
      clear c31
      obtain ⟨t521,A51,H⟩:=zB H
      by_cases c52:t521≥0
      case neg=>
       rw [if_neg c52] at H
       have c52b0:=decide_eq_false c52
       clear c52
       obtain ⟨t532,A72,H⟩:=zB H
       obtain ⟨⟨t535,t536,t539⟩,A73,H⟩:=zB H
       (try dsimp only at H)
       obtain ⟨rfl,rfl,rfl⟩:=zo3 H
       have hnb74:=NB497_498.out
       have hnc74:=NB498_497.out
       have hnb75:=NB497_499.out
       have hnc75:=NB499_497.out
       obtain ⟨hcz76_0,hfz76_0⟩:=zc BK497 0 (.bool a0_0) rfl
       obtain ⟨hcz76_1,hfz76_1⟩:=zc BK497 1 (.slice A0_1 l0_1.length c0_1) rfl
       obtain ⟨hcz76_2,hfz76_2⟩:=zc BK497 2 (.slice A0_2 l0_2.length c0_2) rfl
       have hnb77:=NB498_499.out
       have hnc77:=NB499_498.out
       obtain ⟨hcz78_0,hfz78_0⟩:=zc BK498 0 (.bool a1_0) rfl
       obtain ⟨hcz78_1,hfz78_1⟩:=zc BK498 1 (.slice A1_1 l1_1.length c1_1) rfl
       obtain ⟨hcz78_2,hfz78_2⟩:=zc BK498 2 (.slice A1_2 l1_2.length c1_2) rfl
       obtain ⟨Ao79,co79,rfl⟩:=Kd.V_slice HO_5.out
       obtain ⟨Ao80,co80,rfl⟩:=Kd.V_slice HO_6.out
       try go_wp2_with (first|(refine zg (some 55) func153 #[.slice Ao79 x5_21.length co79,.slice Ao80 x6_21.length co80] ?_;(with_reducible refine (YG.calls kj21 _ _ x5_21 _ _ x6_21 t521 _ (zC (Kd.V_reads' HO_5.out).2.2) ((Kd.V_reads' HO_5.out).2.1) (zC (Kd.V_reads' HO_6.out).2.2) ((Kd.V_reads' HO_6.out).2.1) A51.out).mono ?_);rintro e w' ⟨rfl,⟨nd,rfl⟩⟩;refine ⟨_,rfl,?_⟩;(try (rw [drewN_self wc];generalize hq_:World.drewN wc _=wc;have n0_:Aside0 (Kd.V (Kd.int .u32) 97 wc w.heap.size (fun k_=>((P0_1_ k_∨P0_2_ k_∨P1_1_ k_)∨w.heap.size≤k_)∧k_≠gb497∧k_≠gb498∧k_≠gb499) (.slice A0_1 l0_1.length c0_1) l0_1):=⟨by rw [← hq_];exact (zV HO_498001)⟩;have n1_:Aside0 (Kd.V (Kd.int .u32) 97 wc w.heap.size (fun k_=>((P0_1_ k_∨P0_2_ k_∨P1_1_ k_)∨w.heap.size≤k_)∧k_≠gb497∧k_≠gb498∧k_≠gb499) (.slice A0_2 l0_2.length c0_2) l0_2):=⟨by rw [← hq_];exact (zV HO_498002)⟩;have n2_:Aside0 (Kd.V (Kd.int .u32) 97 wc w.heap.size (fun k_=>((P0_1_ k_∨P0_2_ k_∨P1_1_ k_)∨w.heap.size≤k_)∧k_≠gb497∧k_≠gb498∧k_≠gb499) (.slice A1_1 l1_1.length c1_1) l1_1):=⟨by rw [← hq_];exact (zV HO_499001)⟩;have n3_:Aside0 (Kd.V (Kd.int .u32) 97 wc w.heap.size (fun k_=>((P0_1_ k_∨P0_2_ k_∨P1_1_ k_)∨w.heap.size≤k_)∧k_≠gb497∧k_≠gb498∧k_≠gb499) (.slice Ao79 x5_21.length co79) x5_21):=⟨by rw [← hq_];exact (zV HO_5)⟩;have n4_:Aside0 (Kd.V (Kd.int .u32) 97 wc w.heap.size (fun k_=>((P0_1_ k_∨P0_2_ k_∨P1_1_ k_)∨w.heap.size≤k_)∧k_≠gb497∧k_≠gb498∧k_≠gb499) (.slice Ao80 x6_21.length co80) x6_21):=⟨by rw [← hq_];exact (zV HO_6)⟩;have n5_:Aside0 (Kd.V (Kd.int .u32) 97 wc w.heap.size (fun k_=>((P0_1_ k_∨P0_2_ k_∨P1_1_ k_)∨w.heap.size≤k_)∧k_≠gb497∧k_≠gb498∧k_≠gb499) u7 x7_21):=⟨by rw [← hq_];exact (zV HO_7)⟩;have n6_:Aside0 (wc.heap[gb497]? = some (.cells #[.bool a0_0,.slice A0_1 l0_1.length c0_1,.slice A0_2 l0_2.length c0_2] 103 (0,0))):=⟨by rw [← hq_];exact (zb BK497)⟩;have n7_:Aside0 (wc.heap[gb498]? = some (.cells #[.bool a1_0,.slice A1_1 l1_1.length c1_1,.slice A1_2 l1_2.length c1_2] 103 (0,0))):=⟨by rw [← hq_];exact (zb BK498)⟩;have n8_:Aside0 (wc.heap[gb499]? = some (.cells #[.bool false,.slice none 0 0,.slice none 0 0] 103 (0,0))):=⟨by rw [← hq_];exact (zb BK499)⟩;have n9_:Aside0 (Below w.heap.size w wc):=⟨by rw [← hq_];exact bw⟩;clear HO_498001 HO_498002 HO_499001 HO_5 HO_6 HO_7 BK497 BK498 BK499 HB hq_;have HO_498001:=n0_;have HO_498002:=n1_;have HO_499001:=n2_;have HO_5:=n3_;have HO_6:=n4_;have HO_7:=n5_;have BK497:=n6_;have BK498:=n7_;have BK499:=n8_;have HB:=n9_;clear n0_ n1_ n2_ n3_ n4_ n5_ n6_ n7_ n8_ n9_))))
       replace HO_5:=aZ (Kd.V_drew HO_5.out)
       replace HO_6:=aZ (Kd.V_drew HO_6.out)
       replace HO_7:=aZ (Kd.V_drew HO_7.out)
       replace HO_498001:=aZ (Kd.V_drew HO_498001.out)
       replace HO_498002:=aZ (Kd.V_drew HO_498002.out)
       replace HO_499001:=aZ (Kd.V_drew HO_499001.out)
       replace BK497:=aZ (blk_drew BK497.out)
       replace BK498:=aZ (blk_drew BK498.out)
       replace BK499:=aZ (blk_drew BK499.out)
       replace HB:=aZ (below_drew1 HB.out)
       refine start_ (n:=8) (S:=fun w'=>w'.cell? ⟨gb498,0,none⟩=some (.bool a1_0)∧w'.cell? ⟨gb498,1,none⟩=some (.slice A1_1 l1_1.length c1_1)∧w'.cell? ⟨gb498,2,none⟩=some (.slice A1_2 l1_2.length c1_2)) (ds:=[]) #[false,false,false,false,false,false,false,false] (by kernel_rfl) rfl rfl ⟨zh BK498 0,zh BK498 1,zh BK498 2⟩ (fun hHeld=>?_);refine with_tabW Yd.tab9 Yd.bits9 (fun HT_ HW_=>?_)
       generalize wc.drew=w81 at HO_5 HO_6 HO_7 HO_498001 HO_498002 HO_499001 BK497 BK498 BK499 HB hHeld ⊢
       refine pu 0 (some 64) HT_ ?_
       refine pu 2 (some 66) HT_ ?_
       refine pu 3 (some 67) HT_ ?_
       refine pu 5 (some 69) HT_ ?_
       refine tk 1 (some 65) HT_ HW_ hHeld ?_
       refine one_ (i:=4) (N:=some 68) #[true,true,true,true,true,true,false,false] rfl rfl (one_of HT_.out (by kernel_rfl)) (by decide) (fun K hK=>?_)
       refine goes_ func154 (by kernel_rfl) rfl #[.slice Ao80 x6_21.length co80,.slice Ao79 x5_21.length co79] (by rfl) rfl rfl zm ?_
       with_reducible refine (YN.calls kj21 _ _ x6_21 _ _ x5_21 t532 _ (zC (Kd.V_reads' HO_6.out).2.2) ((Kd.V_reads' HO_6.out).2.1) (zC (Kd.V_reads' HO_5.out).2.2) ((Kd.V_reads' HO_5.out).2.1) A72.out).mono ?_
       rintro e w82 ⟨v533,rfl,ho0,hb⟩
       refine ⟨_,rfl,?_⟩
       replace HO_5:=yV HO_5 hb
       replace HO_6:=yV HO_6 hb
       replace HO_7:=yV HO_7 hb
       replace HO_498001:=yV HO_498001 hb
       replace HO_498002:=yV HO_498002 hb
       replace HO_499001:=yV HO_499001 hb
       have HO534:=yL (fun k_=>((P0_1_ k_∨P0_2_ k_∨P1_1_ k_)∨w.heap.size≤k_)∧k_≠gb497∧k_≠gb498∧k_≠gb499) ho0 (fun k_ hk_=>⟨(.inr (Nat.le_trans bs hk_)),(zf BK497 hk_),(zf BK498 hk_),(zf BK499 hk_)⟩)
       replace BK497:=sK BK497 hb
       replace BK498:=sK BK498 hb
       replace BK499:=sK BK499 hb
       replace HB:=sB hb
       clear hb ho0
       obtain ⟨Ao83,co83,eo83⟩:=Kd.V_slice HO534.out
       (first|subst eo83|(injection eo83 with f1_ f2_ f3_;have f4_:=f1_.symm;have f5_:=f3_.symm;clear f1_ f2_ f3_;subst f4_;subst f5_))
       obtain ⟨Ao84,co84,eo84⟩:=Kd.V_slice HO_7.out
       (first|subst eo84|(injection eo84 with f1_ f2_ f3_;have f4_:=f1_.symm;have f5_:=f3_.symm;clear f1_ f2_ f3_;subst f4_;subst f5_))
       refine hK.out _ _ ⟨zh BK498 0,zh BK498 1,zh BK498 2⟩ (fun hHeld=>?_)
       clear hK K
       refine nm ?_
       refine one_ (i:=6) (N:=some 70) #[true,true,true,true,true,true,true,false] rfl rfl (one_of HT_.out (by kernel_rfl)) (by decide) (fun K hK=>?_)
       refine goes_ func148 (by kernel_rfl) rfl #[.bool a1_0,.slice Ao83 t532.length co83,.slice Ao84 x7_21.length co84] (by rfl) rfl rfl zm ?_
       with_reducible refine (Yz.calls kj21 a1_0 (fun k_=>(((P0_1_ k_∨P0_2_ k_∨P1_1_ k_)∨w.heap.size≤k_)∧(k_≠gb497∧(k_≠gb498∧k_≠gb499)))) _ _ t532 (fun k_=>(((P0_1_ k_∨P0_2_ k_∨P1_1_ k_)∨w.heap.size≤k_)∧(k_≠gb497∧(k_≠gb498∧k_≠gb499)))) _ _ x7_21 t535 t536 t539 _ HO534.out HO_7.out A73.out).mono ?_
       rintro e w85 ⟨v537,v540,rfl,ho0,ho1,hb⟩
       refine ⟨_,rfl,?_⟩
       replace HO_5:=yV HO_5 hb
       replace HO_6:=yV HO_6 hb
       replace HO_7:=yV HO_7 hb
       replace HO_498001:=yV HO_498001 hb
       replace HO_498002:=yV HO_498002 hb
       replace HO_499001:=yV HO_499001 hb
       replace HO534:=yV HO534 hb
       have HO538:=yL (fun k_=>((P0_1_ k_∨P0_2_ k_∨P1_1_ k_)∨w.heap.size≤k_)∧k_≠gb497∧k_≠gb498∧k_≠gb499) ho0 (fun k_ hk_=>⟨Or.elim hk_ (fun hs_=>Or.elim hs_ (fun hs_=>hs_.1) (fun hs_=>hs_.1)) (fun hn_=>(.inr (Nat.le_trans bs hn_))),Or.elim hk_ (fun hs_=>Or.elim hs_ (fun hs_=>hs_.2.1) (fun hs_=>hs_.2.1)) (fun hn_=>(zf BK497 hn_)),Or.elim hk_ (fun hs_=>Or.elim hs_ (fun hs_=>hs_.2.2.1) (fun hs_=>hs_.2.2.1)) (fun hn_=>(zf BK498 hn_)),Or.elim hk_ (fun hs_=>Or.elim hs_ (fun hs_=>hs_.2.2.2) (fun hs_=>hs_.2.2.2)) (fun hn_=>(zf BK499 hn_))⟩)
       have HO541:=yL (fun k_=>((P0_1_ k_∨P0_2_ k_∨P1_1_ k_)∨w.heap.size≤k_)∧k_≠gb497∧k_≠gb498∧k_≠gb499) ho1 (fun k_ hk_=>⟨Or.elim hk_ (fun hs_=>Or.elim hs_ (fun hs_=>hs_.1) (fun hs_=>hs_.1)) (fun hn_=>(.inr (Nat.le_trans bs hn_))),Or.elim hk_ (fun hs_=>Or.elim hs_ (fun hs_=>hs_.2.1) (fun hs_=>hs_.2.1)) (fun hn_=>(zf BK497 hn_)),Or.elim hk_ (fun hs_=>Or.elim hs_ (fun hs_=>hs_.2.2.1) (fun hs_=>hs_.2.2.1)) (fun hn_=>(zf BK498 hn_)),Or.elim hk_ (fun hs_=>Or.elim hs_ (fun hs_=>hs_.2.2.2) (fun hs_=>hs_.2.2.2)) (fun hn_=>(zf BK499 hn_))⟩)
       replace BK497:=sK BK497 hb
       replace BK498:=sK BK498 hb
       replace BK499:=sK BK499 hb
       replace HB:=sB hb
       clear hb ho0 ho1
       obtain ⟨Ao87,co87,eo87⟩:=Kd.V_slice HO538.out
       (first|subst eo87|(injection eo87 with f1_ f2_ f3_;have f4_:=f1_.symm;have f5_:=f3_.symm;clear f1_ f2_ f3_;subst f4_;subst f5_))
       obtain ⟨Ao89,co89,eo89⟩:=Kd.V_slice HO541.out
       (first|subst eo89|(injection eo89 with f1_ f2_ f3_;have f4_:=f1_.symm;have f5_:=f3_.symm;clear f1_ f2_ f3_;subst f4_;subst f5_))
       refine hK.out _ _ ⟨zh BK498 0,zh BK498 1,zh BK498 2⟩ (fun hHeld=>?_)
       clear hK K
       refine nm ?_
       refine one_ (i:=7) (N:=none) #[true,true,true,true,true,true,true,true] rfl rfl (one_of HT_.out (by kernel_rfl)) (by decide) (fun K hK=>?_)
       have hs86:w85.cell? ⟨gb499,0,none⟩=some (.bool false):=(blk_cell BK499.out 0).trans rfl
       have hfs86:=blk_frozen BK499.out 0
       have hns86_0:=NB497_499.out
       have hns86_1:=NB498_499.out
       have hms86_0:=NB499_497.out
       have hms86_1:=NB499_498.out
       have hs88:w85.cell? ⟨gb499,1,none⟩=some (.slice none 0 0):=(blk_cell BK499.out 1).trans rfl
       have hfs88:=blk_frozen BK499.out 1
       have hns88_0:=NB497_499.out
       have hns88_1:=NB498_499.out
       have hms88_0:=NB499_497.out
       have hms88_1:=NB499_498.out
       have hs90:w85.cell? ⟨gb499,2,none⟩=some (.slice none 0 0):=(blk_cell BK499.out 2).trans rfl
       have hfs90:=blk_frozen BK499.out 2
       have hns90_0:=NB497_499.out
       have hns90_1:=NB498_499.out
       have hms90_0:=NB499_497.out
       have hms90_1:=NB499_498.out
       refine skip_ (w1:=?_) (by rfl) rfl ?_ ?_
       rotate_left
       ·go_simp
        rfl
       refine hK.out _ _ ⟨((cell_far (p:=⟨gb499,_,none⟩) NB498_499.out _).trans (((cell_far (p:=⟨gb499,_,none⟩) NB498_499.out _).trans (((cell_far (p:=⟨gb499,_,none⟩) NB498_499.out _).trans (hHeld.1)))))),((cell_far (p:=⟨gb499,_,none⟩) NB498_499.out _).trans (((cell_far (p:=⟨gb499,_,none⟩) NB498_499.out _).trans (((cell_far (p:=⟨gb499,_,none⟩) NB498_499.out _).trans (hHeld.2.1)))))),((cell_far (p:=⟨gb499,_,none⟩) NB498_499.out _).trans (((cell_far (p:=⟨gb499,_,none⟩) NB498_499.out _).trans (((cell_far (p:=⟨gb499,_,none⟩) NB498_499.out _).trans (hHeld.2.2))))))⟩ (fun hHeld=>?_)
       clear hK K
       refine done_ (done_of HT_.out (by kernel_rfl)) ?_
       try go_wp2
       refine bodyPost_ret (results_cell_row rfl _ _ gb499 103 #[.bool t535,.slice Ao87 t536.length co87,.slice Ao89 t539.length co89] (0,0) _ rfl (zp BK499) underlying103 rfl (by kernel_rfl)) rfl ?_
       exact ⟨_,_,ze,zF HO538,zF HO541,bw⟩
      rw [if_pos c52] at H
      have c52b0:=decide_eq_true c52
      clear c52
      obtain ⟨t522,A53,H⟩:=zB H
      obtain ⟨⟨t525,t526,t529⟩,A54,H⟩:=zB H
      (try dsimp only at H)
      obtain ⟨rfl,rfl,rfl⟩:=zo3 H
      have hnb55:=NB497_498.out
      have hnc55:=NB498_497.out
      have hnb56:=NB497_499.out
      have hnc56:=NB499_497.out
      obtain ⟨hcz57_0,hfz57_0⟩:=zc BK497 0 (.bool a0_0) rfl
      obtain ⟨hcz57_1,hfz57_1⟩:=zc BK497 1 (.slice A0_1 l0_1.length c0_1) rfl
      obtain ⟨hcz57_2,hfz57_2⟩:=zc BK497 2 (.slice A0_2 l0_2.length c0_2) rfl
      have hnb58:=NB498_499.out
      have hnc58:=NB499_498.out
      obtain ⟨hcz59_0,hfz59_0⟩:=zc BK498 0 (.bool a1_0) rfl
      obtain ⟨hcz59_1,hfz59_1⟩:=zc BK498 1 (.slice A1_1 l1_1.length c1_1) rfl
      obtain ⟨hcz59_2,hfz59_2⟩:=zc BK498 2 (.slice A1_2 l1_2.length c1_2) rfl
      obtain ⟨Ao60,co60,rfl⟩:=Kd.V_slice HO_5.out
      obtain ⟨Ao61,co61,rfl⟩:=Kd.V_slice HO_6.out
      try go_wp2_with (first|(refine zg (some 55) func153 #[.slice Ao60 x5_21.length co60,.slice Ao61 x6_21.length co61] ?_;(with_reducible refine (YG.calls kj21 _ _ x5_21 _ _ x6_21 t521 _ (zC (Kd.V_reads' HO_5.out).2.2) ((Kd.V_reads' HO_5.out).2.1) (zC (Kd.V_reads' HO_6.out).2.2) ((Kd.V_reads' HO_6.out).2.1) A51.out).mono ?_);rintro e w' ⟨rfl,⟨nd,rfl⟩⟩;refine ⟨_,rfl,?_⟩;(try (rw [drewN_self wc];generalize hq_:World.drewN wc _=wc;have n0_:Aside0 (Kd.V (Kd.int .u32) 97 wc w.heap.size (fun k_=>((P0_1_ k_∨P0_2_ k_∨P1_1_ k_)∨w.heap.size≤k_)∧k_≠gb497∧k_≠gb498∧k_≠gb499) (.slice A0_1 l0_1.length c0_1) l0_1):=⟨by rw [← hq_];exact (zV HO_498001)⟩;have n1_:Aside0 (Kd.V (Kd.int .u32) 97 wc w.heap.size (fun k_=>((P0_1_ k_∨P0_2_ k_∨P1_1_ k_)∨w.heap.size≤k_)∧k_≠gb497∧k_≠gb498∧k_≠gb499) (.slice A0_2 l0_2.length c0_2) l0_2):=⟨by rw [← hq_];exact (zV HO_498002)⟩;have n2_:Aside0 (Kd.V (Kd.int .u32) 97 wc w.heap.size (fun k_=>((P0_1_ k_∨P0_2_ k_∨P1_1_ k_)∨w.heap.size≤k_)∧k_≠gb497∧k_≠gb498∧k_≠gb499) (.slice A1_1 l1_1.length c1_1) l1_1):=⟨by rw [← hq_];exact (zV HO_499001)⟩;have n3_:Aside0 (Kd.V (Kd.int .u32) 97 wc w.heap.size (fun k_=>((P0_1_ k_∨P0_2_ k_∨P1_1_ k_)∨w.heap.size≤k_)∧k_≠gb497∧k_≠gb498∧k_≠gb499) (.slice Ao60 x5_21.length co60) x5_21):=⟨by rw [← hq_];exact (zV HO_5)⟩;have n4_:Aside0 (Kd.V (Kd.int .u32) 97 wc w.heap.size (fun k_=>((P0_1_ k_∨P0_2_ k_∨P1_1_ k_)∨w.heap.size≤k_)∧k_≠gb497∧k_≠gb498∧k_≠gb499) (.slice Ao61 x6_21.length co61) x6_21):=⟨by rw [← hq_];exact (zV HO_6)⟩;have n5_:Aside0 (Kd.V (Kd.int .u32) 97 wc w.heap.size (fun k_=>((P0_1_ k_∨P0_2_ k_∨P1_1_ k_)∨w.heap.size≤k_)∧k_≠gb497∧k_≠gb498∧k_≠gb499) u7 x7_21):=⟨by rw [← hq_];exact (zV HO_7)⟩;have n6_:Aside0 (wc.heap[gb497]? = some (.cells #[.bool a0_0,.slice A0_1 l0_1.length c0_1,.slice A0_2 l0_2.length c0_2] 103 (0,0))):=⟨by rw [← hq_];exact (zb BK497)⟩;have n7_:Aside0 (wc.heap[gb498]? = some (.cells #[.bool a1_0,.slice A1_1 l1_1.length c1_1,.slice A1_2 l1_2.length c1_2] 103 (0,0))):=⟨by rw [← hq_];exact (zb BK498)⟩;have n8_:Aside0 (wc.heap[gb499]? = some (.cells #[.bool false,.slice none 0 0,.slice none 0 0] 103 (0,0))):=⟨by rw [← hq_];exact (zb BK499)⟩;have n9_:Aside0 (Below w.heap.size w wc):=⟨by rw [← hq_];exact bw⟩;clear HO_498001 HO_498002 HO_499001 HO_5 HO_6 HO_7 BK497 BK498 BK499 HB hq_;have HO_498001:=n0_;have HO_498002:=n1_;have HO_499001:=n2_;have HO_5:=n3_;have HO_6:=n4_;have HO_7:=n5_;have BK497:=n6_;have BK498:=n7_;have BK499:=n8_;have HB:=n9_;clear n0_ n1_ n2_ n3_ n4_ n5_ n6_ n7_ n8_ n9_))))
      replace HO_5:=aZ (Kd.V_drew HO_5.out)
      replace HO_6:=aZ (Kd.V_drew HO_6.out)
      replace HO_7:=aZ (Kd.V_drew HO_7.out)
      replace HO_498001:=aZ (Kd.V_drew HO_498001.out)
      replace HO_498002:=aZ (Kd.V_drew HO_498002.out)
      replace HO_499001:=aZ (Kd.V_drew HO_499001.out)
      replace BK497:=aZ (blk_drew BK497.out)
      replace BK498:=aZ (blk_drew BK498.out)
      replace BK499:=aZ (blk_drew BK499.out)
      replace HB:=aZ (below_drew1 HB.out)
      refine start_ (n:=8) (S:=fun w'=>w'.cell? ⟨gb497,0,none⟩=some (.bool a0_0)∧w'.cell? ⟨gb497,1,none⟩=some (.slice A0_1 l0_1.length c0_1)∧w'.cell? ⟨gb497,2,none⟩=some (.slice A0_2 l0_2.length c0_2)) (ds:=[]) #[false,false,false,false,false,false,false,false] (by kernel_rfl) rfl rfl ⟨zh BK497 0,zh BK497 1,zh BK497 2⟩ (fun hHeld=>?_);refine with_tabW Yd.tab8 Yd.bits8 (fun HT_ HW_=>?_)
      generalize wc.drew=w62 at HO_5 HO_6 HO_7 HO_498001 HO_498002 HO_499001 BK497 BK498 BK499 HB hHeld ⊢
      refine pu 0 (some 57) HT_ ?_
      refine pu 2 (some 59) HT_ ?_
      refine pu 3 (some 60) HT_ ?_
      refine pu 5 (some 62) HT_ ?_
      refine tk 1 (some 58) HT_ HW_ hHeld ?_
      refine one_ (i:=4) (N:=some 61) #[true,true,true,true,true,true,false,false] rfl rfl (one_of HT_.out (by kernel_rfl)) (by decide) (fun K hK=>?_)
      refine goes_ func154 (by kernel_rfl) rfl #[.slice Ao60 x5_21.length co60,.slice Ao61 x6_21.length co61] (by rfl) rfl rfl zm ?_
      with_reducible refine (YN.calls kj21 _ _ x5_21 _ _ x6_21 t522 _ (zC (Kd.V_reads' HO_5.out).2.2) ((Kd.V_reads' HO_5.out).2.1) (zC (Kd.V_reads' HO_6.out).2.2) ((Kd.V_reads' HO_6.out).2.1) A53.out).mono ?_
      rintro e w63 ⟨v523,rfl,ho0,hb⟩
      refine ⟨_,rfl,?_⟩
      replace HO_5:=yV HO_5 hb
      replace HO_6:=yV HO_6 hb
      replace HO_7:=yV HO_7 hb
      replace HO_498001:=yV HO_498001 hb
      replace HO_498002:=yV HO_498002 hb
      replace HO_499001:=yV HO_499001 hb
      have HO524:=yL (fun k_=>((P0_1_ k_∨P0_2_ k_∨P1_1_ k_)∨w.heap.size≤k_)∧k_≠gb497∧k_≠gb498∧k_≠gb499) ho0 (fun k_ hk_=>⟨(.inr (Nat.le_trans bs hk_)),(zf BK497 hk_),(zf BK498 hk_),(zf BK499 hk_)⟩)
      replace BK497:=sK BK497 hb
      replace BK498:=sK BK498 hb
      replace BK499:=sK BK499 hb
      replace HB:=sB hb
      clear hb ho0
      obtain ⟨Ao64,co64,eo64⟩:=Kd.V_slice HO524.out
      (first|subst eo64|(injection eo64 with f1_ f2_ f3_;have f4_:=f1_.symm;have f5_:=f3_.symm;clear f1_ f2_ f3_;subst f4_;subst f5_))
      obtain ⟨Ao65,co65,eo65⟩:=Kd.V_slice HO_7.out
      (first|subst eo65|(injection eo65 with f1_ f2_ f3_;have f4_:=f1_.symm;have f5_:=f3_.symm;clear f1_ f2_ f3_;subst f4_;subst f5_))
      refine hK.out _ _ ⟨zh BK497 0,zh BK497 1,zh BK497 2⟩ (fun hHeld=>?_)
      clear hK K
      refine nm ?_
      refine one_ (i:=6) (N:=some 63) #[true,true,true,true,true,true,true,false] rfl rfl (one_of HT_.out (by kernel_rfl)) (by decide) (fun K hK=>?_)
      refine goes_ func148 (by kernel_rfl) rfl #[.bool a0_0,.slice Ao64 t522.length co64,.slice Ao65 x7_21.length co65] (by rfl) rfl rfl zm ?_
      with_reducible refine (Yz.calls kj21 a0_0 (fun k_=>(((P0_1_ k_∨P0_2_ k_∨P1_1_ k_)∨w.heap.size≤k_)∧(k_≠gb497∧(k_≠gb498∧k_≠gb499)))) _ _ t522 (fun k_=>(((P0_1_ k_∨P0_2_ k_∨P1_1_ k_)∨w.heap.size≤k_)∧(k_≠gb497∧(k_≠gb498∧k_≠gb499)))) _ _ x7_21 t525 t526 t529 _ HO524.out HO_7.out A54.out).mono ?_
      rintro e w66 ⟨v527,v530,rfl,ho0,ho1,hb⟩
      refine ⟨_,rfl,?_⟩
      replace HO_5:=yV HO_5 hb
      replace HO_6:=yV HO_6 hb
      replace HO_7:=yV HO_7 hb
      replace HO_498001:=yV HO_498001 hb
      replace HO_498002:=yV HO_498002 hb
      replace HO_499001:=yV HO_499001 hb
      replace HO524:=yV HO524 hb
      have HO528:=yL (fun k_=>((P0_1_ k_∨P0_2_ k_∨P1_1_ k_)∨w.heap.size≤k_)∧k_≠gb497∧k_≠gb498∧k_≠gb499) ho0 (fun k_ hk_=>⟨Or.elim hk_ (fun hs_=>Or.elim hs_ (fun hs_=>hs_.1) (fun hs_=>hs_.1)) (fun hn_=>(.inr (Nat.le_trans bs hn_))),Or.elim hk_ (fun hs_=>Or.elim hs_ (fun hs_=>hs_.2.1) (fun hs_=>hs_.2.1)) (fun hn_=>(zf BK497 hn_)),Or.elim hk_ (fun hs_=>Or.elim hs_ (fun hs_=>hs_.2.2.1) (fun hs_=>hs_.2.2.1)) (fun hn_=>(zf BK498 hn_)),Or.elim hk_ (fun hs_=>Or.elim hs_ (fun hs_=>hs_.2.2.2) (fun hs_=>hs_.2.2.2)) (fun hn_=>(zf BK499 hn_))⟩)
      have HO531:=yL (fun k_=>((P0_1_ k_∨P0_2_ k_∨P1_1_ k_)∨w.heap.size≤k_)∧k_≠gb497∧k_≠gb498∧k_≠gb499) ho1 (fun k_ hk_=>⟨Or.elim hk_ (fun hs_=>Or.elim hs_ (fun hs_=>hs_.1) (fun hs_=>hs_.1)) (fun hn_=>(.inr (Nat.le_trans bs hn_))),Or.elim hk_ (fun hs_=>Or.elim hs_ (fun hs_=>hs_.2.1) (fun hs_=>hs_.2.1)) (fun hn_=>(zf BK497 hn_)),Or.elim hk_ (fun hs_=>Or.elim hs_ (fun hs_=>hs_.2.2.1) (fun hs_=>hs_.2.2.1)) (fun hn_=>(zf BK498 hn_)),Or.elim hk_ (fun hs_=>Or.elim hs_ (fun hs_=>hs_.2.2.2) (fun hs_=>hs_.2.2.2)) (fun hn_=>(zf BK499 hn_))⟩)
      replace BK497:=sK BK497 hb
      replace BK498:=sK BK498 hb
      replace BK499:=sK BK499 hb
      replace HB:=sB hb
      clear hb ho0 ho1
      obtain ⟨Ao68,co68,eo68⟩:=Kd.V_slice HO528.out
      (first|subst eo68|(injection eo68 with f1_ f2_ f3_;have f4_:=f1_.symm;have f5_:=f3_.symm;clear f1_ f2_ f3_;subst f4_;subst f5_))
      obtain ⟨Ao70,co70,eo70⟩:=Kd.V_slice HO531.out
      (first|subst eo70|(injection eo70 with f1_ f2_ f3_;have f4_:=f1_.symm;have f5_:=f3_.symm;clear f1_ f2_ f3_;subst f4_;subst f5_))
      refine hK.out _ _ ⟨zh BK497 0,zh BK497 1,zh BK497 2⟩ (fun hHeld=>?_)
      clear hK K
      refine nm ?_
      refine one_ (i:=7) (N:=none) #[true,true,true,true,true,true,true,true] rfl rfl (one_of HT_.out (by kernel_rfl)) (by decide) (fun K hK=>?_)
      have hs67:w66.cell? ⟨gb499,0,none⟩=some (.bool false):=(blk_cell BK499.out 0).trans rfl
      have hfs67:=blk_frozen BK499.out 0
      have hns67_0:=NB497_499.out
      have hns67_1:=NB498_499.out
      have hms67_0:=NB499_497.out
      have hms67_1:=NB499_498.out
      have hs69:w66.cell? ⟨gb499,1,none⟩=some (.slice none 0 0):=(blk_cell BK499.out 1).trans rfl
      have hfs69:=blk_frozen BK499.out 1
      have hns69_0:=NB497_499.out
      have hns69_1:=NB498_499.out
      have hms69_0:=NB499_497.out
      have hms69_1:=NB499_498.out
      have hs71:w66.cell? ⟨gb499,2,none⟩=some (.slice none 0 0):=(blk_cell BK499.out 2).trans rfl
      have hfs71:=blk_frozen BK499.out 2
      have hns71_0:=NB497_499.out
      have hns71_1:=NB498_499.out
      have hms71_0:=NB499_497.out
      have hms71_1:=NB499_498.out
      refine skip_ (w1:=?_) (by rfl) rfl ?_ ?_
      rotate_left
      ·go_simp
       rfl
      refine hK.out _ _ ⟨((cell_far (p:=⟨gb499,_,none⟩) NB497_499.out _).trans (((cell_far (p:=⟨gb499,_,none⟩) NB497_499.out _).trans (((cell_far (p:=⟨gb499,_,none⟩) NB497_499.out _).trans (hHeld.1)))))),((cell_far (p:=⟨gb499,_,none⟩) NB497_499.out _).trans (((cell_far (p:=⟨gb499,_,none⟩) NB497_499.out _).trans (((cell_far (p:=⟨gb499,_,none⟩) NB497_499.out _).trans (hHeld.2.1)))))),((cell_far (p:=⟨gb499,_,none⟩) NB497_499.out _).trans (((cell_far (p:=⟨gb499,_,none⟩) NB497_499.out _).trans (((cell_far (p:=⟨gb499,_,none⟩) NB497_499.out _).trans (hHeld.2.2))))))⟩ (fun hHeld=>?_)
      clear hK K
      refine done_ (done_of HT_.out (by kernel_rfl)) ?_
      try go_wp2
      refine bodyPost_ret (results_cell_row rfl _ _ gb499 103 #[.bool t525,.slice Ao68 t526.length co68,.slice Ao70 t529.length co70] (0,0) _ rfl (zp BK499) underlying103 rfl (by kernel_rfl)) rfl ?_
      exact ⟨_,_,ze,zF HO528,zF HO531,bw⟩
     rw [if_pos c31] at H
     have c31b0:(a0_0==a1_0)=true:=c31
     (try (have c31b1:decide (a0_0=a1_0)=true:=by simpa using c31))
     (try (have c31b2:(a0_0==a1_0)=true:=by simpa using c31))
     clear c31
     obtain ⟨t511,A32,H⟩:=zB H
     obtain ⟨⟨t514,t515,t518⟩,A33,H⟩:=zB H
     (try dsimp only at H)
     obtain ⟨rfl,rfl,rfl⟩:=zo3 H
     have hnb34:=NB497_498.out
     have hnc34:=NB498_497.out
     have hnb35:=NB497_499.out
     have hnc35:=NB499_497.out
     obtain ⟨hcz36_0,hfz36_0⟩:=zc BK497 0 (.bool a0_0) rfl
     obtain ⟨hcz36_1,hfz36_1⟩:=zc BK497 1 (.slice A0_1 l0_1.length c0_1) rfl
     obtain ⟨hcz36_2,hfz36_2⟩:=zc BK497 2 (.slice A0_2 l0_2.length c0_2) rfl
     have hnb37:=NB498_499.out
     have hnc37:=NB499_498.out
     obtain ⟨hcz38_0,hfz38_0⟩:=zc BK498 0 (.bool a1_0) rfl
     obtain ⟨hcz38_1,hfz38_1⟩:=zc BK498 1 (.slice A1_1 l1_1.length c1_1) rfl
     obtain ⟨hcz38_2,hfz38_2⟩:=zc BK498 2 (.slice A1_2 l1_2.length c1_2) rfl
     try go_wp2
     replace HO_5:=aZ (Kd.V_drew HO_5.out)
     replace HO_6:=aZ (Kd.V_drew HO_6.out)
     replace HO_7:=aZ (Kd.V_drew HO_7.out)
     replace HO_498001:=aZ (Kd.V_drew HO_498001.out)
     replace HO_498002:=aZ (Kd.V_drew HO_498002.out)
     replace HO_499001:=aZ (Kd.V_drew HO_499001.out)
     replace BK497:=aZ (blk_drew BK497.out)
     replace BK498:=aZ (blk_drew BK498.out)
     replace BK499:=aZ (blk_drew BK499.out)
     replace HB:=aZ (below_drew1 HB.out)
     obtain ⟨Ao40,co40,eo40⟩:=Kd.V_slice HO_5.out
     (first|subst eo40|(injection eo40 with f1_ f2_ f3_;have f4_:=f1_.symm;have f5_:=f3_.symm;clear f1_ f2_ f3_;subst f4_;subst f5_))
     obtain ⟨Ao41,co41,eo41⟩:=Kd.V_slice HO_6.out
     (first|subst eo41|(injection eo41 with f1_ f2_ f3_;have f4_:=f1_.symm;have f5_:=f3_.symm;clear f1_ f2_ f3_;subst f4_;subst f5_))
     refine start_ (n:=8) (S:=fun w'=>w'.cell? ⟨gb497,0,none⟩=some (.bool a0_0)∧w'.cell? ⟨gb497,1,none⟩=some (.slice A0_1 l0_1.length c0_1)∧w'.cell? ⟨gb497,2,none⟩=some (.slice A0_2 l0_2.length c0_2)) (ds:=[]) #[false,false,false,false,false,false,false,false] (by kernel_rfl) rfl rfl ⟨zh BK497 0,zh BK497 1,zh BK497 2⟩ (fun hHeld=>?_);refine with_tabW Yd.tab6 Yd.bits6 (fun HT_ HW_=>?_)
     generalize wc.drew=w39 at HO_5 HO_6 HO_7 HO_498001 HO_498002 HO_499001 BK497 BK498 BK499 HB hHeld ⊢
     refine pu 0 (some 45) HT_ ?_
     refine pu 2 (some 47) HT_ ?_
     refine pu 3 (some 48) HT_ ?_
     refine pu 5 (some 50) HT_ ?_
     refine tk 1 (some 46) HT_ HW_ hHeld ?_
     refine one_ (i:=4) (N:=some 49) #[true,true,true,true,true,true,false,false] rfl rfl (one_of HT_.out (by kernel_rfl)) (by decide) (fun K hK=>?_)
     refine goes_ func152 (by kernel_rfl) rfl #[.slice Ao40 x5_21.length co40,.slice Ao41 x6_21.length co41] (by rfl) rfl rfl zm ?_
     with_reducible refine (Y0k.calls kj21 _ _ x5_21 _ _ x6_21 t511 _ (zC (Kd.V_reads' HO_5.out).2.2) ((Kd.V_reads' HO_5.out).2.1) (zC (Kd.V_reads' HO_6.out).2.2) ((Kd.V_reads' HO_6.out).2.1) A32.out).mono ?_
     rintro e w42 ⟨v512,rfl,ho0,hb⟩
     refine ⟨_,rfl,?_⟩
     replace HO_5:=aZ (Kd.V_elder' (zV HO_5) (Kd.R_base ho0) hb)
     replace HO_6:=aZ (Kd.V_elder' (zV HO_6) (Kd.R_base ho0) hb)
     replace HO_7:=aZ (Kd.V_elder' (zV HO_7) (Kd.R_base ho0) hb)
     replace HO_498001:=aZ (Kd.V_elder' (zV HO_498001) (Kd.R_base ho0) hb)
     replace HO_498002:=aZ (Kd.V_elder' (zV HO_498002) (Kd.R_base ho0) hb)
     replace HO_499001:=aZ (Kd.V_elder' (zV HO_499001) (Kd.R_base ho0) hb)
     have HO513:=aZ (Kd.R_lower (Kd.R_newM (M:=fun k_=>(w.heap.size≤k_)) ho0 bs (fun k_ h_=>h_)) bs)
     replace BK497:=sK BK497 hb
     replace BK498:=sK BK498 hb
     replace BK499:=sK BK499 hb
     replace HB:=sB hb
     clear hb ho0
     obtain ⟨Ao43,co43,eo43⟩:=Kd.R_slice HO513.out
     (first|subst eo43|(injection eo43 with f1_ f2_ f3_;have f4_:=f1_.symm;have f5_:=f3_.symm;clear f1_ f2_ f3_;subst f4_;subst f5_))
     obtain ⟨Ao44,co44,eo44⟩:=Kd.V_slice HO_7.out
     (first|subst eo44|(injection eo44 with f1_ f2_ f3_;have f4_:=f1_.symm;have f5_:=f3_.symm;clear f1_ f2_ f3_;subst f4_;subst f5_))
     refine hK.out _ _ ⟨zh BK497 0,zh BK497 1,zh BK497 2⟩ (fun hHeld=>?_)
     clear hK K
     refine nm ?_
     refine one_ (i:=6) (N:=some 51) #[true,true,true,true,true,true,true,false] rfl rfl (one_of HT_.out (by kernel_rfl)) (by decide) (fun K hK=>?_)
     refine goes_ func148 (by kernel_rfl) rfl #[.bool a0_0,.slice Ao43 t511.length co43,.slice Ao44 x7_21.length co44] (by rfl) rfl rfl zm ?_
     with_reducible refine (Yz.calls kj21 a0_0 (fun k_=>some k_=(.slice Ao43 t511.length co43:Value).ownBlock) _ _ t511 (fun k_=>((((P0_1_ k_∨P0_2_ k_∨P1_1_ k_)∨w.heap.size≤k_)∧(k_≠gb497∧(k_≠gb498∧k_≠gb499)))∧some k_≠(.slice Ao43 t511.length co43:Value).ownBlock)) _ _ x7_21 t514 t515 t518 _ ?side1 ?side2 A33.out).mono ?_
     (case side1=>exact Kd.R_V (Kd.R_tight rfl (Kd.R_types (Kd.R_types (Kd.R_types (HO513.out) BK497.out (by decide)) BK498.out (by decide)) BK499.out (by decide))))
     (case side2=>exact HO_7.out)
     rintro e w45 ⟨v516,v519,rfl,ho0,ho1,hb⟩
     refine ⟨_,rfl,?_⟩
     replace HO_5:=yV HO_5 hb
     replace HO_6:=yV HO_6 hb
     replace HO_7:=yV HO_7 hb
     replace HO_498001:=yV HO_498001 hb
     replace HO_498002:=yV HO_498002 hb
     replace HO_499001:=yV HO_499001 hb
     have HO517:=yL (fun k_=>((P0_1_ k_∨P0_2_ k_∨P1_1_ k_)∨w.heap.size≤k_)∧k_≠gb497∧k_≠gb498∧k_≠gb499) ho0 (fun k_ hk_=>⟨Or.elim hk_ (fun hs_=>Or.elim hs_ (fun hs_=>(.inr (((Kd.R_types (Kd.R_types (Kd.R_types (HO513.out) BK497.out (by decide)) BK498.out (by decide)) BK499.out (by decide)).1 k_ hs_.symm).1.1.1.1))) (fun hs_=>hs_.1.1)) (fun hn_=>(.inr (Nat.le_trans bs hn_))),Or.elim hk_ (fun hs_=>Or.elim hs_ (fun hs_=>((Kd.R_types (Kd.R_types (Kd.R_types (HO513.out) BK497.out (by decide)) BK498.out (by decide)) BK499.out (by decide)).1 k_ hs_.symm).1.1.2) (fun hs_=>hs_.1.2.1)) (fun hn_=>(zf BK497 hn_)),Or.elim hk_ (fun hs_=>Or.elim hs_ (fun hs_=>((Kd.R_types (Kd.R_types (Kd.R_types (HO513.out) BK497.out (by decide)) BK498.out (by decide)) BK499.out (by decide)).1 k_ hs_.symm).1.2) (fun hs_=>hs_.1.2.2.1)) (fun hn_=>(zf BK498 hn_)),Or.elim hk_ (fun hs_=>Or.elim hs_ (fun hs_=>((Kd.R_types (Kd.R_types (Kd.R_types (HO513.out) BK497.out (by decide)) BK498.out (by decide)) BK499.out (by decide)).1 k_ hs_.symm).2) (fun hs_=>hs_.1.2.2.2)) (fun hn_=>(zf BK499 hn_))⟩)
     have HO520:=yL (fun k_=>((P0_1_ k_∨P0_2_ k_∨P1_1_ k_)∨w.heap.size≤k_)∧k_≠gb497∧k_≠gb498∧k_≠gb499) ho1 (fun k_ hk_=>⟨Or.elim hk_ (fun hs_=>Or.elim hs_ (fun hs_=>(.inr (((Kd.R_types (Kd.R_types (Kd.R_types (HO513.out) BK497.out (by decide)) BK498.out (by decide)) BK499.out (by decide)).1 k_ hs_.symm).1.1.1.1))) (fun hs_=>hs_.1.1)) (fun hn_=>(.inr (Nat.le_trans bs hn_))),Or.elim hk_ (fun hs_=>Or.elim hs_ (fun hs_=>((Kd.R_types (Kd.R_types (Kd.R_types (HO513.out) BK497.out (by decide)) BK498.out (by decide)) BK499.out (by decide)).1 k_ hs_.symm).1.1.2) (fun hs_=>hs_.1.2.1)) (fun hn_=>(zf BK497 hn_)),Or.elim hk_ (fun hs_=>Or.elim hs_ (fun hs_=>((Kd.R_types (Kd.R_types (Kd.R_types (HO513.out) BK497.out (by decide)) BK498.out (by decide)) BK499.out (by decide)).1 k_ hs_.symm).1.2) (fun hs_=>hs_.1.2.2.1)) (fun hn_=>(zf BK498 hn_)),Or.elim hk_ (fun hs_=>Or.elim hs_ (fun hs_=>((Kd.R_types (Kd.R_types (Kd.R_types (HO513.out) BK497.out (by decide)) BK498.out (by decide)) BK499.out (by decide)).1 k_ hs_.symm).2) (fun hs_=>hs_.1.2.2.2)) (fun hn_=>(zf BK499 hn_))⟩)
     replace HO513:=yR HO513 hb
     replace BK497:=sK BK497 hb
     replace BK498:=sK BK498 hb
     replace BK499:=sK BK499 hb
     replace HB:=sB hb
     clear hb ho0 ho1
     obtain ⟨Ao47,co47,eo47⟩:=Kd.V_slice HO517.out
     (first|subst eo47|(injection eo47 with f1_ f2_ f3_;have f4_:=f1_.symm;have f5_:=f3_.symm;clear f1_ f2_ f3_;subst f4_;subst f5_))
     obtain ⟨Ao49,co49,eo49⟩:=Kd.V_slice HO520.out
     (first|subst eo49|(injection eo49 with f1_ f2_ f3_;have f4_:=f1_.symm;have f5_:=f3_.symm;clear f1_ f2_ f3_;subst f4_;subst f5_))
     refine hK.out _ _ ⟨zh BK497 0,zh BK497 1,zh BK497 2⟩ (fun hHeld=>?_)
     clear hK K
     refine nm ?_
     refine one_ (i:=7) (N:=none) #[true,true,true,true,true,true,true,true] rfl rfl (one_of HT_.out (by kernel_rfl)) (by decide) (fun K hK=>?_)
     have hs46:w45.cell? ⟨gb499,0,none⟩=some (.bool false):=(blk_cell BK499.out 0).trans rfl
     have hfs46:=blk_frozen BK499.out 0
     have hns46_0:=NB497_499.out
     have hns46_1:=NB498_499.out
     have hms46_0:=NB499_497.out
     have hms46_1:=NB499_498.out
     have hs48:w45.cell? ⟨gb499,1,none⟩=some (.slice none 0 0):=(blk_cell BK499.out 1).trans rfl
     have hfs48:=blk_frozen BK499.out 1
     have hns48_0:=NB497_499.out
     have hns48_1:=NB498_499.out
     have hms48_0:=NB499_497.out
     have hms48_1:=NB499_498.out
     have hs50:w45.cell? ⟨gb499,2,none⟩=some (.slice none 0 0):=(blk_cell BK499.out 2).trans rfl
     have hfs50:=blk_frozen BK499.out 2
     have hns50_0:=NB497_499.out
     have hns50_1:=NB498_499.out
     have hms50_0:=NB499_497.out
     have hms50_1:=NB499_498.out
     refine skip_ (w1:=?_) (by rfl) rfl ?_ ?_
     rotate_left
     ·go_simp
      rfl
     refine hK.out _ _ ⟨((cell_far (p:=⟨gb499,_,none⟩) NB497_499.out _).trans (((cell_far (p:=⟨gb499,_,none⟩) NB497_499.out _).trans (((cell_far (p:=⟨gb499,_,none⟩) NB497_499.out _).trans (hHeld.1)))))),((cell_far (p:=⟨gb499,_,none⟩) NB497_499.out _).trans (((cell_far (p:=⟨gb499,_,none⟩) NB497_499.out _).trans (((cell_far (p:=⟨gb499,_,none⟩) NB497_499.out _).trans (hHeld.2.1)))))),((cell_far (p:=⟨gb499,_,none⟩) NB497_499.out _).trans (((cell_far (p:=⟨gb499,_,none⟩) NB497_499.out _).trans (((cell_far (p:=⟨gb499,_,none⟩) NB497_499.out _).trans (hHeld.2.2))))))⟩ (fun hHeld=>?_)
     clear hK K
     refine done_ (done_of HT_.out (by kernel_rfl)) ?_
     try go_wp2
     refine bodyPost_ret (results_cell_row rfl _ _ gb499 103 #[.bool t514,.slice Ao47 t515.length co47,.slice Ao49 t518.length co49] (0,0) _ rfl (zp BK499) underlying103 rfl (by kernel_rfl)) rfl ?_
     exact ⟨_,_,ze,zF HO517,zF HO520,bw⟩
def YX.j0:Nat→List Int→Bool→Bool→List Int→List Int→Option (Bool×List Int×List Int)
 | 0,_,_,_,_,_=>none
 | k+1,x3,x19,x543000,x543001,x543002=>if x19=true then ((YO.f k).bind fun t551=>((Y0k.f k x3 t551).bind fun t554=>(if x543000=true then ((YM.f t554).bind fun t557=>((YO.f k).bind fun t558=>(some (!t557,t554,t558)))) else ((YO.f k).bind fun t561=>(some (false,t554,t561)))))) else (if x543000=true then ((YM.f x3).bind fun t564=>((YO.f k).bind fun t565=>(some (!t564,x3,t565)))) else ((YO.f k).bind fun t568=>(some (false,x3,t568))))
def YX.f (k:Nat) (a0_0:Bool) (l0_1:List Int) (l0_2:List Int):Option (Bool×List Int×List Int):=(Yv.f k l0_1 l0_2).bind fun bt544=>(if a0_0=true then ((YM.f bt544.2).bind fun t550=>(YX.j0 k bt544.1 (!t550) a0_0 l0_1 l0_2)) else (YX.j0 k bt544.1 false a0_0 l0_1 l0_2))
theorem YX.calls (k:Nat) (a0_0:Bool) (A0_1:Option Addr) (c0_1:Nat) (l0_1:List Int) (A0_2:Option Addr) (c0_2:Nat) (l0_2:List Int) (r1:Bool) (r2:List Int) (r3:List Int) (w:World) (hr0_1:Kd.C (Kd.int .u32) w A0_1 l0_1.length l0_1) (hc0_1:l0_1.length≤c0_1) (hr0_2:Kd.C (Kd.int .u32) w A0_2 l0_2.length l0_2) (hc0_2:l0_2.length≤c0_2) (h:YX.f k a0_0 l0_1 l0_2=some (r1,r2,r3)) :
  Calls Tryz.prog 132 #[.agg #[.bool a0_0,.slice A0_1 l0_1.length c0_1,.slice A0_2 l0_2.length c0_2]] w fun e w'=>∃ v1_ v2_:Value,e = .returned (.agg #[.bool r1,v1_,v2_])∧Kd.V (Kd.int .u32) 97 w' w.heap.size (fun k_=>(w.heap.size≤k_)∧some k_≠(v2_:Value).ownBlock) v1_ r2∧Kd.R (Kd.int .u32) 97 w' w.heap.size (fun k_=>(w.heap.size≤k_)) v2_ r3∧Below w.heap.size w w':=by
 have hu103:=underlying103
 have HR0_1:=aZ hr0_1
 have HC0_1:=aZ hc0_1
 clear hr0_1 hc0_1
 have HR0_2:=aZ hr0_2
 have HC0_2:=aZ hc0_2
 clear hr0_2 hc0_2
 have HB:=aZ (Below.refl w.heap.size w)
 have H:=h
 unfold YX.f at H
 clear h
 obtain ⟨⟨t544,t547⟩,A2,H⟩:=zB H
 (try dsimp only at H)
 have HC3:=aZ H
 clear H
 go_enter func132,ntmps132
 go_upto_region 2 with (first|(refine box_ev 1 #[.bool a0_0,.slice A0_1 l0_1.length c0_1,.slice A0_2 l0_2.length c0_2] 103 ?_;intro gb542 hg w4 hbox hb;have BK542:=aZ hbox;have GE542:=sG hg;replace HB:=sB hb;clear hb hbox hg)|(refine box_ev 2 #[.bool false,.slice none 0 0,.slice none 0 0] 103 ?_;intro gb543 hg w5 hbox hb;have BK543:=aZ hbox;have GE543:=sG hg;replace HB:=sB hb;obtain ⟨NB542_543,NB543_542,BK542⟩:=sX hg hb BK542;clear hb hbox hg;have hnb6:=NB542_543.out;have hnc6:=NB543_542.out;obtain ⟨hcz7_0,hfz7_0⟩:=zc BK542 0 (.bool a0_0) rfl;obtain ⟨hcz7_1,hfz7_1⟩:=zc BK542 1 (.slice A0_1 l0_1.length c0_1) rfl;obtain ⟨hcz7_2,hfz7_2⟩:=zc BK542 2 (.slice A0_2 l0_2.length c0_2) rfl)|(refine zg (some 10) func144 #[.slice A0_1 l0_1.length c0_1,.slice A0_2 l0_2.length c0_2] ?_;(with_reducible refine (Yv.calls k _ _ l0_1 _ _ l0_2 t544 t547 _ (zC (Kd.C_below HR0_1.out HB.out)) HC0_1.out (zC (Kd.C_below HR0_2.out HB.out)) HC0_2.out A2.out).mono ?_);rintro e w8 ⟨v545,v548,rfl,ho0,ho1,hb⟩;refine ⟨_,rfl,?_⟩;have HO546:=yL (fun k_=>(w.heap.size≤k_)∧k_≠gb542∧k_≠gb543) ho0 (fun k_ hk_=>⟨(Nat.le_trans bs hk_),(zf BK542 hk_),(zf BK543 hk_)⟩);have HO549:=yL (fun k_=>(w.heap.size≤k_)∧k_≠gb542∧k_≠gb543) ho1 (fun k_ hk_=>⟨(Nat.le_trans bs hk_),(zf BK542 hk_),(zf BK543 hk_)⟩);replace BK542:=sK BK542 hb;replace BK543:=sK BK543 hb;replace HB:=sB hb;clear hb ho0 ho1))
 (try simp only [Act.put,List.setIfInBounds_toArray,List.set_cons_zero,List.set_cons_succ])
 go_cut [19] (fun v19 wc=>∃ (kq:Nat) (x19_2:Bool),v19 = .bool x19_2∧Aside0 (YX.j0 kq t544 x19_2 a0_0 l0_1 l0_2=some (r1,r2,r3))∧Aside0 (kq≤k)∧Aside0 (Kd.V (Kd.int .u32) 97 wc w.heap.size (fun k_=>(w.heap.size≤k_)∧k_≠gb542∧k_≠gb543) v545 t544)∧Aside0 (wc.heap[gb542]? = some (.cells #[.bool a0_0,(.slice A0_1 l0_1.length c0_1),(.slice A0_2 l0_2.length c0_2)] 103 (0,0)))∧Aside0 (wc.heap[gb543]? = some (.cells #[.bool false,(.slice none 0 0),(.slice none 0 0)] 103 (0,0)))∧Aside0 (Below w.heap.size w wc))
 case first =>
  have H:=HC3.out
  clear HC3
  by_cases c9:a0_0=true
  case neg=>
   replace c9:=Bool.eq_false_iff.mpr c9
   subst c9
   replace H:=zU H
   have H':=aZ H
   clear H
   have hnb14:=NB542_543.out
   have hnc14:=NB543_542.out
   obtain ⟨hcz15_0,hfz15_0⟩:=zc BK542 0 (.bool false) rfl
   obtain ⟨hcz15_1,hfz15_1⟩:=zc BK542 1 (.slice A0_1 l0_1.length c0_1) rfl
   obtain ⟨hcz15_2,hfz15_2⟩:=zc BK542 2 (.slice A0_2 l0_2.length c0_2) rfl
   go_wp2
   go_meet
   case rel=>exact ⟨_,(false),zs,H',⟨by first|omega|exact Nat.le_refl _⟩,⟨zV HO546⟩,⟨zb BK542⟩,⟨zb BK543⟩,⟨bw⟩⟩
  subst c9
  replace H:=zT H
  obtain ⟨t550,A10,H⟩:=zB H
  have H':=aZ H
  clear H
  have hnb11:=NB542_543.out
  have hnc11:=NB543_542.out
  obtain ⟨hcz12_0,hfz12_0⟩:=zc BK542 0 (.bool true) rfl
  obtain ⟨hcz12_1,hfz12_1⟩:=zc BK542 1 (.slice A0_1 l0_1.length c0_1) rfl
  obtain ⟨hcz12_2,hfz12_2⟩:=zc BK542 2 (.slice A0_2 l0_2.length c0_2) rfl
  obtain ⟨Ao13,co13,rfl⟩:=Kd.V_slice HO549.out
  go_wp2_with (first|(go_at_call 151;(with_reducible refine (YM.calls _ _ t547 t550 _ (zC (Kd.V_reads' HO549.out).2.2) ((Kd.V_reads' HO549.out).2.1) A10.out).mono ?_);rintro e w' ⟨rfl,⟨nd,rfl⟩⟩))
  go_meet
  case rel=>exact ⟨_,(!t550),zs,H',⟨by first|omega|exact Nat.le_refl _⟩,⟨zV HO546⟩,⟨zb BK542⟩,⟨zb BK543⟩,⟨bw⟩⟩
 case rest =>
  clear HC3
  obtain ⟨kq,x19_2,rfl,HA,HJ2,HO_3,BK542,BK543,HB⟩:=hcut
  cases kq with
  | zero=>exact absurd HA.out (by simp [YX.j0])
  | succ kj2 =>
   have H:=HA.out
   clear HA
   simp only [YX.j0] at H
   by_cases c16:x19_2=true
   case neg=>
    replace c16:=Bool.eq_false_iff.mpr c16
    subst c16
    replace H:=zU H
    by_cases c43:a0_0=true
    case neg=>
     replace c43:=Bool.eq_false_iff.mpr c43
     subst c43
     replace H:=zU H
     obtain ⟨t568,A52,H⟩:=zB H
     obtain ⟨rfl,rfl,rfl⟩:=zo3 H
     have hnb53:=NB542_543.out
     have hnc53:=NB543_542.out
     obtain ⟨hcz54_0,hfz54_0⟩:=zc BK542 0 (.bool false) rfl
     obtain ⟨hcz54_1,hfz54_1⟩:=zc BK542 1 (.slice A0_1 l0_1.length c0_1) rfl
     obtain ⟨hcz54_2,hfz54_2⟩:=zc BK542 2 (.slice A0_2 l0_2.length c0_2) rfl
     go_wp2_with (first|(refine zg (some 31) func137 #[] ?_;(with_reducible refine (YO.calls kj2  t568 _ A52.out).mono ?_);rintro e w55 ⟨v569,rfl,ho0,hb⟩;refine ⟨_,rfl,?_⟩;replace HO_3:=aZ (Kd.V_elder' (zV HO_3) (Kd.R_base ho0) hb);have HO570:=aZ (Kd.R_lower (Kd.R_newM (M:=fun k_=>(w.heap.size≤k_)) ho0 bs (fun k_ h_=>h_)) bs);replace BK542:=sK BK542 hb;replace BK543:=sK BK543 hb;replace HB:=sB hb;clear hb ho0;obtain ⟨Ao56,co56,rfl⟩:=Kd.R_slice HO570.out;obtain ⟨Ao57,co57,rfl⟩:=Kd.V_slice HO_3.out;obtain ⟨hcz58_0,hfz58_0⟩:=zc BK543 0 (.bool false) rfl;obtain ⟨hcz58_1,hfz58_1⟩:=zc BK543 1 (.slice none 0 0) rfl;obtain ⟨hcz58_2,hfz58_2⟩:=zc BK543 2 (.slice none 0 0) rfl))
     refine bodyPost_ret (results_cell_row rfl _ _ gb543 103 #[.bool false,.slice Ao57 t544.length co57,.slice Ao56 t568.length co56] (0,0) _ rfl (zp BK543) underlying103 rfl (by kernel_rfl)) rfl ?_
     exact ⟨_,_,ze,zF HO_3,zF ⟨Kd.R_types HO570.out BK543.out (by decide)⟩,bw⟩
    subst c43
    replace H:=zT H
    obtain ⟨t564,A44,H⟩:=zB H
    obtain ⟨t565,A45,H⟩:=zB H
    obtain ⟨rfl,rfl,rfl⟩:=zo3 H
    have hnb46:=NB542_543.out
    have hnc46:=NB543_542.out
    obtain ⟨hcz47_0,hfz47_0⟩:=zc BK542 0 (.bool true) rfl
    obtain ⟨hcz47_1,hfz47_1⟩:=zc BK542 1 (.slice A0_1 l0_1.length c0_1) rfl
    obtain ⟨hcz47_2,hfz47_2⟩:=zc BK542 2 (.slice A0_2 l0_2.length c0_2) rfl
    obtain ⟨Ao48,co48,rfl⟩:=Kd.V_slice HO_3.out
    go_wp2_with (first|(go_at_call 151;(with_reducible refine (YM.calls _ _ t544 t564 _ (zC (Kd.V_reads' HO_3.out).2.2) ((Kd.V_reads' HO_3.out).2.1) A44.out).mono ?_);rintro e w' ⟨rfl,⟨nd,rfl⟩⟩;(try (rw [drewN_self wc];generalize hq_:World.drewN wc _=wc;have n0_:Aside0 (Kd.V (Kd.int .u32) 97 wc w.heap.size (fun k_=>(w.heap.size≤k_)∧k_≠gb542∧k_≠gb543) (.slice Ao48 t544.length co48) t544):=⟨by rw [← hq_];exact (zV HO_3)⟩;have n1_:Aside0 (wc.heap[gb542]? = some (.cells #[.bool true,.slice A0_1 l0_1.length c0_1,.slice A0_2 l0_2.length c0_2] 103 (0,0))):=⟨by rw [← hq_];exact (zb BK542)⟩;have n2_:Aside0 (wc.heap[gb543]? = some (.cells #[.bool false,.slice none 0 0,.slice none 0 0] 103 (0,0))):=⟨by rw [← hq_];exact (zb BK543)⟩;have n3_:Aside0 (Below w.heap.size w wc):=⟨by rw [← hq_];exact bw⟩;clear HO_3 BK542 BK543 HB hq_;have HO_3:=n0_;have BK542:=n1_;have BK543:=n2_;have HB:=n3_;clear n0_ n1_ n2_ n3_)))|(refine zg (some 31) func137 #[] ?_;(with_reducible refine (YO.calls kj2  t565 _ A45.out).mono ?_);rintro e w49 ⟨v566,rfl,ho0,hb⟩;refine ⟨_,rfl,?_⟩;replace HO_3:=aZ (Kd.V_elder' (zV HO_3) (Kd.R_base ho0) hb);have HO567:=aZ (Kd.R_lower (Kd.R_newM (M:=fun k_=>(w.heap.size≤k_)) ho0 bs (fun k_ h_=>h_)) bs);replace BK542:=sK BK542 hb;replace BK543:=sK BK543 hb;replace HB:=sB hb;clear hb ho0;obtain ⟨Ao50,co50,rfl⟩:=Kd.R_slice HO567.out;obtain ⟨hcz51_0,hfz51_0⟩:=zc BK543 0 (.bool false) rfl;obtain ⟨hcz51_1,hfz51_1⟩:=zc BK543 1 (.slice none 0 0) rfl;obtain ⟨hcz51_2,hfz51_2⟩:=zc BK543 2 (.slice none 0 0) rfl))
    refine bodyPost_ret (results_cell_row rfl _ _ gb543 103 #[.bool (!t564),.slice Ao48 t544.length co48,.slice Ao50 t565.length co50] (0,0) _ rfl (zp BK543) underlying103 rfl (by kernel_rfl)) rfl ?_
    exact ⟨_,_,ze,zF HO_3,zF ⟨Kd.R_types HO567.out BK543.out (by decide)⟩,bw⟩
   subst c16
   replace H:=zT H
   obtain ⟨t551,A17,H⟩:=zB H
   obtain ⟨t554,A18,H⟩:=zB H
   by_cases c19:a0_0=true
   case neg=>
    replace c19:=Bool.eq_false_iff.mpr c19
    subst c19
    replace H:=zU H
    obtain ⟨t561,A32,H⟩:=zB H
    obtain ⟨rfl,rfl,rfl⟩:=zo3 H
    go_wp2_with (first|(refine zg (some 21) func137 #[] ?_;(with_reducible refine (YO.calls kj2  t551 _ A17.out).mono ?_);rintro e w33 ⟨v552,rfl,ho0,hb⟩;refine ⟨_,rfl,?_⟩;replace HO_3:=aZ (Kd.V_elder' (zV HO_3) (Kd.R_base ho0) hb);have HO553:=aZ (Kd.R_lower (Kd.R_newM (M:=fun k_=>(w.heap.size≤k_)) ho0 bs (fun k_ h_=>h_)) bs);replace BK542:=sK BK542 hb;replace BK543:=sK BK543 hb;replace HB:=sB hb;clear hb ho0;obtain ⟨Ao34,co34,rfl⟩:=Kd.V_slice HO_3.out;obtain ⟨Ao35,co35,rfl⟩:=Kd.R_slice HO553.out)|(refine zg (some 22) func152 #[.slice Ao34 t544.length co34,.slice Ao35 t551.length co35] ?_;(with_reducible refine (Y0k.calls kj2 _ _ t544 _ _ t551 t554 _ (zC (Kd.V_reads' HO_3.out).2.2) ((Kd.V_reads' HO_3.out).2.1) (zC (Kd.R_reads' HO553.out).2.2) ((Kd.R_reads' HO553.out).2.1) A18.out).mono ?_);rintro e w36 ⟨v555,rfl,ho0,hb⟩;refine ⟨_,rfl,?_⟩;replace HO_3:=aZ (Kd.V_elder' (zV HO_3) (Kd.R_base ho0) hb);have HO556:=aZ (Kd.R_lower (Kd.R_new' (Kd.R_newM (M:=fun k_=>(w.heap.size≤k_)) ho0 bs (fun k_ h_=>h_)) (Kd.R_lt (zR HO553))) bs);replace HO553:=aZ (Kd.R_elder' (zR HO553) (Kd.R_base ho0) hb);replace BK542:=sK BK542 hb;replace BK543:=sK BK543 hb;replace HB:=sB hb;clear hb ho0;have hnb37:=NB542_543.out;have hnc37:=NB543_542.out;obtain ⟨hcz38_0,hfz38_0⟩:=zc BK542 0 (.bool false) rfl;obtain ⟨hcz38_1,hfz38_1⟩:=zc BK542 1 (.slice A0_1 l0_1.length c0_1) rfl;obtain ⟨hcz38_2,hfz38_2⟩:=zc BK542 2 (.slice A0_2 l0_2.length c0_2) rfl)|(refine zg (some 31) func137 #[] ?_;(with_reducible refine (YO.calls kj2  t561 _ A32.out).mono ?_);rintro e w39 ⟨v562,rfl,ho0,hb⟩;refine ⟨_,rfl,?_⟩;replace HO_3:=aZ (Kd.V_elder' (zV HO_3) (Kd.R_base ho0) hb);have HO563:=aZ (Kd.R_lower (Kd.R_new' (Kd.R_new' (Kd.R_newM (M:=fun k_=>(w.heap.size≤k_)) ho0 bs (fun k_ h_=>h_)) (Kd.R_lt (zR HO553))) (Kd.R_lt (zR HO556))) bs);replace HO553:=aZ (Kd.R_elder' (zR HO553) (Kd.R_base ho0) hb);replace HO556:=aZ (Kd.R_elder' (zR HO556) (Kd.R_base ho0) hb);replace BK542:=sK BK542 hb;replace BK543:=sK BK543 hb;replace HB:=sB hb;clear hb ho0;obtain ⟨Ao40,co40,rfl⟩:=Kd.R_slice HO563.out;obtain ⟨Ao41,co41,rfl⟩:=Kd.R_slice HO556.out;obtain ⟨hcz42_0,hfz42_0⟩:=zc BK543 0 (.bool false) rfl;obtain ⟨hcz42_1,hfz42_1⟩:=zc BK543 1 (.slice none 0 0) rfl;obtain ⟨hcz42_2,hfz42_2⟩:=zc BK543 2 (.slice none 0 0) rfl))
    refine bodyPost_ret (results_cell_row rfl _ _ gb543 103 #[.bool false,.slice Ao41 t554.length co41,.slice Ao40 t561.length co40] (0,0) _ rfl (zp BK543) underlying103 rfl (by kernel_rfl)) rfl ?_
    exact ⟨_,_,ze,Kd.R_V (by (with_reducible repeat (first|apply Kd.R_alloc|apply Kd.R_drewN|apply Kd.R_drew));exact Kd.R_mono (Kd.R_far (p:=⟨gb543,2,none⟩) (Kd.R_far (p:=⟨gb543,1,none⟩) (Kd.R_far (p:=⟨gb543,0,none⟩) (Kd.R_types HO556.out BK543.out (by decide)) (fun k_ hk=>by first|exact hk.2|simp_all) (.bool false)) (fun k_ hk=>by first|exact hk.2|simp_all) (.slice Ao41 t554.length co41)) (fun k_ hk=>by first|exact hk.2|simp_all) (.slice Ao40 t561.length co40)) (fun k_ hk=>by first|exact ⟨hk.1.1.1.1,hk.1.2⟩|simp_all)),zF ⟨Kd.R_types HO563.out BK543.out (by decide)⟩,bw⟩
   subst c19
   replace H:=zT H
   obtain ⟨t557,A20,H⟩:=zB H
   obtain ⟨t558,A21,H⟩:=zB H
   obtain ⟨rfl,rfl,rfl⟩:=zo3 H
   go_wp2_with (first|(refine zg (some 21) func137 #[] ?_;(with_reducible refine (YO.calls kj2  t551 _ A17.out).mono ?_);rintro e w22 ⟨v552,rfl,ho0,hb⟩;refine ⟨_,rfl,?_⟩;replace HO_3:=aZ (Kd.V_elder' (zV HO_3) (Kd.R_base ho0) hb);have HO553:=aZ (Kd.R_lower (Kd.R_newM (M:=fun k_=>(w.heap.size≤k_)) ho0 bs (fun k_ h_=>h_)) bs);replace BK542:=sK BK542 hb;replace BK543:=sK BK543 hb;replace HB:=sB hb;clear hb ho0;obtain ⟨Ao23,co23,rfl⟩:=Kd.V_slice HO_3.out;obtain ⟨Ao24,co24,rfl⟩:=Kd.R_slice HO553.out)|(refine zg (some 22) func152 #[.slice Ao23 t544.length co23,.slice Ao24 t551.length co24] ?_;(with_reducible refine (Y0k.calls kj2 _ _ t544 _ _ t551 t554 _ (zC (Kd.V_reads' HO_3.out).2.2) ((Kd.V_reads' HO_3.out).2.1) (zC (Kd.R_reads' HO553.out).2.2) ((Kd.R_reads' HO553.out).2.1) A18.out).mono ?_);rintro e w25 ⟨v555,rfl,ho0,hb⟩;refine ⟨_,rfl,?_⟩;replace HO_3:=aZ (Kd.V_elder' (zV HO_3) (Kd.R_base ho0) hb);have HO556:=aZ (Kd.R_lower (Kd.R_new' (Kd.R_newM (M:=fun k_=>(w.heap.size≤k_)) ho0 bs (fun k_ h_=>h_)) (Kd.R_lt (zR HO553))) bs);replace HO553:=aZ (Kd.R_elder' (zR HO553) (Kd.R_base ho0) hb);replace BK542:=sK BK542 hb;replace BK543:=sK BK543 hb;replace HB:=sB hb;clear hb ho0;have hnb26:=NB542_543.out;have hnc26:=NB543_542.out;obtain ⟨hcz27_0,hfz27_0⟩:=zc BK542 0 (.bool true) rfl;obtain ⟨hcz27_1,hfz27_1⟩:=zc BK542 1 (.slice A0_1 l0_1.length c0_1) rfl;obtain ⟨hcz27_2,hfz27_2⟩:=zc BK542 2 (.slice A0_2 l0_2.length c0_2) rfl;obtain ⟨Ao28,co28,rfl⟩:=Kd.R_slice HO556.out)|(go_at_call 151;(with_reducible refine (YM.calls _ _ t554 t557 _ (zC (Kd.R_reads' HO556.out).2.2) ((Kd.R_reads' HO556.out).2.1) A20.out).mono ?_);rintro e w' ⟨rfl,⟨nd,rfl⟩⟩;(try (rw [drewN_self w25];generalize hq_:World.drewN w25 _=w25;have n0_:Aside0 (Kd.R (Kd.int .u32) 97 w25 w.heap.size (fun k_=>(w.heap.size≤k_)∧some k_≠(.slice Ao28 t554.length co28:Value).ownBlock) (.slice Ao24 t551.length co24) t551):=⟨by rw [← hq_];exact (rM HO553 (fun k_ hk=>by first|exact ⟨hk.1.1,hk.2⟩|simp_all))⟩;have n1_:Aside0 (Kd.R (Kd.int .u32) 97 w25 w.heap.size (fun k_=>(w.heap.size≤k_)∧some k_≠(.slice Ao24 t551.length co24:Value).ownBlock) (.slice Ao28 t554.length co28) t554):=⟨by rw [← hq_];exact (rM HO556 (fun k_ hk=>by first|exact ⟨hk.1.1,hk.2⟩|simp_all))⟩;have n2_:Aside0 (Kd.V (Kd.int .u32) 97 w25 w.heap.size (fun k_=>(w.heap.size≤k_)∧some k_≠(.slice Ao24 t551.length co24:Value).ownBlock∧some k_≠(.slice Ao28 t554.length co28:Value).ownBlock∧k_≠gb542∧k_≠gb543) (.slice Ao23 t544.length co23) t544):=⟨by rw [← hq_];exact (vM HO_3 (fun _ hk=>⟨hk.1.1.1,⟨hk.1.2,⟨hk.2,⟨hk.1.1.2.1,hk.1.1.2.2⟩⟩⟩⟩))⟩;have n3_:Aside0 (w25.heap[gb542]? = some (.cells #[.bool true,.slice A0_1 l0_1.length c0_1,.slice A0_2 l0_2.length c0_2] 103 (0,0))):=⟨by rw [← hq_];exact (zb BK542)⟩;have n4_:Aside0 (w25.heap[gb543]? = some (.cells #[.bool false,.slice none 0 0,.slice none 0 0] 103 (0,0))):=⟨by rw [← hq_];exact (zb BK543)⟩;have n5_:Aside0 (Below w.heap.size w w25):=⟨by rw [← hq_];exact bw⟩;clear HO553 HO556 HO_3 BK542 BK543 HB hq_;have HO553:=n0_;have HO556:=n1_;have HO_3:=n2_;have BK542:=n3_;have BK543:=n4_;have HB:=n5_;clear n0_ n1_ n2_ n3_ n4_ n5_)))|(refine zg (some 31) func137 #[] ?_;(with_reducible refine (YO.calls kj2  t558 _ A21.out).mono ?_);rintro e w29 ⟨v559,rfl,ho0,hb⟩;refine ⟨_,rfl,?_⟩;replace HO_3:=aZ (Kd.V_elder' (zV HO_3) (Kd.R_base ho0) hb);have HO560:=aZ (Kd.R_lower (Kd.R_new' (Kd.R_new' (Kd.R_newM (M:=fun k_=>(w.heap.size≤k_)) ho0 bs (fun k_ h_=>h_)) (Kd.R_lt (zR HO553))) (Kd.R_lt (zR HO556))) bs);replace HO553:=aZ (Kd.R_elder' (zR HO553) (Kd.R_base ho0) hb);replace HO556:=aZ (Kd.R_elder' (zR HO556) (Kd.R_base ho0) hb);replace BK542:=sK BK542 hb;replace BK543:=sK BK543 hb;replace HB:=sB hb;clear hb ho0;obtain ⟨Ao30,co30,rfl⟩:=Kd.R_slice HO560.out;obtain ⟨hcz31_0,hfz31_0⟩:=zc BK543 0 (.bool false) rfl;obtain ⟨hcz31_1,hfz31_1⟩:=zc BK543 1 (.slice none 0 0) rfl;obtain ⟨hcz31_2,hfz31_2⟩:=zc BK543 2 (.slice none 0 0) rfl))
   refine bodyPost_ret (results_cell_row rfl _ _ gb543 103 #[.bool (!t557),.slice Ao28 t554.length co28,.slice Ao30 t558.length co30] (0,0) _ rfl (zp BK543) underlying103 rfl (by kernel_rfl)) rfl ?_
   exact ⟨_,_,ze,Kd.R_V (by (with_reducible repeat (first|apply Kd.R_alloc|apply Kd.R_drewN|apply Kd.R_drew));exact Kd.R_mono (Kd.R_far (p:=⟨gb543,2,none⟩) (Kd.R_far (p:=⟨gb543,1,none⟩) (Kd.R_far (p:=⟨gb543,0,none⟩) (Kd.R_types HO556.out BK543.out (by decide)) (fun k_ hk=>by first|exact hk.2|simp_all) (.bool (!t557))) (fun k_ hk=>by first|exact hk.2|simp_all) (.slice Ao28 t554.length co28)) (fun k_ hk=>by first|exact hk.2|simp_all) (.slice Ao30 t558.length co30)) (fun k_ hk=>by first|exact ⟨hk.1.1.1.1,hk.1.2⟩|simp_all)),zF ⟨Kd.R_types HO560.out BK543.out (by decide)⟩,bw⟩
def Y0h.f (k:Nat) (a0_0:Bool) (l0_1:List Int) (l0_2:List Int):Option (Bool×List Int×List Int):=(YR.f k 1 2).bind fun bt573=>((Yd.f k a0_0 l0_1 l0_2 bt573.1 bt573.2.1 bt573.2.2).bind fun bt580=>((YX.f k bt580.1 bt580.2.1 bt580.2.2).bind fun bt587=>(some (bt587.1,bt587.2.1,bt587.2.2))))
theorem Y0h.calls (k:Nat) (a0_0:Bool) (P0_1_:Nat→Prop) (A0_1:Option Addr) (c0_1:Nat) (l0_1:List Int) (P0_2_:Nat→Prop) (A0_2:Option Addr) (c0_2:Nat) (l0_2:List Int) (r1:Bool) (r2:List Int) (r3:List Int) (w:World) (hs0_1:Kd.V (Kd.int .u32) 97 w w.heap.size (fun k_=>P0_1_ k_) (.slice A0_1 l0_1.length c0_1) l0_1) (hs0_2:Kd.V (Kd.int .u32) 97 w w.heap.size (fun k_=>P0_2_ k_) (.slice A0_2 l0_2.length c0_2) l0_2) (h:Y0h.f k a0_0 l0_1 l0_2=some (r1,r2,r3)) :
  Calls Tryz.prog 129 #[.agg #[.bool a0_0,.slice A0_1 l0_1.length c0_1,.slice A0_2 l0_2.length c0_2]] w fun e w'=>∃ v1_ v2_:Value,e = .returned (.agg #[.bool r1,v1_,v2_])∧Kd.V (Kd.int .u32) 97 w' w.heap.size (fun k_=>((P0_1_ k_∨P0_2_ k_)∨w.heap.size≤k_)∧some k_≠(v2_:Value).ownBlock) v1_ r2∧Kd.R (Kd.int .u32) 97 w' w.heap.size (fun k_=>(w.heap.size≤k_)) v2_ r3∧Below w.heap.size w w':=by
 have hu103:=underlying103
 have HO0_1:=aZ (show Kd.V (Kd.int .u32) 97 w w.heap.size (fun k_=>((P0_1_ k_∨P0_2_ k_)∨w.heap.size≤k_)) (.slice A0_1 l0_1.length c0_1) l0_1 from Kd.V_mono hs0_1 (fun k_ hk=>.inl (.inl hk)))
 have HO0_2:=aZ (show Kd.V (Kd.int .u32) 97 w w.heap.size (fun k_=>((P0_1_ k_∨P0_2_ k_)∨w.heap.size≤k_)) (.slice A0_2 l0_2.length c0_2) l0_2 from Kd.V_mono hs0_2 (fun k_ hk=>.inl (.inr hk)))
 have HB:=aZ (Below.refl w.heap.size w)
 have H:=h
 unfold Y0h.f at H
 clear h
 obtain ⟨⟨t573,t574,t577⟩,A2,H⟩:=zB H
 (try dsimp only at H)
 obtain ⟨⟨t580,t581,t584⟩,A3,H⟩:=zB H
 (try dsimp only at H)
 obtain ⟨⟨t587,t588,t591⟩,A4,H⟩:=zB H
 (try dsimp only at H)
 obtain ⟨rfl,rfl,rfl⟩:=zo3 H
 go_enter func129,ntmps129
 try go_wp2_with (first|(refine box_ev 1 #[.bool a0_0,.slice A0_1 l0_1.length c0_1,.slice A0_2 l0_2.length c0_2] 103 ?_;intro gb571 hg w5 hbox hb;replace HO0_1:=yE HO0_1 hg hb;replace HO0_2:=yE HO0_2 hg hb;have BK571:=aZ hbox;have GE571:=sG hg;replace HB:=sB hb;clear hb hbox hg)|(refine box_ev 2 #[.bool false,.slice none 0 0,.slice none 0 0] 103 ?_;intro gb572 hg w6 hbox hb;replace HO0_1:=yE HO0_1 hg hb;replace HO0_2:=yE HO0_2 hg hb;have BK572:=aZ hbox;have GE572:=sG hg;replace HB:=sB hb;obtain ⟨NB571_572,NB572_571,BK571⟩:=sX hg hb BK571;clear hb hbox hg))
 replace HO0_1:=aZ (Kd.V_drew HO0_1.out)
 replace HO0_2:=aZ (Kd.V_drew HO0_2.out)
 replace BK571:=aZ (blk_drew BK571.out)
 replace BK572:=aZ (blk_drew BK572.out)
 replace HB:=aZ (below_drew1 HB.out)
 refine start_ (n:=5) (S:=fun w'=>w'.cell? ⟨gb571,0,none⟩=some (.bool a0_0)∧w'.cell? ⟨gb571,1,none⟩=some (.slice A0_1 l0_1.length c0_1)∧w'.cell? ⟨gb571,2,none⟩=some (.slice A0_2 l0_2.length c0_2)) (ds:=[]) #[false,false,false,false,false] (by kernel_rfl) rfl rfl ⟨zh BK571 0,zh BK571 1,zh BK571 2⟩ (fun hHeld=>?_)
 generalize w6.drew=w7 at HO0_1 HO0_2 BK571 BK572 HB hHeld ⊢
 refine tv 0 (some 3) hHeld ?_
 refine one_ (i:=1) (N:=some 4) #[true,true,false,false,false] rfl rfl (by kernel_rfl) (by decide) (fun K hK=>?_)
 refine goes_ func95 (by kernel_rfl) rfl #[.int .i64 1,.int .i64 2] (by rfl) rfl rfl zm ?_
 with_reducible refine (YR.calls k 1 2 t573 t574 t577 _ A2.out).mono ?_
 rintro e w8 ⟨v575,v578,rfl,ho0,ho1,hb⟩
 refine ⟨_,rfl,?_⟩
 replace HO0_1:=yV HO0_1 hb
 replace HO0_2:=yV HO0_2 hb
 have HO576:=yL (fun k_=>((P0_1_ k_∨P0_2_ k_)∨w.heap.size≤k_)∧k_≠gb571∧k_≠gb572) ho0 (fun k_ hk_=>⟨(.inr (Nat.le_trans bs hk_)),(zf BK571 hk_),(zf BK572 hk_)⟩)
 have HO579:=yL (fun k_=>((P0_1_ k_∨P0_2_ k_)∨w.heap.size≤k_)∧k_≠gb571∧k_≠gb572) ho1 (fun k_ hk_=>⟨(.inr (Nat.le_trans bs hk_)),(zf BK571 hk_),(zf BK572 hk_)⟩)
 replace BK571:=sK BK571 hb
 replace BK572:=sK BK572 hb
 replace HB:=sB hb
 clear hb ho0 ho1
 obtain ⟨Ao9,co9,eo9⟩:=Kd.V_slice HO576.out
 (first|subst eo9|(injection eo9 with f1_ f2_ f3_;have f4_:=f1_.symm;have f5_:=f3_.symm;clear f1_ f2_ f3_;subst f4_;subst f5_))
 obtain ⟨Ao10,co10,eo10⟩:=Kd.V_slice HO579.out
 (first|subst eo10|(injection eo10 with f1_ f2_ f3_;have f4_:=f1_.symm;have f5_:=f3_.symm;clear f1_ f2_ f3_;subst f4_;subst f5_))
 refine hK.out _ _ ⟨zh BK571 0,zh BK571 1,zh BK571 2⟩ (fun hHeld=>?_)
 clear hK K
 refine nm ?_
 refine one_ (i:=2) (N:=some 5) #[true,true,true,false,false] rfl rfl (by kernel_rfl) (by decide) (fun K hK=>?_)
 refine goes_ func117 (by kernel_rfl) rfl #[.agg #[.bool a0_0,.slice A0_1 l0_1.length c0_1,.slice A0_2 l0_2.length c0_2],.agg #[.bool t573,.slice Ao9 t574.length co9,.slice Ao10 t577.length co10]] (by rfl) rfl rfl zm ?_
 with_reducible refine (Yd.calls k a0_0 (fun k_=>((((P0_1_ k_∨P0_2_ k_)∨w.heap.size≤k_)∧k_≠gb571)∧k_≠gb572)) _ _ l0_1 (fun k_=>((((P0_1_ k_∨P0_2_ k_)∨w.heap.size≤k_)∧k_≠gb571)∧k_≠gb572)) _ _ l0_2 t573 (fun k_=>(((P0_1_ k_∨P0_2_ k_)∨w.heap.size≤k_)∧(k_≠gb571∧k_≠gb572))) _ _ t574 _ _ t577 t580 t581 t584 _ HO0_1.out HO0_2.out HO576.out (zC (Kd.V_reads' HO579.out).2.2) ((Kd.V_reads' HO579.out).2.1) A3.out).mono ?_
 rintro e w11 ⟨v582,v585,rfl,ho0,ho1,hb⟩
 refine ⟨_,rfl,?_⟩
 replace HO0_1:=yV HO0_1 hb
 replace HO0_2:=yV HO0_2 hb
 replace HO576:=yV HO576 hb
 replace HO579:=yV HO579 hb
 have HO583:=yL (fun k_=>((P0_1_ k_∨P0_2_ k_)∨w.heap.size≤k_)∧k_≠gb571∧k_≠gb572) ho0 (fun k_ hk_=>⟨Or.elim hk_ (fun hs_=>Or.elim hs_ (fun hs_=>hs_.1.1) (fun hs_=>Or.elim hs_ (fun hs_=>hs_.1.1) (fun hs_=>hs_.1))) (fun hn_=>(.inr (Nat.le_trans bs hn_))),Or.elim hk_ (fun hs_=>Or.elim hs_ (fun hs_=>hs_.1.2) (fun hs_=>Or.elim hs_ (fun hs_=>hs_.1.2) (fun hs_=>hs_.2.1))) (fun hn_=>(zf BK571 hn_)),Or.elim hk_ (fun hs_=>Or.elim hs_ (fun hs_=>hs_.2) (fun hs_=>Or.elim hs_ (fun hs_=>hs_.2) (fun hs_=>hs_.2.2))) (fun hn_=>(zf BK572 hn_))⟩)
 have HO586:=yL (fun k_=>((P0_1_ k_∨P0_2_ k_)∨w.heap.size≤k_)∧k_≠gb571∧k_≠gb572) ho1 (fun k_ hk_=>⟨Or.elim hk_ (fun hs_=>Or.elim hs_ (fun hs_=>hs_.1.1) (fun hs_=>Or.elim hs_ (fun hs_=>hs_.1.1) (fun hs_=>hs_.1))) (fun hn_=>(.inr (Nat.le_trans bs hn_))),Or.elim hk_ (fun hs_=>Or.elim hs_ (fun hs_=>hs_.1.2) (fun hs_=>Or.elim hs_ (fun hs_=>hs_.1.2) (fun hs_=>hs_.2.1))) (fun hn_=>(zf BK571 hn_)),Or.elim hk_ (fun hs_=>Or.elim hs_ (fun hs_=>hs_.2) (fun hs_=>Or.elim hs_ (fun hs_=>hs_.2) (fun hs_=>hs_.2.2))) (fun hn_=>(zf BK572 hn_))⟩)
 replace BK571:=sK BK571 hb
 replace BK572:=sK BK572 hb
 replace HB:=sB hb
 clear hb ho0 ho1
 obtain ⟨Ao12,co12,eo12⟩:=Kd.V_slice HO583.out
 (first|subst eo12|(injection eo12 with f1_ f2_ f3_;have f4_:=f1_.symm;have f5_:=f3_.symm;clear f1_ f2_ f3_;subst f4_;subst f5_))
 obtain ⟨Ao13,co13,eo13⟩:=Kd.V_slice HO586.out
 (first|subst eo13|(injection eo13 with f1_ f2_ f3_;have f4_:=f1_.symm;have f5_:=f3_.symm;clear f1_ f2_ f3_;subst f4_;subst f5_))
 refine hK.out _ _ ⟨zh BK571 0,zh BK571 1,zh BK571 2⟩ (fun hHeld=>?_)
 clear hK K
 refine nm ?_
 refine one_ (i:=3) (N:=some 6) #[true,true,true,true,false] rfl rfl (by kernel_rfl) (by decide) (fun K hK=>?_)
 refine goes_ func132 (by kernel_rfl) rfl #[.agg #[.bool t580,.slice Ao12 t581.length co12,.slice Ao13 t584.length co13]] (by rfl) rfl rfl zm ?_
 with_reducible refine (YX.calls k t580 _ _ t581 _ _ t584 t587 t588 t591 _ (zC (Kd.V_reads' HO583.out).2.2) ((Kd.V_reads' HO583.out).2.1) (zC (Kd.V_reads' HO586.out).2.2) ((Kd.V_reads' HO586.out).2.1) A4.out).mono ?_
 rintro e w14 ⟨v589,v592,rfl,ho0,ho1,hb⟩
 refine ⟨_,rfl,?_⟩
 replace HO0_1:=aZ (Kd.V_elder' (zV HO0_1) (Kd.R_base ho1) hb)
 replace HO0_2:=aZ (Kd.V_elder' (zV HO0_2) (Kd.R_base ho1) hb)
 replace HO576:=aZ (Kd.V_elder' (zV HO576) (Kd.R_base ho1) hb)
 replace HO579:=aZ (Kd.V_elder' (zV HO579) (Kd.R_base ho1) hb)
 replace HO583:=aZ (Kd.V_elder' (zV HO583) (Kd.R_base ho1) hb)
 replace HO586:=aZ (Kd.V_elder' (zV HO586) (Kd.R_base ho1) hb)
 have HO590:=yL (fun k_=>((P0_1_ k_∨P0_2_ k_)∨w.heap.size≤k_)∧some k_≠(v592:Value).ownBlock∧k_≠gb571∧k_≠gb572) ho0 (fun k_ hk_=>⟨(.inr (Nat.le_trans bs hk_.1)),hk_.2,(Kd.freshB (g:=gb571) (o:=.cells #[.bool a0_0,.slice A0_1 l0_1.length c0_1,.slice A0_2 l0_2.length c0_2] 103 (0,0)) (zb BK571) k_ hk_.1),(Kd.freshB (g:=gb572) (o:=.cells #[.bool false,.slice none 0 0,.slice none 0 0] 103 (0,0)) (zb BK572) k_ hk_.1)⟩)
 have HO593:=aZ (Kd.R_lower (Kd.R_newM (M:=fun k_=>(w.heap.size≤k_)) (Kd.R_mono (ok':=fun k_=>True) ho1 (fun _ hk_=>trivial)) bs (fun k_ h_=>h_)) bs)
 replace BK571:=sK BK571 hb
 replace BK572:=sK BK572 hb
 replace HB:=sB hb
 clear hb ho0 ho1
 obtain ⟨Ao16,co16,eo16⟩:=Kd.V_slice HO590.out
 (first|subst eo16|(injection eo16 with f1_ f2_ f3_;have f4_:=f1_.symm;have f5_:=f3_.symm;clear f1_ f2_ f3_;subst f4_;subst f5_))
 obtain ⟨Ao18,co18,eo18⟩:=Kd.R_slice HO593.out
 (first|subst eo18|(injection eo18 with f1_ f2_ f3_;have f4_:=f1_.symm;have f5_:=f3_.symm;clear f1_ f2_ f3_;subst f4_;subst f5_))
 refine hK.out _ _ ⟨zh BK571 0,zh BK571 1,zh BK571 2⟩ (fun hHeld=>?_)
 clear hK K
 refine nm ?_
 refine one_ (i:=4) (N:=none) #[true,true,true,true,true] rfl rfl (by kernel_rfl) (by decide) (fun K hK=>?_)
 have hs15:w14.cell? ⟨gb572,0,none⟩=some (.bool false):=(blk_cell BK572.out 0).trans rfl
 have hfs15:=blk_frozen BK572.out 0
 have hns15_0:=NB571_572.out
 have hms15_0:=NB572_571.out
 have hs17:w14.cell? ⟨gb572,1,none⟩=some (.slice none 0 0):=(blk_cell BK572.out 1).trans rfl
 have hfs17:=blk_frozen BK572.out 1
 have hns17_0:=NB571_572.out
 have hms17_0:=NB572_571.out
 have hs19:w14.cell? ⟨gb572,2,none⟩=some (.slice none 0 0):=(blk_cell BK572.out 2).trans rfl
 have hfs19:=blk_frozen BK572.out 2
 have hns19_0:=NB571_572.out
 have hms19_0:=NB572_571.out
 refine skip_ (w1:=?_) (by rfl) rfl ?_ ?_
 rotate_left
 ·go_simp
  rfl
 refine hK.out _ _ ⟨((cell_far (p:=⟨gb572,_,none⟩) NB571_572.out _).trans (((cell_far (p:=⟨gb572,_,none⟩) NB571_572.out _).trans (((cell_far (p:=⟨gb572,_,none⟩) NB571_572.out _).trans (hHeld.1)))))),((cell_far (p:=⟨gb572,_,none⟩) NB571_572.out _).trans (((cell_far (p:=⟨gb572,_,none⟩) NB571_572.out _).trans (((cell_far (p:=⟨gb572,_,none⟩) NB571_572.out _).trans (hHeld.2.1)))))),((cell_far (p:=⟨gb572,_,none⟩) NB571_572.out _).trans (((cell_far (p:=⟨gb572,_,none⟩) NB571_572.out _).trans (((cell_far (p:=⟨gb572,_,none⟩) NB571_572.out _).trans (hHeld.2.2))))))⟩ (fun hHeld=>?_)
 clear hK K
 refine done_ (by kernel_rfl) ?_
 try go_wp2
 refine bodyPost_ret (results_cell_row rfl _ _ gb572 103 #[.bool t587,.slice Ao16 t588.length co16,.slice Ao18 t591.length co18] (0,0) _ rfl (zp BK572) underlying103 rfl (by kernel_rfl)) rfl ?_
 exact ⟨_,_,ze,zF HO590,zF ⟨Kd.R_types HO593.out BK572.out (by decide)⟩,bw⟩
section
def Back.over (l:List Int):Bool:=(List.range l.length).any fun k=>decide (4611686018≤Back.acc (Back.seq l k))
def Back.low (pre:List (Int×Int)):Prop:=∀ k,k<pre.length→Back.acc (pre.take k)<4611686018
theorem Back.low_nil:Back.low []:=fun k hk=>absurd hk (Nat.not_lt_zero _)
theorem Back.low_snoc {pre:List (Int×Int)} (x:Int×Int) (h:Back.low pre) (hx:Back.acc pre<4611686018):Back.low (pre++[x]):=by
 intro k hk
 rw [List.length_append,List.length_singleton] at hk
 rcases Nat.lt_or_ge k pre.length with h1|h1
 ·rw [List.take_append_of_le_length (Nat.le_of_lt h1)];exact h k h1
 ·obtain rfl:k=pre.length:=by omega
  rw [List.take_append_of_le_length (Nat.le_refl _),List.take_length];exact hx
theorem Back.seq_take (l:List Int) {k n:Nat} (h:k≤n):(Back.seq l n).take k=Back.seq l k:=by
 unfold Back.seq;rw [← List.map_take,List.take_range,Nat.min_eq_left h]
theorem Back.over_of_low {l:List Int} (h:Back.low (Back.seq l l.length)):Back.over l=false:=by
 unfold Back.over
 rw [List.any_eq_false]
 intro k hk
 rw [List.mem_range] at hk
 have h1:=h k (by rw [Back.seq_length];exact hk)
 rw [Back.seq_take l (Nat.le_of_lt hk)] at h1
 simp only [decide_eq_true_eq];omega
theorem Back.over_of_high {l:List Int} {k:Nat} (hk:k≤l.length) {pre:List (Int×Int)} {x:Int×Int} (e:pre++[x]=Back.seq l k) (h:4611686018≤Back.acc pre):Back.over l=true:=by
 have hl:pre.length+1=k:=by have:=congrArg List.length e;rw [Back.seq_length,List.length_append,List.length_singleton] at this;exact this
 have hp:pre=Back.seq l pre.length:=by
  have:=congrArg (List.take pre.length) e
  rw [List.take_append_of_le_length (Nat.le_refl _),List.take_length,Back.seq_take l (by omega)] at this
  exact this
 unfold Back.over
 rw [List.any_eq_true]
 exact ⟨pre.length,List.mem_range.2 (by omega),by rw [← hp];exact decide_eq_true h⟩
def Y0c.f (l0:List Int):Option (Int×Bool):=some (if (3:Int)<(l0.length:Int) then (0,false) else if Back.over l0 then (0,false) else (wrap64 (Back.wideW l0),decide (Back.wideW l0<4611686018427387904)))
attribute [local go_sem] Oper.semAt_some
set_option maxHeartbeats 4000000 in
set_option maxRecDepth 100000 in
theorem Y0c.calls (A0:Option Addr) (c0:Nat) (l0:List Int) (r1:Int) (r2:Bool) (w:World) (hr0:Kd.C (Kd.int .u32) w A0 l0.length l0) (hc0:l0.length≤c0) (h:Y0c.f l0=some (r1,r2)) :
  Calls Tryz.prog 156 #[.slice A0 l0.length c0] w fun e w'=>e = .returned (.tuple #[.int .i64 r1,.bool r2])∧Below w.heap.size w w':=by
 unfold Y0c.f at h
 have hres:=Option.some.inj h
 clear h
 refine (callsIn_wide (n:=3)).1 ?_
 have h1:1≤3:=by omega
 refine callsIn_of_wp_marks func156 rfl trivial ?_ rfl
 simp only [ntmps156,List.size_toArray,List.length_cons,List.length_nil,Nat.reduceAdd,Nat.reduceSub,Array.replicate_succ,Array.replicate_zero,List.push_toArray,List.append_toArray,List.nil_append,List.cons_append]
 have HC:=aZ hr0
 have HE:=aZ hres
 clear hr0 hres hc0
 by_cases c0':(3:Int)<(l0.length:Int)
 ·have c0b:=decide_eq_true c0'
  have hE:=HE.out
  rw [if_pos c0'] at hE
  gi_wp2_with (fail)
  have b0:=Boxed.new w 3 (.int .i64 0)
  have b1:=Boxed.new (w.alloc (.cells #[.int .i64 0] 3)) 4 (.bool false)
  simp only [World.size_alloc] at b1
  have q0:=(b0.alloc (.cells #[.bool false] 4)).cell
  have q1:=b1.cell
  cases hE
  refine ⟨.tuple #[.int .i64 0,.bool false],?_,rfl,((Below.refl _ w).alloc (Nat.le_refl _) _).alloc (by simp) _⟩
  simp [results,Tryz.f156,go_sem,q0,q1]
 have c0b:=decide_eq_false c0'
 gi_wp2_with (fail)
 refine ⟨trivial,?_⟩
 refine (Back.back_in _ 2 trivial rfl _ _ _ _).mono ?_
 rintro e w1 ⟨rfl,rfl⟩
 gi_wp2
 have b0:=Boxed.new w 3 (.int .i64 0)
 have b1:=Boxed.new (w.alloc (.cells #[.int .i64 0] 3)) 4 (.bool false)
 have b2:=Boxed.new ((w.alloc (.cells #[.int .i64 0] 3)).alloc (.cells #[.bool false] 4)) 95 (.int .u64 0)
 have b3:=Boxed.new (((w.alloc (.cells #[.int .i64 0] 3)).alloc (.cells #[.bool false] 4)).alloc (.cells #[.int .u64 0] 95)) 101 (.slice A0 l0.length c0)
 simp only [World.size_alloc] at b1 b2 b3
 have hB0:Below w.heap.size w ((((w.alloc (.cells #[.int .i64 0] 3)).alloc (.cells #[.bool false] 4)).alloc (.cells #[.int .u64 0] 95)).alloc (.cells #[.slice A0 l0.length c0] 101)) :=
  ((((Below.refl _ w).alloc (Nat.le_refl _) _).alloc (by simp) _).alloc (by simp;omega) _).alloc (by simp;omega) _
 refine wpIn_rangeFunc_ownG rfl h1 (gf:=204) (lb:=#[.pointer (some ⟨w.heap.size+1+1+1,0,none⟩)]) rfl trivial (enters_of func204 (by kernel_rfl) rfl)
  (Back.back_stops Fence.wide (3-1) trivial rfl (by omega) (w.heap.size+1+1+1) w.heap.size c0 A0 l0 w _ HC.out rfl (by simp;omega) hB0 (by simp) b3.cell) Back.Keep.trans (Back.Keep.put (by simp;omega)) (Below.refl _ _) (fun _=>rfl)
  (fun pre W=>(((Back.low pre∧Boxed W w.heap.size 3 (.int .i64 0))∧Boxed W (w.heap.size+1) 4 (.bool false))∧Boxed W (w.heap.size+1+1) 95 (.int .u64 (Back.acc pre)))∧Below w.heap.size w W)
  (fun c pre W=>(((c = .ret∧∃ p x,p++[x]=pre∧4611686018≤Back.acc p)∧Boxed W w.heap.size 3 (.int .i64 0))∧Boxed W (w.heap.size+1) 4 (.bool false))∧Below w.heap.size w W)
  (OwnFrom.and (OwnFrom.and (OwnFrom.and (OwnFrom.and (ownFrom_pure _ _) (Own.from (boxed_own _ _ _) _)) (Own.from (boxed_own _ _ _) _)) (Own.from (boxed_own _ _ _) _)) (ownFrom_below (Nat.le_refl _) (by simp;omega)))
  (fun c=>OwnFrom.and (OwnFrom.and (OwnFrom.and (ownFrom_pure _ _) (Own.from (boxed_own _ _ _) _)) (Own.from (boxed_own _ _ _) _)) (ownFrom_below (Nat.le_refl _) (by simp;omega)))
  ⟨⟨⟨⟨Back.low_nil,((b0.alloc _).alloc _).alloc _⟩,(b1.alloc _).alloc _⟩,b2.alloc _⟩,hB0⟩
  (fun x=>{ tmps:=#[.slice A0 l0.length c0,undef,.pointer (some ⟨w.heap.size,0,none⟩),.pointer (some ⟨w.heap.size+1,0,none⟩),.pointer (some ⟨w.heap.size+1+1,0,none⟩),undef,.int .u32 x.2,.slice A0 l0.length c0,.int .i64 l0.length,.bool false,.slice A0 l0.length c0,.func (.func 204) #[] #[.pointer (some ⟨w.heap.size+1+1+1,0,none⟩)],.int .i64 x.1,.int .u32 x.2,undef,undef,undef,undef,undef,undef,undef,undef,undef,undef,undef],defers:=[] }) ?assign ?body ?done ?stop
 case assign =>
  intro l x W K hK
  gi_wp2
  exact hK
 case body =>
  rintro l pre x W ⟨⟨⟨⟨hlow,k0⟩,k1⟩,k2⟩,hB⟩ _
  have q2:=k2.cell
  have q0:=k0.cell
  have q1:=k1.cell
  have f0:=k0.frozen
  have f1:=k1.frozen
  have f2:=k2.frozen
  by_cases hx:4611686018≤Back.acc pre
  case neg=>
   have hxb:=decide_eq_false hx
   gi_wp2
   refine ⟨(KeepsOthers.setCell _ _ _).from _,⟨(Below.refl w.heap.size W).setCell (p:=⟨w.heap.size+1+1,0,none⟩) (by simp;omega) _,fun v e=>?_⟩,⟨⟨⟨Back.low_snoc x hlow (by omega),k0.other (by omega) _⟩,k1.other (by omega) _⟩,?_⟩,hB.setCell (p:=⟨w.heap.size+1+1,0,none⟩) (by simp;omega) _⟩
   ·rw [← e];exact World.cell?_of_block (Below.heap_setCell W ⟨w.heap.size+1+1,0,none⟩ _ (w.heap.size+1+1+1) (by simp))
   ·rw [Back.acc_snoc];exact k2.set _
  have hxb:=decide_eq_true hx
  gi_wp2
  refine ⟨((KeepsOthers.setCell _ _ _).from _).trans ((KeepsOthers.setCell _ _ _).from _),⟨⟨⟨rfl,pre,x,rfl,hx⟩,(k0.set _).other (by omega) _⟩,(k1.other (by omega) _).set _⟩,(hB.setCell (p:=⟨w.heap.size,0,none⟩) (Nat.le_refl _) _).setCell (p:=⟨w.heap.size+1,0,none⟩) (by simp) _⟩
 case done =>
  rintro D ys W hD rfl ⟨⟨⟨⟨hlow,k0⟩,k1⟩,k2⟩,hB⟩ hK
  have q2:=k2.cell
  have q0:=k0.cell
  have q1:=k1.cell
  have f0:=k0.frozen
  have f1:=k1.frozen
  have hE:=HE.out
  rw [if_neg (by omega),if_neg (by rw [Back.over_of_low hlow];decide)] at hE
  cases hE
  rw [Back.acc_all] at q2
  gi_wp2
  gi_region
  gi_wp2
  have hK':(((W.setCell ⟨w.heap.size,0,none⟩ (.int .i64 (wrap64 (Back.wideW l0)))).setCell ⟨w.heap.size+1,0,none⟩ (.bool (decide (Back.wideW l0<4611686018427387904)))).drew).heap[D]? = some (.deferred (some [])) :=
   (KeepsOthers.setCell (W.setCell ⟨w.heap.size,0,none⟩ (.int .i64 (wrap64 (Back.wideW l0)))) ⟨w.heap.size+1,0,none⟩ (.bool (decide (Back.wideW l0<4611686018427387904)))).same D _ ((KeepsOthers.setCell W ⟨w.heap.size,0,none⟩ (.int .i64 (wrap64 (Back.wideW l0)))).same D _ hK rfl) rfl
  refine ⟨by simp,.inl ⟨_,_,rfl,run_takeDeferred hK',?_⟩⟩
  have y0:Boxed (((W.setCell ⟨w.heap.size,0,none⟩ (.int .i64 (wrap64 (Back.wideW l0)))).setCell ⟨w.heap.size+1,0,none⟩ (.bool (decide (Back.wideW l0<4611686018427387904)))).drew) w.heap.size 3 (.int .i64 (wrap64 (Back.wideW l0))) :=
   (k0.set (.int .i64 (wrap64 (Back.wideW l0)))).other (B':=w.heap.size+1) (by omega) (.bool (decide (Back.wideW l0<4611686018427387904)))
  have y1:Boxed (((W.setCell ⟨w.heap.size,0,none⟩ (.int .i64 (wrap64 (Back.wideW l0)))).setCell ⟨w.heap.size+1,0,none⟩ (.bool (decide (Back.wideW l0<4611686018427387904)))).drew) (w.heap.size+1) 4 (.bool (decide (Back.wideW l0<4611686018427387904))) :=
   (k1.other (B':=w.heap.size) (by omega) (.int .i64 (wrap64 (Back.wideW l0)))).set (.bool (decide (Back.wideW l0<4611686018427387904)))
  have e0:=cell_kept y0.cell (grownBy_putObj' _ D (.deferred none)) (fun r e=>by cases e;exact ⟨_,hK',rfl⟩)
  have e1:=cell_kept y1.cell (grownBy_putObj' _ D (.deferred none)) (fun r e=>by cases e;exact ⟨_,hK',rfl⟩)
  refine ⟨.tuple #[.int .i64 (wrap64 (Back.wideW l0)),.bool (decide (Back.wideW l0<4611686018427387904))],?_,rfl,((hB.setCell (p:=⟨w.heap.size,0,none⟩) (Nat.le_refl _) _).setCell (p:=⟨w.heap.size+1,0,none⟩) (by simp) _).drew.trans (belowK_b (w:=w) (Nat.le_refl _) _ D _ _ (by simp at hD;omega) hK' rfl rfl)⟩
  simp [results,Tryz.f156,go_sem,e0,e1]
 case stop =>
  rintro D c pre W hD ⟨k,hk,hp⟩ ⟨⟨⟨⟨rfl,p,x,he,hx⟩,k0⟩,k1⟩,hB⟩ hK
  have hE:=HE.out
  rw [if_neg (by omega),if_pos (Back.over_of_high hk (he.trans hp) hx)] at hE
  cases hE
  gi_wp2
  refine ⟨by simp,.inl ⟨_,_,rfl,run_takeDeferred hK,?_⟩⟩
  have e0:=cell_kept k0.cell (grownBy_putObj' _ D (.deferred none)) (fun r e=>by cases e;exact ⟨_,hK,rfl⟩)
  have e1:=cell_kept k1.cell (grownBy_putObj' _ D (.deferred none)) (fun r e=>by cases e;exact ⟨_,hK,rfl⟩)
  refine ⟨.tuple #[.int .i64 0,.bool false],?_,rfl,hB.trans (belowK_b (w:=w) (Nat.le_refl _) W D _ _ (by simp at hD;omega) hK rfl rfl)⟩
  simp [results,Tryz.f156,go_sem,e0,e1]
end
def Y0f.f (a0_0:Bool) (l0_1:List Int) (l0_2:List Int):Option (Bool):=(YJ.f l0_2).bind fun t595=>(some t595)
theorem Y0f.calls (a0_0:Bool) (A0_1:Option Addr) (c0_1:Nat) (l0_1:List Int) (A0_2:Option Addr) (c0_2:Nat) (l0_2:List Int) (r:Bool) (w:World) (hr0_1:Kd.C (Kd.int .u32) w A0_1 l0_1.length l0_1) (hc0_1:l0_1.length≤c0_1) (hr0_2:Kd.C (Kd.int .u32) w A0_2 l0_2.length l0_2) (hc0_2:l0_2.length≤c0_2) (h:Y0f.f a0_0 l0_1 l0_2=some r) :
  Calls Tryz.prog 157 #[.agg #[.bool a0_0,.slice A0_1 l0_1.length c0_1,.slice A0_2 l0_2.length c0_2]] w fun e w'=>e = .returned (.bool r)∧Below w.heap.size w w':=by
 have hu103:=underlying103
 have HR0_1:=aZ hr0_1
 have HC0_1:=aZ hc0_1
 clear hr0_1 hc0_1
 have HR0_2:=aZ hr0_2
 have HC0_2:=aZ hc0_2
 clear hr0_2 hc0_2
 have HB:=aZ (Below.refl w.heap.size w)
 have H:=h
 unfold Y0f.f at H
 clear h
 obtain ⟨t595,A2,H⟩:=zB H
 obtain rfl:=Option.some.inj H
 go_enter func157,ntmps157
 go_wp2_with (first|(refine box_ev 1 #[.bool a0_0,.slice A0_1 l0_1.length c0_1,.slice A0_2 l0_2.length c0_2] 103 ?_;intro gb594 hg w3 hbox hb;have BK594:=aZ hbox;have GE594:=sG hg;replace HB:=sB hb;clear hb hbox hg;obtain ⟨hcz4_0,hfz4_0⟩:=zc BK594 0 (.bool a0_0) rfl;obtain ⟨hcz4_1,hfz4_1⟩:=zc BK594 1 (.slice A0_1 l0_1.length c0_1) rfl;obtain ⟨hcz4_2,hfz4_2⟩:=zc BK594 2 (.slice A0_2 l0_2.length c0_2) rfl)|(refine zg (some 5) func109 #[.slice A0_2 l0_2.length c0_2] ?_;(with_reducible refine (YJ.calls _ _ l0_2 t595 _ (zC (Kd.C_below HR0_2.out HB.out)) HC0_2.out A2.out).mono ?_);rintro e w' ⟨rfl,⟨nd,rfl⟩⟩;refine ⟨_,rfl,?_⟩))
 go_ret
 exact ⟨ze,bw⟩
def YF.j0:Nat→Int→Bool→Bool→List Int→List Int→Option (Int×Bool)
 | 0,_,_,_,_,_=>none
 | k+1,x4,x18,x597000,x597001,x597002=>if x18=true then (some (0,false)) else (if x597000=true then (some (wrap64 (-x4),true)) else (some (x4,true)))
def YF.f (k:Nat) (a0_0:Bool) (l0_1:List Int) (l0_2:List Int):Option (Int×Bool):=(Y0c.f l0_1).bind fun bt597=>(if bt597.2=true then ((Y0f.f a0_0 l0_1 l0_2).bind fun t599=>(YF.j0 k bt597.1 (!t599) a0_0 l0_1 l0_2)) else (YF.j0 k bt597.1 true a0_0 l0_1 l0_2))
theorem YF.calls (k:Nat) (a0_0:Bool) (A0_1:Option Addr) (c0_1:Nat) (l0_1:List Int) (A0_2:Option Addr) (c0_2:Nat) (l0_2:List Int) (r1:Int) (r2:Bool) (w:World) (hr0_1:Kd.C (Kd.int .u32) w A0_1 l0_1.length l0_1) (hc0_1:l0_1.length≤c0_1) (hr0_2:Kd.C (Kd.int .u32) w A0_2 l0_2.length l0_2) (hc0_2:l0_2.length≤c0_2) (h:YF.f k a0_0 l0_1 l0_2=some (r1,r2)) :
  Calls Tryz.prog 130 #[.agg #[.bool a0_0,.slice A0_1 l0_1.length c0_1,.slice A0_2 l0_2.length c0_2]] w fun e w'=>e = .returned (.tuple #[.int .i64 r1,.bool r2])∧Below w.heap.size w w':=by
 have hu103:=underlying103
 have HR0_1:=aZ hr0_1
 have HC0_1:=aZ hc0_1
 clear hr0_1 hc0_1
 have HR0_2:=aZ hr0_2
 have HC0_2:=aZ hc0_2
 clear hr0_2 hc0_2
 have HB:=aZ (Below.refl w.heap.size w)
 have H:=h
 unfold YF.f at H
 clear h
 obtain ⟨⟨t597,t598⟩,A2,H⟩:=zB H
 (try dsimp only at H)
 have HC3:=aZ H
 clear H
 go_enter func130,ntmps130
 go_upto_region 2 with (first|(refine box_ev 1 #[.bool a0_0,.slice A0_1 l0_1.length c0_1,.slice A0_2 l0_2.length c0_2] 103 ?_;intro gb596 hg w4 hbox hb;have BK596:=aZ hbox;have GE596:=sG hg;replace HB:=sB hb;clear hb hbox hg;obtain ⟨hcz5_0,hfz5_0⟩:=zc BK596 0 (.bool a0_0) rfl;obtain ⟨hcz5_1,hfz5_1⟩:=zc BK596 1 (.slice A0_1 l0_1.length c0_1) rfl;obtain ⟨hcz5_2,hfz5_2⟩:=zc BK596 2 (.slice A0_2 l0_2.length c0_2) rfl)|(refine zg (some 9) func156 #[.slice A0_1 l0_1.length c0_1] ?_;(with_reducible refine (Y0c.calls _ _ l0_1 t597 t598 _ (zC (Kd.C_below HR0_1.out HB.out)) HC0_1.out A2.out).mono ?_);rintro e w6 ⟨rfl,hb⟩;refine ⟨_,rfl,?_⟩;replace BK596:=sK BK596 hb;replace HB:=sB hb;clear hb))
 (try simp only [Act.put,List.setIfInBounds_toArray,List.set_cons_zero,List.set_cons_succ])
 go_cut [18] (fun v18 wc=>∃ (kq:Nat) (x18_2:Bool),v18 = .bool x18_2∧Aside0 (YF.j0 kq t597 x18_2 a0_0 l0_1 l0_2=some (r1,r2))∧Aside0 (kq≤k)∧Aside0 (wc.heap[gb596]? = some (.cells #[.bool a0_0,(.slice A0_1 l0_1.length c0_1),(.slice A0_2 l0_2.length c0_2)] 103 (0,0)))∧Aside0 (Below w.heap.size w wc))
 case first =>
  have H:=HC3.out
  clear HC3
  by_cases c7:t598=true
  case neg=>
   replace c7:=Bool.eq_false_iff.mpr c7
   subst c7
   replace H:=zU H
   have H':=aZ H
   clear H
   go_wp2
   go_meet
   case rel=>exact ⟨_,(true),zs,H',⟨by first|omega|exact Nat.le_refl _⟩,⟨zb BK596⟩,⟨bw⟩⟩
  subst c7
  replace H:=zT H
  obtain ⟨t599,A8,H⟩:=zB H
  have H':=aZ H
  clear H
  obtain ⟨hcz9_0,hfz9_0⟩:=zc BK596 0 (.bool a0_0) rfl
  obtain ⟨hcz9_1,hfz9_1⟩:=zc BK596 1 (.slice A0_1 l0_1.length c0_1) rfl
  obtain ⟨hcz9_2,hfz9_2⟩:=zc BK596 2 (.slice A0_2 l0_2.length c0_2) rfl
  go_wp2_with (first|(go_at_call 157;(with_reducible refine (Y0f.calls a0_0 _ _ l0_1 _ _ l0_2 t599 _ (zC (Kd.C_below HR0_1.out HB.out)) HC0_1.out (zC (Kd.C_below HR0_2.out HB.out)) HC0_2.out A8.out).mono ?_);rintro e w10 ⟨rfl,hb⟩;replace BK596:=sK BK596 hb;replace HB:=sB hb;clear hb))
  go_meet
  case rel=>exact ⟨_,(!t599),zs,H',⟨by first|omega|exact Nat.le_refl _⟩,⟨zb BK596⟩,⟨bw⟩⟩
 case rest =>
  clear HC3
  obtain ⟨kq,x18_2,rfl,HA,HJ2,BK596,HB⟩:=hcut
  cases kq with
  | zero=>exact absurd HA.out (by simp [YF.j0])
  | succ kj2 =>
   have H:=HA.out
   clear HA
   simp only [YF.j0] at H
   by_cases c11:x18_2=true
   case neg=>
    replace c11:=Bool.eq_false_iff.mpr c11
    subst c11
    replace H:=zU H
    by_cases c12:a0_0=true
    case neg=>
     replace c12:=Bool.eq_false_iff.mpr c12
     subst c12
     replace H:=zU H
     obtain ⟨rfl,rfl⟩:=zo2 H
     obtain ⟨hcz14_0,hfz14_0⟩:=zc BK596 0 (.bool false) rfl
     obtain ⟨hcz14_1,hfz14_1⟩:=zc BK596 1 (.slice A0_1 l0_1.length c0_1) rfl
     obtain ⟨hcz14_2,hfz14_2⟩:=zc BK596 2 (.slice A0_2 l0_2.length c0_2) rfl
     go_wp2
     go_ret2
     exact ⟨ze,bw⟩
    subst c12
    replace H:=zT H
    obtain ⟨rfl,rfl⟩:=zo2 H
    obtain ⟨hcz13_0,hfz13_0⟩:=zc BK596 0 (.bool true) rfl
    obtain ⟨hcz13_1,hfz13_1⟩:=zc BK596 1 (.slice A0_1 l0_1.length c0_1) rfl
    obtain ⟨hcz13_2,hfz13_2⟩:=zc BK596 2 (.slice A0_2 l0_2.length c0_2) rfl
    go_wp2
    go_ret2
    exact ⟨ze,bw⟩
   subst c11
   replace H:=zT H
   obtain ⟨rfl,rfl⟩:=zo2 H
   go_wp2
   go_ret2
   exact ⟨ze,bw⟩
mutual
def Y8.l0:Nat→Int→Bool→List Int→List Int→Option (Int×Int×Int)
 | 0,_,_,_,_=>none
 | k+1,x7,x610000,x610001,x610002=>if x7≥1 then (if 0≤x7 then ((Y01.f k (shl .i64 1 x7)).bind fun bt611=>((Y00.f k x610000 x610001 x610002 bt611.1 bt611.2.1 bt611.2.2).bind fun bt618=>((Y0h.f k bt618.1 bt618.2.1 bt618.2.2).bind fun bt625=>((YF.f k bt625.1 bt625.2.1 bt625.2.2).bind fun bt632=>(if bt632.2=true then (Y8.j1 k x7 bt632.1 (decide (bt632.1 > 2147483647)) x610000 x610001 x610002) else (Y8.j1 k x7 bt632.1 true x610000 x610001 x610002)))))) else (none)) else (some (0,0,22))
def Y8.j1:Nat→Int→Int→Bool→Bool→List Int→List Int→Option (Int×Int×Int)
 | 0,_,_,_,_,_,_=>none
 | k+1,x7,x8,x39,x610000,x610001,x610002=>if x39=true then (Y8.l0 k (wrap64 (x7-1)) x610000 x610001 x610002) else (if x8=0 then (some (0,0,22)) else (some (x8,x7,0)))
end
def Y8.f (k:Nat) (a0_0:ByteArray) (a0_1:ByteArray):Option (Int×Int×Int):=(Yg.f k a0_0 a0_1).bind fun t601=>(if t601=0 then ((Y0b.f k a0_0 a0_1).bind fun bt602=>((Y0a.f bt602.1 bt602.2.1 bt602.2.2).bind fun t610=>(if t610≤0 then (some (0,0,1)) else (Y8.l0 k 62 bt602.1 bt602.2.1 bt602.2.2)))) else (some (0,0,t601)))
def Y8.T10:Bool×List (List Nat×List Nat):=(true,[([],[]),([],[]),([1],[1]),([2],[2]),([0,3,3],[0,3]),([4,4],[4]),([5,5],[5]),([6],[6]),([7],[7]),([7],[7]),([8,6,0,1,2,3,4,5,6,7,8],[8]),([9,10,0,1,2,3,4,5,6,7,8,9,10],[9])])
def Y8.B10:List Nat:=[0,0,2,6,15,31,63,127,255,255,511,2047]
theorem Y8.tab10:rtab .any (opsOf Tryz.f76 10)=Y8.T10:=by kernel_rfl
theorem Y8.bits10:waitsOk Y8.T10.2 Y8.B10=true:=by kernel_rfl
theorem Y8.calls (k:Nat) (a0_0:ByteArray) (a0_1:ByteArray) (r1:Int) (r2:Int) (r3:Int) (w:World) (h:Y8.f k a0_0 a0_1=some (r1,r2,r3)) :
  Calls Tryz.prog 76 #[.agg #[.string a0_0,.string a0_1]] w fun e w'=>e = .returned (.tuple #[.int .i64 r1,.int .i64 r2,.int .i64 r3])∧Below w.heap.size w w':=by
 have hu61:=underlying61
 have hu103:=underlying103
 have HB:=aZ (Below.refl w.heap.size w)
 have H:=h
 unfold Y8.f at H
 clear h
 obtain ⟨t601,A2,H⟩:=zB H
 by_cases c3:t601=0
 case neg=>
  rw [if_neg c3] at H
  obtain ⟨c3b0,c3b1⟩:=zX c3
  obtain ⟨rfl,rfl,rfl⟩:=zo3 H
  go_enter func76,ntmps76
  go_wp2_with (first|(refine box_ev 1 #[.string a0_0,.string a0_1] 61 ?_;intro gb600 hg w51 hbox hb;have BK600:=aZ hbox;have GE600:=sG hg;replace HB:=sB hb;clear hb hbox hg;obtain ⟨hcz52_0,hfz52_0⟩:=zc BK600 0 (.string a0_0) rfl;obtain ⟨hcz52_1,hfz52_1⟩:=zc BK600 1 (.string a0_1) rfl)|(refine zg (some 11) func56 #[.agg #[.string a0_0,.string a0_1]] ?_;(with_reducible refine (Yg.calls k a0_0 a0_1 t601 _ A2.out).mono ?_);rintro e w53 ⟨rfl,hb⟩;refine ⟨_,rfl,?_⟩;replace BK600:=sK BK600 hb;replace HB:=sB hb;clear hb))
  go_ret3
  exact ⟨ze,bw⟩
 rw [if_pos c3] at H
 obtain ⟨c3b0,c3b1⟩:=zY c3
 clear c3
 obtain ⟨⟨t602,t603,t606⟩,A4,H⟩:=zB H
 (try dsimp only at H)
 obtain ⟨t610,A5,H⟩:=zB H
 by_cases c6:t610≤0
 case neg=>
  rw [if_neg c6] at H
  have c6b0:=decide_eq_false c6
  clear c6
  have H':=aZ H
  clear H
  go_enter func76,ntmps76
  go_wp2_with (first|(refine box_ev 1 #[.string a0_0,.string a0_1] 61 ?_;intro gb600 hg w18 hbox hb;have BK600:=aZ hbox;have GE600:=sG hg;replace HB:=sB hb;clear hb hbox hg;obtain ⟨hcz19_0,hfz19_0⟩:=zc BK600 0 (.string a0_0) rfl;obtain ⟨hcz19_1,hfz19_1⟩:=zc BK600 1 (.string a0_1) rfl)|(refine zg (some 11) func56 #[.agg #[.string a0_0,.string a0_1]] ?_;(with_reducible refine (Yg.calls k a0_0 a0_1 t601 _ A2.out).mono ?_);rintro e w20 ⟨rfl,hb⟩;refine ⟨_,rfl,?_⟩;replace BK600:=sK BK600 hb;replace HB:=sB hb;clear hb;obtain ⟨hcz21_0,hfz21_0⟩:=zc BK600 0 (.string a0_0) rfl;obtain ⟨hcz21_1,hfz21_1⟩:=zc BK600 1 (.string a0_1) rfl)|(refine zg (some 16) func127 #[.agg #[.string a0_0,.string a0_1]] ?_;(with_reducible refine (Y0b.calls k a0_0 a0_1 t602 t603 t606 _ A4.out).mono ?_);rintro e w22 ⟨v604,v607,rfl,ho0,ho1,hb⟩;refine ⟨_,rfl,?_⟩;have HO605:=yL (fun k_=>k_≠gb600) ho0 (fun k_ hk_=>(zf BK600 hk_));have HO608:=yL (fun k_=>k_≠gb600) ho1 (fun k_ hk_=>(zf BK600 hk_));replace BK600:=sK BK600 hb;replace HB:=sB hb;clear hb ho0 ho1)|(refine box_ev 6 #[.bool false,.slice none 0 0,.slice none 0 0] 103 ?_;intro gb609 hg w23 hbox hb;replace HO605:=yE HO605 hg hb;replace HO608:=yE HO608 hg hb;have BK609:=aZ hbox;have GE609:=sG hg;replace HB:=sB hb;obtain ⟨NB600_609,NB609_600,BK600⟩:=sX hg hb BK600;clear hb hbox hg;have hnb24:=NB609_600.out;have hnc24:=NB600_609.out;obtain ⟨hcz25_0,hfz25_0⟩:=zc BK609 0 (.bool false) rfl;obtain ⟨hcz25_1,hfz25_1⟩:=zc BK609 1 (.slice none 0 0) rfl;obtain ⟨hcz25_2,hfz25_2⟩:=zc BK609 2 (.slice none 0 0) rfl;obtain ⟨Ao26,co26,rfl⟩:=Kd.V_slice HO605.out;obtain ⟨Ao27,co27,rfl⟩:=Kd.V_slice HO608.out)|(refine zg (some 18) func128 #[.agg #[.bool t602,.slice Ao26 t603.length co26,.slice Ao27 t606.length co27]] ?_;(with_reducible refine (Y0a.calls t602 _ _ t603 _ _ t606 t610 _ ?side1 ?side2 ?side3 ?side4 A5.out).mono ?_);(case side1=>refine (Kd.V_reads' (e:=97) (base:=w.heap.size) (ok:=fun k_=>(k_≠gb600∧k_≠gb609)) (n:=t603.length) (c:=co26) ?_).2.2;exact (by (with_reducible repeat (first|apply Kd.V_alloc|apply Kd.V_drewN|apply Kd.V_drew));exact (Kd.V_mono (Kd.V_far (p:=⟨gb609,2,none⟩) (Kd.V_far (p:=⟨gb609,1,none⟩) (Kd.V_far (p:=⟨gb609,0,none⟩) (Kd.V_mono HO605.out (fun k_ hk=>(⟨hk,hk.2⟩:_∧k_≠gb609))) (fun _ hk=>hk.2) (.bool t602)) (fun _ hk=>hk.2) (.slice Ao26 t603.length co26)) (fun _ hk=>hk.2) (.slice Ao27 t606.length co27)) (fun _ h_=>h_.1))));(case side2=>exact zk HO605);(case side3=>refine (Kd.V_reads' (e:=97) (base:=w.heap.size) (ok:=fun k_=>(k_≠gb600∧k_≠gb609)) (n:=t606.length) (c:=co27) ?_).2.2;exact (by (with_reducible repeat (first|apply Kd.V_alloc|apply Kd.V_drewN|apply Kd.V_drew));exact (Kd.V_mono (Kd.V_far (p:=⟨gb609,2,none⟩) (Kd.V_far (p:=⟨gb609,1,none⟩) (Kd.V_far (p:=⟨gb609,0,none⟩) (Kd.V_mono HO608.out (fun k_ hk=>(⟨hk,hk.2⟩:_∧k_≠gb609))) (fun _ hk=>hk.2) (.bool t602)) (fun _ hk=>hk.2) (.slice Ao26 t603.length co26)) (fun _ hk=>hk.2) (.slice Ao27 t606.length co27)) (fun _ h_=>h_.1))));(case side4=>exact zk HO608);rintro e w28 ⟨rfl,hb⟩;refine ⟨_,rfl,?_⟩;replace HO605:=aZ (Kd.V_below (by (with_reducible repeat (first|apply Kd.V_alloc|apply Kd.V_drewN|apply Kd.V_drew));exact (Kd.V_mono (Kd.V_far (p:=⟨gb609,2,none⟩) (Kd.V_far (p:=⟨gb609,1,none⟩) (Kd.V_far (p:=⟨gb609,0,none⟩) (Kd.V_mono HO605.out (fun k_ hk=>(⟨hk,hk.2⟩:_∧k_≠gb609))) (fun _ hk=>hk.2) (.bool t602)) (fun _ hk=>hk.2) (.slice Ao26 t603.length co26)) (fun _ hk=>hk.2) (.slice Ao27 t606.length co27)) (fun _ h_=>h_.1))) hb);replace HO608:=aZ (Kd.V_below (by (with_reducible repeat (first|apply Kd.V_alloc|apply Kd.V_drewN|apply Kd.V_drew));exact (Kd.V_mono (Kd.V_far (p:=⟨gb609,2,none⟩) (Kd.V_far (p:=⟨gb609,1,none⟩) (Kd.V_far (p:=⟨gb609,0,none⟩) (Kd.V_mono HO608.out (fun k_ hk=>(⟨hk,hk.2⟩:_∧k_≠gb609))) (fun _ hk=>hk.2) (.bool t602)) (fun _ hk=>hk.2) (.slice Ao26 t603.length co26)) (fun _ hk=>hk.2) (.slice Ao27 t606.length co27)) (fun _ h_=>h_.1))) hb);replace BK600:=aZ (blk_below (g:=gb600) (o:=.cells #[.string a0_0,.string a0_1] 61 (0,0)) (zq BK600) hb);replace BK609:=sP (.cells #[.bool t602,.slice Ao26 t603.length co26,.slice Ao27 t606.length co27] 103 (0,0)) BK609 hb;replace HB:=sB hb;clear hb))
  go_loopg [7] k (fun kq v7 w'=>∃ (x7_1:Int),v7 = .int .i64 x7_1∧Aside0 (Y8.l0 kq x7_1 t602 t603 t606=some (r1,r2,r3))∧Aside0 (kq≤k)∧Aside0 (Kd.V (Kd.int .u32) 97 w' w.heap.size (fun k_=>k_≠gb600∧k_≠gb609) (.slice Ao26 t603.length co26) t603)∧Aside0 (Kd.V (Kd.int .u32) 97 w' w.heap.size (fun k_=>k_≠gb600∧k_≠gb609) (.slice Ao27 t606.length co27) t606)∧Aside0 (w'.heap[gb600]? = some (.cells #[.string a0_0,.string a0_1] 61 (0,0)))∧Aside0 (w'.heap[gb609]? = some (.cells #[.bool t602,(.slice Ao26 t603.length co26),(.slice Ao27 t606.length co27)] 103 (0,0)))∧Aside0 (Below w.heap.size w w'))
  case atStart=>exact ⟨(62),zs,H',⟨Nat.le_refl _⟩,⟨zV HO605⟩,⟨zV HO608⟩,⟨zb BK600⟩,⟨zb BK609⟩,⟨bw⟩⟩
  case round =>
   clear H'
   try clear c1
   try clear c2
   try clear c3
   try clear c3b0
   try clear c3b1
   try clear c5
   try clear c6
   try clear c6b0
   try clear c7
   try clear c12
   try clear c13
   try clear c24
   obtain ⟨x7_1,rfl,HA,HK1,HO_610001,HO_610002,BK600,BK609,HB⟩:=hrel
   cases gk with
   | zero=>exact absurd HA.out (by simp [Y8.l0])
   | succ k1 =>
    have H:=HA.out
    clear HA
    simp only [Y8.l0] at H
    by_cases c29:x7_1≥1
    case neg=>
     rw [if_neg c29] at H
     have c29b0:=decide_eq_false c29
     clear c29
     obtain ⟨rfl,rfl,rfl⟩:=zo3 H
     go_wp2
     go_ret3
     exact ⟨ze,bw⟩
    rw [if_pos c29] at H
    have c29b0:=decide_eq_true c29
    clear c29
    by_cases c30:0≤x7_1
    case neg=>
     rw [if_neg c30] at H
     cases H
    rw [if_pos c30] at H
    have c30b0:=eq_true c30
    have c30b1:=decide_eq_true c30
    clear c30
    obtain ⟨ji31,hji31⟩:∃ j_:Int,(shl .i64 1 x7_1)=j_:=⟨_,rfl⟩
    (first|rw [hji31] at H|simp only [hji31] at H)
    have hji31_:(IntKind.i64.wrap (1*2^min x7_1.toNat 64))=ji31:=hji31
    have hji31z:x7_1≤64→(IntKind.i64.wrap (1*2^x7_1.toNat))=ji31:=shl_small hji31
    have hji31u:(IntKind.i64.wrap (2^min x7_1.toNat 64))=ji31:=by have h_:=hji31_;rw [Int.one_mul] at h_;exact h_
    have hji31v:x7_1≤64→(IntKind.i64.wrap (2^x7_1.toNat))=ji31:=fun hle_=>by have h_:=hji31z hle_;rw [Int.one_mul] at h_;exact h_
    have hji31yu:(wrap64 (2^min x7_1.toNat 64))=ji31:=(i64_w _).symm.trans hji31u
    have hji31xu:x7_1≤64→(wrap64 (2^x7_1.toNat))=ji31:=fun h_=>(i64_w _).symm.trans (hji31v h_)
    have hji31y:(wrap64 (1*2^min x7_1.toNat 64))=ji31:=(i64_w _).symm.trans hji31_
    have hji31x:x7_1≤64→(wrap64 (1*2^x7_1.toNat))=ji31:=fun h_=>(i64_w _).symm.trans (hji31z h_)
    obtain ⟨⟨t611,t612,t615⟩,A32,H⟩:=zB H
    (try dsimp only at H)
    obtain ⟨⟨t618,t619,t622⟩,A33,H⟩:=zB H
    (try dsimp only at H)
    obtain ⟨⟨t625,t626,t629⟩,A34,H⟩:=zB H
    (try dsimp only at H)
    obtain ⟨⟨t632,t633⟩,A35,H⟩:=zB H
    (try dsimp only at H)
    have HC36:=aZ H
    clear H
    try go_wp2
    replace HO_610001:=aZ (Kd.V_drew HO_610001.out)
    replace HO_610002:=aZ (Kd.V_drew HO_610002.out)
    replace BK600:=aZ (blk_drew BK600.out)
    replace BK609:=aZ (blk_drew BK609.out)
    replace HB:=aZ (below_drew1 HB.out)
    refine start_ (n:=12) (S:=fun w'=>w'.cell? ⟨gb609,0,none⟩=some (.bool t602)∧w'.cell? ⟨gb609,1,none⟩=some (.slice Ao26 t603.length co26)∧w'.cell? ⟨gb609,2,none⟩=some (.slice Ao27 t606.length co27)) (ds:=[]) #[false,false,false,false,false,false,false,false,false,false,false,false] (by kernel_rfl) rfl rfl ⟨zh BK609 0,zh BK609 1,zh BK609 2⟩ (fun hHeld=>?_);refine with_tabW Y8.tab10 Y8.bits10 (fun HT_ HW_=>?_)
    generalize wr.drew=w37 at HO_610001 HO_610002 BK600 BK609 HB hHeld ⊢
    refine pu 1 (some 26) HT_ ?_
    refine pu 2 (some 27) HT_ ?_
    refine tk 0 (some 25) HT_ HW_ hHeld ?_
    refine one_ (i:=3) (N:=some 28) #[true,true,true,true,false,false,false,false,false,false,false,false] rfl rfl (one_of HT_.out (by kernel_rfl)) (by decide) (fun K hK=>?_)
    refine goes_ func97 (by kernel_rfl) rfl #[.int .i64 ji31] (by rfl) rfl rfl (by (try simp only [List.map_toArray,List.map_cons,List.map_nil]);first|done|(simp only [hji31];rfl)|rfl|(simp only [List.length_drop,List.length_take];rfl)) ?_
    with_reducible refine (Y01.calls k1 ji31 t611 t612 t615 _ A32.out).mono ?_
    rintro e w38 ⟨v613,v616,rfl,ho0,ho1,hb⟩
    refine ⟨_,rfl,?_⟩
    replace HO_610001:=aZ (Kd.V_mono (Kd.V_told (Kd.V_told (Kd.V_old (zV HO_610001) hb) (Kd.R_base ho0)) (Kd.R_base ho1)) (fun _ h_=>h_.1))
    replace HO_610002:=aZ (Kd.V_mono (Kd.V_told (Kd.V_told (Kd.V_old (zV HO_610002) hb) (Kd.R_base ho0)) (Kd.R_base ho1)) (fun _ h_=>h_.1))
    have HO614:=aZ (Kd.R_lower ho0 bs)
    have HO617:=aZ (Kd.R_lower ho1 bs)
    replace BK600:=sK BK600 hb
    replace BK609:=sK BK609 hb
    replace HB:=sB hb
    clear hb ho0 ho1
    obtain ⟨Ao39,co39,eo39⟩:=Kd.R_slice HO614.out
    (first|subst eo39|(injection eo39 with f1_ f2_ f3_;have f4_:=f1_.symm;have f5_:=f3_.symm;clear f1_ f2_ f3_;subst f4_;subst f5_))
    obtain ⟨Ao40,co40,eo40⟩:=Kd.R_slice HO617.out
    (first|subst eo40|(injection eo40 with f1_ f2_ f3_;have f4_:=f1_.symm;have f5_:=f3_.symm;clear f1_ f2_ f3_;subst f4_;subst f5_))
    refine hK.out _ _ ⟨zh BK609 0,zh BK609 1,zh BK609 2⟩ (fun hHeld=>?_)
    clear hK K
    refine nm ?_
    refine one_ (i:=4) (N:=some 29) #[true,true,true,true,true,false,false,false,false,false,false,false] rfl rfl (one_of HT_.out (by kernel_rfl)) (by decide) (fun K hK=>?_)
    refine goes_ func111 (by kernel_rfl) rfl #[.agg #[.bool t602,.slice Ao26 t603.length co26,.slice Ao27 t606.length co27],.agg #[.bool t611,.slice Ao39 t612.length co39,.slice Ao40 t615.length co40]] (by rfl) rfl rfl zm ?_
    with_reducible refine (Y00.calls k1 t602 _ _ t603 _ _ t606 t611 _ _ t612 _ _ t615 t618 t619 t622 _ (zC (Kd.V_reads' HO_610001.out).2.2) ((Kd.V_reads' HO_610001.out).2.1) (zC (Kd.V_reads' HO_610002.out).2.2) ((Kd.V_reads' HO_610002.out).2.1) (zC (Kd.R_reads' HO614.out).2.2) ((Kd.R_reads' HO614.out).2.1) (zC (Kd.R_reads' HO617.out).2.2) ((Kd.R_reads' HO617.out).2.1) A33.out).mono ?_
    rintro e w41 ⟨v620,v623,rfl,ho0,ho1,hb⟩
    refine ⟨_,rfl,?_⟩
    replace HO_610001:=yV HO_610001 hb
    replace HO_610002:=yV HO_610002 hb
    have HO621:=yL (fun k_=>some k_≠(.slice Ao39 t612.length co39:Value).ownBlock∧some k_≠(.slice Ao40 t615.length co40:Value).ownBlock∧k_≠gb600∧k_≠gb609) ho0 (fun k_ hk_=>⟨(yf HO614 hk_),(yf HO617 hk_),(zf BK600 hk_),(zf BK609 hk_)⟩)
    have HO624:=yL (fun k_=>some k_≠(.slice Ao39 t612.length co39:Value).ownBlock∧some k_≠(.slice Ao40 t615.length co40:Value).ownBlock∧k_≠gb600∧k_≠gb609) ho1 (fun k_ hk_=>⟨(yf HO614 hk_),(yf HO617 hk_),(zf BK600 hk_),(zf BK609 hk_)⟩)
    replace HO614:=yR HO614 hb
    replace HO617:=yR HO617 hb
    replace BK600:=sK BK600 hb
    replace BK609:=sK BK609 hb
    replace HB:=sB hb
    clear hb ho0 ho1
    obtain ⟨Ao42,co42,eo42⟩:=Kd.V_slice HO621.out
    (first|subst eo42|(injection eo42 with f1_ f2_ f3_;have f4_:=f1_.symm;have f5_:=f3_.symm;clear f1_ f2_ f3_;subst f4_;subst f5_))
    obtain ⟨Ao43,co43,eo43⟩:=Kd.V_slice HO624.out
    (first|subst eo43|(injection eo43 with f1_ f2_ f3_;have f4_:=f1_.symm;have f5_:=f3_.symm;clear f1_ f2_ f3_;subst f4_;subst f5_))
    refine hK.out _ _ ⟨zh BK609 0,zh BK609 1,zh BK609 2⟩ (fun hHeld=>?_)
    clear hK K
    refine nm ?_
    refine one_ (i:=5) (N:=some 30) #[true,true,true,true,true,true,false,false,false,false,false,false] rfl rfl (one_of HT_.out (by kernel_rfl)) (by decide) (fun K hK=>?_)
    refine goes_ func129 (by kernel_rfl) rfl #[.agg #[.bool t618,.slice Ao42 t619.length co42,.slice Ao43 t622.length co43]] (by rfl) rfl rfl zm ?_
    with_reducible refine (Y0h.calls k1 t618 (fun k_=>(some k_≠(.slice Ao39 t612.length co39:Value).ownBlock∧(some k_≠(.slice Ao40 t615.length co40:Value).ownBlock∧(k_≠gb600∧k_≠gb609)))) _ _ t619 (fun k_=>(some k_≠(.slice Ao39 t612.length co39:Value).ownBlock∧(some k_≠(.slice Ao40 t615.length co40:Value).ownBlock∧(k_≠gb600∧k_≠gb609)))) _ _ t622 t625 t626 t629 _ HO621.out HO624.out A34.out).mono ?_
    rintro e w44 ⟨v627,v630,rfl,ho0,ho1,hb⟩
    refine ⟨_,rfl,?_⟩
    replace HO_610001:=aZ (Kd.V_elder' (zV HO_610001) (Kd.R_base ho1) hb)
    replace HO_610002:=aZ (Kd.V_elder' (zV HO_610002) (Kd.R_base ho1) hb)
    replace HO621:=aZ (Kd.V_elder' (zV HO621) (Kd.R_base ho1) hb)
    replace HO624:=aZ (Kd.V_elder' (zV HO624) (Kd.R_base ho1) hb)
    have HO628:=yL (fun k_=>some k_≠(v630:Value).ownBlock∧some k_≠(.slice Ao39 t612.length co39:Value).ownBlock∧some k_≠(.slice Ao40 t615.length co40:Value).ownBlock∧k_≠gb600∧k_≠gb609) ho0 (fun k_ hk_=>⟨hk_.2,Or.elim hk_.1 (fun hs_=>Or.elim hs_ (fun hs_=>hs_.1) (fun hs_=>hs_.1)) (fun hn_=>(yf HO614 hn_)),Or.elim hk_.1 (fun hs_=>Or.elim hs_ (fun hs_=>hs_.2.1) (fun hs_=>hs_.2.1)) (fun hn_=>(yf HO617 hn_)),Or.elim hk_.1 (fun hs_=>Or.elim hs_ (fun hs_=>hs_.2.2.1) (fun hs_=>hs_.2.2.1)) (fun hn_=>(zf BK600 hn_)),Or.elim hk_.1 (fun hs_=>Or.elim hs_ (fun hs_=>hs_.2.2.2) (fun hs_=>hs_.2.2.2)) (fun hn_=>(zf BK609 hn_))⟩)
    have HO631:=aZ (Kd.R_lower (Kd.R_new' (Kd.R_new' (Kd.R_mono (ok':=fun k_=>True) ho1 (fun _ hk_=>trivial)) (Kd.R_lt (zR HO614))) (Kd.R_lt (zR HO617))) bs)
    replace HO614:=aZ (Kd.R_elder' (zR HO614) (Kd.R_base ho1) hb)
    replace HO617:=aZ (Kd.R_elder' (zR HO617) (Kd.R_base ho1) hb)
    replace BK600:=sK BK600 hb
    replace BK609:=sK BK609 hb
    replace HB:=sB hb
    clear hb ho0 ho1
    obtain ⟨Ao45,co45,eo45⟩:=Kd.V_slice HO628.out
    (first|subst eo45|(injection eo45 with f1_ f2_ f3_;have f4_:=f1_.symm;have f5_:=f3_.symm;clear f1_ f2_ f3_;subst f4_;subst f5_))
    obtain ⟨Ao46,co46,eo46⟩:=Kd.R_slice HO631.out
    (first|subst eo46|(injection eo46 with f1_ f2_ f3_;have f4_:=f1_.symm;have f5_:=f3_.symm;clear f1_ f2_ f3_;subst f4_;subst f5_))
    refine hK.out _ _ ⟨zh BK609 0,zh BK609 1,zh BK609 2⟩ (fun hHeld=>?_)
    clear hK K
    refine nm ?_
    refine one_ (i:=6) (N:=some 31) #[true,true,true,true,true,true,true,false,false,false,false,false] rfl rfl (one_of HT_.out (by kernel_rfl)) (by decide) (fun K hK=>?_)
    refine goes_ func130 (by kernel_rfl) rfl #[.agg #[.bool t625,.slice Ao45 t626.length co45,.slice Ao46 t629.length co46]] (by rfl) rfl rfl zm ?_
    with_reducible refine (YF.calls k1 t625 _ _ t626 _ _ t629 t632 t633 _ (zC (Kd.V_reads' HO628.out).2.2) ((Kd.V_reads' HO628.out).2.1) (zC (Kd.R_reads' HO631.out).2.2) ((Kd.R_reads' HO631.out).2.1) A35.out).mono ?_
    rintro e w47 ⟨rfl,hb⟩
    refine ⟨_,rfl,?_⟩
    replace HO_610001:=yV HO_610001 hb
    replace HO_610002:=yV HO_610002 hb
    replace HO614:=yR HO614 hb
    replace HO617:=yR HO617 hb
    replace HO621:=yV HO621 hb
    replace HO624:=yV HO624 hb
    replace HO628:=yV HO628 hb
    replace HO631:=yR HO631 hb
    replace BK600:=sK BK600 hb
    replace BK609:=sK BK609 hb
    replace HB:=sB hb
    clear hb
    refine hK.out _ _ ⟨zh BK609 0,zh BK609 1,zh BK609 2⟩ (fun hHeld=>?_)
    clear hK K
    refine nm ?_
    refine pu 7 (some 24) HT_ ?_
    refine pu 8 (some 32) HT_ ?_
    refine pu 9 (some 33) HT_ ?_
    refine pu 10 (some 8) HT_ ?_
    refine pu 11 (some 9) HT_ ?_
    refine done_ (done_of HT_.out (by kernel_rfl)) ?_
    go_upto_region 11 with (fail)
    go_cut [39] (fun v39 wc=>∃ (kq:Nat) (x39_35:Bool),v39 = .bool x39_35∧Aside0 (Y8.j1 kq x7_1 t632 x39_35 t602 t603 t606=some (r1,r2,r3))∧Aside0 (kq≤k1)∧Aside0 (Kd.V (Kd.int .u32) 97 wc w.heap.size (fun k_=>k_≠gb600∧k_≠gb609) (.slice Ao26 t603.length co26) t603)∧Aside0 (Kd.V (Kd.int .u32) 97 wc w.heap.size (fun k_=>k_≠gb600∧k_≠gb609) (.slice Ao27 t606.length co27) t606)∧Aside0 (wc.heap[gb600]? = some (.cells #[.string a0_0,.string a0_1] 61 (0,0)))∧Aside0 (wc.heap[gb609]? = some (.cells #[.bool t602,(.slice Ao26 t603.length co26),(.slice Ao27 t606.length co27)] 103 (0,0)))∧Aside0 (Below w.heap.size w wc))
    case first =>
     have H:=HC36.out
     clear HC36
     by_cases c48:t633=true
     case neg=>
      replace c48:=Bool.eq_false_iff.mpr c48
      subst c48
      replace H:=zU H
      have H':=aZ H
      clear H
      go_wp2
      go_meet
      case rel=>exact ⟨_,(true),zs,H',⟨by have:=HK1.out;first|omega|exact Nat.le_refl _⟩,⟨vM HO_610001 (fun _ hk=>⟨hk.1.1.1.1,hk.1.1.1.2⟩)⟩,⟨vM HO_610002 (fun _ hk=>⟨hk.1.1.1.1,hk.1.1.1.2⟩)⟩,⟨zb BK600⟩,⟨zb BK609⟩,⟨bw⟩⟩
     subst c48
     replace H:=zT H
     have H':=aZ H
     clear H
     go_wp2
     go_meet
     case rel=>exact ⟨_,(decide (t632 > 2147483647)),zs,H',⟨by have:=HK1.out;first|omega|exact Nat.le_refl _⟩,⟨vM HO_610001 (fun _ hk=>⟨hk.1.1.1.1,hk.1.1.1.2⟩)⟩,⟨vM HO_610002 (fun _ hk=>⟨hk.1.1.1.1,hk.1.1.1.2⟩)⟩,⟨zb BK600⟩,⟨zb BK609⟩,⟨bw⟩⟩
    case rest =>
     clear HC36
     try clear c3
     try clear c3b0
     try clear c3b1
     try clear c6
     try clear c6b0
     try clear c29
     try clear c29b0
     try clear c30
     try clear c30b0
     try clear c30b1
     obtain ⟨kq,x39_35,rfl,HA,HJ35,HO_610001,HO_610002,BK600,BK609,HB⟩:=hcut
     cases kq with
     | zero=>exact absurd HA.out (by simp [Y8.j1])
     | succ kj35 =>
      have H:=HA.out
      clear HA
      simp only [Y8.j1] at H
      by_cases c49:x39_35=true
      case neg=>
       replace c49:=Bool.eq_false_iff.mpr c49
       subst c49
       replace H:=zU H
       by_cases c50:t632=0
       case neg=>
        rw [if_neg c50] at H
        obtain ⟨c50b0,c50b1⟩:=zX c50
        obtain ⟨rfl,rfl,rfl⟩:=zo3 H
        go_wp2
        go_ret3
        exact ⟨by first|rfl|(simp [errW_none,errW_some] <;> rfl)|(simp only [← hji31];first|rfl|(simp [errW_none,errW_some] <;> rfl))|(simp [*,errW_none,errW_some] <;> rfl),bw⟩
       rw [if_pos c50] at H
       obtain ⟨c50b0,c50b1⟩:=zY c50
       clear c50
       obtain ⟨rfl,rfl,rfl⟩:=zo3 H
       go_wp2
       go_ret3
       exact ⟨by first|rfl|(simp [errW_none,errW_some] <;> rfl)|(simp only [← hji31];first|rfl|(simp [errW_none,errW_some] <;> rfl))|(simp [*,errW_none,errW_some] <;> rfl),bw⟩
      subst c49
      replace H:=zT H
      have H':=aZ H
      clear H
      go_wp2
      go_roundg kj35
      case measure=>have:=HK1.out;have:=HJ35.out;omega
      case rel=>exact ⟨(wrap64 (x7_1-1)),zs,H',⟨by have:=HK1.out;have:=HJ35.out;omega⟩,⟨zV HO_610001⟩,⟨zV HO_610002⟩,⟨zb BK600⟩,⟨zb BK609⟩,⟨bw⟩⟩
 rw [if_pos c6] at H
 have c6b0:=decide_eq_true c6
 clear c6
 obtain ⟨rfl,rfl,rfl⟩:=zo3 H
 go_enter func76,ntmps76
 go_wp2_with (first|(refine box_ev 1 #[.string a0_0,.string a0_1] 61 ?_;intro gb600 hg w7 hbox hb;have BK600:=aZ hbox;have GE600:=sG hg;replace HB:=sB hb;clear hb hbox hg;obtain ⟨hcz8_0,hfz8_0⟩:=zc BK600 0 (.string a0_0) rfl;obtain ⟨hcz8_1,hfz8_1⟩:=zc BK600 1 (.string a0_1) rfl)|(refine zg (some 11) func56 #[.agg #[.string a0_0,.string a0_1]] ?_;(with_reducible refine (Yg.calls k a0_0 a0_1 t601 _ A2.out).mono ?_);rintro e w9 ⟨rfl,hb⟩;refine ⟨_,rfl,?_⟩;replace BK600:=sK BK600 hb;replace HB:=sB hb;clear hb;obtain ⟨hcz10_0,hfz10_0⟩:=zc BK600 0 (.string a0_0) rfl;obtain ⟨hcz10_1,hfz10_1⟩:=zc BK600 1 (.string a0_1) rfl)|(refine zg (some 16) func127 #[.agg #[.string a0_0,.string a0_1]] ?_;(with_reducible refine (Y0b.calls k a0_0 a0_1 t602 t603 t606 _ A4.out).mono ?_);rintro e w11 ⟨v604,v607,rfl,ho0,ho1,hb⟩;refine ⟨_,rfl,?_⟩;have HO605:=yL (fun k_=>k_≠gb600) ho0 (fun k_ hk_=>(zf BK600 hk_));have HO608:=yL (fun k_=>k_≠gb600) ho1 (fun k_ hk_=>(zf BK600 hk_));replace BK600:=sK BK600 hb;replace HB:=sB hb;clear hb ho0 ho1)|(refine box_ev 6 #[.bool false,.slice none 0 0,.slice none 0 0] 103 ?_;intro gb609 hg w12 hbox hb;replace HO605:=yE HO605 hg hb;replace HO608:=yE HO608 hg hb;have BK609:=aZ hbox;have GE609:=sG hg;replace HB:=sB hb;obtain ⟨NB600_609,NB609_600,BK600⟩:=sX hg hb BK600;clear hb hbox hg;have hnb13:=NB609_600.out;have hnc13:=NB600_609.out;obtain ⟨hcz14_0,hfz14_0⟩:=zc BK609 0 (.bool false) rfl;obtain ⟨hcz14_1,hfz14_1⟩:=zc BK609 1 (.slice none 0 0) rfl;obtain ⟨hcz14_2,hfz14_2⟩:=zc BK609 2 (.slice none 0 0) rfl;obtain ⟨Ao15,co15,rfl⟩:=Kd.V_slice HO605.out;obtain ⟨Ao16,co16,rfl⟩:=Kd.V_slice HO608.out)|(refine zg (some 18) func128 #[.agg #[.bool t602,.slice Ao15 t603.length co15,.slice Ao16 t606.length co16]] ?_;(with_reducible refine (Y0a.calls t602 _ _ t603 _ _ t606 t610 _ ?side1 ?side2 ?side3 ?side4 A5.out).mono ?_);(case side1=>refine (Kd.V_reads' (e:=97) (base:=w.heap.size) (ok:=fun k_=>(k_≠gb600∧k_≠gb609)) (n:=t603.length) (c:=co15) ?_).2.2;exact (by (with_reducible repeat (first|apply Kd.V_alloc|apply Kd.V_drewN|apply Kd.V_drew));exact (Kd.V_mono (Kd.V_far (p:=⟨gb609,2,none⟩) (Kd.V_far (p:=⟨gb609,1,none⟩) (Kd.V_far (p:=⟨gb609,0,none⟩) (Kd.V_mono HO605.out (fun k_ hk=>(⟨hk,hk.2⟩:_∧k_≠gb609))) (fun _ hk=>hk.2) (.bool t602)) (fun _ hk=>hk.2) (.slice Ao15 t603.length co15)) (fun _ hk=>hk.2) (.slice Ao16 t606.length co16)) (fun _ h_=>h_.1))));(case side2=>exact zk HO605);(case side3=>refine (Kd.V_reads' (e:=97) (base:=w.heap.size) (ok:=fun k_=>(k_≠gb600∧k_≠gb609)) (n:=t606.length) (c:=co16) ?_).2.2;exact (by (with_reducible repeat (first|apply Kd.V_alloc|apply Kd.V_drewN|apply Kd.V_drew));exact (Kd.V_mono (Kd.V_far (p:=⟨gb609,2,none⟩) (Kd.V_far (p:=⟨gb609,1,none⟩) (Kd.V_far (p:=⟨gb609,0,none⟩) (Kd.V_mono HO608.out (fun k_ hk=>(⟨hk,hk.2⟩:_∧k_≠gb609))) (fun _ hk=>hk.2) (.bool t602)) (fun _ hk=>hk.2) (.slice Ao15 t603.length co15)) (fun _ hk=>hk.2) (.slice Ao16 t606.length co16)) (fun _ h_=>h_.1))));(case side4=>exact zk HO608);rintro e w17 ⟨rfl,hb⟩;refine ⟨_,rfl,?_⟩;replace HO605:=aZ (Kd.V_below (by (with_reducible repeat (first|apply Kd.V_alloc|apply Kd.V_drewN|apply Kd.V_drew));exact (Kd.V_mono (Kd.V_far (p:=⟨gb609,2,none⟩) (Kd.V_far (p:=⟨gb609,1,none⟩) (Kd.V_far (p:=⟨gb609,0,none⟩) (Kd.V_mono HO605.out (fun k_ hk=>(⟨hk,hk.2⟩:_∧k_≠gb609))) (fun _ hk=>hk.2) (.bool t602)) (fun _ hk=>hk.2) (.slice Ao15 t603.length co15)) (fun _ hk=>hk.2) (.slice Ao16 t606.length co16)) (fun _ h_=>h_.1))) hb);replace HO608:=aZ (Kd.V_below (by (with_reducible repeat (first|apply Kd.V_alloc|apply Kd.V_drewN|apply Kd.V_drew));exact (Kd.V_mono (Kd.V_far (p:=⟨gb609,2,none⟩) (Kd.V_far (p:=⟨gb609,1,none⟩) (Kd.V_far (p:=⟨gb609,0,none⟩) (Kd.V_mono HO608.out (fun k_ hk=>(⟨hk,hk.2⟩:_∧k_≠gb609))) (fun _ hk=>hk.2) (.bool t602)) (fun _ hk=>hk.2) (.slice Ao15 t603.length co15)) (fun _ hk=>hk.2) (.slice Ao16 t606.length co16)) (fun _ h_=>h_.1))) hb);replace BK600:=aZ (blk_below (g:=gb600) (o:=.cells #[.string a0_0,.string a0_1] 61 (0,0)) (zq BK600) hb);replace BK609:=sP (.cells #[.bool t602,.slice Ao15 t603.length co15,.slice Ao16 t606.length co16] 103 (0,0)) BK609 hb;replace HB:=sB hb;clear hb))
 go_ret3
 exact ⟨ze,bw⟩
def Y02.f (a0:Int):Option (Int):=if a0<0 then (some (IntKind.u64.wrap (-(IntKind.u64.wrap (a0))))) else (some (IntKind.u64.wrap (a0)))
theorem Y02.calls (a0:Int) (r:Int) (w:World) (h:Y02.f a0=some r) :
  Calls Tryz.prog 99 #[.int .i64 a0] w fun e w'=>e = .returned (.int .u64 r)∧Drawn0 w w':=by
 have H:=h
 unfold Y02.f at H
 clear h
 by_cases c2:a0<0
 case neg=>
  rw [if_neg c2] at H
  have c2b0:=decide_eq_false c2
  clear c2
  obtain rfl:=Option.some.inj H
  go_enter func99,ntmps99
  go_wp2
  go_ret
  exact ⟨zs,by repeat (first|exact Drawn0.refl _|apply Drawn0.step)⟩
 rw [if_pos c2] at H
 have c2b0:=decide_eq_true c2
 clear c2
 obtain rfl:=Option.some.inj H
 go_enter func99,ntmps99
 go_wp2
 go_ret
 exact ⟨zs,by repeat (first|exact Drawn0.refl _|apply Drawn0.step)⟩
def Y03.f (k:Nat) (a0:Int):Option (Bool×List Int×List Int):=(Y02.f a0).bind fun t635=>((Y5.f k t635).bind fun t636=>((Y5.f k 1).bind fun t639=>(some (decide (a0<0),t636,t639))))
theorem Y03.calls (k:Nat) (a0:Int) (r1:Bool) (r2:List Int) (r3:List Int) (w:World) (h:Y03.f k a0=some (r1,r2,r3)) :
  Calls Tryz.prog 48 #[.int .i64 a0] w fun e w'=>∃ v1_ v2_:Value,e = .returned (.agg #[.bool r1,v1_,v2_])∧Kd.R (Kd.int .i64) 3 w' w.heap.size (fun k_=>some k_≠(v2_:Value).ownBlock) v1_ r2∧Kd.R (Kd.int .i64) 3 w' w.heap.size (fun k_=>some k_≠(v1_:Value).ownBlock) v2_ r3∧Below w.heap.size w w':=by
 have hu67:=underlying67
 have HB:=aZ (Below.refl w.heap.size w)
 have H:=h
 unfold Y03.f at H
 clear h
 obtain ⟨t635,A2,H⟩:=zB H
 obtain ⟨t636,A3,H⟩:=zB H
 obtain ⟨t639,A4,H⟩:=zB H
 obtain ⟨rfl,rfl,rfl⟩:=zo3 H
 go_enter func48,ntmps48
 go_wp2_with (first|(refine box_ev 2 #[.bool false,.slice none 0 0,.slice none 0 0] 67 ?_;intro gb634 hg w5 hbox hb;have BK634:=aZ hbox;have GE634:=sG hg;replace HB:=sB hb;clear hb hbox hg)|(refine zg (some 6) func99 #[.int .i64 a0] ?_;(with_reducible refine (Y02.calls a0 t635 _ A2.out).mono ?_);rintro e w' ⟨rfl,⟨nd,rfl⟩⟩;refine ⟨_,rfl,?_⟩;(try (rw [drewN_self w5];generalize hq_:World.drewN w5 _=w5;have n0_:Aside0 (w5.heap[gb634]? = some (.cells #[.bool false,.slice none 0 0,.slice none 0 0] 67 (0,0))):=⟨by rw [← hq_];exact (zb BK634)⟩;have n1_:Aside0 (Below w.heap.size w w5):=⟨by rw [← hq_];exact bw⟩;clear BK634 HB hq_;have BK634:=n0_;have HB:=n1_;clear n0_ n1_)))|(refine zg (some 7) func98 #[.int .u64 t635] ?_;(with_reducible refine (Y5.calls k t635 t636 _ A3.out).mono ?_);rintro e w6 ⟨v637,rfl,ho0,hb⟩;refine ⟨_,rfl,?_⟩;have HO638:=aZ (Kd.R_lower ho0 bs);replace BK634:=sK BK634 hb;replace HB:=sB hb;clear hb ho0)|(refine zg (some 8) func98 #[.int .u64 1] ?_;(with_reducible refine (Y5.calls k 1 t639 _ A4.out).mono ?_);rintro e w7 ⟨v640,rfl,ho0,hb⟩;refine ⟨_,rfl,?_⟩;have HO641:=aZ (Kd.R_lower (Kd.R_new' ho0 (Kd.R_lt (zR HO638))) bs);replace HO638:=aZ (Kd.R_elder' (zR HO638) (Kd.R_base ho0) hb);replace BK634:=sK BK634 hb;replace HB:=sB hb;clear hb ho0;obtain ⟨Ao8,co8,rfl⟩:=Kd.R_slice HO641.out;obtain ⟨Ao9,co9,rfl⟩:=Kd.R_slice HO638.out;obtain ⟨hcz10_0,hfz10_0⟩:=zc BK634 0 (.bool false) rfl;obtain ⟨hcz10_1,hfz10_1⟩:=zc BK634 1 (.slice none 0 0) rfl;obtain ⟨hcz10_2,hfz10_2⟩:=zc BK634 2 (.slice none 0 0) rfl))
 refine bodyPost_ret (results_cell_row rfl _ _ gb634 67 #[.bool (decide (a0<0)),.slice Ao9 t636.length co9,.slice Ao8 t639.length co8] (0,0) _ rfl (zp BK634) underlying67 rfl (by kernel_rfl)) rfl ?_
 exact ⟨_,_,ze,zF ⟨Kd.R_types HO638.out BK634.out (by decide)⟩,zF ⟨Kd.R_types HO641.out BK634.out (by decide)⟩,bw⟩
def Yw.j0:Nat→Bool→List Int→List Int→List Int→Bool→Option (Bool×List Int×List Int)
 | 0,_,_,_,_,_=>none
 | k+1,x0,x1,x2,x7,x19=>if x19=true then ((Y2.f k x1 x7).bind fun bt647=>((Y2.f k x2 x7).bind fun bt653=>(if x0=true then (some (decide (0<bt647.1.length),bt647.1,bt653.1)) else (some (false,bt647.1,bt653.1))))) else (if x0=true then (some (decide (0<x1.length),x1,x2)) else (some (false,x1,x2)))
def Yw.f (k:Nat) (a0:Bool) (l1:List Int) (l2:List Int):Option (Bool×List Int×List Int):=(Yx.f k l1 l2).bind fun t643=>(if (t643.length:Int)=1 then (if 0<(t643.length:Int) then (Yw.j0 k a0 l1 l2 t643 ((rd t643 0) != 1)) else (none)) else (Yw.j0 k a0 l1 l2 t643 true))
theorem Yw.calls (k:Nat) (a0:Bool) (P1_:Nat→Prop) (A1:Option Addr) (c1:Nat) (l1:List Int) (P2_:Nat→Prop) (A2:Option Addr) (c2:Nat) (l2:List Int) (r1:Bool) (r2:List Int) (r3:List Int) (w:World) (hs1:Kd.V (Kd.int .i64) 3 w w.heap.size (fun k_=>P1_ k_) (.slice A1 l1.length c1) l1) (hs2:Kd.V (Kd.int .i64) 3 w w.heap.size (fun k_=>P2_ k_) (.slice A2 l2.length c2) l2) (h:Yw.f k a0 l1 l2=some (r1,r2,r3)) :
  Calls Tryz.prog 101 #[.bool a0,.slice A1 l1.length c1,.slice A2 l2.length c2] w fun e w'=>∃ v1_ v2_:Value,e = .returned (.agg #[.bool r1,v1_,v2_])∧Kd.V (Kd.int .i64) 3 w' w.heap.size (fun k_=>((P1_ k_∨P2_ k_)∨w.heap.size≤k_)) v1_ r2∧Kd.V (Kd.int .i64) 3 w' w.heap.size (fun k_=>((P1_ k_∨P2_ k_)∨w.heap.size≤k_)) v2_ r3∧Below w.heap.size w w':=by
 have hu67:=underlying67
 have HO1:=aZ (show Kd.V (Kd.int .i64) 3 w w.heap.size (fun k_=>((P1_ k_∨P2_ k_)∨w.heap.size≤k_)) (.slice A1 l1.length c1) l1 from Kd.V_mono hs1 (fun k_ hk=>.inl (.inl hk)))
 have HO2:=aZ (show Kd.V (Kd.int .i64) 3 w w.heap.size (fun k_=>((P1_ k_∨P2_ k_)∨w.heap.size≤k_)) (.slice A2 l2.length c2) l2 from Kd.V_mono hs2 (fun k_ hk=>.inl (.inr hk)))
 have HB:=aZ (Below.refl w.heap.size w)
 have H:=h
 unfold Yw.f at H
 clear h
 obtain ⟨t643,A4,H⟩:=zB H
 have HC5:=aZ H
 clear H
 go_enter func101,ntmps101
 go_upto_region 2 with (first|((with_reducible refine gate_dst (N:=6) rfl ?_);(try (refine gate_guard (by rfl) ?_;dsimp only));refine box_ev 6 #[.bool false,.slice none 0 0,.slice none 0 0] 67 ?_;intro gb642 hg w6 hbox hb;replace HO1:=yE HO1 hg hb;replace HO2:=yE HO2 hg hb;have BK642:=aZ hbox;have GE642:=sG hg;replace HB:=sB hb;clear hb hbox hg)|(refine zg (some 10) func104 #[.slice A1 l1.length c1,.slice A2 l2.length c2] ?_;(with_reducible refine (Yx.calls k (fun k_=>(((P1_ k_∨P2_ k_)∨w.heap.size≤k_)∧k_≠gb642)) _ _ l1 (fun k_=>(((P1_ k_∨P2_ k_)∨w.heap.size≤k_)∧k_≠gb642)) _ _ l2 t643 _ HO1.out HO2.out A4.out).mono ?_);rintro e w7 ⟨v644,rfl,ho0,hb⟩;refine ⟨_,rfl,?_⟩;replace HO1:=yV HO1 hb;replace HO2:=yV HO2 hb;have HO645:=yL (fun k_=>((P1_ k_∨P2_ k_)∨w.heap.size≤k_)∧k_≠gb642) ho0 (fun k_ hk_=>⟨Or.elim hk_ (fun hs_=>Or.elim hs_ (fun hs_=>hs_.1) (fun hs_=>hs_.1)) (fun hn_=>(.inr (Nat.le_trans bs hn_))),Or.elim hk_ (fun hs_=>Or.elim hs_ (fun hs_=>hs_.2) (fun hs_=>hs_.2)) (fun hn_=>(zf BK642 hn_))⟩);replace BK642:=sK BK642 hb;replace HB:=sB hb;clear hb ho0))
 (try simp only [Act.put,List.setIfInBounds_toArray,List.set_cons_zero,List.set_cons_succ])
 go_cut [19] (fun v19 wc=>∃ (kq:Nat) (x19_4:Bool),v19 = .bool x19_4∧Aside0 (Yw.j0 kq a0 l1 l2 t643 x19_4=some (r1,r2,r3))∧Aside0 (kq≤k)∧Aside0 (Kd.V (Kd.int .i64) 3 wc w.heap.size (fun k_=>((P1_ k_∨P2_ k_)∨w.heap.size≤k_)∧k_≠gb642) (.slice A1 l1.length c1) l1)∧Aside0 (Kd.V (Kd.int .i64) 3 wc w.heap.size (fun k_=>((P1_ k_∨P2_ k_)∨w.heap.size≤k_)∧k_≠gb642) (.slice A2 l2.length c2) l2)∧Aside0 (Kd.V (Kd.int .i64) 3 wc w.heap.size (fun k_=>((P1_ k_∨P2_ k_)∨w.heap.size≤k_)∧k_≠gb642) v644 t643)∧Aside0 (wc.heap[gb642]? = some (.cells #[.bool false,(.slice none 0 0),(.slice none 0 0)] 67 (0,0)))∧Aside0 (Below w.heap.size w wc))
 case first =>
  have H:=HC5.out
  clear HC5
  by_cases c8:(t643.length:Int)=1
  case neg=>
   rw [if_neg c8] at H
   obtain ⟨c8b0,c8b1⟩:=zX c8
   (first|rw [c8b0]|(simp only [i64_w,i32_w];rw [c8b0])|skip)
   have H':=aZ H
   clear H
   obtain ⟨Ao11,co11,rfl⟩:=Kd.V_slice HO645.out
   go_wp2
   go_meet
   case rel=>exact ⟨_,(true),zs,H',⟨by first|omega|exact Nat.le_refl _⟩,⟨zV HO1⟩,⟨zV HO2⟩,⟨zV HO645⟩,⟨zb BK642⟩,⟨bw⟩⟩
  rw [if_pos c8] at H
  obtain ⟨c8b0,c8b1⟩:=zY c8
  clear c8
  (first|rw [c8b0]|(simp only [i64_w,i32_w];rw [c8b0])|skip)
  by_cases c9:0<(t643.length:Int)
  case neg=>
   rw [if_neg c9] at H
   cases H
  rw [if_pos c9] at H
  have c9b0:=decide_eq_true c9
  have c9b1:decide (0<t643.length)=true:=decide_eq_true (by omega)
  clear c9
  have H':=aZ H
  clear H
  obtain ⟨Ao10,co10,rfl⟩:=Kd.V_slice HO645.out
  have p646:0≤(0:Int):=(by omega)
  have q646:0<(t643.length:Int):=zd
  obtain ⟨ad646,e646,hx646_0⟩:=Kd.at_int (Kd.V_reads' HO645.out).2.2 0 p646 q646
  cases e646
  have qi646:(0<t643.length)=True:=eq_true (by omega)
  (try rw [show ((0:Int)).toNat=0 from rfl] at hx646_0)
  (try rw [Addr.add_zero'] at hx646_0)
  replace p646:=eq_true p646
  replace q646:=eq_true q646
  go_wp2
  go_meet
  case rel=>exact ⟨_,(((rd t643 0) != 1)),zs,H',⟨by first|omega|exact Nat.le_refl _⟩,⟨zV HO1⟩,⟨zV HO2⟩,⟨zV HO645⟩,⟨zb BK642⟩,⟨bw⟩⟩
 case rest =>
  clear HC5
  obtain ⟨kq,x19_4,rfl,HA,HJ4,HO_1,HO_2,HO_7,BK642,HB⟩:=hcut
  cases kq with
  | zero=>exact absurd HA.out (by simp [Yw.j0])
  | succ kj4 =>
   have H:=HA.out
   clear HA
   simp only [Yw.j0] at H
   by_cases c12:x19_4=true
   case neg=>
    replace c12:=Bool.eq_false_iff.mpr c12
    subst c12
    replace H:=zU H
    by_cases c28:a0=true
    case neg=>
     replace c28:=Bool.eq_false_iff.mpr c28
     subst c28
     replace H:=zU H
     obtain ⟨rfl,rfl,rfl⟩:=zo3 H
     obtain ⟨hcz30_0,hfz30_0⟩:=zc BK642 0 (.bool false) rfl
     obtain ⟨hcz30_1,hfz30_1⟩:=zc BK642 1 (.slice none 0 0) rfl
     obtain ⟨hcz30_2,hfz30_2⟩:=zc BK642 2 (.slice none 0 0) rfl
     go_wp2
     refine bodyPost_ret (results_cell_row rfl _ _ gb642 67 #[.bool false,.slice A1 l1.length c1,.slice A2 l2.length c2] (0,0) _ rfl (zp BK642) underlying67 rfl (by kernel_rfl)) rfl ?_
     exact ⟨_,_,ze,zF HO_1,zF HO_2,bw⟩
    subst c28
    replace H:=zT H
    obtain ⟨rfl,rfl,rfl⟩:=zo3 H
    obtain ⟨hcz29_0,hfz29_0⟩:=zc BK642 0 (.bool false) rfl
    obtain ⟨hcz29_1,hfz29_1⟩:=zc BK642 1 (.slice none 0 0) rfl
    obtain ⟨hcz29_2,hfz29_2⟩:=zc BK642 2 (.slice none 0 0) rfl
    go_wp2
    refine bodyPost_ret (results_cell_row rfl _ _ gb642 67 #[.bool (decide (0<l1.length)),.slice A1 l1.length c1,.slice A2 l2.length c2] (0,0) _ rfl (zp BK642) underlying67 rfl (by kernel_rfl)) rfl ?_
    exact ⟨_,_,ze,zF HO_1,zF HO_2,bw⟩
   subst c12
   replace H:=zT H
   obtain ⟨⟨t647,t650⟩,A13,H⟩:=zB H
   (try dsimp only at H)
   obtain ⟨⟨t653,t656⟩,A14,H⟩:=zB H
   (try dsimp only at H)
   by_cases c15:a0=true
   case neg=>
    replace c15:=Bool.eq_false_iff.mpr c15
    subst c15
    replace H:=zU H
    obtain ⟨rfl,rfl,rfl⟩:=zo3 H
    obtain ⟨Ao22,co22,rfl⟩:=Kd.V_slice HO_7.out
    go_wp2_with (first|(refine zg (some 23) func134 #[.slice A1 l1.length c1,.slice Ao22 t643.length co22] ?_;(with_reducible refine (Y2.calls kj4 (fun k_=>(((P1_ k_∨P2_ k_)∨w.heap.size≤k_)∧k_≠gb642)) _ _ l1 _ _ t643 t647 t650 _ HO_1.out (zC (Kd.V_reads' HO_7.out).2.2) ((Kd.V_reads' HO_7.out).2.1) A13.out).mono ?_);rintro e w23 ⟨v648,v651,rfl,ho0,ho1,hb⟩;refine ⟨_,rfl,?_⟩;replace HO_1:=yV HO_1 hb;replace HO_2:=yV HO_2 hb;replace HO_7:=yV HO_7 hb;have HO649:=yL (fun k_=>((P1_ k_∨P2_ k_)∨w.heap.size≤k_)∧k_≠gb642) ho0 (fun k_ hk_=>⟨Or.elim hk_ (fun hs_=>hs_.1) (fun hn_=>(.inr (Nat.le_trans bs hn_))),Or.elim hk_ (fun hs_=>hs_.2) (fun hn_=>(zf BK642 hn_))⟩);have HO652:=yL (fun k_=>((P1_ k_∨P2_ k_)∨w.heap.size≤k_)∧k_≠gb642) ho1 (fun k_ hk_=>⟨Or.elim hk_ (fun hs_=>hs_.1) (fun hn_=>(.inr (Nat.le_trans bs hn_))),Or.elim hk_ (fun hs_=>hs_.2) (fun hn_=>(zf BK642 hn_))⟩);replace BK642:=sK BK642 hb;replace HB:=sB hb;clear hb ho0 ho1)|(refine zg (some 29) func134 #[.slice A2 l2.length c2,.slice Ao22 t643.length co22] ?_;(with_reducible refine (Y2.calls kj4 (fun k_=>(((P1_ k_∨P2_ k_)∨w.heap.size≤k_)∧k_≠gb642)) _ _ l2 _ _ t643 t653 t656 _ HO_2.out (zC (Kd.V_reads' HO_7.out).2.2) ((Kd.V_reads' HO_7.out).2.1) A14.out).mono ?_);rintro e w24 ⟨v654,v657,rfl,ho0,ho1,hb⟩;refine ⟨_,rfl,?_⟩;replace HO_1:=yV HO_1 hb;replace HO_2:=yV HO_2 hb;replace HO_7:=yV HO_7 hb;replace HO649:=yV HO649 hb;replace HO652:=yV HO652 hb;have HO655:=yL (fun k_=>((P1_ k_∨P2_ k_)∨w.heap.size≤k_)∧k_≠gb642) ho0 (fun k_ hk_=>⟨Or.elim hk_ (fun hs_=>hs_.1) (fun hn_=>(.inr (Nat.le_trans bs hn_))),Or.elim hk_ (fun hs_=>hs_.2) (fun hn_=>(zf BK642 hn_))⟩);have HO658:=yL (fun k_=>((P1_ k_∨P2_ k_)∨w.heap.size≤k_)∧k_≠gb642) ho1 (fun k_ hk_=>⟨Or.elim hk_ (fun hs_=>hs_.1) (fun hn_=>(.inr (Nat.le_trans bs hn_))),Or.elim hk_ (fun hs_=>hs_.2) (fun hn_=>(zf BK642 hn_))⟩);replace BK642:=sK BK642 hb;replace HB:=sB hb;clear hb ho0 ho1;obtain ⟨Ao25,co25,rfl⟩:=Kd.V_slice HO655.out;obtain ⟨Ao26,co26,rfl⟩:=Kd.V_slice HO649.out;obtain ⟨hcz27_0,hfz27_0⟩:=zc BK642 0 (.bool false) rfl;obtain ⟨hcz27_1,hfz27_1⟩:=zc BK642 1 (.slice none 0 0) rfl;obtain ⟨hcz27_2,hfz27_2⟩:=zc BK642 2 (.slice none 0 0) rfl))
    refine bodyPost_ret (results_cell_row rfl _ _ gb642 67 #[.bool false,.slice Ao26 t647.length co26,.slice Ao25 t653.length co25] (0,0) _ rfl (zp BK642) underlying67 rfl (by kernel_rfl)) rfl ?_
    exact ⟨_,_,ze,zF HO649,zF HO655,bw⟩
   subst c15
   replace H:=zT H
   obtain ⟨rfl,rfl,rfl⟩:=zo3 H
   obtain ⟨Ao16,co16,rfl⟩:=Kd.V_slice HO_7.out
   go_wp2_with (first|(refine zg (some 23) func134 #[.slice A1 l1.length c1,.slice Ao16 t643.length co16] ?_;(with_reducible refine (Y2.calls kj4 (fun k_=>(((P1_ k_∨P2_ k_)∨w.heap.size≤k_)∧k_≠gb642)) _ _ l1 _ _ t643 t647 t650 _ HO_1.out (zC (Kd.V_reads' HO_7.out).2.2) ((Kd.V_reads' HO_7.out).2.1) A13.out).mono ?_);rintro e w17 ⟨v648,v651,rfl,ho0,ho1,hb⟩;refine ⟨_,rfl,?_⟩;replace HO_1:=yV HO_1 hb;replace HO_2:=yV HO_2 hb;replace HO_7:=yV HO_7 hb;have HO649:=yL (fun k_=>((P1_ k_∨P2_ k_)∨w.heap.size≤k_)∧k_≠gb642) ho0 (fun k_ hk_=>⟨Or.elim hk_ (fun hs_=>hs_.1) (fun hn_=>(.inr (Nat.le_trans bs hn_))),Or.elim hk_ (fun hs_=>hs_.2) (fun hn_=>(zf BK642 hn_))⟩);have HO652:=yL (fun k_=>((P1_ k_∨P2_ k_)∨w.heap.size≤k_)∧k_≠gb642) ho1 (fun k_ hk_=>⟨Or.elim hk_ (fun hs_=>hs_.1) (fun hn_=>(.inr (Nat.le_trans bs hn_))),Or.elim hk_ (fun hs_=>hs_.2) (fun hn_=>(zf BK642 hn_))⟩);replace BK642:=sK BK642 hb;replace HB:=sB hb;clear hb ho0 ho1)|(refine zg (some 29) func134 #[.slice A2 l2.length c2,.slice Ao16 t643.length co16] ?_;(with_reducible refine (Y2.calls kj4 (fun k_=>(((P1_ k_∨P2_ k_)∨w.heap.size≤k_)∧k_≠gb642)) _ _ l2 _ _ t643 t653 t656 _ HO_2.out (zC (Kd.V_reads' HO_7.out).2.2) ((Kd.V_reads' HO_7.out).2.1) A14.out).mono ?_);rintro e w18 ⟨v654,v657,rfl,ho0,ho1,hb⟩;refine ⟨_,rfl,?_⟩;replace HO_1:=yV HO_1 hb;replace HO_2:=yV HO_2 hb;replace HO_7:=yV HO_7 hb;replace HO649:=yV HO649 hb;replace HO652:=yV HO652 hb;have HO655:=yL (fun k_=>((P1_ k_∨P2_ k_)∨w.heap.size≤k_)∧k_≠gb642) ho0 (fun k_ hk_=>⟨Or.elim hk_ (fun hs_=>hs_.1) (fun hn_=>(.inr (Nat.le_trans bs hn_))),Or.elim hk_ (fun hs_=>hs_.2) (fun hn_=>(zf BK642 hn_))⟩);have HO658:=yL (fun k_=>((P1_ k_∨P2_ k_)∨w.heap.size≤k_)∧k_≠gb642) ho1 (fun k_ hk_=>⟨Or.elim hk_ (fun hs_=>hs_.1) (fun hn_=>(.inr (Nat.le_trans bs hn_))),Or.elim hk_ (fun hs_=>hs_.2) (fun hn_=>(zf BK642 hn_))⟩);replace BK642:=sK BK642 hb;replace HB:=sB hb;clear hb ho0 ho1;obtain ⟨Ao19,co19,rfl⟩:=Kd.V_slice HO649.out;obtain ⟨Ao20,co20,rfl⟩:=Kd.V_slice HO655.out;obtain ⟨hcz21_0,hfz21_0⟩:=zc BK642 0 (.bool false) rfl;obtain ⟨hcz21_1,hfz21_1⟩:=zc BK642 1 (.slice none 0 0) rfl;obtain ⟨hcz21_2,hfz21_2⟩:=zc BK642 2 (.slice none 0 0) rfl))
   refine bodyPost_ret (results_cell_row rfl _ _ gb642 67 #[.bool (decide (0<t647.length)),.slice Ao19 t647.length co19,.slice Ao20 t653.length co20] (0,0) _ rfl (zp BK642) underlying67 rfl (by kernel_rfl)) rfl ?_
   exact ⟨_,_,ze,zF HO649,zF HO655,bw⟩
def Yu.f (k:Nat) (a0_0:Bool) (l0_1:List Int) (l0_2:List Int) (a1_0:Bool) (l1_1:List Int) (l1_2:List Int):Option (Bool×List Int×List Int):=(Y1.f k l0_1 l1_1).bind fun t662=>((Y1.f k l0_2 l1_2).bind fun t665=>((Yw.f k (a0_0 != a1_0) t662 t665).bind fun bt668=>(some (bt668.1,bt668.2.1,bt668.2.2))))
def Yu.T1:Bool×List (List Nat×List Nat):=(true,[([],[]),([0],[0]),([],[]),([2],[2]),([1,3],[1,3]),([],[]),([5],[5]),([],[]),([7],[7]),([6,8],[6,8]),([],[]),([10],[10]),([],[]),([12],[12]),([11,13,9],[11,13]),([4,9,14,14],[4,9,14]),([15,15,0,1,2,3,4,5,6,7,8,9,10,11,12,13,14,15],[15])])
def Yu.B1:List Nat:=[0,1,0,4,15,0,32,0,128,480,0,1024,0,4096,16352,32767,65535]
theorem Yu.tab1:rtab .any (opsOf Tryz.f60 1)=Yu.T1:=by kernel_rfl
theorem Yu.bits1:waitsOk Yu.T1.2 Yu.B1=true:=by kernel_rfl
theorem Yu.calls (k:Nat) (a0_0:Bool) (A0_1:Option Addr) (c0_1:Nat) (l0_1:List Int) (A0_2:Option Addr) (c0_2:Nat) (l0_2:List Int) (a1_0:Bool) (A1_1:Option Addr) (c1_1:Nat) (l1_1:List Int) (A1_2:Option Addr) (c1_2:Nat) (l1_2:List Int) (r1:Bool) (r2:List Int) (r3:List Int) (w:World) (hr0_1:Kd.C (Kd.int .i64) w A0_1 l0_1.length l0_1) (hc0_1:l0_1.length≤c0_1) (hr0_2:Kd.C (Kd.int .i64) w A0_2 l0_2.length l0_2) (hc0_2:l0_2.length≤c0_2) (hr1_1:Kd.C (Kd.int .i64) w A1_1 l1_1.length l1_1) (hc1_1:l1_1.length≤c1_1) (hr1_2:Kd.C (Kd.int .i64) w A1_2 l1_2.length l1_2) (hc1_2:l1_2.length≤c1_2) (h:Yu.f k a0_0 l0_1 l0_2 a1_0 l1_1 l1_2=some (r1,r2,r3)) :
  Calls Tryz.prog 60 #[.agg #[.bool a0_0,.slice A0_1 l0_1.length c0_1,.slice A0_2 l0_2.length c0_2],.agg #[.bool a1_0,.slice A1_1 l1_1.length c1_1,.slice A1_2 l1_2.length c1_2]] w fun e w'=>∃ v1_ v2_:Value,e = .returned (.agg #[.bool r1,v1_,v2_])∧Kd.V (Kd.int .i64) 3 w' w.heap.size (fun k_=>(w.heap.size≤k_)) v1_ r2∧Kd.V (Kd.int .i64) 3 w' w.heap.size (fun k_=>(w.heap.size≤k_)) v2_ r3∧Below w.heap.size w w':=by
 have hu67:=underlying67
 have HR0_1:=aZ hr0_1
 have HC0_1:=aZ hc0_1
 clear hr0_1 hc0_1
 have HR0_2:=aZ hr0_2
 have HC0_2:=aZ hc0_2
 clear hr0_2 hc0_2
 have HR1_1:=aZ hr1_1
 have HC1_1:=aZ hc1_1
 clear hr1_1 hc1_1
 have HR1_2:=aZ hr1_2
 have HC1_2:=aZ hc1_2
 clear hr1_2 hc1_2
 have HB:=aZ (Below.refl w.heap.size w)
 have H:=h
 unfold Yu.f at H
 clear h
 obtain ⟨t662,A3,H⟩:=zB H
 obtain ⟨t665,A4,H⟩:=zB H
 obtain ⟨⟨t668,t669,t672⟩,A5,H⟩:=zB H
 (try dsimp only at H)
 obtain ⟨rfl,rfl,rfl⟩:=zo3 H
 go_enter func60,ntmps60
 try go_wp2_with (first|(refine box_ev 2 #[.bool a0_0,.slice A0_1 l0_1.length c0_1,.slice A0_2 l0_2.length c0_2] 67 ?_;intro gb659 hg w6 hbox hb;have BK659:=aZ hbox;have GE659:=sG hg;replace HB:=sB hb;clear hb hbox hg)|(refine box_ev 3 #[.bool a1_0,.slice A1_1 l1_1.length c1_1,.slice A1_2 l1_2.length c1_2] 67 ?_;intro gb660 hg w7 hbox hb;have BK660:=aZ hbox;have GE660:=sG hg;replace HB:=sB hb;obtain ⟨NB659_660,NB660_659,BK659⟩:=sX hg hb BK659;clear hb hbox hg)|(refine box_ev 4 #[.bool false,.slice none 0 0,.slice none 0 0] 67 ?_;intro gb661 hg w8 hbox hb;have BK661:=aZ hbox;have GE661:=sG hg;replace HB:=sB hb;obtain ⟨NB659_661,NB661_659,BK659⟩:=sX hg hb BK659;obtain ⟨NB660_661,NB661_660,BK660⟩:=sX hg hb BK660;clear hb hbox hg))
 replace BK659:=aZ (blk_drew BK659.out)
 replace BK660:=aZ (blk_drew BK660.out)
 replace BK661:=aZ (blk_drew BK661.out)
 replace HB:=aZ (below_drew1 HB.out)
 refine start_ (n:=17) (S:=fun w'=>w'.cell? ⟨gb659,0,none⟩=some (.bool a0_0)∧w'.cell? ⟨gb659,1,none⟩=some (.slice A0_1 l0_1.length c0_1)∧w'.cell? ⟨gb659,2,none⟩=some (.slice A0_2 l0_2.length c0_2)∧w'.cell? ⟨gb660,0,none⟩=some (.bool a1_0)∧w'.cell? ⟨gb660,1,none⟩=some (.slice A1_1 l1_1.length c1_1)∧w'.cell? ⟨gb660,2,none⟩=some (.slice A1_2 l1_2.length c1_2)) (ds:=[]) #[false,false,false,false,false,false,false,false,false,false,false,false,false,false,false,false,false] (by kernel_rfl) rfl rfl ⟨zh BK659 0,zh BK659 1,zh BK659 2,zh BK660 0,zh BK660 1,zh BK660 2⟩ (fun hHeld=>?_);refine with_tabW Yu.tab1 Yu.bits1 (fun HT_ HW_=>?_)
 generalize w8.drew=w9 at BK659 BK660 BK661 HB hHeld ⊢
 refine pu 0 (some 5) HT_ ?_
 refine pu 2 (some 7) HT_ ?_
 refine pu 5 (some 10) HT_ ?_
 refine pu 7 (some 12) HT_ ?_
 refine pu 10 (some 15) HT_ ?_
 refine pu 12 (some 17) HT_ ?_
 refine tk 1 (some 6) HT_ HW_ hHeld ?_
 refine tk 3 (some 8) HT_ HW_ hHeld ?_
 refine pu 4 (some 9) HT_ ?_
 refine tk 6 (some 11) HT_ HW_ hHeld ?_
 refine tk 8 (some 13) HT_ HW_ hHeld ?_
 refine tk 11 (some 16) HT_ HW_ hHeld ?_
 refine tk 13 (some 18) HT_ HW_ hHeld ?_
 refine one_ (i:=9) (N:=some 14) #[true,true,true,true,true,true,true,true,true,true,true,true,true,true,false,false,false] rfl rfl (one_of HT_.out (by kernel_rfl)) (by decide) (fun K hK=>?_)
 refine goes_ func112 (by kernel_rfl) rfl #[.slice A0_1 l0_1.length c0_1,.slice A1_1 l1_1.length c1_1] (by rfl) rfl rfl zm ?_
 with_reducible refine (Y1.calls k _ _ l0_1 _ _ l1_1 t662 _ (zC (Kd.C_below HR0_1.out HB.out)) HC0_1.out (zC (Kd.C_below HR1_1.out HB.out)) HC1_1.out A3.out).mono ?_
 rintro e w10 ⟨v663,rfl,ho0,hb⟩
 refine ⟨_,rfl,?_⟩
 have HO664:=yL (fun k_=>(w.heap.size≤k_)∧k_≠gb659∧k_≠gb660∧k_≠gb661) ho0 (fun k_ hk_=>⟨(Nat.le_trans bs hk_),(zf BK659 hk_),(zf BK660 hk_),(zf BK661 hk_)⟩)
 replace BK659:=sK BK659 hb
 replace BK660:=sK BK660 hb
 replace BK661:=sK BK661 hb
 replace HB:=sB hb
 clear hb ho0
 refine hK.out _ _ ⟨zh BK659 0,zh BK659 1,zh BK659 2,zh BK660 0,zh BK660 1,zh BK660 2⟩ (fun hHeld=>?_)
 clear hK K
 refine nm ?_
 refine one_ (i:=14) (N:=some 19) #[true,true,true,true,true,true,true,true,true,true,true,true,true,true,true,false,false] rfl rfl (one_of HT_.out (by kernel_rfl)) (by decide) (fun K hK=>?_)
 refine goes_ func112 (by kernel_rfl) rfl #[.slice A0_2 l0_2.length c0_2,.slice A1_2 l1_2.length c1_2] (by rfl) rfl rfl zm ?_
 with_reducible refine (Y1.calls k _ _ l0_2 _ _ l1_2 t665 _ (zC (Kd.C_below HR0_2.out HB.out)) HC0_2.out (zC (Kd.C_below HR1_2.out HB.out)) HC1_2.out A4.out).mono ?_
 rintro e w11 ⟨v666,rfl,ho0,hb⟩
 refine ⟨_,rfl,?_⟩
 replace HO664:=yV HO664 hb
 have HO667:=yL (fun k_=>(w.heap.size≤k_)∧k_≠gb659∧k_≠gb660∧k_≠gb661) ho0 (fun k_ hk_=>⟨(Nat.le_trans bs hk_),(zf BK659 hk_),(zf BK660 hk_),(zf BK661 hk_)⟩)
 replace BK659:=sK BK659 hb
 replace BK660:=sK BK660 hb
 replace BK661:=sK BK661 hb
 replace HB:=sB hb
 clear hb ho0
 obtain ⟨Ao12,co12,eo12⟩:=Kd.V_slice HO664.out
 (first|subst eo12|(injection eo12 with f1_ f2_ f3_;have f4_:=f1_.symm;have f5_:=f3_.symm;clear f1_ f2_ f3_;subst f4_;subst f5_))
 obtain ⟨Ao13,co13,eo13⟩:=Kd.V_slice HO667.out
 (first|subst eo13|(injection eo13 with f1_ f2_ f3_;have f4_:=f1_.symm;have f5_:=f3_.symm;clear f1_ f2_ f3_;subst f4_;subst f5_))
 refine hK.out _ _ ⟨zh BK659 0,zh BK659 1,zh BK659 2,zh BK660 0,zh BK660 1,zh BK660 2⟩ (fun hHeld=>?_)
 clear hK K
 refine nm ?_
 refine one_ (i:=15) (N:=some 20) #[true,true,true,true,true,true,true,true,true,true,true,true,true,true,true,true,false] rfl rfl (one_of HT_.out (by kernel_rfl)) (by decide) (fun K hK=>?_)
 refine goes_ func101 (by kernel_rfl) rfl #[.bool (a0_0 != a1_0),.slice Ao12 t662.length co12,.slice Ao13 t665.length co13] (by rfl) rfl rfl zm ?_
 with_reducible refine (Yw.calls k (a0_0 != a1_0) (fun k_=>((w.heap.size≤k_)∧(k_≠gb659∧(k_≠gb660∧k_≠gb661)))) _ _ t662 (fun k_=>((w.heap.size≤k_)∧(k_≠gb659∧(k_≠gb660∧k_≠gb661)))) _ _ t665 t668 t669 t672 _ HO664.out HO667.out A5.out).mono ?_
 rintro e w14 ⟨v670,v673,rfl,ho0,ho1,hb⟩
 refine ⟨_,rfl,?_⟩
 replace HO664:=yV HO664 hb
 replace HO667:=yV HO667 hb
 have HO671:=yL (fun k_=>(w.heap.size≤k_)∧k_≠gb659∧k_≠gb660∧k_≠gb661) ho0 (fun k_ hk_=>⟨Or.elim hk_ (fun hs_=>Or.elim hs_ (fun hs_=>hs_.1) (fun hs_=>hs_.1)) (fun hn_=>(Nat.le_trans bs hn_)),Or.elim hk_ (fun hs_=>Or.elim hs_ (fun hs_=>hs_.2.1) (fun hs_=>hs_.2.1)) (fun hn_=>(zf BK659 hn_)),Or.elim hk_ (fun hs_=>Or.elim hs_ (fun hs_=>hs_.2.2.1) (fun hs_=>hs_.2.2.1)) (fun hn_=>(zf BK660 hn_)),Or.elim hk_ (fun hs_=>Or.elim hs_ (fun hs_=>hs_.2.2.2) (fun hs_=>hs_.2.2.2)) (fun hn_=>(zf BK661 hn_))⟩)
 have HO674:=yL (fun k_=>(w.heap.size≤k_)∧k_≠gb659∧k_≠gb660∧k_≠gb661) ho1 (fun k_ hk_=>⟨Or.elim hk_ (fun hs_=>Or.elim hs_ (fun hs_=>hs_.1) (fun hs_=>hs_.1)) (fun hn_=>(Nat.le_trans bs hn_)),Or.elim hk_ (fun hs_=>Or.elim hs_ (fun hs_=>hs_.2.1) (fun hs_=>hs_.2.1)) (fun hn_=>(zf BK659 hn_)),Or.elim hk_ (fun hs_=>Or.elim hs_ (fun hs_=>hs_.2.2.1) (fun hs_=>hs_.2.2.1)) (fun hn_=>(zf BK660 hn_)),Or.elim hk_ (fun hs_=>Or.elim hs_ (fun hs_=>hs_.2.2.2) (fun hs_=>hs_.2.2.2)) (fun hn_=>(zf BK661 hn_))⟩)
 replace BK659:=sK BK659 hb
 replace BK660:=sK BK660 hb
 replace BK661:=sK BK661 hb
 replace HB:=sB hb
 clear hb ho0 ho1
 obtain ⟨Ao16,co16,eo16⟩:=Kd.V_slice HO671.out
 (first|subst eo16|(injection eo16 with f1_ f2_ f3_;have f4_:=f1_.symm;have f5_:=f3_.symm;clear f1_ f2_ f3_;subst f4_;subst f5_))
 obtain ⟨Ao18,co18,eo18⟩:=Kd.V_slice HO674.out
 (first|subst eo18|(injection eo18 with f1_ f2_ f3_;have f4_:=f1_.symm;have f5_:=f3_.symm;clear f1_ f2_ f3_;subst f4_;subst f5_))
 refine hK.out _ _ ⟨zh BK659 0,zh BK659 1,zh BK659 2,zh BK660 0,zh BK660 1,zh BK660 2⟩ (fun hHeld=>?_)
 clear hK K
 refine nm ?_
 refine one_ (i:=16) (N:=none) #[true,true,true,true,true,true,true,true,true,true,true,true,true,true,true,true,true] rfl rfl (one_of HT_.out (by kernel_rfl)) (by decide) (fun K hK=>?_)
 have hs15:w14.cell? ⟨gb661,0,none⟩=some (.bool false):=(blk_cell BK661.out 0).trans rfl
 have hfs15:=blk_frozen BK661.out 0
 have hns15_0:=NB659_661.out
 have hns15_1:=NB660_661.out
 have hms15_0:=NB661_659.out
 have hms15_1:=NB661_660.out
 have hs17:w14.cell? ⟨gb661,1,none⟩=some (.slice none 0 0):=(blk_cell BK661.out 1).trans rfl
 have hfs17:=blk_frozen BK661.out 1
 have hns17_0:=NB659_661.out
 have hns17_1:=NB660_661.out
 have hms17_0:=NB661_659.out
 have hms17_1:=NB661_660.out
 have hs19:w14.cell? ⟨gb661,2,none⟩=some (.slice none 0 0):=(blk_cell BK661.out 2).trans rfl
 have hfs19:=blk_frozen BK661.out 2
 have hns19_0:=NB659_661.out
 have hns19_1:=NB660_661.out
 have hms19_0:=NB661_659.out
 have hms19_1:=NB661_660.out
 refine skip_ (w1:=?_) (by rfl) rfl ?_ ?_
 rotate_left
 ·go_simp
  rfl
 refine hK.out _ _ ⟨((cell_far (p:=⟨gb661,_,none⟩) NB659_661.out _).trans (((cell_far (p:=⟨gb661,_,none⟩) NB659_661.out _).trans (((cell_far (p:=⟨gb661,_,none⟩) NB659_661.out _).trans (hHeld.1)))))),((cell_far (p:=⟨gb661,_,none⟩) NB659_661.out _).trans (((cell_far (p:=⟨gb661,_,none⟩) NB659_661.out _).trans (((cell_far (p:=⟨gb661,_,none⟩) NB659_661.out _).trans (hHeld.2.1)))))),((cell_far (p:=⟨gb661,_,none⟩) NB659_661.out _).trans (((cell_far (p:=⟨gb661,_,none⟩) NB659_661.out _).trans (((cell_far (p:=⟨gb661,_,none⟩) NB659_661.out _).trans (hHeld.2.2.1)))))),((cell_far (p:=⟨gb661,_,none⟩) NB660_661.out _).trans (((cell_far (p:=⟨gb661,_,none⟩) NB660_661.out _).trans (((cell_far (p:=⟨gb661,_,none⟩) NB660_661.out _).trans (hHeld.2.2.2.1)))))),((cell_far (p:=⟨gb661,_,none⟩) NB660_661.out _).trans (((cell_far (p:=⟨gb661,_,none⟩) NB660_661.out _).trans (((cell_far (p:=⟨gb661,_,none⟩) NB660_661.out _).trans (hHeld.2.2.2.2.1)))))),((cell_far (p:=⟨gb661,_,none⟩) NB660_661.out _).trans (((cell_far (p:=⟨gb661,_,none⟩) NB660_661.out _).trans (((cell_far (p:=⟨gb661,_,none⟩) NB660_661.out _).trans (hHeld.2.2.2.2.2))))))⟩ (fun hHeld=>?_)
 clear hK K
 refine done_ (done_of HT_.out (by kernel_rfl)) ?_
 try go_wp2
 refine bodyPost_ret (results_cell_row rfl _ _ gb661 67 #[.bool t668,.slice Ao16 t669.length co16,.slice Ao18 t672.length co18] (0,0) _ rfl (zp BK661) underlying67 rfl (by kernel_rfl)) rfl ?_
 exact ⟨_,_,ze,zF HO671,zF HO674,bw⟩
section
end
section
namespace Str4
def pad (d:Nat):List UInt8:=List.replicate (4-(Lib.decDigits d).length) 48++Lib.decDigits d
def str:List Int→List UInt8
 | []=>[]
 | [d]=>Lib.decDigits d.toNat
 | d :: e :: l=>str (e :: l)++pad d.toNat
def Small (l:List Int):Prop:=∀ d ∈ l,0≤d∧d<10000
instance (l:List Int):Decidable (Small l):=inferInstanceAs (Decidable (∀ d ∈ l,0≤d∧d<10000))
theorem nDigits4 {d:Nat} (h:d<10000):(Lib.decDigits d).length≤4:=by
 rw [Lib.decDigits_length]
 have hk:∀ k u,u<10^(k+1)→Lib.nDigits u≤k+1:=by
  intro k
  induction k with
  | zero=>intro u hu;rw [Lib.nDigits_small (by omega)];omega
  | succ k ih =>
   intro u hu
   by_cases h9:u<10
   case neg=>
    rw [Lib.nDigits_big h9]
    have:=ih (u/10) (by rw [Nat.pow_succ] at hu;omega)
    omega
   rw [Lib.nDigits_small h9];omega
 exact hk 3 d h
theorem pad_length {d:Nat} (h:d<10000):(pad d).length=4:=by
 have:=nDigits4 h
 simp [pad];omega
theorem str_drop (l:List Int) (k:Nat) (h:k+1<l.length):str (l.drop k)=str (l.drop (k+1))++pad (l[k]'(by omega)).toNat:=by
 rw [List.drop_eq_getElem_cons (show k<l.length by omega)]
 rw [List.drop_eq_getElem_cons h]
 rfl
theorem str_length (l:List Int) (h:Small l):(str l).length≤4*l.length:=by
 induction l with
 | nil=>simp [str]
 | cons d l ih =>
  have hd:=h d (List.mem_cons_self)
  cases l with
  | nil=>have:=nDigits4 (d:=d.toNat) (by omega);simp [str];omega
  | cons e l =>
   have:=ih (fun x hx=>h x (List.mem_cons_of_mem _ hx))
   have:=pad_length (d:=d.toNat) (by omega)
   simp [str] at *;omega
theorem itoa_nat (d:Nat):Lib.itoa (d:Int)=Lib.decDigits d:=by unfold Lib.itoa;rw [if_neg (by omega),Int.toNat_natCast]
end Str4
def Y05.f (l0:List Int):Option ByteArray:=if Str4.Small l0∧l0.length<10000000000000 then (if l0=[] then some ⟨#[48]⟩ else some ⟨(Str4.str l0).toArray⟩) else none
set_option maxHeartbeats 4000000 in
set_option maxRecDepth 100000 in
theorem Y05.calls (A0:Option Addr) (c0:Nat) (l0:List Int) (r:ByteArray) (w:World) (hr0:Kd.C (Kd.int .i64) w A0 l0.length l0) (hc0:l0.length≤c0) (hG:Tryz.Gl w) (h:Y05.f l0=some r) :
  Calls Tryz.prog 100 #[.slice A0 l0.length c0] w fun e w'=>e = .returned (.string r)∧Below w.heap.size w w':=by
 unfold Y05.f at h
 by_cases hs:Str4.Small l0∧l0.length<10000000000000
 case neg=>rw [if_neg hs] at h;cases h
 rw [if_pos hs] at h
 obtain ⟨hsm,hlen⟩:=hs
 by_cases hz:l0=[]
 ·rw [if_pos hz] at h
  obtain rfl:=Option.some.inj h
  subst hz
  clear hr0 hc0
  go_enter func100,ntmps100
  go_wp2
  go_ret
  exact ⟨rfl,Below.refl _ _⟩
 rw [if_neg hz] at h
 obtain rfl:=Option.some.inj h
 have hpos:0<l0.length:=List.length_pos_iff.2 hz
 obtain ⟨_,_,hx⟩:=hr0
 obtain ⟨ad,rfl,hcell0⟩:=hx hpos
 have hcell:∀ j,j<l0.length→w.cell? (ad.add j)=some (.int .i64 (l0.getD j 0)):=fun j hj=>by
  obtain ⟨c,_,hR,hcl⟩:=hcell0 j (l0.getD j 0) (by rw [List.getD_eq_getElem?_getD,List.getElem?_eq_getElem hj];rfl)
  have e:c=[.int .i64 (l0.getD j 0)]:=hR
  subst e
  have:=hcl 0 _ rfl
  have h1:(Kd.int .i64).sz=1:=rfl
  rw [h1,Nat.mul_one,Nat.add_zero] at this
  exact this
 have hsz:ad.block<w.heap.size:=by have:=World.block_lt_of_cell? w _ (hcell 0 hpos);unfold Addr.add at this;revert this;split <;> exact id
 clear hx hcell0
 -- the top digit
 obtain ⟨dt,hdt⟩:∃ d:Nat,l0.getD (l0.length-1) 0=(d:Int):=⟨(l0.getD (l0.length-1) 0).toNat,by have:=hsm (l0.getD (l0.length-1) 0) (by rw [List.getD_eq_getElem?_getD,List.getElem?_eq_getElem (by omega)];exact List.getElem_mem _);omega⟩
 have hdtlt:dt<10000:=by have:=hsm (l0.getD (l0.length-1) 0) (by rw [List.getD_eq_getElem?_getD,List.getElem?_eq_getElem (by omega)];exact List.getElem_mem _);omega
 have hct:=hcell (l0.length-1) (by omega)
 rw [hdt] at hct
 have HT:=aZ hdt
 have HCell:=aZ hcell
 have HS:=aZ hsm
 have HL:=aZ hlen
 have HZ:=aZ hz
 have HG:=aZ hG
 have HW:=aZ hsz
 clear hdt hcell hsm hz h hG hc0
 have hne:((l0.length:Int)==0)=false:=beq_eq_false_iff_ne.mpr (by omega)
 obtain ⟨s0,hs0⟩:∃ s:ByteArray,s=⟨(Lib.itoa (dt:Int)).toArray⟩:=⟨_,rfl⟩
 have hit:=fun (W:World) (hg:Tryz.Gl W)=>(Tryz.strconv_Itoa (dt:Int) (by omega) (by omega) W hg.1).mono (fun e w' (h:_∧_)=>(show e = .returned (.string s0)∧Below W.heap.size W w' by obtain ⟨h1,k,os,h2⟩:=h;rw [hs0,h2];exact ⟨h1,Tryz.grow_below W k os⟩))
 have hs0l:s0.size≤4:=by rw [hs0,Str4.itoa_nat];simpa [ByteArray.size] using Str4.nDigits4 hdtlt
 have HS0:=aZ hs0
 have HS0L:=aZ hs0l
 have HB:=aZ (Below.refl w.heap.size w)
 clear hs0 hs0l hdtlt hsz
 go_enter func100,ntmps100
 go_wp2_with (go_at_call 138;(with_reducible refine (hit _ ?s1).mono ?_);(case s1=>exact HG.out);clear hit;rintro e w1 ⟨rfl,hb1⟩;have HB1:=aZ hb1;clear hb1 hct)
 go_loopw [3,4] (fun o i wr=>∃ (k:Nat) (s:ByteArray),k<l0.length∧i = .int .i64 ((k:Int)-1)∧o = .string s∧Aside0 (s=⟨(Str4.str (l0.drop k)).toArray⟩)∧Aside0 (Below w.heap.size w wr)) (fun o i _=>(intOf i+1).toNat)
 case atStart =>
  refine ⟨l0.length-1,s0,by omega,by congr 1;omega,rfl,⟨?_⟩,HB1⟩
  have e1:l0.drop (l0.length-1)=[l0.getD (l0.length-1) 0]:=by
   rw [List.drop_eq_getElem_cons (show l0.length-1<l0.length by omega),List.getD_eq_getElem?_getD,List.getElem?_eq_getElem (show l0.length-1<l0.length by omega),show l0.length-1+1=l0.length by omega,List.drop_length]
   rfl
  rw [HS0.out,e1,HT.out,Str4.itoa_nat]
  simp [Str4.str]
 case round =>
  obtain ⟨k,s,hk,rfl,rfl,HSS,HB⟩:=hrel
  clear HB1 HS0 HS0L
  cases k with
  | zero =>
   go_wp2
   go_ret
   exact ⟨by rw [HSS.out];rfl,HB.out⟩
  | succ k =>
   obtain ⟨dk,hdk⟩:∃ d:Nat,l0.getD k 0=(d:Int):=⟨(l0.getD k 0).toNat,by have:=HS.out (l0.getD k 0) (by rw [List.getD_eq_getElem?_getD,List.getElem?_eq_getElem (by omega)];exact List.getElem_mem _);omega⟩
   have hdklt:dk<10000:=by have:=HS.out (l0.getD k 0) (by rw [List.getD_eq_getElem?_getD,List.getElem?_eq_getElem (by omega)];exact List.getElem_mem _);omega
   have hck:wr.cell? (ad.add k)=some (.int .i64 dk):=by rw [HB.out.cell (by unfold Addr.add;split <;> exact HW.out),HCell.out k (by omega),hdk]
   have HD:=aZ hdk
   clear hdk
   rw [show (((k+1:Nat):Int)-1)=(k:Int) from by omega]
   obtain ⟨sD,hsD⟩:∃ s:ByteArray,s=⟨(Lib.itoa (dk:Int)).toArray⟩:=⟨_,rfl⟩
   have hit:=fun (W:World) (hg:Tryz.Gl W)=>(Tryz.strconv_Itoa (dk:Int) (by omega) (by omega) W hg.1).mono (fun e w' (h:_∧_)=>(show e = .returned (.string sD)∧Below W.heap.size W w' by obtain ⟨h1,k,os,h2⟩:=h;rw [hsD,h2];exact ⟨h1,Tryz.grow_below W k os⟩))
   have hszD:sD.size≤4:=by rw [hsD,Str4.itoa_nat];simpa [ByteArray.size] using Str4.nDigits4 hdklt
   have HsD:=aZ hsD
   obtain ⟨mr,hmr⟩:∃ m:Nat,m=4-sD.size:=⟨_,rfl⟩
   obtain ⟨sR,hsR⟩:∃ s:ByteArray,s=⟨(Lib.repeatL [48] mr).toArray⟩:=⟨_,rfl⟩
   have hrep:=fun (W:World)=>Tryz.strings_Repeat ⟨#[48]⟩ mr W (by omega) (by show 1*mr≤140737488355328;omega)
   rw [show (ByteArray.mk #[48]).data.toList=[48] from rfl,← hsR,show (mr:Int)=4-(sD.size:Int) from by omega] at hrep
   have hszR:sR.size=mr:=by rw [hsR];show (List.toArray _).size=_;rw [List.size_toArray,Lib.repeatL_length];show _*1=_;omega
   have hlS:=Str4.str_length (l0.drop (k+1)) (fun x hx=>HS.out x (List.mem_of_mem_drop hx))
   have hsl:s.size≤4*l0.length:=by rw [HSS.out];show (List.toArray _).size≤_;rw [List.size_toArray];have:(l0.drop (k+1)).length≤l0.length:=(by rw [List.length_drop];omega);omega
   have hL:=HL.out
   have hcc1:sR.size+sD.size≤9223372036854775807:=by omega
   have hcc2:s.size+(sR++sD).size≤9223372036854775807:=by rw [ByteArray.size_append];omega
   have HsR:=aZ hsR
   have HMR:=aZ hmr
   clear hsD hsR hmr hszR hlS hsl hL hdklt
   go_wp2_with (first
    | (go_at_call 138;(with_reducible refine (hit _ ?s2).mono ?_);(case s2=>exact HG.out.below HB.out);clear hit;rintro e w3 ⟨rfl,hb3⟩;have HB3:=aZ (show Below w.heap.size w w3 from below_step HB.out hb3);clear hb3 HB hck)
    | (go_at_call 139;(with_reducible refine (hrep _).mono ?_);clear hrep;rintro e w4 ⟨rfl,hb4⟩;have HB4:=aZ (show Below w.heap.size w w4 from below_step HB3.out hb4);clear hb4 HB3))
   have HN:=aZ (show s++(sR++sD)=⟨(Str4.str (l0.drop k)).toArray⟩ by
    have e2:(l0[k]'(by omega)).toNat=dk:=by
     have:=HD.out
     rw [List.getD_eq_getElem?_getD,List.getElem?_eq_getElem (by omega)] at this
     have h3:l0[k]'(by omega)=(dk:Int):=this
     rw [h3];rfl
    have hl:sD.size=(Lib.decDigits dk).length:=by rw [HsD.out,Str4.itoa_nat];simp [ByteArray.size]
    apply ByteArray.ext
    rw [ByteArray.data_append,ByteArray.data_append,Str4.str_drop l0 k hk,e2,Str4.pad,← hl,HSS.out,HsR.out,HsD.out,Str4.itoa_nat,HMR.out]
    dsimp only
    apply Array.toList_inj.1
    rw [Array.toList_append,Array.toList_append]
    dsimp only
    congr 2
    rw [HsD.out,Str4.itoa_nat]
    generalize 4-(ByteArray.mk (Lib.decDigits dk).toArray).size=m
    induction m with
    | zero=>rfl
    | succ m ih=>rw [List.replicate_succ,← ih];rfl)
   clear hcc1 hcc2
   go_roundw
   case rel=>exact ⟨k,_,by omega,rfl,rfl,HN,HB4⟩
   case measure=>simp [intOf]
end
end Go.Proofs.YtaffkbemjbfajaaGreatDoor.PNumMultipliers
