-- By a program of this session: functions as plain Lean functions, each with its proof over the machine.
import Derived.Test.YtaffkbemjbfajaaGreatDoorPNumOrdersx0
import Derived.Test.YtaffkbemjbfajaaGreatDoorPNumOrdersx1
import Derived.Test.YtaffkbemjbfajaaGreatDoorPNumOrdersx4
import Derived.Test.YtaffkbemjbfajaaGreatDoorPNumOrdersx2
import Derived.Test.YtaffkbemjbfajaaGreatDoorPNumOrdersx3
namespace Go.Proofs.YtaffkbemjbfajaaGreatDoor.PNumOrders
open Go.RowKit Go.Proofs.Tryz Go.Proofs.YtaffkbemjbfajaaGreatDoorW.PrintWords Go.Proofs.YtaffkbemjbfajaaGreatDoorW.PrintLast Go.Proofs.YtaffkbemjbfajaaGreatDoorW.PrintMore
attribute [local go_sem] max2_int min2_int max_two min_two max_three min_three max_four min_four
set_option linter.unusedVariables false
set_option linter.unusedSimpArgs false
set_option maxHeartbeats 8000000
set_option maxRecDepth 100000
mutual
def Ye.j0:Nat→List Int→List Int→List Int→Bool→Bool→List Int→List Int→Bool→List Int→List Int→Option (Bool×List Int×List Int)
 | 0,_,_,_,_,_,_,_,_,_,_=>none
 | k+1,x5,x6,x7,x23,x674000,x674001,x674002,x675000,x675001,x675002=>if x23=true then ((Yf.f k x674001 x675002).bind fun t678=>((Yf.f k x675001 x674002).bind fun t681=>((Yf.f k x674002 x675002).bind fun t684=>(Ye.j1 k t678 t681 t684 x674000 x674001 x674002 x675000 x675001 x675002)))) else (Ye.j1 k x5 x6 x7 x674000 x674001 x674002 x675000 x675001 x675002)
def Ye.j1:Nat→List Int→List Int→List Int→Bool→List Int→List Int→Bool→List Int→List Int→Option (Bool×List Int×List Int)
 | 0,_,_,_,_,_,_,_,_,_=>none
 | k+1,x5,x6,x7,x674000,x674001,x674002,x675000,x675001,x675002=>if (x674000==x675000)=true then ((Y0t.f k x5 x6).bind fun t687=>((YD.f k x674000 t687 x7).bind fun bt690=>(some (bt690.1,bt690.2.1,bt690.2.2)))) else ((YC.f k x5 x6).bind fun t697=>(if t697≥0 then ((YL.f k x5 x6).bind fun t698=>((YD.f k x674000 t698 x7).bind fun bt701=>(some (bt701.1,bt701.2.1,bt701.2.2)))) else ((YL.f k x6 x5).bind fun t708=>((YD.f k x675000 t708 x7).bind fun bt711=>(some (bt711.1,bt711.2.1,bt711.2.2))))))
end
def Ye.f (k:Nat) (a0_0:Bool) (l0_1:List Int) (l0_2:List Int) (a1_0:Bool) (l1_1:List Int) (l1_2:List Int):Option (Bool×List Int×List Int):=(YH.f l0_2).bind fun t676=>(if t676=true then ((YH.f l1_2).bind fun t677=>(Ye.j0 k l0_1 l1_1 l0_2 (!t677) a0_0 l0_1 l0_2 a1_0 l1_1 l1_2)) else (Ye.j0 k l0_1 l1_1 l0_2 true a0_0 l0_1 l0_2 a1_0 l1_1 l1_2))
def Ye.T4:Bool×List (List Nat×List Nat):=(true,[([],[]),([0],[0]),([],[]),([2],[2]),([1,3],[1,3]),([],[]),([5],[5]),([],[]),([7],[7]),([6,8,4],[6,8]),([],[]),([10],[10]),([],[]),([12],[12]),([11,13,9],[11,13]),([4,14,0,1,2,3,4],[4]),([9,15,0,1,2,3,4,5,6,7,8,9,15],[9]),([14,16,0,1,2,3,4,5,6,7,8,9,10,11,12,13,14,15,16],[14])])
def Ye.B4:List Nat:=[0,1,0,4,15,0,32,0,128,511,0,1024,0,4096,16383,32767,65535,131071]
theorem Ye.tab4:rtab .any (opsOf Tryz.f117 4)=Ye.T4:=by kernel_rfl
theorem Ye.bits4:waitsOk Ye.T4.2 Ye.B4=true:=by kernel_rfl
def Ye.T6:Bool×List (List Nat×List Nat):=(true,[([],[]),([0],[0]),([],[]),([],[]),([2,3],[2,3]),([],[]),([1,4,5,4],[1,4,5]),([6,6,0,1,2,3,4,5,6],[6])])
def Ye.B6:List Nat:=[0,1,0,0,12,0,63,127]
theorem Ye.tab6:rtab .any (opsOf Tryz.f117 6)=Ye.T6:=by kernel_rfl
theorem Ye.bits6:waitsOk Ye.T6.2 Ye.B6=true:=by kernel_rfl
def Ye.T8:Bool×List (List Nat×List Nat):=(true,[([],[]),([0],[0]),([],[]),([],[]),([2,3],[2,3]),([],[]),([1,4,5,4],[1,4,5]),([6,6,0,1,2,3,4,5,6],[6])])
def Ye.B8:List Nat:=[0,1,0,0,12,0,63,127]
theorem Ye.tab8:rtab .any (opsOf Tryz.f117 8)=Ye.T8:=by kernel_rfl
theorem Ye.bits8:waitsOk Ye.T8.2 Ye.B8=true:=by kernel_rfl
def Ye.T9:Bool×List (List Nat×List Nat):=(true,[([],[]),([0],[0]),([],[]),([],[]),([2,3],[2,3]),([],[]),([1,4,5,4],[1,4,5]),([6,6,0,1,2,3,4,5,6],[6])])
def Ye.B9:List Nat:=[0,1,0,0,12,0,63,127]
theorem Ye.tab9:rtab .any (opsOf Tryz.f117 9)=Ye.T9:=by kernel_rfl
theorem Ye.bits9:waitsOk Ye.T9.2 Ye.B9=true:=by kernel_rfl
theorem Ye.calls (k:Nat) (a0_0:Bool) (P0_1_:Nat→Prop) (A0_1:Option Addr) (c0_1:Nat) (l0_1:List Int) (P0_2_:Nat→Prop) (A0_2:Option Addr) (c0_2:Nat) (l0_2:List Int) (a1_0:Bool) (P1_1_:Nat→Prop) (A1_1:Option Addr) (c1_1:Nat) (l1_1:List Int) (A1_2:Option Addr) (c1_2:Nat) (l1_2:List Int) (r1:Bool) (r2:List Int) (r3:List Int) (w:World) (hs0_1:Kd.V (Kd.int .u32) 97 w w.heap.size (fun k_=>P0_1_ k_) (.slice A0_1 l0_1.length c0_1) l0_1) (hs0_2:Kd.V (Kd.int .u32) 97 w w.heap.size (fun k_=>P0_2_ k_) (.slice A0_2 l0_2.length c0_2) l0_2) (hs1_1:Kd.V (Kd.int .u32) 97 w w.heap.size (fun k_=>P1_1_ k_) (.slice A1_1 l1_1.length c1_1) l1_1) (hr1_2:Kd.C (Kd.int .u32) w A1_2 l1_2.length l1_2) (hc1_2:l1_2.length≤c1_2) (h:Ye.f k a0_0 l0_1 l0_2 a1_0 l1_1 l1_2=some (r1,r2,r3)) :
  Calls Tryz.prog 117 #[.agg #[.bool a0_0,.slice A0_1 l0_1.length c0_1,.slice A0_2 l0_2.length c0_2],.agg #[.bool a1_0,.slice A1_1 l1_1.length c1_1,.slice A1_2 l1_2.length c1_2]] w fun e w'=>∃ v1_ v2_:Value,e = .returned (.agg #[.bool r1,v1_,v2_])∧Kd.V (Kd.int .u32) 97 w' w.heap.size (fun k_=>((P0_1_ k_∨P0_2_ k_∨P1_1_ k_)∨w.heap.size≤k_)) v1_ r2∧Kd.V (Kd.int .u32) 97 w' w.heap.size (fun k_=>((P0_1_ k_∨P0_2_ k_∨P1_1_ k_)∨w.heap.size≤k_)) v2_ r3∧Below w.heap.size w w':=by
 have hu103:=underlying103
 have HO0_1:=aZ (show Kd.V (Kd.int .u32) 97 w w.heap.size (fun k_=>((P0_1_ k_∨P0_2_ k_∨P1_1_ k_)∨w.heap.size≤k_)) (.slice A0_1 l0_1.length c0_1) l0_1 from Kd.V_mono hs0_1 (fun k_ hk=>.inl (.inl hk)))
 have HO0_2:=aZ (show Kd.V (Kd.int .u32) 97 w w.heap.size (fun k_=>((P0_1_ k_∨P0_2_ k_∨P1_1_ k_)∨w.heap.size≤k_)) (.slice A0_2 l0_2.length c0_2) l0_2 from Kd.V_mono hs0_2 (fun k_ hk=>.inl (.inr (.inl hk))))
 have HO1_1:=aZ (show Kd.V (Kd.int .u32) 97 w w.heap.size (fun k_=>((P0_1_ k_∨P0_2_ k_∨P1_1_ k_)∨w.heap.size≤k_)) (.slice A1_1 l1_1.length c1_1) l1_1 from Kd.V_mono hs1_1 (fun k_ hk=>.inl (.inr (.inr hk))))
 have HR1_2:=aZ hr1_2
 have HC1_2:=aZ hc1_2
 clear hr1_2 hc1_2
 have HB:=aZ (Below.refl w.heap.size w)
 have H:=h
 unfold Ye.f at H
 clear h
 have HC3:=aZ H
 clear H
 go_enter func117,ntmps117
 try go_wp2_with (first|(refine box_ev 2 #[.bool a0_0,.slice A0_1 l0_1.length c0_1,.slice A0_2 l0_2.length c0_2] 103 ?_;intro gb673 hg w4 hbox hb;replace HO0_1:=yE HO0_1 hg hb;replace HO0_2:=yE HO0_2 hg hb;replace HO1_1:=yE HO1_1 hg hb;have BK673:=aZ hbox;have GE673:=sG hg;replace HB:=sB hb;clear hb hbox hg)|(refine box_ev 3 #[.bool a1_0,.slice A1_1 l1_1.length c1_1,.slice A1_2 l1_2.length c1_2] 103 ?_;intro gb674 hg w5 hbox hb;replace HO0_1:=yE HO0_1 hg hb;replace HO0_2:=yE HO0_2 hg hb;replace HO1_1:=yE HO1_1 hg hb;have BK674:=aZ hbox;have GE674:=sG hg;replace HB:=sB hb;obtain ⟨NB673_674,NB674_673,BK673⟩:=sX hg hb BK673;clear hb hbox hg)|(refine box_ev 4 #[.bool false,.slice none 0 0,.slice none 0 0] 103 ?_;intro gb675 hg w6 hbox hb;replace HO0_1:=yE HO0_1 hg hb;replace HO0_2:=yE HO0_2 hg hb;replace HO1_1:=yE HO1_1 hg hb;have BK675:=aZ hbox;have GE675:=sG hg;replace HB:=sB hb;obtain ⟨NB673_675,NB675_673,BK673⟩:=sX hg hb BK673;obtain ⟨NB674_675,NB675_674,BK674⟩:=sX hg hb BK674;clear hb hbox hg))
 replace HO0_1:=aZ (Kd.V_drew HO0_1.out)
 replace HO0_2:=aZ (Kd.V_drew HO0_2.out)
 replace HO1_1:=aZ (Kd.V_drew HO1_1.out)
 replace BK673:=aZ (blk_drew BK673.out)
 replace BK674:=aZ (blk_drew BK674.out)
 replace BK675:=aZ (blk_drew BK675.out)
 replace HB:=aZ (below_drew1 HB.out)
 refine start_ (n:=6) (S:=fun w'=>w'.cell? ⟨gb673,0,none⟩=some (.bool a0_0)∧w'.cell? ⟨gb673,1,none⟩=some (.slice A0_1 l0_1.length c0_1)∧w'.cell? ⟨gb673,2,none⟩=some (.slice A0_2 l0_2.length c0_2)∧w'.cell? ⟨gb674,0,none⟩=some (.bool a1_0)∧w'.cell? ⟨gb674,1,none⟩=some (.slice A1_1 l1_1.length c1_1)∧w'.cell? ⟨gb674,2,none⟩=some (.slice A1_2 l1_2.length c1_2)) (ds:=[]) #[false,false,false,false,false,false] (by kernel_rfl) rfl rfl ⟨zh BK673 0,zh BK673 1,zh BK673 2,zh BK674 0,zh BK674 1,zh BK674 2⟩ (fun hHeld=>?_)
 generalize w6.drew=w7 at HO0_1 HO0_2 HO1_1 BK673 BK674 BK675 HB hHeld ⊢
 refine pv 0 (some 8) ?_
 refine pv 2 (some 10) ?_
 refine tv 1 (some 9) hHeld ?_
 refine pv 4 (some 5) ?_
 refine tv 3 (some 11) hHeld ?_
 refine pv 5 (some 6) ?_
 refine done_ (by kernel_rfl) ?_
 have hnb8:=NB673_674.out
 have hnc8:=NB674_673.out
 have hnb9:=NB673_675.out
 have hnc9:=NB675_673.out
 obtain ⟨hcz10_0,hfz10_0⟩:=zc BK673 0 (.bool a0_0) rfl
 obtain ⟨hcz10_1,hfz10_1⟩:=zc BK673 1 (.slice A0_1 l0_1.length c0_1) rfl
 obtain ⟨hcz10_2,hfz10_2⟩:=zc BK673 2 (.slice A0_2 l0_2.length c0_2) rfl
 go_upto_region 3 with (fail)
 go_cut [23] (fun v23 wc=>∃ (kq:Nat) (x23_2:Bool),v23 = .bool x23_2∧Aside0 (Ye.j0 kq l0_1 l1_1 l0_2 x23_2 a0_0 l0_1 l0_2 a1_0 l1_1 l1_2=some (r1,r2,r3))∧Aside0 (kq≤k)∧Aside0 (Kd.V (Kd.int .u32) 97 wc w.heap.size (fun k_=>((P0_1_ k_∨P0_2_ k_∨P1_1_ k_)∨w.heap.size≤k_)∧k_≠gb673∧k_≠gb674∧k_≠gb675) (.slice A0_1 l0_1.length c0_1) l0_1)∧Aside0 (Kd.V (Kd.int .u32) 97 wc w.heap.size (fun k_=>((P0_1_ k_∨P0_2_ k_∨P1_1_ k_)∨w.heap.size≤k_)∧k_≠gb673∧k_≠gb674∧k_≠gb675) (.slice A1_1 l1_1.length c1_1) l1_1)∧Aside0 (Kd.V (Kd.int .u32) 97 wc w.heap.size (fun k_=>((P0_1_ k_∨P0_2_ k_∨P1_1_ k_)∨w.heap.size≤k_)∧k_≠gb673∧k_≠gb674∧k_≠gb675) (.slice A0_2 l0_2.length c0_2) l0_2)∧Aside0 (Kd.V (Kd.int .u32) 97 wc w.heap.size (fun k_=>((P0_1_ k_∨P0_2_ k_∨P1_1_ k_)∨w.heap.size≤k_)∧k_≠gb673∧k_≠gb674∧k_≠gb675) (.slice A0_1 l0_1.length c0_1) l0_1)∧Aside0 (Kd.V (Kd.int .u32) 97 wc w.heap.size (fun k_=>((P0_1_ k_∨P0_2_ k_∨P1_1_ k_)∨w.heap.size≤k_)∧k_≠gb673∧k_≠gb674∧k_≠gb675) (.slice A0_2 l0_2.length c0_2) l0_2)∧Aside0 (Kd.V (Kd.int .u32) 97 wc w.heap.size (fun k_=>((P0_1_ k_∨P0_2_ k_∨P1_1_ k_)∨w.heap.size≤k_)∧k_≠gb673∧k_≠gb674∧k_≠gb675) (.slice A1_1 l1_1.length c1_1) l1_1)∧Aside0 (wc.heap[gb673]? = some (.cells #[.bool a0_0,(.slice A0_1 l0_1.length c0_1),(.slice A0_2 l0_2.length c0_2)] 103 (0,0)))∧Aside0 (wc.heap[gb674]? = some (.cells #[.bool a1_0,(.slice A1_1 l1_1.length c1_1),(.slice A1_2 l1_2.length c1_2)] 103 (0,0)))∧Aside0 (wc.heap[gb675]? = some (.cells #[.bool false,(.slice none 0 0),(.slice none 0 0)] 103 (0,0)))∧Aside0 (Below w.heap.size w wc))
 case first =>
  have H:=HC3.out
  clear HC3
  obtain ⟨t676,A11,H⟩:=zB H
  by_cases c12:t676=true
  case neg=>
   replace c12:=Bool.eq_false_iff.mpr c12
   subst c12
   replace H:=zU H
   have H':=aZ H
   clear H
   have hnb19:=NB673_674.out
   have hnc19:=NB674_673.out
   have hnb20:=NB673_675.out
   have hnc20:=NB675_673.out
   obtain ⟨hcz21_0,hfz21_0⟩:=zc BK673 0 (.bool a0_0) rfl
   obtain ⟨hcz21_1,hfz21_1⟩:=zc BK673 1 (.slice A0_1 l0_1.length c0_1) rfl
   obtain ⟨hcz21_2,hfz21_2⟩:=zc BK673 2 (.slice A0_2 l0_2.length c0_2) rfl
   go_wp2_with (first|(refine zg (some 16) func109 #[.slice A0_2 l0_2.length c0_2] ?_;(with_reducible refine (YH.calls _ _ l0_2 false _ (zC (Kd.V_reads' HO0_2.out).2.2) ((Kd.V_reads' HO0_2.out).2.1) A11.out).mono ?_);rintro e w' ⟨rfl,⟨nd,rfl⟩⟩;refine ⟨_,rfl,?_⟩))
   go_meet
   case rel=>exact ⟨_,(true),zs,H',⟨by first|omega|exact Nat.le_refl _⟩,⟨vM HO0_1 (fun _ hk=>⟨hk.1.1.1,⟨hk.1.1.2,⟨hk.1.2,hk.2⟩⟩⟩)⟩,⟨vM HO1_1 (fun _ hk=>⟨hk.1.1.1,⟨hk.1.1.2,⟨hk.1.2,hk.2⟩⟩⟩)⟩,⟨vM HO0_2 (fun _ hk=>⟨hk.1.1.1,⟨hk.1.1.2,⟨hk.1.2,hk.2⟩⟩⟩)⟩,⟨vM HO0_1 (fun _ hk=>⟨hk.1.1.1,⟨hk.1.1.2,⟨hk.1.2,hk.2⟩⟩⟩)⟩,⟨vM HO0_2 (fun _ hk=>⟨hk.1.1.1,⟨hk.1.1.2,⟨hk.1.2,hk.2⟩⟩⟩)⟩,⟨vM HO1_1 (fun _ hk=>⟨hk.1.1.1,⟨hk.1.1.2,⟨hk.1.2,hk.2⟩⟩⟩)⟩,⟨zb BK673⟩,⟨zb BK674⟩,⟨zb BK675⟩,⟨bw⟩⟩
  subst c12
  replace H:=zT H
  obtain ⟨t677,A13,H⟩:=zB H
  have H':=aZ H
  clear H
  have hnb14:=NB673_674.out
  have hnc14:=NB674_673.out
  have hnb15:=NB673_675.out
  have hnc15:=NB675_673.out
  obtain ⟨hcz16_0,hfz16_0⟩:=zc BK673 0 (.bool a0_0) rfl
  obtain ⟨hcz16_1,hfz16_1⟩:=zc BK673 1 (.slice A0_1 l0_1.length c0_1) rfl
  obtain ⟨hcz16_2,hfz16_2⟩:=zc BK673 2 (.slice A0_2 l0_2.length c0_2) rfl
  go_wp2_with (first|(refine zg (some 16) func109 #[.slice A0_2 l0_2.length c0_2] ?_;(with_reducible refine (YH.calls _ _ l0_2 true _ (zC (Kd.V_reads' HO0_2.out).2.2) ((Kd.V_reads' HO0_2.out).2.1) A11.out).mono ?_);rintro e w' ⟨rfl,⟨nd,rfl⟩⟩;refine ⟨_,rfl,?_⟩;have hnb17:=NB674_675.out;have hnc17:=NB675_674.out;obtain ⟨hcz18_0,hfz18_0⟩:=zc BK674 0 (.bool a1_0) rfl;obtain ⟨hcz18_1,hfz18_1⟩:=zc BK674 1 (.slice A1_1 l1_1.length c1_1) rfl;obtain ⟨hcz18_2,hfz18_2⟩:=zc BK674 2 (.slice A1_2 l1_2.length c1_2) rfl)|(go_at_call 109;(with_reducible refine (YH.calls _ _ l1_2 t677 _ (zC (Kd.C_below HR1_2.out bw)) HC1_2.out A13.out).mono ?_);rintro e w' ⟨rfl,⟨nd,rfl⟩⟩))
  go_meet
  case rel=>exact ⟨_,(!t677),zs,H',⟨by first|omega|exact Nat.le_refl _⟩,⟨vM HO0_1 (fun _ hk=>⟨hk.1.1.1,⟨hk.1.1.2,⟨hk.1.2,hk.2⟩⟩⟩)⟩,⟨vM HO1_1 (fun _ hk=>⟨hk.1.1.1,⟨hk.1.1.2,⟨hk.1.2,hk.2⟩⟩⟩)⟩,⟨vM HO0_2 (fun _ hk=>⟨hk.1.1.1,⟨hk.1.1.2,⟨hk.1.2,hk.2⟩⟩⟩)⟩,⟨vM HO0_1 (fun _ hk=>⟨hk.1.1.1,⟨hk.1.1.2,⟨hk.1.2,hk.2⟩⟩⟩)⟩,⟨vM HO0_2 (fun _ hk=>⟨hk.1.1.1,⟨hk.1.1.2,⟨hk.1.2,hk.2⟩⟩⟩)⟩,⟨vM HO1_1 (fun _ hk=>⟨hk.1.1.1,⟨hk.1.1.2,⟨hk.1.2,hk.2⟩⟩⟩)⟩,⟨zb BK673⟩,⟨zb BK674⟩,⟨zb BK675⟩,⟨bw⟩⟩
 case rest =>
  clear HC3
  obtain ⟨kq,x23_2,rfl,HA,HJ2,HO_5,HO_6,HO_7,HO_674001,HO_674002,HO_675001,BK673,BK674,BK675,HB⟩:=hcut
  cases kq with
  | zero=>exact absurd HA.out (by simp [Ye.j0])
  | succ kj2 =>
   have H:=HA.out
   clear HA
   simp only [Ye.j0] at H
   have HC22:=aZ H
   clear H
   go_upto_if 23 with (fail)
   go_cut [5,6,7] (fun v5 v6 v7 wc=>∃ (kq:Nat) (x5_21:List Int) (x6_21:List Int) (x7_21:List Int),Aside0 (Ye.j1 kq x5_21 x6_21 x7_21 a0_0 l0_1 l0_2 a1_0 l1_1 l1_2=some (r1,r2,r3))∧Aside0 (kq≤kj2)∧Aside0 (Kd.V (Kd.int .u32) 97 wc w.heap.size (fun k_=>((P0_1_ k_∨P0_2_ k_∨P1_1_ k_)∨w.heap.size≤k_)∧k_≠gb673∧k_≠gb674∧k_≠gb675) v5 x5_21)∧Aside0 (Kd.V (Kd.int .u32) 97 wc w.heap.size (fun k_=>((P0_1_ k_∨P0_2_ k_∨P1_1_ k_)∨w.heap.size≤k_)∧k_≠gb673∧k_≠gb674∧k_≠gb675) v6 x6_21)∧Aside0 (Kd.V (Kd.int .u32) 97 wc w.heap.size (fun k_=>((P0_1_ k_∨P0_2_ k_∨P1_1_ k_)∨w.heap.size≤k_)∧k_≠gb673∧k_≠gb674∧k_≠gb675) v7 x7_21)∧Aside0 (Kd.V (Kd.int .u32) 97 wc w.heap.size (fun k_=>((P0_1_ k_∨P0_2_ k_∨P1_1_ k_)∨w.heap.size≤k_)∧k_≠gb673∧k_≠gb674∧k_≠gb675) (.slice A0_1 l0_1.length c0_1) l0_1)∧Aside0 (Kd.V (Kd.int .u32) 97 wc w.heap.size (fun k_=>((P0_1_ k_∨P0_2_ k_∨P1_1_ k_)∨w.heap.size≤k_)∧k_≠gb673∧k_≠gb674∧k_≠gb675) (.slice A0_2 l0_2.length c0_2) l0_2)∧Aside0 (Kd.V (Kd.int .u32) 97 wc w.heap.size (fun k_=>((P0_1_ k_∨P0_2_ k_∨P1_1_ k_)∨w.heap.size≤k_)∧k_≠gb673∧k_≠gb674∧k_≠gb675) (.slice A1_1 l1_1.length c1_1) l1_1)∧Aside0 (wc.heap[gb673]? = some (.cells #[.bool a0_0,(.slice A0_1 l0_1.length c0_1),(.slice A0_2 l0_2.length c0_2)] 103 (0,0)))∧Aside0 (wc.heap[gb674]? = some (.cells #[.bool a1_0,(.slice A1_1 l1_1.length c1_1),(.slice A1_2 l1_2.length c1_2)] 103 (0,0)))∧Aside0 (wc.heap[gb675]? = some (.cells #[.bool false,(.slice none 0 0),(.slice none 0 0)] 103 (0,0)))∧Aside0 (Below w.heap.size w wc))
   case first =>
    have H:=HC22.out
    clear HC22
    by_cases c23:x23_2=true
    case neg=>
     replace c23:=Bool.eq_false_iff.mpr c23
     subst c23
     replace H:=zU H
     have H':=aZ H
     clear H
     go_wp2
     go_meet
     case rel=>exact ⟨_,(l0_1),(l1_1),(l0_2),H',⟨by have:=HJ2.out;first|omega|exact Nat.le_refl _⟩,⟨zV HO_5⟩,⟨zV HO_6⟩,⟨zV HO_7⟩,⟨zV HO_674001⟩,⟨zV HO_674002⟩,⟨zV HO_675001⟩,⟨zb BK673⟩,⟨zb BK674⟩,⟨zb BK675⟩,⟨bw⟩⟩
    subst c23
    replace H:=zT H
    obtain ⟨t678,A24,H⟩:=zB H
    obtain ⟨t681,A25,H⟩:=zB H
    obtain ⟨t684,A26,H⟩:=zB H
    have H':=aZ H
    clear H
    try go_wp2
    replace HO_5:=aZ (Kd.V_drew HO_5.out)
    replace HO_6:=aZ (Kd.V_drew HO_6.out)
    replace HO_7:=aZ (Kd.V_drew HO_7.out)
    replace HO_674001:=aZ (Kd.V_drew HO_674001.out)
    replace HO_674002:=aZ (Kd.V_drew HO_674002.out)
    replace HO_675001:=aZ (Kd.V_drew HO_675001.out)
    replace BK673:=aZ (blk_drew BK673.out)
    replace BK674:=aZ (blk_drew BK674.out)
    replace BK675:=aZ (blk_drew BK675.out)
    replace HB:=aZ (below_drew1 HB.out)
    refine start_ (n:=18) (S:=fun w'=>w'.cell? ⟨gb673,0,none⟩=some (.bool a0_0)∧w'.cell? ⟨gb673,1,none⟩=some (.slice A0_1 l0_1.length c0_1)∧w'.cell? ⟨gb673,2,none⟩=some (.slice A0_2 l0_2.length c0_2)∧w'.cell? ⟨gb674,0,none⟩=some (.bool a1_0)∧w'.cell? ⟨gb674,1,none⟩=some (.slice A1_1 l1_1.length c1_1)∧w'.cell? ⟨gb674,2,none⟩=some (.slice A1_2 l1_2.length c1_2)) (ds:=[]) #[false,false,false,false,false,false,false,false,false,false,false,false,false,false,false,false,false,false] (by kernel_rfl) rfl rfl ⟨zh BK673 0,zh BK673 1,zh BK673 2,zh BK674 0,zh BK674 1,zh BK674 2⟩ (fun hHeld=>?_);refine with_tabW Ye.tab4 Ye.bits4 (fun HT_ HW_=>?_)
    generalize wc.drew=w27 at HO_5 HO_6 HO_7 HO_674001 HO_674002 HO_675001 BK673 BK674 BK675 HB hHeld ⊢
    refine pu 0 (some 24) HT_ ?_
    refine pu 2 (some 26) HT_ ?_
    refine pu 5 (some 29) HT_ ?_
    refine pu 7 (some 31) HT_ ?_
    refine pu 10 (some 34) HT_ ?_
    refine pu 12 (some 36) HT_ ?_
    refine tk 1 (some 25) HT_ HW_ hHeld ?_
    refine tk 3 (some 27) HT_ HW_ hHeld ?_
    refine tk 6 (some 30) HT_ HW_ hHeld ?_
    refine tk 8 (some 32) HT_ HW_ hHeld ?_
    refine tk 11 (some 35) HT_ HW_ hHeld ?_
    refine tk 13 (some 37) HT_ HW_ hHeld ?_
    refine one_ (i:=4) (N:=some 28) #[true,true,true,true,true,true,true,true,true,false,true,true,true,true,false,false,false,false] rfl rfl (one_of HT_.out (by kernel_rfl)) (by decide) (fun K hK=>?_)
    refine goes_ func149 (by kernel_rfl) rfl #[.slice A0_1 l0_1.length c0_1,.slice A1_2 l1_2.length c1_2] (by rfl) rfl rfl zm ?_
    with_reducible refine (Yf.calls kj2 _ _ l0_1 _ _ l1_2 t678 _ (zC (Kd.V_reads' HO_674001.out).2.2) ((Kd.V_reads' HO_674001.out).2.1) (zC (Kd.C_below HR1_2.out HB.out)) HC1_2.out A24.out).mono ?_
    rintro e w28 ⟨v679,rfl,ho0,hb⟩
    refine ⟨_,rfl,?_⟩
    replace HO_5:=yV HO_5 hb
    replace HO_6:=yV HO_6 hb
    replace HO_7:=yV HO_7 hb
    replace HO_674001:=yV HO_674001 hb
    replace HO_674002:=yV HO_674002 hb
    replace HO_675001:=yV HO_675001 hb
    have HO680:=yL (fun k_=>((P0_1_ k_∨P0_2_ k_∨P1_1_ k_)∨w.heap.size≤k_)∧k_≠gb673∧k_≠gb674∧k_≠gb675) ho0 (fun k_ hk_=>⟨(.inr (Nat.le_trans bs hk_)),(zf BK673 hk_),(zf BK674 hk_),(zf BK675 hk_)⟩)
    replace BK673:=sK BK673 hb
    replace BK674:=sK BK674 hb
    replace BK675:=sK BK675 hb
    replace HB:=sB hb
    clear hb ho0
    refine hK.out _ _ ⟨zh BK673 0,zh BK673 1,zh BK673 2,zh BK674 0,zh BK674 1,zh BK674 2⟩ (fun hHeld=>?_)
    clear hK K
    refine nm ?_
    refine one_ (i:=9) (N:=some 33) #[true,true,true,true,true,true,true,true,true,true,true,true,true,true,false,false,false,false] rfl rfl (one_of HT_.out (by kernel_rfl)) (by decide) (fun K hK=>?_)
    refine goes_ func149 (by kernel_rfl) rfl #[.slice A1_1 l1_1.length c1_1,.slice A0_2 l0_2.length c0_2] (by rfl) rfl rfl zm ?_
    with_reducible refine (Yf.calls kj2 _ _ l1_1 _ _ l0_2 t681 _ (zC (Kd.V_reads' HO_675001.out).2.2) ((Kd.V_reads' HO_675001.out).2.1) (zC (Kd.V_reads' HO_674002.out).2.2) ((Kd.V_reads' HO_674002.out).2.1) A25.out).mono ?_
    rintro e w29 ⟨v682,rfl,ho0,hb⟩
    refine ⟨_,rfl,?_⟩
    replace HO_5:=yV HO_5 hb
    replace HO_6:=yV HO_6 hb
    replace HO_7:=yV HO_7 hb
    replace HO_674001:=yV HO_674001 hb
    replace HO_674002:=yV HO_674002 hb
    replace HO_675001:=yV HO_675001 hb
    replace HO680:=yV HO680 hb
    have HO683:=yL (fun k_=>((P0_1_ k_∨P0_2_ k_∨P1_1_ k_)∨w.heap.size≤k_)∧k_≠gb673∧k_≠gb674∧k_≠gb675) ho0 (fun k_ hk_=>⟨(.inr (Nat.le_trans bs hk_)),(zf BK673 hk_),(zf BK674 hk_),(zf BK675 hk_)⟩)
    replace BK673:=sK BK673 hb
    replace BK674:=sK BK674 hb
    replace BK675:=sK BK675 hb
    replace HB:=sB hb
    clear hb ho0
    refine hK.out _ _ ⟨zh BK673 0,zh BK673 1,zh BK673 2,zh BK674 0,zh BK674 1,zh BK674 2⟩ (fun hHeld=>?_)
    clear hK K
    refine nm ?_
    refine one_ (i:=14) (N:=some 38) #[true,true,true,true,true,true,true,true,true,true,true,true,true,true,true,false,false,false] rfl rfl (one_of HT_.out (by kernel_rfl)) (by decide) (fun K hK=>?_)
    refine goes_ func149 (by kernel_rfl) rfl #[.slice A0_2 l0_2.length c0_2,.slice A1_2 l1_2.length c1_2] (by rfl) rfl rfl zm ?_
    with_reducible refine (Yf.calls kj2 _ _ l0_2 _ _ l1_2 t684 _ (zC (Kd.V_reads' HO_674002.out).2.2) ((Kd.V_reads' HO_674002.out).2.1) (zC (Kd.C_below HR1_2.out HB.out)) HC1_2.out A26.out).mono ?_
    rintro e w30 ⟨v685,rfl,ho0,hb⟩
    refine ⟨_,rfl,?_⟩
    replace HO_5:=yV HO_5 hb
    replace HO_6:=yV HO_6 hb
    replace HO_7:=yV HO_7 hb
    replace HO_674001:=yV HO_674001 hb
    replace HO_674002:=yV HO_674002 hb
    replace HO_675001:=yV HO_675001 hb
    replace HO680:=yV HO680 hb
    replace HO683:=yV HO683 hb
    have HO686:=yL (fun k_=>((P0_1_ k_∨P0_2_ k_∨P1_1_ k_)∨w.heap.size≤k_)∧k_≠gb673∧k_≠gb674∧k_≠gb675) ho0 (fun k_ hk_=>⟨(.inr (Nat.le_trans bs hk_)),(zf BK673 hk_),(zf BK674 hk_),(zf BK675 hk_)⟩)
    replace BK673:=sK BK673 hb
    replace BK674:=sK BK674 hb
    replace BK675:=sK BK675 hb
    replace HB:=sB hb
    clear hb ho0
    refine hK.out _ _ ⟨zh BK673 0,zh BK673 1,zh BK673 2,zh BK674 0,zh BK674 1,zh BK674 2⟩ (fun hHeld=>?_)
    clear hK K
    refine nm ?_
    refine pu 15 (some 5) HT_ ?_
    refine pu 16 (some 6) HT_ ?_
    refine pu 17 (some 7) HT_ ?_
    refine done_ (done_of HT_.out (by kernel_rfl)) ?_
    try go_wp2
    go_meet
    case rel=>exact ⟨_,(t678),(t681),(t684),H',⟨by have:=HJ2.out;first|omega|exact Nat.le_refl _⟩,⟨zV HO680⟩,⟨zV HO683⟩,⟨zV HO686⟩,⟨zV HO_674001⟩,⟨zV HO_674002⟩,⟨zV HO_675001⟩,⟨zb BK673⟩,⟨zb BK674⟩,⟨zb BK675⟩,⟨bw⟩⟩
   case rest =>
    clear HC22
    try clear c12
    obtain ⟨kq,x5_21,x6_21,x7_21,HA,HJ21,HO_5,HO_6,HO_7,HO_674001,HO_674002,HO_675001,BK673,BK674,BK675,HB⟩:=hcut
    cases kq with
    | zero=>exact absurd HA.out (by simp [Ye.j1])
    | succ kj21 =>
     have H:=HA.out
     clear HA
     simp only [Ye.j1] at H
     by_cases c31:(a0_0==a1_0)=true
     case neg=>
      rw [if_neg c31] at H
      have c31b0:(a0_0==a1_0)=false:=by simpa using c31
      (try (have c31b1:decide (a0_0=a1_0)=false:=by simpa using c31))
      (try (have c31b2:(a0_0==a1_0)=false:=by simpa using c31))
      (try (have c31b3:¬ (a0_0=a1_0):=by simpa using c31))
      clear c31
      obtain ⟨t697,A51,H⟩:=zB H
      by_cases c52:t697≥0
      case neg=>
       rw [if_neg c52] at H
       have c52b0:=decide_eq_false c52
       clear c52
       obtain ⟨t708,A72,H⟩:=zB H
       obtain ⟨⟨t711,t712,t715⟩,A73,H⟩:=zB H
       (try dsimp only at H)
       obtain ⟨rfl,rfl,rfl⟩:=zo3 H
       have hnb74:=NB673_674.out
       have hnc74:=NB674_673.out
       have hnb75:=NB673_675.out
       have hnc75:=NB675_673.out
       obtain ⟨hcz76_0,hfz76_0⟩:=zc BK673 0 (.bool a0_0) rfl
       obtain ⟨hcz76_1,hfz76_1⟩:=zc BK673 1 (.slice A0_1 l0_1.length c0_1) rfl
       obtain ⟨hcz76_2,hfz76_2⟩:=zc BK673 2 (.slice A0_2 l0_2.length c0_2) rfl
       have hnb77:=NB674_675.out
       have hnc77:=NB675_674.out
       obtain ⟨hcz78_0,hfz78_0⟩:=zc BK674 0 (.bool a1_0) rfl
       obtain ⟨hcz78_1,hfz78_1⟩:=zc BK674 1 (.slice A1_1 l1_1.length c1_1) rfl
       obtain ⟨hcz78_2,hfz78_2⟩:=zc BK674 2 (.slice A1_2 l1_2.length c1_2) rfl
       obtain ⟨Ao79,co79,rfl⟩:=Kd.V_slice HO_5.out
       obtain ⟨Ao80,co80,rfl⟩:=Kd.V_slice HO_6.out
       try go_wp2_with (first|(refine zg (some 55) func153 #[.slice Ao79 x5_21.length co79,.slice Ao80 x6_21.length co80] ?_;(with_reducible refine (YC.calls kj21 _ _ x5_21 _ _ x6_21 t697 _ (zC (Kd.V_reads' HO_5.out).2.2) ((Kd.V_reads' HO_5.out).2.1) (zC (Kd.V_reads' HO_6.out).2.2) ((Kd.V_reads' HO_6.out).2.1) A51.out).mono ?_);rintro e w' ⟨rfl,⟨nd,rfl⟩⟩;refine ⟨_,rfl,?_⟩;(try (rw [drewN_self wc];generalize hq_:World.drewN wc _=wc;have n0_:Aside0 (Kd.V (Kd.int .u32) 97 wc w.heap.size (fun k_=>((P0_1_ k_∨P0_2_ k_∨P1_1_ k_)∨w.heap.size≤k_)∧k_≠gb673∧k_≠gb674∧k_≠gb675) (.slice Ao79 x5_21.length co79) x5_21):=⟨by rw [← hq_];exact (zV HO_5)⟩;have n1_:Aside0 (Kd.V (Kd.int .u32) 97 wc w.heap.size (fun k_=>((P0_1_ k_∨P0_2_ k_∨P1_1_ k_)∨w.heap.size≤k_)∧k_≠gb673∧k_≠gb674∧k_≠gb675) (.slice Ao80 x6_21.length co80) x6_21):=⟨by rw [← hq_];exact (zV HO_6)⟩;have n2_:Aside0 (Kd.V (Kd.int .u32) 97 wc w.heap.size (fun k_=>((P0_1_ k_∨P0_2_ k_∨P1_1_ k_)∨w.heap.size≤k_)∧k_≠gb673∧k_≠gb674∧k_≠gb675) (.slice A0_1 l0_1.length c0_1) l0_1):=⟨by rw [← hq_];exact (zV HO_674001)⟩;have n3_:Aside0 (Kd.V (Kd.int .u32) 97 wc w.heap.size (fun k_=>((P0_1_ k_∨P0_2_ k_∨P1_1_ k_)∨w.heap.size≤k_)∧k_≠gb673∧k_≠gb674∧k_≠gb675) (.slice A0_2 l0_2.length c0_2) l0_2):=⟨by rw [← hq_];exact (zV HO_674002)⟩;have n4_:Aside0 (Kd.V (Kd.int .u32) 97 wc w.heap.size (fun k_=>((P0_1_ k_∨P0_2_ k_∨P1_1_ k_)∨w.heap.size≤k_)∧k_≠gb673∧k_≠gb674∧k_≠gb675) (.slice A1_1 l1_1.length c1_1) l1_1):=⟨by rw [← hq_];exact (zV HO_675001)⟩;have n5_:Aside0 (Kd.V (Kd.int .u32) 97 wc w.heap.size (fun k_=>((P0_1_ k_∨P0_2_ k_∨P1_1_ k_)∨w.heap.size≤k_)∧k_≠gb673∧k_≠gb674∧k_≠gb675) u7 x7_21):=⟨by rw [← hq_];exact (zV HO_7)⟩;have n6_:Aside0 (wc.heap[gb673]? = some (.cells #[.bool a0_0,.slice A0_1 l0_1.length c0_1,.slice A0_2 l0_2.length c0_2] 103 (0,0))):=⟨by rw [← hq_];exact (zb BK673)⟩;have n7_:Aside0 (wc.heap[gb674]? = some (.cells #[.bool a1_0,.slice A1_1 l1_1.length c1_1,.slice A1_2 l1_2.length c1_2] 103 (0,0))):=⟨by rw [← hq_];exact (zb BK674)⟩;have n8_:Aside0 (wc.heap[gb675]? = some (.cells #[.bool false,.slice none 0 0,.slice none 0 0] 103 (0,0))):=⟨by rw [← hq_];exact (zb BK675)⟩;have n9_:Aside0 (Below w.heap.size w wc):=⟨by rw [← hq_];exact bw⟩;clear HO_5 HO_6 HO_674001 HO_674002 HO_675001 HO_7 BK673 BK674 BK675 HB hq_;have HO_5:=n0_;have HO_6:=n1_;have HO_674001:=n2_;have HO_674002:=n3_;have HO_675001:=n4_;have HO_7:=n5_;have BK673:=n6_;have BK674:=n7_;have BK675:=n8_;have HB:=n9_;clear n0_ n1_ n2_ n3_ n4_ n5_ n6_ n7_ n8_ n9_))))
       replace HO_5:=aZ (Kd.V_drew HO_5.out)
       replace HO_6:=aZ (Kd.V_drew HO_6.out)
       replace HO_7:=aZ (Kd.V_drew HO_7.out)
       replace HO_674001:=aZ (Kd.V_drew HO_674001.out)
       replace HO_674002:=aZ (Kd.V_drew HO_674002.out)
       replace HO_675001:=aZ (Kd.V_drew HO_675001.out)
       replace BK673:=aZ (blk_drew BK673.out)
       replace BK674:=aZ (blk_drew BK674.out)
       replace BK675:=aZ (blk_drew BK675.out)
       replace HB:=aZ (below_drew1 HB.out)
       refine start_ (n:=8) (S:=fun w'=>w'.cell? ⟨gb674,0,none⟩=some (.bool a1_0)∧w'.cell? ⟨gb674,1,none⟩=some (.slice A1_1 l1_1.length c1_1)∧w'.cell? ⟨gb674,2,none⟩=some (.slice A1_2 l1_2.length c1_2)) (ds:=[]) #[false,false,false,false,false,false,false,false] (by kernel_rfl) rfl rfl ⟨zh BK674 0,zh BK674 1,zh BK674 2⟩ (fun hHeld=>?_);refine with_tabW Ye.tab9 Ye.bits9 (fun HT_ HW_=>?_)
       generalize wc.drew=w81 at HO_5 HO_6 HO_7 HO_674001 HO_674002 HO_675001 BK673 BK674 BK675 HB hHeld ⊢
       refine pu 0 (some 64) HT_ ?_
       refine pu 2 (some 66) HT_ ?_
       refine pu 3 (some 67) HT_ ?_
       refine pu 5 (some 69) HT_ ?_
       refine tk 1 (some 65) HT_ HW_ hHeld ?_
       refine one_ (i:=4) (N:=some 68) #[true,true,true,true,true,true,false,false] rfl rfl (one_of HT_.out (by kernel_rfl)) (by decide) (fun K hK=>?_)
       refine goes_ func154 (by kernel_rfl) rfl #[.slice Ao80 x6_21.length co80,.slice Ao79 x5_21.length co79] (by rfl) rfl rfl zm ?_
       with_reducible refine (YL.calls kj21 _ _ x6_21 _ _ x5_21 t708 _ (zC (Kd.V_reads' HO_6.out).2.2) ((Kd.V_reads' HO_6.out).2.1) (zC (Kd.V_reads' HO_5.out).2.2) ((Kd.V_reads' HO_5.out).2.1) A72.out).mono ?_
       rintro e w82 ⟨v709,rfl,ho0,hb⟩
       refine ⟨_,rfl,?_⟩
       replace HO_5:=yV HO_5 hb
       replace HO_6:=yV HO_6 hb
       replace HO_7:=yV HO_7 hb
       replace HO_674001:=yV HO_674001 hb
       replace HO_674002:=yV HO_674002 hb
       replace HO_675001:=yV HO_675001 hb
       have HO710:=yL (fun k_=>((P0_1_ k_∨P0_2_ k_∨P1_1_ k_)∨w.heap.size≤k_)∧k_≠gb673∧k_≠gb674∧k_≠gb675) ho0 (fun k_ hk_=>⟨(.inr (Nat.le_trans bs hk_)),(zf BK673 hk_),(zf BK674 hk_),(zf BK675 hk_)⟩)
       replace BK673:=sK BK673 hb
       replace BK674:=sK BK674 hb
       replace BK675:=sK BK675 hb
       replace HB:=sB hb
       clear hb ho0
       obtain ⟨Ao83,co83,eo83⟩:=Kd.V_slice HO710.out
       (first|subst eo83|(injection eo83 with f1_ f2_ f3_;have f4_:=f1_.symm;have f5_:=f3_.symm;clear f1_ f2_ f3_;subst f4_;subst f5_))
       obtain ⟨Ao84,co84,eo84⟩:=Kd.V_slice HO_7.out
       (first|subst eo84|(injection eo84 with f1_ f2_ f3_;have f4_:=f1_.symm;have f5_:=f3_.symm;clear f1_ f2_ f3_;subst f4_;subst f5_))
       refine hK.out _ _ ⟨zh BK674 0,zh BK674 1,zh BK674 2⟩ (fun hHeld=>?_)
       clear hK K
       refine nm ?_
       refine one_ (i:=6) (N:=some 70) #[true,true,true,true,true,true,true,false] rfl rfl (one_of HT_.out (by kernel_rfl)) (by decide) (fun K hK=>?_)
       refine goes_ func148 (by kernel_rfl) rfl #[.bool a1_0,.slice Ao83 t708.length co83,.slice Ao84 x7_21.length co84] (by rfl) rfl rfl zm ?_
       with_reducible refine (YD.calls kj21 a1_0 (fun k_=>(((P0_1_ k_∨P0_2_ k_∨P1_1_ k_)∨w.heap.size≤k_)∧(k_≠gb673∧(k_≠gb674∧k_≠gb675)))) _ _ t708 (fun k_=>(((P0_1_ k_∨P0_2_ k_∨P1_1_ k_)∨w.heap.size≤k_)∧(k_≠gb673∧(k_≠gb674∧k_≠gb675)))) _ _ x7_21 t711 t712 t715 _ HO710.out HO_7.out A73.out).mono ?_
       rintro e w85 ⟨v713,v716,rfl,ho0,ho1,hb⟩
       refine ⟨_,rfl,?_⟩
       replace HO_5:=yV HO_5 hb
       replace HO_6:=yV HO_6 hb
       replace HO_7:=yV HO_7 hb
       replace HO_674001:=yV HO_674001 hb
       replace HO_674002:=yV HO_674002 hb
       replace HO_675001:=yV HO_675001 hb
       replace HO710:=yV HO710 hb
       have HO714:=yL (fun k_=>((P0_1_ k_∨P0_2_ k_∨P1_1_ k_)∨w.heap.size≤k_)∧k_≠gb673∧k_≠gb674∧k_≠gb675) ho0 (fun k_ hk_=>⟨Or.elim hk_ (fun hs_=>Or.elim hs_ (fun hs_=>hs_.1) (fun hs_=>hs_.1)) (fun hn_=>(.inr (Nat.le_trans bs hn_))),Or.elim hk_ (fun hs_=>Or.elim hs_ (fun hs_=>hs_.2.1) (fun hs_=>hs_.2.1)) (fun hn_=>(zf BK673 hn_)),Or.elim hk_ (fun hs_=>Or.elim hs_ (fun hs_=>hs_.2.2.1) (fun hs_=>hs_.2.2.1)) (fun hn_=>(zf BK674 hn_)),Or.elim hk_ (fun hs_=>Or.elim hs_ (fun hs_=>hs_.2.2.2) (fun hs_=>hs_.2.2.2)) (fun hn_=>(zf BK675 hn_))⟩)
       have HO717:=yL (fun k_=>((P0_1_ k_∨P0_2_ k_∨P1_1_ k_)∨w.heap.size≤k_)∧k_≠gb673∧k_≠gb674∧k_≠gb675) ho1 (fun k_ hk_=>⟨Or.elim hk_ (fun hs_=>Or.elim hs_ (fun hs_=>hs_.1) (fun hs_=>hs_.1)) (fun hn_=>(.inr (Nat.le_trans bs hn_))),Or.elim hk_ (fun hs_=>Or.elim hs_ (fun hs_=>hs_.2.1) (fun hs_=>hs_.2.1)) (fun hn_=>(zf BK673 hn_)),Or.elim hk_ (fun hs_=>Or.elim hs_ (fun hs_=>hs_.2.2.1) (fun hs_=>hs_.2.2.1)) (fun hn_=>(zf BK674 hn_)),Or.elim hk_ (fun hs_=>Or.elim hs_ (fun hs_=>hs_.2.2.2) (fun hs_=>hs_.2.2.2)) (fun hn_=>(zf BK675 hn_))⟩)
       replace BK673:=sK BK673 hb
       replace BK674:=sK BK674 hb
       replace BK675:=sK BK675 hb
       replace HB:=sB hb
       clear hb ho0 ho1
       obtain ⟨Ao87,co87,eo87⟩:=Kd.V_slice HO714.out
       (first|subst eo87|(injection eo87 with f1_ f2_ f3_;have f4_:=f1_.symm;have f5_:=f3_.symm;clear f1_ f2_ f3_;subst f4_;subst f5_))
       obtain ⟨Ao89,co89,eo89⟩:=Kd.V_slice HO717.out
       (first|subst eo89|(injection eo89 with f1_ f2_ f3_;have f4_:=f1_.symm;have f5_:=f3_.symm;clear f1_ f2_ f3_;subst f4_;subst f5_))
       refine hK.out _ _ ⟨zh BK674 0,zh BK674 1,zh BK674 2⟩ (fun hHeld=>?_)
       clear hK K
       refine nm ?_
       refine one_ (i:=7) (N:=none) #[true,true,true,true,true,true,true,true] rfl rfl (one_of HT_.out (by kernel_rfl)) (by decide) (fun K hK=>?_)
       have hs86:w85.cell? ⟨gb675,0,none⟩=some (.bool false):=(blk_cell BK675.out 0).trans rfl
       have hfs86:=blk_frozen BK675.out 0
       have hns86_0:=NB673_675.out
       have hns86_1:=NB674_675.out
       have hms86_0:=NB675_673.out
       have hms86_1:=NB675_674.out
       have hs88:w85.cell? ⟨gb675,1,none⟩=some (.slice none 0 0):=(blk_cell BK675.out 1).trans rfl
       have hfs88:=blk_frozen BK675.out 1
       have hns88_0:=NB673_675.out
       have hns88_1:=NB674_675.out
       have hms88_0:=NB675_673.out
       have hms88_1:=NB675_674.out
       have hs90:w85.cell? ⟨gb675,2,none⟩=some (.slice none 0 0):=(blk_cell BK675.out 2).trans rfl
       have hfs90:=blk_frozen BK675.out 2
       have hns90_0:=NB673_675.out
       have hns90_1:=NB674_675.out
       have hms90_0:=NB675_673.out
       have hms90_1:=NB675_674.out
       refine skip_ (w1:=?_) (by rfl) rfl ?_ ?_
       rotate_left
       ·go_simp
        rfl
       refine hK.out _ _ ⟨((cell_far (p:=⟨gb675,_,none⟩) NB674_675.out _).trans (((cell_far (p:=⟨gb675,_,none⟩) NB674_675.out _).trans (((cell_far (p:=⟨gb675,_,none⟩) NB674_675.out _).trans (hHeld.1)))))),((cell_far (p:=⟨gb675,_,none⟩) NB674_675.out _).trans (((cell_far (p:=⟨gb675,_,none⟩) NB674_675.out _).trans (((cell_far (p:=⟨gb675,_,none⟩) NB674_675.out _).trans (hHeld.2.1)))))),((cell_far (p:=⟨gb675,_,none⟩) NB674_675.out _).trans (((cell_far (p:=⟨gb675,_,none⟩) NB674_675.out _).trans (((cell_far (p:=⟨gb675,_,none⟩) NB674_675.out _).trans (hHeld.2.2))))))⟩ (fun hHeld=>?_)
       clear hK K
       refine done_ (done_of HT_.out (by kernel_rfl)) ?_
       try go_wp2
       refine bodyPost_ret (results_cell_row rfl _ _ gb675 103 #[.bool t711,.slice Ao87 t712.length co87,.slice Ao89 t715.length co89] (0,0) _ rfl (zp BK675) underlying103 rfl (by kernel_rfl)) rfl ?_
       exact ⟨_,_,ze,zF HO714,zF HO717,bw⟩
      rw [if_pos c52] at H
      have c52b0:=decide_eq_true c52
      clear c52
      obtain ⟨t698,A53,H⟩:=zB H
      obtain ⟨⟨t701,t702,t705⟩,A54,H⟩:=zB H
      (try dsimp only at H)
      obtain ⟨rfl,rfl,rfl⟩:=zo3 H
      have hnb55:=NB673_674.out
      have hnc55:=NB674_673.out
      have hnb56:=NB673_675.out
      have hnc56:=NB675_673.out
      obtain ⟨hcz57_0,hfz57_0⟩:=zc BK673 0 (.bool a0_0) rfl
      obtain ⟨hcz57_1,hfz57_1⟩:=zc BK673 1 (.slice A0_1 l0_1.length c0_1) rfl
      obtain ⟨hcz57_2,hfz57_2⟩:=zc BK673 2 (.slice A0_2 l0_2.length c0_2) rfl
      have hnb58:=NB674_675.out
      have hnc58:=NB675_674.out
      obtain ⟨hcz59_0,hfz59_0⟩:=zc BK674 0 (.bool a1_0) rfl
      obtain ⟨hcz59_1,hfz59_1⟩:=zc BK674 1 (.slice A1_1 l1_1.length c1_1) rfl
      obtain ⟨hcz59_2,hfz59_2⟩:=zc BK674 2 (.slice A1_2 l1_2.length c1_2) rfl
      obtain ⟨Ao60,co60,rfl⟩:=Kd.V_slice HO_5.out
      obtain ⟨Ao61,co61,rfl⟩:=Kd.V_slice HO_6.out
      try go_wp2_with (first|(refine zg (some 55) func153 #[.slice Ao60 x5_21.length co60,.slice Ao61 x6_21.length co61] ?_;(with_reducible refine (YC.calls kj21 _ _ x5_21 _ _ x6_21 t697 _ (zC (Kd.V_reads' HO_5.out).2.2) ((Kd.V_reads' HO_5.out).2.1) (zC (Kd.V_reads' HO_6.out).2.2) ((Kd.V_reads' HO_6.out).2.1) A51.out).mono ?_);rintro e w' ⟨rfl,⟨nd,rfl⟩⟩;refine ⟨_,rfl,?_⟩;(try (rw [drewN_self wc];generalize hq_:World.drewN wc _=wc;have n0_:Aside0 (Kd.V (Kd.int .u32) 97 wc w.heap.size (fun k_=>((P0_1_ k_∨P0_2_ k_∨P1_1_ k_)∨w.heap.size≤k_)∧k_≠gb673∧k_≠gb674∧k_≠gb675) (.slice Ao60 x5_21.length co60) x5_21):=⟨by rw [← hq_];exact (zV HO_5)⟩;have n1_:Aside0 (Kd.V (Kd.int .u32) 97 wc w.heap.size (fun k_=>((P0_1_ k_∨P0_2_ k_∨P1_1_ k_)∨w.heap.size≤k_)∧k_≠gb673∧k_≠gb674∧k_≠gb675) (.slice Ao61 x6_21.length co61) x6_21):=⟨by rw [← hq_];exact (zV HO_6)⟩;have n2_:Aside0 (Kd.V (Kd.int .u32) 97 wc w.heap.size (fun k_=>((P0_1_ k_∨P0_2_ k_∨P1_1_ k_)∨w.heap.size≤k_)∧k_≠gb673∧k_≠gb674∧k_≠gb675) (.slice A0_1 l0_1.length c0_1) l0_1):=⟨by rw [← hq_];exact (zV HO_674001)⟩;have n3_:Aside0 (Kd.V (Kd.int .u32) 97 wc w.heap.size (fun k_=>((P0_1_ k_∨P0_2_ k_∨P1_1_ k_)∨w.heap.size≤k_)∧k_≠gb673∧k_≠gb674∧k_≠gb675) (.slice A0_2 l0_2.length c0_2) l0_2):=⟨by rw [← hq_];exact (zV HO_674002)⟩;have n4_:Aside0 (Kd.V (Kd.int .u32) 97 wc w.heap.size (fun k_=>((P0_1_ k_∨P0_2_ k_∨P1_1_ k_)∨w.heap.size≤k_)∧k_≠gb673∧k_≠gb674∧k_≠gb675) (.slice A1_1 l1_1.length c1_1) l1_1):=⟨by rw [← hq_];exact (zV HO_675001)⟩;have n5_:Aside0 (Kd.V (Kd.int .u32) 97 wc w.heap.size (fun k_=>((P0_1_ k_∨P0_2_ k_∨P1_1_ k_)∨w.heap.size≤k_)∧k_≠gb673∧k_≠gb674∧k_≠gb675) u7 x7_21):=⟨by rw [← hq_];exact (zV HO_7)⟩;have n6_:Aside0 (wc.heap[gb673]? = some (.cells #[.bool a0_0,.slice A0_1 l0_1.length c0_1,.slice A0_2 l0_2.length c0_2] 103 (0,0))):=⟨by rw [← hq_];exact (zb BK673)⟩;have n7_:Aside0 (wc.heap[gb674]? = some (.cells #[.bool a1_0,.slice A1_1 l1_1.length c1_1,.slice A1_2 l1_2.length c1_2] 103 (0,0))):=⟨by rw [← hq_];exact (zb BK674)⟩;have n8_:Aside0 (wc.heap[gb675]? = some (.cells #[.bool false,.slice none 0 0,.slice none 0 0] 103 (0,0))):=⟨by rw [← hq_];exact (zb BK675)⟩;have n9_:Aside0 (Below w.heap.size w wc):=⟨by rw [← hq_];exact bw⟩;clear HO_5 HO_6 HO_674001 HO_674002 HO_675001 HO_7 BK673 BK674 BK675 HB hq_;have HO_5:=n0_;have HO_6:=n1_;have HO_674001:=n2_;have HO_674002:=n3_;have HO_675001:=n4_;have HO_7:=n5_;have BK673:=n6_;have BK674:=n7_;have BK675:=n8_;have HB:=n9_;clear n0_ n1_ n2_ n3_ n4_ n5_ n6_ n7_ n8_ n9_))))
      replace HO_5:=aZ (Kd.V_drew HO_5.out)
      replace HO_6:=aZ (Kd.V_drew HO_6.out)
      replace HO_7:=aZ (Kd.V_drew HO_7.out)
      replace HO_674001:=aZ (Kd.V_drew HO_674001.out)
      replace HO_674002:=aZ (Kd.V_drew HO_674002.out)
      replace HO_675001:=aZ (Kd.V_drew HO_675001.out)
      replace BK673:=aZ (blk_drew BK673.out)
      replace BK674:=aZ (blk_drew BK674.out)
      replace BK675:=aZ (blk_drew BK675.out)
      replace HB:=aZ (below_drew1 HB.out)
      refine start_ (n:=8) (S:=fun w'=>w'.cell? ⟨gb673,0,none⟩=some (.bool a0_0)∧w'.cell? ⟨gb673,1,none⟩=some (.slice A0_1 l0_1.length c0_1)∧w'.cell? ⟨gb673,2,none⟩=some (.slice A0_2 l0_2.length c0_2)) (ds:=[]) #[false,false,false,false,false,false,false,false] (by kernel_rfl) rfl rfl ⟨zh BK673 0,zh BK673 1,zh BK673 2⟩ (fun hHeld=>?_);refine with_tabW Ye.tab8 Ye.bits8 (fun HT_ HW_=>?_)
      generalize wc.drew=w62 at HO_5 HO_6 HO_7 HO_674001 HO_674002 HO_675001 BK673 BK674 BK675 HB hHeld ⊢
      refine pu 0 (some 57) HT_ ?_
      refine pu 2 (some 59) HT_ ?_
      refine pu 3 (some 60) HT_ ?_
      refine pu 5 (some 62) HT_ ?_
      refine tk 1 (some 58) HT_ HW_ hHeld ?_
      refine one_ (i:=4) (N:=some 61) #[true,true,true,true,true,true,false,false] rfl rfl (one_of HT_.out (by kernel_rfl)) (by decide) (fun K hK=>?_)
      refine goes_ func154 (by kernel_rfl) rfl #[.slice Ao60 x5_21.length co60,.slice Ao61 x6_21.length co61] (by rfl) rfl rfl zm ?_
      with_reducible refine (YL.calls kj21 _ _ x5_21 _ _ x6_21 t698 _ (zC (Kd.V_reads' HO_5.out).2.2) ((Kd.V_reads' HO_5.out).2.1) (zC (Kd.V_reads' HO_6.out).2.2) ((Kd.V_reads' HO_6.out).2.1) A53.out).mono ?_
      rintro e w63 ⟨v699,rfl,ho0,hb⟩
      refine ⟨_,rfl,?_⟩
      replace HO_5:=yV HO_5 hb
      replace HO_6:=yV HO_6 hb
      replace HO_7:=yV HO_7 hb
      replace HO_674001:=yV HO_674001 hb
      replace HO_674002:=yV HO_674002 hb
      replace HO_675001:=yV HO_675001 hb
      have HO700:=yL (fun k_=>((P0_1_ k_∨P0_2_ k_∨P1_1_ k_)∨w.heap.size≤k_)∧k_≠gb673∧k_≠gb674∧k_≠gb675) ho0 (fun k_ hk_=>⟨(.inr (Nat.le_trans bs hk_)),(zf BK673 hk_),(zf BK674 hk_),(zf BK675 hk_)⟩)
      replace BK673:=sK BK673 hb
      replace BK674:=sK BK674 hb
      replace BK675:=sK BK675 hb
      replace HB:=sB hb
      clear hb ho0
      obtain ⟨Ao64,co64,eo64⟩:=Kd.V_slice HO700.out
      (first|subst eo64|(injection eo64 with f1_ f2_ f3_;have f4_:=f1_.symm;have f5_:=f3_.symm;clear f1_ f2_ f3_;subst f4_;subst f5_))
      obtain ⟨Ao65,co65,eo65⟩:=Kd.V_slice HO_7.out
      (first|subst eo65|(injection eo65 with f1_ f2_ f3_;have f4_:=f1_.symm;have f5_:=f3_.symm;clear f1_ f2_ f3_;subst f4_;subst f5_))
      refine hK.out _ _ ⟨zh BK673 0,zh BK673 1,zh BK673 2⟩ (fun hHeld=>?_)
      clear hK K
      refine nm ?_
      refine one_ (i:=6) (N:=some 63) #[true,true,true,true,true,true,true,false] rfl rfl (one_of HT_.out (by kernel_rfl)) (by decide) (fun K hK=>?_)
      refine goes_ func148 (by kernel_rfl) rfl #[.bool a0_0,.slice Ao64 t698.length co64,.slice Ao65 x7_21.length co65] (by rfl) rfl rfl zm ?_
      with_reducible refine (YD.calls kj21 a0_0 (fun k_=>(((P0_1_ k_∨P0_2_ k_∨P1_1_ k_)∨w.heap.size≤k_)∧(k_≠gb673∧(k_≠gb674∧k_≠gb675)))) _ _ t698 (fun k_=>(((P0_1_ k_∨P0_2_ k_∨P1_1_ k_)∨w.heap.size≤k_)∧(k_≠gb673∧(k_≠gb674∧k_≠gb675)))) _ _ x7_21 t701 t702 t705 _ HO700.out HO_7.out A54.out).mono ?_
      rintro e w66 ⟨v703,v706,rfl,ho0,ho1,hb⟩
      refine ⟨_,rfl,?_⟩
      replace HO_5:=yV HO_5 hb
      replace HO_6:=yV HO_6 hb
      replace HO_7:=yV HO_7 hb
      replace HO_674001:=yV HO_674001 hb
      replace HO_674002:=yV HO_674002 hb
      replace HO_675001:=yV HO_675001 hb
      replace HO700:=yV HO700 hb
      have HO704:=yL (fun k_=>((P0_1_ k_∨P0_2_ k_∨P1_1_ k_)∨w.heap.size≤k_)∧k_≠gb673∧k_≠gb674∧k_≠gb675) ho0 (fun k_ hk_=>⟨Or.elim hk_ (fun hs_=>Or.elim hs_ (fun hs_=>hs_.1) (fun hs_=>hs_.1)) (fun hn_=>(.inr (Nat.le_trans bs hn_))),Or.elim hk_ (fun hs_=>Or.elim hs_ (fun hs_=>hs_.2.1) (fun hs_=>hs_.2.1)) (fun hn_=>(zf BK673 hn_)),Or.elim hk_ (fun hs_=>Or.elim hs_ (fun hs_=>hs_.2.2.1) (fun hs_=>hs_.2.2.1)) (fun hn_=>(zf BK674 hn_)),Or.elim hk_ (fun hs_=>Or.elim hs_ (fun hs_=>hs_.2.2.2) (fun hs_=>hs_.2.2.2)) (fun hn_=>(zf BK675 hn_))⟩)
      have HO707:=yL (fun k_=>((P0_1_ k_∨P0_2_ k_∨P1_1_ k_)∨w.heap.size≤k_)∧k_≠gb673∧k_≠gb674∧k_≠gb675) ho1 (fun k_ hk_=>⟨Or.elim hk_ (fun hs_=>Or.elim hs_ (fun hs_=>hs_.1) (fun hs_=>hs_.1)) (fun hn_=>(.inr (Nat.le_trans bs hn_))),Or.elim hk_ (fun hs_=>Or.elim hs_ (fun hs_=>hs_.2.1) (fun hs_=>hs_.2.1)) (fun hn_=>(zf BK673 hn_)),Or.elim hk_ (fun hs_=>Or.elim hs_ (fun hs_=>hs_.2.2.1) (fun hs_=>hs_.2.2.1)) (fun hn_=>(zf BK674 hn_)),Or.elim hk_ (fun hs_=>Or.elim hs_ (fun hs_=>hs_.2.2.2) (fun hs_=>hs_.2.2.2)) (fun hn_=>(zf BK675 hn_))⟩)
      replace BK673:=sK BK673 hb
      replace BK674:=sK BK674 hb
      replace BK675:=sK BK675 hb
      replace HB:=sB hb
      clear hb ho0 ho1
      obtain ⟨Ao68,co68,eo68⟩:=Kd.V_slice HO704.out
      (first|subst eo68|(injection eo68 with f1_ f2_ f3_;have f4_:=f1_.symm;have f5_:=f3_.symm;clear f1_ f2_ f3_;subst f4_;subst f5_))
      obtain ⟨Ao70,co70,eo70⟩:=Kd.V_slice HO707.out
      (first|subst eo70|(injection eo70 with f1_ f2_ f3_;have f4_:=f1_.symm;have f5_:=f3_.symm;clear f1_ f2_ f3_;subst f4_;subst f5_))
      refine hK.out _ _ ⟨zh BK673 0,zh BK673 1,zh BK673 2⟩ (fun hHeld=>?_)
      clear hK K
      refine nm ?_
      refine one_ (i:=7) (N:=none) #[true,true,true,true,true,true,true,true] rfl rfl (one_of HT_.out (by kernel_rfl)) (by decide) (fun K hK=>?_)
      have hs67:w66.cell? ⟨gb675,0,none⟩=some (.bool false):=(blk_cell BK675.out 0).trans rfl
      have hfs67:=blk_frozen BK675.out 0
      have hns67_0:=NB673_675.out
      have hns67_1:=NB674_675.out
      have hms67_0:=NB675_673.out
      have hms67_1:=NB675_674.out
      have hs69:w66.cell? ⟨gb675,1,none⟩=some (.slice none 0 0):=(blk_cell BK675.out 1).trans rfl
      have hfs69:=blk_frozen BK675.out 1
      have hns69_0:=NB673_675.out
      have hns69_1:=NB674_675.out
      have hms69_0:=NB675_673.out
      have hms69_1:=NB675_674.out
      have hs71:w66.cell? ⟨gb675,2,none⟩=some (.slice none 0 0):=(blk_cell BK675.out 2).trans rfl
      have hfs71:=blk_frozen BK675.out 2
      have hns71_0:=NB673_675.out
      have hns71_1:=NB674_675.out
      have hms71_0:=NB675_673.out
      have hms71_1:=NB675_674.out
      refine skip_ (w1:=?_) (by rfl) rfl ?_ ?_
      rotate_left
      ·go_simp
       rfl
      refine hK.out _ _ ⟨((cell_far (p:=⟨gb675,_,none⟩) NB673_675.out _).trans (((cell_far (p:=⟨gb675,_,none⟩) NB673_675.out _).trans (((cell_far (p:=⟨gb675,_,none⟩) NB673_675.out _).trans (hHeld.1)))))),((cell_far (p:=⟨gb675,_,none⟩) NB673_675.out _).trans (((cell_far (p:=⟨gb675,_,none⟩) NB673_675.out _).trans (((cell_far (p:=⟨gb675,_,none⟩) NB673_675.out _).trans (hHeld.2.1)))))),((cell_far (p:=⟨gb675,_,none⟩) NB673_675.out _).trans (((cell_far (p:=⟨gb675,_,none⟩) NB673_675.out _).trans (((cell_far (p:=⟨gb675,_,none⟩) NB673_675.out _).trans (hHeld.2.2))))))⟩ (fun hHeld=>?_)
      clear hK K
      refine done_ (done_of HT_.out (by kernel_rfl)) ?_
      try go_wp2
      refine bodyPost_ret (results_cell_row rfl _ _ gb675 103 #[.bool t701,.slice Ao68 t702.length co68,.slice Ao70 t705.length co70] (0,0) _ rfl (zp BK675) underlying103 rfl (by kernel_rfl)) rfl ?_
      exact ⟨_,_,ze,zF HO704,zF HO707,bw⟩
     rw [if_pos c31] at H
     have c31b0:(a0_0==a1_0)=true:=c31
     (try (have c31b1:decide (a0_0=a1_0)=true:=by simpa using c31))
     (try (have c31b2:(a0_0==a1_0)=true:=by simpa using c31))
     clear c31
     obtain ⟨t687,A32,H⟩:=zB H
     obtain ⟨⟨t690,t691,t694⟩,A33,H⟩:=zB H
     (try dsimp only at H)
     obtain ⟨rfl,rfl,rfl⟩:=zo3 H
     have hnb34:=NB673_674.out
     have hnc34:=NB674_673.out
     have hnb35:=NB673_675.out
     have hnc35:=NB675_673.out
     obtain ⟨hcz36_0,hfz36_0⟩:=zc BK673 0 (.bool a0_0) rfl
     obtain ⟨hcz36_1,hfz36_1⟩:=zc BK673 1 (.slice A0_1 l0_1.length c0_1) rfl
     obtain ⟨hcz36_2,hfz36_2⟩:=zc BK673 2 (.slice A0_2 l0_2.length c0_2) rfl
     have hnb37:=NB674_675.out
     have hnc37:=NB675_674.out
     obtain ⟨hcz38_0,hfz38_0⟩:=zc BK674 0 (.bool a1_0) rfl
     obtain ⟨hcz38_1,hfz38_1⟩:=zc BK674 1 (.slice A1_1 l1_1.length c1_1) rfl
     obtain ⟨hcz38_2,hfz38_2⟩:=zc BK674 2 (.slice A1_2 l1_2.length c1_2) rfl
     try go_wp2
     replace HO_5:=aZ (Kd.V_drew HO_5.out)
     replace HO_6:=aZ (Kd.V_drew HO_6.out)
     replace HO_7:=aZ (Kd.V_drew HO_7.out)
     replace HO_674001:=aZ (Kd.V_drew HO_674001.out)
     replace HO_674002:=aZ (Kd.V_drew HO_674002.out)
     replace HO_675001:=aZ (Kd.V_drew HO_675001.out)
     replace BK673:=aZ (blk_drew BK673.out)
     replace BK674:=aZ (blk_drew BK674.out)
     replace BK675:=aZ (blk_drew BK675.out)
     replace HB:=aZ (below_drew1 HB.out)
     obtain ⟨Ao40,co40,eo40⟩:=Kd.V_slice HO_5.out
     (first|subst eo40|(injection eo40 with f1_ f2_ f3_;have f4_:=f1_.symm;have f5_:=f3_.symm;clear f1_ f2_ f3_;subst f4_;subst f5_))
     obtain ⟨Ao41,co41,eo41⟩:=Kd.V_slice HO_6.out
     (first|subst eo41|(injection eo41 with f1_ f2_ f3_;have f4_:=f1_.symm;have f5_:=f3_.symm;clear f1_ f2_ f3_;subst f4_;subst f5_))
     refine start_ (n:=8) (S:=fun w'=>w'.cell? ⟨gb673,0,none⟩=some (.bool a0_0)∧w'.cell? ⟨gb673,1,none⟩=some (.slice A0_1 l0_1.length c0_1)∧w'.cell? ⟨gb673,2,none⟩=some (.slice A0_2 l0_2.length c0_2)) (ds:=[]) #[false,false,false,false,false,false,false,false] (by kernel_rfl) rfl rfl ⟨zh BK673 0,zh BK673 1,zh BK673 2⟩ (fun hHeld=>?_);refine with_tabW Ye.tab6 Ye.bits6 (fun HT_ HW_=>?_)
     generalize wc.drew=w39 at HO_5 HO_6 HO_7 HO_674001 HO_674002 HO_675001 BK673 BK674 BK675 HB hHeld ⊢
     refine pu 0 (some 45) HT_ ?_
     refine pu 2 (some 47) HT_ ?_
     refine pu 3 (some 48) HT_ ?_
     refine pu 5 (some 50) HT_ ?_
     refine tk 1 (some 46) HT_ HW_ hHeld ?_
     refine one_ (i:=4) (N:=some 49) #[true,true,true,true,true,true,false,false] rfl rfl (one_of HT_.out (by kernel_rfl)) (by decide) (fun K hK=>?_)
     refine goes_ func152 (by kernel_rfl) rfl #[.slice Ao40 x5_21.length co40,.slice Ao41 x6_21.length co41] (by rfl) rfl rfl zm ?_
     with_reducible refine (Y0t.calls kj21 _ _ x5_21 _ _ x6_21 t687 _ (zC (Kd.V_reads' HO_5.out).2.2) ((Kd.V_reads' HO_5.out).2.1) (zC (Kd.V_reads' HO_6.out).2.2) ((Kd.V_reads' HO_6.out).2.1) A32.out).mono ?_
     rintro e w42 ⟨v688,rfl,ho0,hb⟩
     refine ⟨_,rfl,?_⟩
     replace HO_5:=aZ (Kd.V_elder' (zV HO_5) (Kd.R_base ho0) hb)
     replace HO_6:=aZ (Kd.V_elder' (zV HO_6) (Kd.R_base ho0) hb)
     replace HO_7:=aZ (Kd.V_elder' (zV HO_7) (Kd.R_base ho0) hb)
     replace HO_674001:=aZ (Kd.V_elder' (zV HO_674001) (Kd.R_base ho0) hb)
     replace HO_674002:=aZ (Kd.V_elder' (zV HO_674002) (Kd.R_base ho0) hb)
     replace HO_675001:=aZ (Kd.V_elder' (zV HO_675001) (Kd.R_base ho0) hb)
     have HO689:=aZ (Kd.R_lower (Kd.R_newM (M:=fun k_=>(w.heap.size≤k_)) ho0 bs (fun k_ h_=>h_)) bs)
     replace BK673:=sK BK673 hb
     replace BK674:=sK BK674 hb
     replace BK675:=sK BK675 hb
     replace HB:=sB hb
     clear hb ho0
     obtain ⟨Ao43,co43,eo43⟩:=Kd.R_slice HO689.out
     (first|subst eo43|(injection eo43 with f1_ f2_ f3_;have f4_:=f1_.symm;have f5_:=f3_.symm;clear f1_ f2_ f3_;subst f4_;subst f5_))
     obtain ⟨Ao44,co44,eo44⟩:=Kd.V_slice HO_7.out
     (first|subst eo44|(injection eo44 with f1_ f2_ f3_;have f4_:=f1_.symm;have f5_:=f3_.symm;clear f1_ f2_ f3_;subst f4_;subst f5_))
     refine hK.out _ _ ⟨zh BK673 0,zh BK673 1,zh BK673 2⟩ (fun hHeld=>?_)
     clear hK K
     refine nm ?_
     refine one_ (i:=6) (N:=some 51) #[true,true,true,true,true,true,true,false] rfl rfl (one_of HT_.out (by kernel_rfl)) (by decide) (fun K hK=>?_)
     refine goes_ func148 (by kernel_rfl) rfl #[.bool a0_0,.slice Ao43 t687.length co43,.slice Ao44 x7_21.length co44] (by rfl) rfl rfl zm ?_
     with_reducible refine (YD.calls kj21 a0_0 (fun k_=>some k_=(.slice Ao43 t687.length co43:Value).ownBlock) _ _ t687 (fun k_=>((((P0_1_ k_∨P0_2_ k_∨P1_1_ k_)∨w.heap.size≤k_)∧(k_≠gb673∧(k_≠gb674∧k_≠gb675)))∧some k_≠(.slice Ao43 t687.length co43:Value).ownBlock)) _ _ x7_21 t690 t691 t694 _ ?side1 ?side2 A33.out).mono ?_
     (case side1=>exact Kd.R_V (Kd.R_tight rfl (Kd.R_types (Kd.R_types (Kd.R_types (HO689.out) BK673.out (by decide)) BK674.out (by decide)) BK675.out (by decide))))
     (case side2=>exact HO_7.out)
     rintro e w45 ⟨v692,v695,rfl,ho0,ho1,hb⟩
     refine ⟨_,rfl,?_⟩
     replace HO_5:=yV HO_5 hb
     replace HO_6:=yV HO_6 hb
     replace HO_7:=yV HO_7 hb
     replace HO_674001:=yV HO_674001 hb
     replace HO_674002:=yV HO_674002 hb
     replace HO_675001:=yV HO_675001 hb
     have HO693:=yL (fun k_=>((P0_1_ k_∨P0_2_ k_∨P1_1_ k_)∨w.heap.size≤k_)∧k_≠gb673∧k_≠gb674∧k_≠gb675) ho0 (fun k_ hk_=>⟨Or.elim hk_ (fun hs_=>Or.elim hs_ (fun hs_=>(.inr (((Kd.R_types (Kd.R_types (Kd.R_types (HO689.out) BK673.out (by decide)) BK674.out (by decide)) BK675.out (by decide)).1 k_ hs_.symm).1.1.1.1))) (fun hs_=>hs_.1.1)) (fun hn_=>(.inr (Nat.le_trans bs hn_))),Or.elim hk_ (fun hs_=>Or.elim hs_ (fun hs_=>((Kd.R_types (Kd.R_types (Kd.R_types (HO689.out) BK673.out (by decide)) BK674.out (by decide)) BK675.out (by decide)).1 k_ hs_.symm).1.1.2) (fun hs_=>hs_.1.2.1)) (fun hn_=>(zf BK673 hn_)),Or.elim hk_ (fun hs_=>Or.elim hs_ (fun hs_=>((Kd.R_types (Kd.R_types (Kd.R_types (HO689.out) BK673.out (by decide)) BK674.out (by decide)) BK675.out (by decide)).1 k_ hs_.symm).1.2) (fun hs_=>hs_.1.2.2.1)) (fun hn_=>(zf BK674 hn_)),Or.elim hk_ (fun hs_=>Or.elim hs_ (fun hs_=>((Kd.R_types (Kd.R_types (Kd.R_types (HO689.out) BK673.out (by decide)) BK674.out (by decide)) BK675.out (by decide)).1 k_ hs_.symm).2) (fun hs_=>hs_.1.2.2.2)) (fun hn_=>(zf BK675 hn_))⟩)
     have HO696:=yL (fun k_=>((P0_1_ k_∨P0_2_ k_∨P1_1_ k_)∨w.heap.size≤k_)∧k_≠gb673∧k_≠gb674∧k_≠gb675) ho1 (fun k_ hk_=>⟨Or.elim hk_ (fun hs_=>Or.elim hs_ (fun hs_=>(.inr (((Kd.R_types (Kd.R_types (Kd.R_types (HO689.out) BK673.out (by decide)) BK674.out (by decide)) BK675.out (by decide)).1 k_ hs_.symm).1.1.1.1))) (fun hs_=>hs_.1.1)) (fun hn_=>(.inr (Nat.le_trans bs hn_))),Or.elim hk_ (fun hs_=>Or.elim hs_ (fun hs_=>((Kd.R_types (Kd.R_types (Kd.R_types (HO689.out) BK673.out (by decide)) BK674.out (by decide)) BK675.out (by decide)).1 k_ hs_.symm).1.1.2) (fun hs_=>hs_.1.2.1)) (fun hn_=>(zf BK673 hn_)),Or.elim hk_ (fun hs_=>Or.elim hs_ (fun hs_=>((Kd.R_types (Kd.R_types (Kd.R_types (HO689.out) BK673.out (by decide)) BK674.out (by decide)) BK675.out (by decide)).1 k_ hs_.symm).1.2) (fun hs_=>hs_.1.2.2.1)) (fun hn_=>(zf BK674 hn_)),Or.elim hk_ (fun hs_=>Or.elim hs_ (fun hs_=>((Kd.R_types (Kd.R_types (Kd.R_types (HO689.out) BK673.out (by decide)) BK674.out (by decide)) BK675.out (by decide)).1 k_ hs_.symm).2) (fun hs_=>hs_.1.2.2.2)) (fun hn_=>(zf BK675 hn_))⟩)
     replace HO689:=yR HO689 hb
     replace BK673:=sK BK673 hb
     replace BK674:=sK BK674 hb
     replace BK675:=sK BK675 hb
     replace HB:=sB hb
     clear hb ho0 ho1
     obtain ⟨Ao47,co47,eo47⟩:=Kd.V_slice HO693.out
     (first|subst eo47|(injection eo47 with f1_ f2_ f3_;have f4_:=f1_.symm;have f5_:=f3_.symm;clear f1_ f2_ f3_;subst f4_;subst f5_))
     obtain ⟨Ao49,co49,eo49⟩:=Kd.V_slice HO696.out
     (first|subst eo49|(injection eo49 with f1_ f2_ f3_;have f4_:=f1_.symm;have f5_:=f3_.symm;clear f1_ f2_ f3_;subst f4_;subst f5_))
     refine hK.out _ _ ⟨zh BK673 0,zh BK673 1,zh BK673 2⟩ (fun hHeld=>?_)
     clear hK K
     refine nm ?_
     refine one_ (i:=7) (N:=none) #[true,true,true,true,true,true,true,true] rfl rfl (one_of HT_.out (by kernel_rfl)) (by decide) (fun K hK=>?_)
     have hs46:w45.cell? ⟨gb675,0,none⟩=some (.bool false):=(blk_cell BK675.out 0).trans rfl
     have hfs46:=blk_frozen BK675.out 0
     have hns46_0:=NB673_675.out
     have hns46_1:=NB674_675.out
     have hms46_0:=NB675_673.out
     have hms46_1:=NB675_674.out
     have hs48:w45.cell? ⟨gb675,1,none⟩=some (.slice none 0 0):=(blk_cell BK675.out 1).trans rfl
     have hfs48:=blk_frozen BK675.out 1
     have hns48_0:=NB673_675.out
     have hns48_1:=NB674_675.out
     have hms48_0:=NB675_673.out
     have hms48_1:=NB675_674.out
     have hs50:w45.cell? ⟨gb675,2,none⟩=some (.slice none 0 0):=(blk_cell BK675.out 2).trans rfl
     have hfs50:=blk_frozen BK675.out 2
     have hns50_0:=NB673_675.out
     have hns50_1:=NB674_675.out
     have hms50_0:=NB675_673.out
     have hms50_1:=NB675_674.out
     refine skip_ (w1:=?_) (by rfl) rfl ?_ ?_
     rotate_left
     ·go_simp
      rfl
     refine hK.out _ _ ⟨((cell_far (p:=⟨gb675,_,none⟩) NB673_675.out _).trans (((cell_far (p:=⟨gb675,_,none⟩) NB673_675.out _).trans (((cell_far (p:=⟨gb675,_,none⟩) NB673_675.out _).trans (hHeld.1)))))),((cell_far (p:=⟨gb675,_,none⟩) NB673_675.out _).trans (((cell_far (p:=⟨gb675,_,none⟩) NB673_675.out _).trans (((cell_far (p:=⟨gb675,_,none⟩) NB673_675.out _).trans (hHeld.2.1)))))),((cell_far (p:=⟨gb675,_,none⟩) NB673_675.out _).trans (((cell_far (p:=⟨gb675,_,none⟩) NB673_675.out _).trans (((cell_far (p:=⟨gb675,_,none⟩) NB673_675.out _).trans (hHeld.2.2))))))⟩ (fun hHeld=>?_)
     clear hK K
     refine done_ (done_of HT_.out (by kernel_rfl)) ?_
     try go_wp2
     refine bodyPost_ret (results_cell_row rfl _ _ gb675 103 #[.bool t690,.slice Ao47 t691.length co47,.slice Ao49 t694.length co49] (0,0) _ rfl (zp BK675) underlying103 rfl (by kernel_rfl)) rfl ?_
     exact ⟨_,_,ze,zF HO693,zF HO696,bw⟩
def Y0v.f (k:Nat) (a0_0:Bool) (l0_1:List Int) (l0_2:List Int):Option (Bool×List Int×List Int):=(YP.f k 1 2).bind fun bt720=>((Ye.f k a0_0 l0_1 l0_2 bt720.1 bt720.2.1 bt720.2.2).bind fun bt727=>((YT.f k bt727.1 bt727.2.1 bt727.2.2).bind fun bt734=>(some (bt734.1,bt734.2.1,bt734.2.2))))
theorem Y0v.calls (k:Nat) (a0_0:Bool) (P0_1_:Nat→Prop) (A0_1:Option Addr) (c0_1:Nat) (l0_1:List Int) (P0_2_:Nat→Prop) (A0_2:Option Addr) (c0_2:Nat) (l0_2:List Int) (r1:Bool) (r2:List Int) (r3:List Int) (w:World) (hs0_1:Kd.V (Kd.int .u32) 97 w w.heap.size (fun k_=>P0_1_ k_) (.slice A0_1 l0_1.length c0_1) l0_1) (hs0_2:Kd.V (Kd.int .u32) 97 w w.heap.size (fun k_=>P0_2_ k_) (.slice A0_2 l0_2.length c0_2) l0_2) (h:Y0v.f k a0_0 l0_1 l0_2=some (r1,r2,r3)) :
  Calls Tryz.prog 129 #[.agg #[.bool a0_0,.slice A0_1 l0_1.length c0_1,.slice A0_2 l0_2.length c0_2]] w fun e w'=>∃ v1_ v2_:Value,e = .returned (.agg #[.bool r1,v1_,v2_])∧Kd.V (Kd.int .u32) 97 w' w.heap.size (fun k_=>((P0_1_ k_∨P0_2_ k_)∨w.heap.size≤k_)∧some k_≠(v2_:Value).ownBlock) v1_ r2∧Kd.R (Kd.int .u32) 97 w' w.heap.size (fun k_=>(w.heap.size≤k_)) v2_ r3∧Below w.heap.size w w':=by
 have hu103:=underlying103
 have HO0_1:=aZ (show Kd.V (Kd.int .u32) 97 w w.heap.size (fun k_=>((P0_1_ k_∨P0_2_ k_)∨w.heap.size≤k_)) (.slice A0_1 l0_1.length c0_1) l0_1 from Kd.V_mono hs0_1 (fun k_ hk=>.inl (.inl hk)))
 have HO0_2:=aZ (show Kd.V (Kd.int .u32) 97 w w.heap.size (fun k_=>((P0_1_ k_∨P0_2_ k_)∨w.heap.size≤k_)) (.slice A0_2 l0_2.length c0_2) l0_2 from Kd.V_mono hs0_2 (fun k_ hk=>.inl (.inr hk)))
 have HB:=aZ (Below.refl w.heap.size w)
 have H:=h
 unfold Y0v.f at H
 clear h
 obtain ⟨⟨t720,t721,t724⟩,A2,H⟩:=zB H
 (try dsimp only at H)
 obtain ⟨⟨t727,t728,t731⟩,A3,H⟩:=zB H
 (try dsimp only at H)
 obtain ⟨⟨t734,t735,t738⟩,A4,H⟩:=zB H
 (try dsimp only at H)
 obtain ⟨rfl,rfl,rfl⟩:=zo3 H
 go_enter func129,ntmps129
 try go_wp2_with (first|(refine box_ev 1 #[.bool a0_0,.slice A0_1 l0_1.length c0_1,.slice A0_2 l0_2.length c0_2] 103 ?_;intro gb718 hg w5 hbox hb;replace HO0_1:=yE HO0_1 hg hb;replace HO0_2:=yE HO0_2 hg hb;have BK718:=aZ hbox;have GE718:=sG hg;replace HB:=sB hb;clear hb hbox hg)|(refine box_ev 2 #[.bool false,.slice none 0 0,.slice none 0 0] 103 ?_;intro gb719 hg w6 hbox hb;replace HO0_1:=yE HO0_1 hg hb;replace HO0_2:=yE HO0_2 hg hb;have BK719:=aZ hbox;have GE719:=sG hg;replace HB:=sB hb;obtain ⟨NB718_719,NB719_718,BK718⟩:=sX hg hb BK718;clear hb hbox hg))
 replace HO0_1:=aZ (Kd.V_drew HO0_1.out)
 replace HO0_2:=aZ (Kd.V_drew HO0_2.out)
 replace BK718:=aZ (blk_drew BK718.out)
 replace BK719:=aZ (blk_drew BK719.out)
 replace HB:=aZ (below_drew1 HB.out)
 refine start_ (n:=5) (S:=fun w'=>w'.cell? ⟨gb718,0,none⟩=some (.bool a0_0)∧w'.cell? ⟨gb718,1,none⟩=some (.slice A0_1 l0_1.length c0_1)∧w'.cell? ⟨gb718,2,none⟩=some (.slice A0_2 l0_2.length c0_2)) (ds:=[]) #[false,false,false,false,false] (by kernel_rfl) rfl rfl ⟨zh BK718 0,zh BK718 1,zh BK718 2⟩ (fun hHeld=>?_)
 generalize w6.drew=w7 at HO0_1 HO0_2 BK718 BK719 HB hHeld ⊢
 refine tv 0 (some 3) hHeld ?_
 refine one_ (i:=1) (N:=some 4) #[true,true,false,false,false] rfl rfl (by kernel_rfl) (by decide) (fun K hK=>?_)
 refine goes_ func95 (by kernel_rfl) rfl #[.int .i64 1,.int .i64 2] (by rfl) rfl rfl zm ?_
 with_reducible refine (YP.calls k 1 2 t720 t721 t724 _ A2.out).mono ?_
 rintro e w8 ⟨v722,v725,rfl,ho0,ho1,hb⟩
 refine ⟨_,rfl,?_⟩
 replace HO0_1:=yV HO0_1 hb
 replace HO0_2:=yV HO0_2 hb
 have HO723:=yL (fun k_=>((P0_1_ k_∨P0_2_ k_)∨w.heap.size≤k_)∧k_≠gb718∧k_≠gb719) ho0 (fun k_ hk_=>⟨(.inr (Nat.le_trans bs hk_)),(zf BK718 hk_),(zf BK719 hk_)⟩)
 have HO726:=yL (fun k_=>((P0_1_ k_∨P0_2_ k_)∨w.heap.size≤k_)∧k_≠gb718∧k_≠gb719) ho1 (fun k_ hk_=>⟨(.inr (Nat.le_trans bs hk_)),(zf BK718 hk_),(zf BK719 hk_)⟩)
 replace BK718:=sK BK718 hb
 replace BK719:=sK BK719 hb
 replace HB:=sB hb
 clear hb ho0 ho1
 obtain ⟨Ao9,co9,eo9⟩:=Kd.V_slice HO723.out
 (first|subst eo9|(injection eo9 with f1_ f2_ f3_;have f4_:=f1_.symm;have f5_:=f3_.symm;clear f1_ f2_ f3_;subst f4_;subst f5_))
 obtain ⟨Ao10,co10,eo10⟩:=Kd.V_slice HO726.out
 (first|subst eo10|(injection eo10 with f1_ f2_ f3_;have f4_:=f1_.symm;have f5_:=f3_.symm;clear f1_ f2_ f3_;subst f4_;subst f5_))
 refine hK.out _ _ ⟨zh BK718 0,zh BK718 1,zh BK718 2⟩ (fun hHeld=>?_)
 clear hK K
 refine nm ?_
 refine one_ (i:=2) (N:=some 5) #[true,true,true,false,false] rfl rfl (by kernel_rfl) (by decide) (fun K hK=>?_)
 refine goes_ func117 (by kernel_rfl) rfl #[.agg #[.bool a0_0,.slice A0_1 l0_1.length c0_1,.slice A0_2 l0_2.length c0_2],.agg #[.bool t720,.slice Ao9 t721.length co9,.slice Ao10 t724.length co10]] (by rfl) rfl rfl zm ?_
 with_reducible refine (Ye.calls k a0_0 (fun k_=>((((P0_1_ k_∨P0_2_ k_)∨w.heap.size≤k_)∧k_≠gb718)∧k_≠gb719)) _ _ l0_1 (fun k_=>((((P0_1_ k_∨P0_2_ k_)∨w.heap.size≤k_)∧k_≠gb718)∧k_≠gb719)) _ _ l0_2 t720 (fun k_=>(((P0_1_ k_∨P0_2_ k_)∨w.heap.size≤k_)∧(k_≠gb718∧k_≠gb719))) _ _ t721 _ _ t724 t727 t728 t731 _ HO0_1.out HO0_2.out HO723.out (zC (Kd.V_reads' HO726.out).2.2) ((Kd.V_reads' HO726.out).2.1) A3.out).mono ?_
 rintro e w11 ⟨v729,v732,rfl,ho0,ho1,hb⟩
 refine ⟨_,rfl,?_⟩
 replace HO0_1:=yV HO0_1 hb
 replace HO0_2:=yV HO0_2 hb
 replace HO723:=yV HO723 hb
 replace HO726:=yV HO726 hb
 have HO730:=yL (fun k_=>((P0_1_ k_∨P0_2_ k_)∨w.heap.size≤k_)∧k_≠gb718∧k_≠gb719) ho0 (fun k_ hk_=>⟨Or.elim hk_ (fun hs_=>Or.elim hs_ (fun hs_=>hs_.1.1) (fun hs_=>Or.elim hs_ (fun hs_=>hs_.1.1) (fun hs_=>hs_.1))) (fun hn_=>(.inr (Nat.le_trans bs hn_))),Or.elim hk_ (fun hs_=>Or.elim hs_ (fun hs_=>hs_.1.2) (fun hs_=>Or.elim hs_ (fun hs_=>hs_.1.2) (fun hs_=>hs_.2.1))) (fun hn_=>(zf BK718 hn_)),Or.elim hk_ (fun hs_=>Or.elim hs_ (fun hs_=>hs_.2) (fun hs_=>Or.elim hs_ (fun hs_=>hs_.2) (fun hs_=>hs_.2.2))) (fun hn_=>(zf BK719 hn_))⟩)
 have HO733:=yL (fun k_=>((P0_1_ k_∨P0_2_ k_)∨w.heap.size≤k_)∧k_≠gb718∧k_≠gb719) ho1 (fun k_ hk_=>⟨Or.elim hk_ (fun hs_=>Or.elim hs_ (fun hs_=>hs_.1.1) (fun hs_=>Or.elim hs_ (fun hs_=>hs_.1.1) (fun hs_=>hs_.1))) (fun hn_=>(.inr (Nat.le_trans bs hn_))),Or.elim hk_ (fun hs_=>Or.elim hs_ (fun hs_=>hs_.1.2) (fun hs_=>Or.elim hs_ (fun hs_=>hs_.1.2) (fun hs_=>hs_.2.1))) (fun hn_=>(zf BK718 hn_)),Or.elim hk_ (fun hs_=>Or.elim hs_ (fun hs_=>hs_.2) (fun hs_=>Or.elim hs_ (fun hs_=>hs_.2) (fun hs_=>hs_.2.2))) (fun hn_=>(zf BK719 hn_))⟩)
 replace BK718:=sK BK718 hb
 replace BK719:=sK BK719 hb
 replace HB:=sB hb
 clear hb ho0 ho1
 obtain ⟨Ao12,co12,eo12⟩:=Kd.V_slice HO730.out
 (first|subst eo12|(injection eo12 with f1_ f2_ f3_;have f4_:=f1_.symm;have f5_:=f3_.symm;clear f1_ f2_ f3_;subst f4_;subst f5_))
 obtain ⟨Ao13,co13,eo13⟩:=Kd.V_slice HO733.out
 (first|subst eo13|(injection eo13 with f1_ f2_ f3_;have f4_:=f1_.symm;have f5_:=f3_.symm;clear f1_ f2_ f3_;subst f4_;subst f5_))
 refine hK.out _ _ ⟨zh BK718 0,zh BK718 1,zh BK718 2⟩ (fun hHeld=>?_)
 clear hK K
 refine nm ?_
 refine one_ (i:=3) (N:=some 6) #[true,true,true,true,false] rfl rfl (by kernel_rfl) (by decide) (fun K hK=>?_)
 refine goes_ func132 (by kernel_rfl) rfl #[.agg #[.bool t727,.slice Ao12 t728.length co12,.slice Ao13 t731.length co13]] (by rfl) rfl rfl zm ?_
 with_reducible refine (YT.calls k t727 _ _ t728 _ _ t731 t734 t735 t738 _ (zC (Kd.V_reads' HO730.out).2.2) ((Kd.V_reads' HO730.out).2.1) (zC (Kd.V_reads' HO733.out).2.2) ((Kd.V_reads' HO733.out).2.1) A4.out).mono ?_
 rintro e w14 ⟨v736,v739,rfl,ho0,ho1,hb⟩
 refine ⟨_,rfl,?_⟩
 replace HO0_1:=aZ (Kd.V_elder' (zV HO0_1) (Kd.R_base ho1) hb)
 replace HO0_2:=aZ (Kd.V_elder' (zV HO0_2) (Kd.R_base ho1) hb)
 replace HO723:=aZ (Kd.V_elder' (zV HO723) (Kd.R_base ho1) hb)
 replace HO726:=aZ (Kd.V_elder' (zV HO726) (Kd.R_base ho1) hb)
 replace HO730:=aZ (Kd.V_elder' (zV HO730) (Kd.R_base ho1) hb)
 replace HO733:=aZ (Kd.V_elder' (zV HO733) (Kd.R_base ho1) hb)
 have HO737:=yL (fun k_=>((P0_1_ k_∨P0_2_ k_)∨w.heap.size≤k_)∧some k_≠(v739:Value).ownBlock∧k_≠gb718∧k_≠gb719) ho0 (fun k_ hk_=>⟨(.inr (Nat.le_trans bs hk_.1)),hk_.2,(Kd.freshB (g:=gb718) (o:=.cells #[.bool a0_0,.slice A0_1 l0_1.length c0_1,.slice A0_2 l0_2.length c0_2] 103 (0,0)) (zb BK718) k_ hk_.1),(Kd.freshB (g:=gb719) (o:=.cells #[.bool false,.slice none 0 0,.slice none 0 0] 103 (0,0)) (zb BK719) k_ hk_.1)⟩)
 have HO740:=aZ (Kd.R_lower (Kd.R_newM (M:=fun k_=>(w.heap.size≤k_)) (Kd.R_mono (ok':=fun k_=>True) ho1 (fun _ hk_=>trivial)) bs (fun k_ h_=>h_)) bs)
 replace BK718:=sK BK718 hb
 replace BK719:=sK BK719 hb
 replace HB:=sB hb
 clear hb ho0 ho1
 obtain ⟨Ao16,co16,eo16⟩:=Kd.V_slice HO737.out
 (first|subst eo16|(injection eo16 with f1_ f2_ f3_;have f4_:=f1_.symm;have f5_:=f3_.symm;clear f1_ f2_ f3_;subst f4_;subst f5_))
 obtain ⟨Ao18,co18,eo18⟩:=Kd.R_slice HO740.out
 (first|subst eo18|(injection eo18 with f1_ f2_ f3_;have f4_:=f1_.symm;have f5_:=f3_.symm;clear f1_ f2_ f3_;subst f4_;subst f5_))
 refine hK.out _ _ ⟨zh BK718 0,zh BK718 1,zh BK718 2⟩ (fun hHeld=>?_)
 clear hK K
 refine nm ?_
 refine one_ (i:=4) (N:=none) #[true,true,true,true,true] rfl rfl (by kernel_rfl) (by decide) (fun K hK=>?_)
 have hs15:w14.cell? ⟨gb719,0,none⟩=some (.bool false):=(blk_cell BK719.out 0).trans rfl
 have hfs15:=blk_frozen BK719.out 0
 have hns15_0:=NB718_719.out
 have hms15_0:=NB719_718.out
 have hs17:w14.cell? ⟨gb719,1,none⟩=some (.slice none 0 0):=(blk_cell BK719.out 1).trans rfl
 have hfs17:=blk_frozen BK719.out 1
 have hns17_0:=NB718_719.out
 have hms17_0:=NB719_718.out
 have hs19:w14.cell? ⟨gb719,2,none⟩=some (.slice none 0 0):=(blk_cell BK719.out 2).trans rfl
 have hfs19:=blk_frozen BK719.out 2
 have hns19_0:=NB718_719.out
 have hms19_0:=NB719_718.out
 refine skip_ (w1:=?_) (by rfl) rfl ?_ ?_
 rotate_left
 ·go_simp
  rfl
 refine hK.out _ _ ⟨((cell_far (p:=⟨gb719,_,none⟩) NB718_719.out _).trans (((cell_far (p:=⟨gb719,_,none⟩) NB718_719.out _).trans (((cell_far (p:=⟨gb719,_,none⟩) NB718_719.out _).trans (hHeld.1)))))),((cell_far (p:=⟨gb719,_,none⟩) NB718_719.out _).trans (((cell_far (p:=⟨gb719,_,none⟩) NB718_719.out _).trans (((cell_far (p:=⟨gb719,_,none⟩) NB718_719.out _).trans (hHeld.2.1)))))),((cell_far (p:=⟨gb719,_,none⟩) NB718_719.out _).trans (((cell_far (p:=⟨gb719,_,none⟩) NB718_719.out _).trans (((cell_far (p:=⟨gb719,_,none⟩) NB718_719.out _).trans (hHeld.2.2))))))⟩ (fun hHeld=>?_)
 clear hK K
 refine done_ (by kernel_rfl) ?_
 try go_wp2
 refine bodyPost_ret (results_cell_row rfl _ _ gb719 103 #[.bool t734,.slice Ao16 t735.length co16,.slice Ao18 t738.length co18] (0,0) _ rfl (zp BK719) underlying103 rfl (by kernel_rfl)) rfl ?_
 exact ⟨_,_,ze,zF HO737,zF ⟨Kd.R_types HO740.out BK719.out (by decide)⟩,bw⟩
def Y01.f (k:Nat) (a0_0:ByteArray) (a0_1:ByteArray):Option (ByteArray×ByteArray×Int):=(Y8.f k a0_0 a0_1).bind fun t743=>(if t743=0 then ((YU.f k a0_0 a0_1).bind fun bt744=>((Y0v.f k bt744.1 bt744.2.1 bt744.2.2).bind fun bt751=>((Y03.f bt751.1 bt751.2.1 bt751.2.2).bind fun bt758=>(some (bt758.1,bt758.2,0))))) else (some ((⟨#[]⟩:ByteArray),(⟨#[]⟩:ByteArray),t743)))
theorem Y01.calls (k:Nat) (a0_0:ByteArray) (a0_1:ByteArray) (r1:ByteArray) (r2:ByteArray) (r3:Int) (w:World) (hG:Tryz.Gl w) (h:Y01.f k a0_0 a0_1=some (r1,r2,r3)) :
  Calls Tryz.prog 114 #[.agg #[.string a0_0,.string a0_1],.func (.func 129) #[] #[]] w fun e w'=>e = .returned (.tuple #[.agg #[.string r1,.string r2],.int .i64 r3])∧Below w.heap.size w w':=by
 have hu61:=underlying61
 have HG:=aZ hG
 clear hG
 have HB:=aZ (Below.refl w.heap.size w)
 have H:=h
 unfold Y01.f at H
 clear h
 obtain ⟨t743,A2,H⟩:=zB H
 by_cases c3:t743=0
 case neg=>
  rw [if_neg c3] at H
  obtain ⟨c3b0,c3b1⟩:=zX c3
  obtain ⟨rfl,rfl,rfl⟩:=zo3 H
  go_enter func114,ntmps114
  go_wp2_with (first|(refine box_ev 2 #[.string a0_0,.string a0_1] 61 ?_;intro gb741 hg w21 hbox hb;have BK741:=aZ hbox;have GE741:=sG hg;replace HB:=sB hb;clear hb hbox hg)|(refine box_ev 4 #[.string ⟨#[]⟩,.string ⟨#[]⟩] 61 ?_;intro gb742 hg w22 hbox hb;have BK742:=aZ hbox;have GE742:=sG hg;replace HB:=sB hb;obtain ⟨NB741_742,NB742_741,BK741⟩:=sX hg hb BK741;clear hb hbox hg;have hnb23:=NB741_742.out;have hnc23:=NB742_741.out;obtain ⟨hcz24_0,hfz24_0⟩:=zc BK741 0 (.string a0_0) rfl;obtain ⟨hcz24_1,hfz24_1⟩:=zc BK741 1 (.string a0_1) rfl)|(refine zg (some 8) func56 #[.agg #[.string a0_0,.string a0_1]] ?_;(with_reducible refine (Y8.calls k a0_0 a0_1 t743 _ A2.out).mono ?_);rintro e w25 ⟨rfl,hb⟩;refine ⟨_,rfl,?_⟩;replace BK741:=sK BK741 hb;replace BK742:=sK BK742 hb;replace HB:=sB hb;clear hb;obtain ⟨hcz26_0,hfz26_0⟩:=zc BK742 0 (.string ⟨#[]⟩) rfl;obtain ⟨hcz26_1,hfz26_1⟩:=zc BK742 1 (.string ⟨#[]⟩) rfl))
  refine bodyPost_ret (results_ct rfl _ _ gb742 61 #[.string ⟨#[]⟩,.string ⟨#[]⟩] (0,0) _ rfl (zp BK742) underlying61 rfl (by kernel_rfl)) rfl ?_
  exact ⟨ze,bw⟩
 rw [if_pos c3] at H
 obtain ⟨c3b0,c3b1⟩:=zY c3
 clear c3
 obtain ⟨⟨t744,t745,t748⟩,A4,H⟩:=zB H
 (try dsimp only at H)
 obtain ⟨⟨t751,t752,t755⟩,A5,H⟩:=zB H
 (try dsimp only at H)
 obtain ⟨⟨t758,t759⟩,A6,H⟩:=zB H
 (try dsimp only at H)
 obtain ⟨rfl,rfl,rfl⟩:=zo3 H
 go_enter func114,ntmps114
 go_wp2_with (first|(refine box_ev 2 #[.string a0_0,.string a0_1] 61 ?_;intro gb741 hg w7 hbox hb;have BK741:=aZ hbox;have GE741:=sG hg;replace HB:=sB hb;clear hb hbox hg)|(refine box_ev 4 #[.string ⟨#[]⟩,.string ⟨#[]⟩] 61 ?_;intro gb742 hg w8 hbox hb;have BK742:=aZ hbox;have GE742:=sG hg;replace HB:=sB hb;obtain ⟨NB741_742,NB742_741,BK741⟩:=sX hg hb BK741;clear hb hbox hg;have hnb9:=NB741_742.out;have hnc9:=NB742_741.out;obtain ⟨hcz10_0,hfz10_0⟩:=zc BK741 0 (.string a0_0) rfl;obtain ⟨hcz10_1,hfz10_1⟩:=zc BK741 1 (.string a0_1) rfl)|(refine zg (some 8) func56 #[.agg #[.string a0_0,.string a0_1]] ?_;(with_reducible refine (Y8.calls k a0_0 a0_1 t743 _ A2.out).mono ?_);rintro e w11 ⟨rfl,hb⟩;refine ⟨_,rfl,?_⟩;replace BK741:=sK BK741 hb;replace BK742:=sK BK742 hb;replace HB:=sB hb;clear hb;obtain ⟨hcz12_0,hfz12_0⟩:=zc BK741 0 (.string a0_0) rfl;obtain ⟨hcz12_1,hfz12_1⟩:=zc BK741 1 (.string a0_1) rfl)|(refine zg (some 15) func127 #[.agg #[.string a0_0,.string a0_1]] ?_;(with_reducible refine (YU.calls k a0_0 a0_1 t744 t745 t748 _ A4.out).mono ?_);rintro e w13 ⟨v746,v749,rfl,ho0,ho1,hb⟩;refine ⟨_,rfl,?_⟩;have HO747:=yL (fun k_=>k_≠gb741∧k_≠gb742) ho0 (fun k_ hk_=>⟨(zf BK741 hk_),(zf BK742 hk_)⟩);have HO750:=yL (fun k_=>k_≠gb741∧k_≠gb742) ho1 (fun k_ hk_=>⟨(zf BK741 hk_),(zf BK742 hk_)⟩);replace BK741:=sK BK741 hb;replace BK742:=sK BK742 hb;replace HB:=sB hb;clear hb ho0 ho1;obtain ⟨Ao14,co14,rfl⟩:=Kd.V_slice HO747.out;obtain ⟨Ao15,co15,rfl⟩:=Kd.V_slice HO750.out)|((with_reducible refine gate_tmp (t:=13) rfl ?_);refine goesT_ (some 16) rfl rfl (t:=13) (by rfl) func129 (by kernel_rfl) rfl #[.agg #[.bool t744,.slice Ao14 t745.length co14,.slice Ao15 t748.length co15]] rfl zm ?_;(with_reducible refine (Y0v.calls k t744 (fun k_=>(k_≠gb741∧k_≠gb742)) _ _ t745 (fun k_=>(k_≠gb741∧k_≠gb742)) _ _ t748 t751 t752 t755 _ HO747.out HO750.out A5.out).mono ?_);rintro e w16 ⟨v753,v756,rfl,ho0,ho1,hb⟩;refine ⟨_,rfl,?_⟩;replace HO747:=aZ (Kd.V_elder' (zV HO747) (Kd.R_base ho1) hb);replace HO750:=aZ (Kd.V_elder' (zV HO750) (Kd.R_base ho1) hb);have HO754:=yL (fun k_=>some k_≠(v756:Value).ownBlock∧k_≠gb741∧k_≠gb742) ho0 (fun k_ hk_=>⟨hk_.2,Or.elim hk_.1 (fun hs_=>Or.elim hs_ (fun hs_=>hs_.1) (fun hs_=>hs_.1)) (fun hn_=>(zf BK741 hn_)),Or.elim hk_.1 (fun hs_=>Or.elim hs_ (fun hs_=>hs_.2) (fun hs_=>hs_.2)) (fun hn_=>(zf BK742 hn_))⟩);have HO757:=aZ (Kd.R_lower (Kd.R_mono (ok':=fun k_=>True) ho1 (fun _ hk_=>trivial)) bs);replace BK741:=sK BK741 hb;replace BK742:=sK BK742 hb;replace HB:=sB hb;clear hb ho0 ho1;obtain ⟨Ao17,co17,rfl⟩:=Kd.V_slice HO754.out;obtain ⟨Ao18,co18,rfl⟩:=Kd.R_slice HO757.out)|(refine zg (some 17) func96 #[.agg #[.bool t751,.slice Ao17 t752.length co17,.slice Ao18 t755.length co18]] ?_;(with_reducible refine (Y03.calls t751 _ _ t752 _ _ t755 t758 t759 _ (zC (Kd.V_reads' HO754.out).2.2) ((Kd.V_reads' HO754.out).2.1) (zC (Kd.R_reads' HO757.out).2.2) ((Kd.R_reads' HO757.out).2.1) (Tryz.Gl.below HG.out bw) A6.out).mono ?_);rintro e w19 ⟨rfl,hb⟩;refine ⟨_,rfl,?_⟩;replace HO747:=yV HO747 hb;replace HO750:=yV HO750 hb;replace HO754:=yV HO754 hb;replace HO757:=yR HO757 hb;replace BK741:=sK BK741 hb;replace BK742:=sK BK742 hb;replace HB:=sB hb;clear hb;obtain ⟨hcz20_0,hfz20_0⟩:=zc BK742 0 (.string ⟨#[]⟩) rfl;obtain ⟨hcz20_1,hfz20_1⟩:=zc BK742 1 (.string ⟨#[]⟩) rfl))
 refine bodyPost_ret (results_ct rfl _ _ gb742 61 #[.string t758,.string t759] (0,0) _ rfl (zp BK742) underlying61 rfl (by kernel_rfl)) rfl ?_
 exact ⟨ze,bw⟩
def Y0r.f (k:Nat) (a0_0:ByteArray) (a0_1:ByteArray):Option (ByteArray×ByteArray×Int):=(Y01.f k a0_0 a0_1).bind fun bt762=>(some (bt762.1,bt762.2.1,bt762.2.2))
theorem Y0r.calls (k:Nat) (a0_0:ByteArray) (a0_1:ByteArray) (r1:ByteArray) (r2:ByteArray) (r3:Int) (w:World) (hG:Tryz.Gl w) (h:Y0r.f k a0_0 a0_1=some (r1,r2,r3)) :
  Calls Tryz.prog 82 #[.agg #[.string a0_0,.string a0_1]] w fun e w'=>e = .returned (.tuple #[.agg #[.string r1,.string r2],.int .i64 r3])∧Below w.heap.size w w':=by
 have hu61:=underlying61
 have HG:=aZ hG
 clear hG
 have HB:=aZ (Below.refl w.heap.size w)
 have H:=h
 unfold Y0r.f at H
 clear h
 obtain ⟨⟨t762,t763,t764⟩,A2,H⟩:=zB H
 (try dsimp only at H)
 obtain ⟨rfl,rfl,rfl⟩:=zo3 H
 go_enter func82,ntmps82
 go_wp2_with (first|(refine box_ev 1 #[.string a0_0,.string a0_1] 61 ?_;intro gb760 hg w3 hbox hb;have BK760:=aZ hbox;have GE760:=sG hg;replace HB:=sB hb;clear hb hbox hg)|(refine box_ev 2 #[.string ⟨#[]⟩,.string ⟨#[]⟩] 61 ?_;intro gb761 hg w4 hbox hb;have BK761:=aZ hbox;have GE761:=sG hg;replace HB:=sB hb;obtain ⟨NB760_761,NB761_760,BK760⟩:=sX hg hb BK760;clear hb hbox hg;have hnb5:=NB760_761.out;have hnc5:=NB761_760.out;obtain ⟨hcz6_0,hfz6_0⟩:=zc BK760 0 (.string a0_0) rfl;obtain ⟨hcz6_1,hfz6_1⟩:=zc BK760 1 (.string a0_1) rfl)|(refine zg (some 5) func114 #[.agg #[.string a0_0,.string a0_1],.func (.func 129) #[] #[]] ?_;(with_reducible refine (Y01.calls k a0_0 a0_1 t762 t763 t764 _ (Tryz.Gl.below HG.out bw) A2.out).mono ?_);rintro e w7 ⟨rfl,hb⟩;refine ⟨_,rfl,?_⟩;replace BK760:=sK BK760 hb;replace BK761:=sK BK761 hb;replace HB:=sB hb;clear hb;obtain ⟨hcz8_0,hfz8_0⟩:=zc BK761 0 (.string ⟨#[]⟩) rfl;obtain ⟨hcz8_1,hfz8_1⟩:=zc BK761 1 (.string ⟨#[]⟩) rfl))
 refine bodyPost_ret (results_ct rfl _ _ gb761 61 #[.string t762,.string t763] (0,0) _ rfl (zp BK761) underlying61 rfl (by kernel_rfl)) rfl ?_
 exact ⟨ze,bw⟩
def Y0q.f (a0:Int):Option (Bool):=if a0≥(-2147483648) then (some (decide (a0≤2147483647))) else (some false)
theorem Y0q.calls (a0:Int) (r:Bool) (w:World) (h:Y0q.f a0=some r) :
  Calls Tryz.prog 87 #[.int .i64 a0] w fun e w'=>e = .returned (.bool r)∧Drawn0 w w':=by
 have H:=h
 unfold Y0q.f at H
 clear h
 by_cases c2:a0≥(-2147483648)
 case neg=>
  rw [if_neg c2] at H
  have c2b0:=decide_eq_false c2
  clear c2
  obtain rfl:=Option.some.inj H
  go_enter func87,ntmps87
  go_wp2
  go_ret
  exact ⟨zs,by repeat (first|exact Drawn0.refl _|apply Drawn0.step)⟩
 rw [if_pos c2] at H
 have c2b0:=decide_eq_true c2
 clear c2
 obtain rfl:=Option.some.inj H
 go_enter func87,ntmps87
 go_wp2
 go_ret
 exact ⟨zs,by repeat (first|exact Drawn0.refl _|apply Drawn0.step)⟩
section
def Back.over (l:List Int):Bool:=(List.range l.length).any fun k=>decide (4611686018≤Back.acc (Back.seq l k))
def Back.low (pre:List (Int×Int)):Prop:=∀ k,k<pre.length→Back.acc (pre.take k)<4611686018
theorem Back.low_nil:Back.low []:=fun k hk=>absurd hk (Nat.not_lt_zero _)
theorem Back.low_snoc {pre:List (Int×Int)} (x:Int×Int) (h:Back.low pre) (hx:Back.acc pre<4611686018):Back.low (pre++[x]):=by
 intro k hk
 rw [List.length_append,List.length_singleton] at hk
 rcases Nat.lt_or_ge k pre.length with h1|h1
 ·rw [List.take_append_of_le_length (Nat.le_of_lt h1)];exact h k h1
 ·obtain rfl:k=pre.length:=by omega
  rw [List.take_append_of_le_length (Nat.le_refl _),List.take_length];exact hx
theorem Back.seq_take (l:List Int) {k n:Nat} (h:k≤n):(Back.seq l n).take k=Back.seq l k:=by
 unfold Back.seq;rw [← List.map_take,List.take_range,Nat.min_eq_left h]
theorem Back.over_of_low {l:List Int} (h:Back.low (Back.seq l l.length)):Back.over l=false:=by
 unfold Back.over
 rw [List.any_eq_false]
 intro k hk
 rw [List.mem_range] at hk
 have h1:=h k (by rw [Back.seq_length];exact hk)
 rw [Back.seq_take l (Nat.le_of_lt hk)] at h1
 simp only [decide_eq_true_eq];omega
theorem Back.over_of_high {l:List Int} {k:Nat} (hk:k≤l.length) {pre:List (Int×Int)} {x:Int×Int} (e:pre++[x]=Back.seq l k) (h:4611686018≤Back.acc pre):Back.over l=true:=by
 have hl:pre.length+1=k:=by have:=congrArg List.length e;rw [Back.seq_length,List.length_append,List.length_singleton] at this;exact this
 have hp:pre=Back.seq l pre.length:=by
  have:=congrArg (List.take pre.length) e
  rw [List.take_append_of_le_length (Nat.le_refl _),List.take_length,Back.seq_take l (by omega)] at this
  exact this
 unfold Back.over
 rw [List.any_eq_true]
 exact ⟨pre.length,List.mem_range.2 (by omega),by rw [← hp];exact decide_eq_true h⟩
def Y0h.f (l0:List Int):Option (Int×Bool):=some (if (3:Int)<(l0.length:Int) then (0,false) else if Back.over l0 then (0,false) else (wrap64 (Back.wideW l0),decide (Back.wideW l0<4611686018427387904)))
attribute [local go_sem] Oper.semAt_some
set_option maxHeartbeats 4000000 in
set_option maxRecDepth 100000 in
theorem Y0h.calls (A0:Option Addr) (c0:Nat) (l0:List Int) (r1:Int) (r2:Bool) (w:World) (hr0:Kd.C (Kd.int .u32) w A0 l0.length l0) (hc0:l0.length≤c0) (h:Y0h.f l0=some (r1,r2)) :
  Calls Tryz.prog 156 #[.slice A0 l0.length c0] w fun e w'=>e = .returned (.tuple #[.int .i64 r1,.bool r2])∧Below w.heap.size w w':=by
 unfold Y0h.f at h
 have hres:=Option.some.inj h
 clear h
 refine (callsIn_wide (n:=3)).1 ?_
 have h1:1≤3:=by omega
 refine callsIn_of_wp_marks func156 rfl trivial ?_ rfl
 simp only [ntmps156,List.size_toArray,List.length_cons,List.length_nil,Nat.reduceAdd,Nat.reduceSub,Array.replicate_succ,Array.replicate_zero,List.push_toArray,List.append_toArray,List.nil_append,List.cons_append]
 have HC:=aZ hr0
 have HE:=aZ hres
 clear hr0 hres hc0
 by_cases c0':(3:Int)<(l0.length:Int)
 ·have c0b:=decide_eq_true c0'
  have hE:=HE.out
  rw [if_pos c0'] at hE
  gi_wp2_with (fail)
  have b0:=Boxed.new w 3 (.int .i64 0)
  have b1:=Boxed.new (w.alloc (.cells #[.int .i64 0] 3)) 4 (.bool false)
  simp only [World.size_alloc] at b1
  have q0:=(b0.alloc (.cells #[.bool false] 4)).cell
  have q1:=b1.cell
  cases hE
  refine ⟨.tuple #[.int .i64 0,.bool false],?_,rfl,((Below.refl _ w).alloc (Nat.le_refl _) _).alloc (by simp) _⟩
  simp [results,Tryz.f156,go_sem,q0,q1]
 have c0b:=decide_eq_false c0'
 gi_wp2_with (fail)
 refine ⟨trivial,?_⟩
 refine (Back.back_in _ 2 trivial rfl _ _ _ _).mono ?_
 rintro e w1 ⟨rfl,rfl⟩
 gi_wp2
 have b0:=Boxed.new w 3 (.int .i64 0)
 have b1:=Boxed.new (w.alloc (.cells #[.int .i64 0] 3)) 4 (.bool false)
 have b2:=Boxed.new ((w.alloc (.cells #[.int .i64 0] 3)).alloc (.cells #[.bool false] 4)) 95 (.int .u64 0)
 have b3:=Boxed.new (((w.alloc (.cells #[.int .i64 0] 3)).alloc (.cells #[.bool false] 4)).alloc (.cells #[.int .u64 0] 95)) 101 (.slice A0 l0.length c0)
 simp only [World.size_alloc] at b1 b2 b3
 have hB0:Below w.heap.size w ((((w.alloc (.cells #[.int .i64 0] 3)).alloc (.cells #[.bool false] 4)).alloc (.cells #[.int .u64 0] 95)).alloc (.cells #[.slice A0 l0.length c0] 101)) :=
  ((((Below.refl _ w).alloc (Nat.le_refl _) _).alloc (by simp) _).alloc (by simp;omega) _).alloc (by simp;omega) _
 refine wpIn_rangeFunc_ownG rfl h1 (gf:=204) (lb:=#[.pointer (some ⟨w.heap.size+1+1+1,0,none⟩)]) rfl trivial (enters_of func204 (by kernel_rfl) rfl)
  (Back.back_stops Fence.wide (3-1) trivial rfl (by omega) (w.heap.size+1+1+1) w.heap.size c0 A0 l0 w _ HC.out rfl (by simp;omega) hB0 (by simp) b3.cell) Back.Keep.trans (Back.Keep.put (by simp;omega)) (Below.refl _ _) (fun _=>rfl)
  (fun pre W=>(((Back.low pre∧Boxed W w.heap.size 3 (.int .i64 0))∧Boxed W (w.heap.size+1) 4 (.bool false))∧Boxed W (w.heap.size+1+1) 95 (.int .u64 (Back.acc pre)))∧Below w.heap.size w W)
  (fun c pre W=>(((c = .ret∧∃ p x,p++[x]=pre∧4611686018≤Back.acc p)∧Boxed W w.heap.size 3 (.int .i64 0))∧Boxed W (w.heap.size+1) 4 (.bool false))∧Below w.heap.size w W)
  (OwnFrom.and (OwnFrom.and (OwnFrom.and (OwnFrom.and (ownFrom_pure _ _) (Own.from (boxed_own _ _ _) _)) (Own.from (boxed_own _ _ _) _)) (Own.from (boxed_own _ _ _) _)) (ownFrom_below (Nat.le_refl _) (by simp;omega)))
  (fun c=>OwnFrom.and (OwnFrom.and (OwnFrom.and (ownFrom_pure _ _) (Own.from (boxed_own _ _ _) _)) (Own.from (boxed_own _ _ _) _)) (ownFrom_below (Nat.le_refl _) (by simp;omega)))
  ⟨⟨⟨⟨Back.low_nil,((b0.alloc _).alloc _).alloc _⟩,(b1.alloc _).alloc _⟩,b2.alloc _⟩,hB0⟩
  (fun x=>{ tmps:=#[.slice A0 l0.length c0,undef,.pointer (some ⟨w.heap.size,0,none⟩),.pointer (some ⟨w.heap.size+1,0,none⟩),.pointer (some ⟨w.heap.size+1+1,0,none⟩),undef,.int .u32 x.2,.slice A0 l0.length c0,.int .i64 l0.length,.bool false,.slice A0 l0.length c0,.func (.func 204) #[] #[.pointer (some ⟨w.heap.size+1+1+1,0,none⟩)],.int .i64 x.1,.int .u32 x.2,undef,undef,undef,undef,undef,undef,undef,undef,undef,undef,undef],defers:=[] }) ?assign ?body ?done ?stop
 case assign =>
  intro l x W K hK
  gi_wp2
  exact hK
 case body =>
  rintro l pre x W ⟨⟨⟨⟨hlow,k0⟩,k1⟩,k2⟩,hB⟩ _
  have q2:=k2.cell
  have q0:=k0.cell
  have q1:=k1.cell
  have f0:=k0.frozen
  have f1:=k1.frozen
  have f2:=k2.frozen
  by_cases hx:4611686018≤Back.acc pre
  case neg=>
   have hxb:=decide_eq_false hx
   gi_wp2
   refine ⟨(KeepsOthers.setCell _ _ _).from _,⟨(Below.refl w.heap.size W).setCell (p:=⟨w.heap.size+1+1,0,none⟩) (by simp;omega) _,fun v e=>?_⟩,⟨⟨⟨Back.low_snoc x hlow (by omega),k0.other (by omega) _⟩,k1.other (by omega) _⟩,?_⟩,hB.setCell (p:=⟨w.heap.size+1+1,0,none⟩) (by simp;omega) _⟩
   ·rw [← e];exact World.cell?_of_block (Below.heap_setCell W ⟨w.heap.size+1+1,0,none⟩ _ (w.heap.size+1+1+1) (by simp))
   ·rw [Back.acc_snoc];exact k2.set _
  have hxb:=decide_eq_true hx
  gi_wp2
  refine ⟨((KeepsOthers.setCell _ _ _).from _).trans ((KeepsOthers.setCell _ _ _).from _),⟨⟨⟨rfl,pre,x,rfl,hx⟩,(k0.set _).other (by omega) _⟩,(k1.other (by omega) _).set _⟩,(hB.setCell (p:=⟨w.heap.size,0,none⟩) (Nat.le_refl _) _).setCell (p:=⟨w.heap.size+1,0,none⟩) (by simp) _⟩
 case done =>
  rintro D ys W hD rfl ⟨⟨⟨⟨hlow,k0⟩,k1⟩,k2⟩,hB⟩ hK
  have q2:=k2.cell
  have q0:=k0.cell
  have q1:=k1.cell
  have f0:=k0.frozen
  have f1:=k1.frozen
  have hE:=HE.out
  rw [if_neg (by omega),if_neg (by rw [Back.over_of_low hlow];decide)] at hE
  cases hE
  rw [Back.acc_all] at q2
  gi_wp2
  gi_region
  gi_wp2
  have hK':(((W.setCell ⟨w.heap.size,0,none⟩ (.int .i64 (wrap64 (Back.wideW l0)))).setCell ⟨w.heap.size+1,0,none⟩ (.bool (decide (Back.wideW l0<4611686018427387904)))).drew).heap[D]? = some (.deferred (some [])) :=
   (KeepsOthers.setCell (W.setCell ⟨w.heap.size,0,none⟩ (.int .i64 (wrap64 (Back.wideW l0)))) ⟨w.heap.size+1,0,none⟩ (.bool (decide (Back.wideW l0<4611686018427387904)))).same D _ ((KeepsOthers.setCell W ⟨w.heap.size,0,none⟩ (.int .i64 (wrap64 (Back.wideW l0)))).same D _ hK rfl) rfl
  refine ⟨by simp,.inl ⟨_,_,rfl,run_takeDeferred hK',?_⟩⟩
  have y0:Boxed (((W.setCell ⟨w.heap.size,0,none⟩ (.int .i64 (wrap64 (Back.wideW l0)))).setCell ⟨w.heap.size+1,0,none⟩ (.bool (decide (Back.wideW l0<4611686018427387904)))).drew) w.heap.size 3 (.int .i64 (wrap64 (Back.wideW l0))) :=
   (k0.set (.int .i64 (wrap64 (Back.wideW l0)))).other (B':=w.heap.size+1) (by omega) (.bool (decide (Back.wideW l0<4611686018427387904)))
  have y1:Boxed (((W.setCell ⟨w.heap.size,0,none⟩ (.int .i64 (wrap64 (Back.wideW l0)))).setCell ⟨w.heap.size+1,0,none⟩ (.bool (decide (Back.wideW l0<4611686018427387904)))).drew) (w.heap.size+1) 4 (.bool (decide (Back.wideW l0<4611686018427387904))) :=
   (k1.other (B':=w.heap.size) (by omega) (.int .i64 (wrap64 (Back.wideW l0)))).set (.bool (decide (Back.wideW l0<4611686018427387904)))
  have e0:=cell_kept y0.cell (grownBy_putObj' _ D (.deferred none)) (fun r e=>by cases e;exact ⟨_,hK',rfl⟩)
  have e1:=cell_kept y1.cell (grownBy_putObj' _ D (.deferred none)) (fun r e=>by cases e;exact ⟨_,hK',rfl⟩)
  refine ⟨.tuple #[.int .i64 (wrap64 (Back.wideW l0)),.bool (decide (Back.wideW l0<4611686018427387904))],?_,rfl,((hB.setCell (p:=⟨w.heap.size,0,none⟩) (Nat.le_refl _) _).setCell (p:=⟨w.heap.size+1,0,none⟩) (by simp) _).drew.trans (belowK_b (w:=w) (Nat.le_refl _) _ D _ _ (by simp at hD;omega) hK' rfl rfl)⟩
  simp [results,Tryz.f156,go_sem,e0,e1]
 case stop =>
  rintro D c pre W hD ⟨k,hk,hp⟩ ⟨⟨⟨⟨rfl,p,x,he,hx⟩,k0⟩,k1⟩,hB⟩ hK
  have hE:=HE.out
  rw [if_neg (by omega),if_pos (Back.over_of_high hk (he.trans hp) hx)] at hE
  cases hE
  gi_wp2
  refine ⟨by simp,.inl ⟨_,_,rfl,run_takeDeferred hK,?_⟩⟩
  have e0:=cell_kept k0.cell (grownBy_putObj' _ D (.deferred none)) (fun r e=>by cases e;exact ⟨_,hK,rfl⟩)
  have e1:=cell_kept k1.cell (grownBy_putObj' _ D (.deferred none)) (fun r e=>by cases e;exact ⟨_,hK,rfl⟩)
  refine ⟨.tuple #[.int .i64 0,.bool false],?_,rfl,hB.trans (belowK_b (w:=w) (Nat.le_refl _) W D _ _ (by simp at hD;omega) hK rfl rfl)⟩
  simp [results,Tryz.f156,go_sem,e0,e1]
end
def Y0l.f (a0_0:Bool) (l0_1:List Int) (l0_2:List Int):Option (Bool):=(YH.f l0_2).bind fun t766=>(some t766)
theorem Y0l.calls (a0_0:Bool) (A0_1:Option Addr) (c0_1:Nat) (l0_1:List Int) (A0_2:Option Addr) (c0_2:Nat) (l0_2:List Int) (r:Bool) (w:World) (hr0_1:Kd.C (Kd.int .u32) w A0_1 l0_1.length l0_1) (hc0_1:l0_1.length≤c0_1) (hr0_2:Kd.C (Kd.int .u32) w A0_2 l0_2.length l0_2) (hc0_2:l0_2.length≤c0_2) (h:Y0l.f a0_0 l0_1 l0_2=some r) :
  Calls Tryz.prog 157 #[.agg #[.bool a0_0,.slice A0_1 l0_1.length c0_1,.slice A0_2 l0_2.length c0_2]] w fun e w'=>e = .returned (.bool r)∧Below w.heap.size w w':=by
 have hu103:=underlying103
 have HR0_1:=aZ hr0_1
 have HC0_1:=aZ hc0_1
 clear hr0_1 hc0_1
 have HR0_2:=aZ hr0_2
 have HC0_2:=aZ hc0_2
 clear hr0_2 hc0_2
 have HB:=aZ (Below.refl w.heap.size w)
 have H:=h
 unfold Y0l.f at H
 clear h
 obtain ⟨t766,A2,H⟩:=zB H
 obtain rfl:=Option.some.inj H
 go_enter func157,ntmps157
 go_wp2_with (first|(refine box_ev 1 #[.bool a0_0,.slice A0_1 l0_1.length c0_1,.slice A0_2 l0_2.length c0_2] 103 ?_;intro gb765 hg w3 hbox hb;have BK765:=aZ hbox;have GE765:=sG hg;replace HB:=sB hb;clear hb hbox hg;obtain ⟨hcz4_0,hfz4_0⟩:=zc BK765 0 (.bool a0_0) rfl;obtain ⟨hcz4_1,hfz4_1⟩:=zc BK765 1 (.slice A0_1 l0_1.length c0_1) rfl;obtain ⟨hcz4_2,hfz4_2⟩:=zc BK765 2 (.slice A0_2 l0_2.length c0_2) rfl)|(refine zg (some 5) func109 #[.slice A0_2 l0_2.length c0_2] ?_;(with_reducible refine (YH.calls _ _ l0_2 t766 _ (zC (Kd.C_below HR0_2.out HB.out)) HC0_2.out A2.out).mono ?_);rintro e w' ⟨rfl,⟨nd,rfl⟩⟩;refine ⟨_,rfl,?_⟩))
 go_ret
 exact ⟨ze,bw⟩
def YG.j0:Nat→Int→Bool→Bool→List Int→List Int→Option (Int×Bool)
 | 0,_,_,_,_,_=>none
 | k+1,x4,x18,x768000,x768001,x768002=>if x18=true then (some (0,false)) else (if x768000=true then (some (wrap64 (-x4),true)) else (some (x4,true)))
def YG.f (k:Nat) (a0_0:Bool) (l0_1:List Int) (l0_2:List Int):Option (Int×Bool):=(Y0h.f l0_1).bind fun bt768=>(if bt768.2=true then ((Y0l.f a0_0 l0_1 l0_2).bind fun t770=>(YG.j0 k bt768.1 (!t770) a0_0 l0_1 l0_2)) else (YG.j0 k bt768.1 true a0_0 l0_1 l0_2))
theorem YG.calls (k:Nat) (a0_0:Bool) (A0_1:Option Addr) (c0_1:Nat) (l0_1:List Int) (A0_2:Option Addr) (c0_2:Nat) (l0_2:List Int) (r1:Int) (r2:Bool) (w:World) (hr0_1:Kd.C (Kd.int .u32) w A0_1 l0_1.length l0_1) (hc0_1:l0_1.length≤c0_1) (hr0_2:Kd.C (Kd.int .u32) w A0_2 l0_2.length l0_2) (hc0_2:l0_2.length≤c0_2) (h:YG.f k a0_0 l0_1 l0_2=some (r1,r2)) :
  Calls Tryz.prog 130 #[.agg #[.bool a0_0,.slice A0_1 l0_1.length c0_1,.slice A0_2 l0_2.length c0_2]] w fun e w'=>e = .returned (.tuple #[.int .i64 r1,.bool r2])∧Below w.heap.size w w':=by
 have hu103:=underlying103
 have HR0_1:=aZ hr0_1
 have HC0_1:=aZ hc0_1
 clear hr0_1 hc0_1
 have HR0_2:=aZ hr0_2
 have HC0_2:=aZ hc0_2
 clear hr0_2 hc0_2
 have HB:=aZ (Below.refl w.heap.size w)
 have H:=h
 unfold YG.f at H
 clear h
 obtain ⟨⟨t768,t769⟩,A2,H⟩:=zB H
 (try dsimp only at H)
 have HC3:=aZ H
 clear H
 go_enter func130,ntmps130
 go_upto_region 2 with (first|(refine box_ev 1 #[.bool a0_0,.slice A0_1 l0_1.length c0_1,.slice A0_2 l0_2.length c0_2] 103 ?_;intro gb767 hg w4 hbox hb;have BK767:=aZ hbox;have GE767:=sG hg;replace HB:=sB hb;clear hb hbox hg;obtain ⟨hcz5_0,hfz5_0⟩:=zc BK767 0 (.bool a0_0) rfl;obtain ⟨hcz5_1,hfz5_1⟩:=zc BK767 1 (.slice A0_1 l0_1.length c0_1) rfl;obtain ⟨hcz5_2,hfz5_2⟩:=zc BK767 2 (.slice A0_2 l0_2.length c0_2) rfl)|(refine zg (some 9) func156 #[.slice A0_1 l0_1.length c0_1] ?_;(with_reducible refine (Y0h.calls _ _ l0_1 t768 t769 _ (zC (Kd.C_below HR0_1.out HB.out)) HC0_1.out A2.out).mono ?_);rintro e w6 ⟨rfl,hb⟩;refine ⟨_,rfl,?_⟩;replace BK767:=sK BK767 hb;replace HB:=sB hb;clear hb))
 (try simp only [Act.put,List.setIfInBounds_toArray,List.set_cons_zero,List.set_cons_succ])
 go_cut [18] (fun v18 wc=>∃ (kq:Nat) (x18_2:Bool),v18 = .bool x18_2∧Aside0 (YG.j0 kq t768 x18_2 a0_0 l0_1 l0_2=some (r1,r2))∧Aside0 (kq≤k)∧Aside0 (wc.heap[gb767]? = some (.cells #[.bool a0_0,(.slice A0_1 l0_1.length c0_1),(.slice A0_2 l0_2.length c0_2)] 103 (0,0)))∧Aside0 (Below w.heap.size w wc))
 case first =>
  have H:=HC3.out
  clear HC3
  by_cases c7:t769=true
  case neg=>
   replace c7:=Bool.eq_false_iff.mpr c7
   subst c7
   replace H:=zU H
   have H':=aZ H
   clear H
   go_wp2
   go_meet
   case rel=>exact ⟨_,(true),zs,H',⟨by first|omega|exact Nat.le_refl _⟩,⟨zb BK767⟩,⟨bw⟩⟩
  subst c7
  replace H:=zT H
  obtain ⟨t770,A8,H⟩:=zB H
  have H':=aZ H
  clear H
  obtain ⟨hcz9_0,hfz9_0⟩:=zc BK767 0 (.bool a0_0) rfl
  obtain ⟨hcz9_1,hfz9_1⟩:=zc BK767 1 (.slice A0_1 l0_1.length c0_1) rfl
  obtain ⟨hcz9_2,hfz9_2⟩:=zc BK767 2 (.slice A0_2 l0_2.length c0_2) rfl
  go_wp2_with (first|(go_at_call 157;(with_reducible refine (Y0l.calls a0_0 _ _ l0_1 _ _ l0_2 t770 _ (zC (Kd.C_below HR0_1.out HB.out)) HC0_1.out (zC (Kd.C_below HR0_2.out HB.out)) HC0_2.out A8.out).mono ?_);rintro e w10 ⟨rfl,hb⟩;replace BK767:=sK BK767 hb;replace HB:=sB hb;clear hb))
  go_meet
  case rel=>exact ⟨_,(!t770),zs,H',⟨by first|omega|exact Nat.le_refl _⟩,⟨zb BK767⟩,⟨bw⟩⟩
 case rest =>
  clear HC3
  obtain ⟨kq,x18_2,rfl,HA,HJ2,BK767,HB⟩:=hcut
  cases kq with
  | zero=>exact absurd HA.out (by simp [YG.j0])
  | succ kj2 =>
   have H:=HA.out
   clear HA
   simp only [YG.j0] at H
   by_cases c11:x18_2=true
   case neg=>
    replace c11:=Bool.eq_false_iff.mpr c11
    subst c11
    replace H:=zU H
    by_cases c12:a0_0=true
    case neg=>
     replace c12:=Bool.eq_false_iff.mpr c12
     subst c12
     replace H:=zU H
     obtain ⟨rfl,rfl⟩:=zo2 H
     obtain ⟨hcz14_0,hfz14_0⟩:=zc BK767 0 (.bool false) rfl
     obtain ⟨hcz14_1,hfz14_1⟩:=zc BK767 1 (.slice A0_1 l0_1.length c0_1) rfl
     obtain ⟨hcz14_2,hfz14_2⟩:=zc BK767 2 (.slice A0_2 l0_2.length c0_2) rfl
     go_wp2
     go_ret2
     exact ⟨ze,bw⟩
    subst c12
    replace H:=zT H
    obtain ⟨rfl,rfl⟩:=zo2 H
    obtain ⟨hcz13_0,hfz13_0⟩:=zc BK767 0 (.bool true) rfl
    obtain ⟨hcz13_1,hfz13_1⟩:=zc BK767 1 (.slice A0_1 l0_1.length c0_1) rfl
    obtain ⟨hcz13_2,hfz13_2⟩:=zc BK767 2 (.slice A0_2 l0_2.length c0_2) rfl
    go_wp2
    go_ret2
    exact ⟨ze,bw⟩
   subst c11
   replace H:=zT H
   obtain ⟨rfl,rfl⟩:=zo2 H
   go_wp2
   go_ret2
   exact ⟨ze,bw⟩
def Y0s.f (k:Nat) (a0_0:ByteArray) (a0_1:ByteArray):Option (Int×Bool×Int):=(Y8.f k a0_0 a0_1).bind fun t772=>(if t772=0 then ((YU.f k a0_0 a0_1).bind fun bt773=>((YG.f k bt773.1 bt773.2.1 bt773.2.2).bind fun bt780=>(if bt780.2=true then ((Y0q.f bt780.1).bind fun t782=>(if t782=true then (some (bt780.1,true,0)) else (some (0,false,0)))) else (some (0,false,0))))) else (some (0,false,t772)))
theorem Y0s.calls (k:Nat) (a0_0:ByteArray) (a0_1:ByteArray) (r1:Int) (r2:Bool) (r3:Int) (w:World) (h:Y0s.f k a0_0 a0_1=some (r1,r2,r3)) :
  Calls Tryz.prog 83 #[.agg #[.string a0_0,.string a0_1]] w fun e w'=>e = .returned (.tuple #[.int .i64 r1,.bool r2,.int .i64 r3])∧Below w.heap.size w w':=by
 have hu61:=underlying61
 have HB:=aZ (Below.refl w.heap.size w)
 have H:=h
 unfold Y0s.f at H
 clear h
 obtain ⟨t772,A2,H⟩:=zB H
 by_cases c3:t772=0
 case neg=>
  rw [if_neg c3] at H
  obtain ⟨c3b0,c3b1⟩:=zX c3
  obtain ⟨rfl,rfl,rfl⟩:=zo3 H
  go_enter func83,ntmps83
  go_wp2_with (first|(refine box_ev 1 #[.string a0_0,.string a0_1] 61 ?_;intro gb771 hg w33 hbox hb;have BK771:=aZ hbox;have GE771:=sG hg;replace HB:=sB hb;clear hb hbox hg;obtain ⟨hcz34_0,hfz34_0⟩:=zc BK771 0 (.string a0_0) rfl;obtain ⟨hcz34_1,hfz34_1⟩:=zc BK771 1 (.string a0_1) rfl)|(refine zg (some 9) func56 #[.agg #[.string a0_0,.string a0_1]] ?_;(with_reducible refine (Y8.calls k a0_0 a0_1 t772 _ A2.out).mono ?_);rintro e w35 ⟨rfl,hb⟩;refine ⟨_,rfl,?_⟩;replace BK771:=sK BK771 hb;replace HB:=sB hb;clear hb))
  go_ret3
  exact ⟨ze,bw⟩
 rw [if_pos c3] at H
 obtain ⟨c3b0,c3b1⟩:=zY c3
 clear c3
 obtain ⟨⟨t773,t774,t777⟩,A4,H⟩:=zB H
 (try dsimp only at H)
 obtain ⟨⟨t780,t781⟩,A5,H⟩:=zB H
 (try dsimp only at H)
 by_cases c6:t781=true
 case neg=>
  replace c6:=Bool.eq_false_iff.mpr c6
  subst c6
  replace H:=zU H
  obtain ⟨rfl,rfl,rfl⟩:=zo3 H
  go_enter func83,ntmps83
  go_wp2_with (first|(refine box_ev 1 #[.string a0_0,.string a0_1] 61 ?_;intro gb771 hg w25 hbox hb;have BK771:=aZ hbox;have GE771:=sG hg;replace HB:=sB hb;clear hb hbox hg;obtain ⟨hcz26_0,hfz26_0⟩:=zc BK771 0 (.string a0_0) rfl;obtain ⟨hcz26_1,hfz26_1⟩:=zc BK771 1 (.string a0_1) rfl)|(refine zg (some 9) func56 #[.agg #[.string a0_0,.string a0_1]] ?_;(with_reducible refine (Y8.calls k a0_0 a0_1 t772 _ A2.out).mono ?_);rintro e w27 ⟨rfl,hb⟩;refine ⟨_,rfl,?_⟩;replace BK771:=sK BK771 hb;replace HB:=sB hb;clear hb;obtain ⟨hcz28_0,hfz28_0⟩:=zc BK771 0 (.string a0_0) rfl;obtain ⟨hcz28_1,hfz28_1⟩:=zc BK771 1 (.string a0_1) rfl)|(refine zg (some 15) func127 #[.agg #[.string a0_0,.string a0_1]] ?_;(with_reducible refine (YU.calls k a0_0 a0_1 t773 t774 t777 _ A4.out).mono ?_);rintro e w29 ⟨v775,v778,rfl,ho0,ho1,hb⟩;refine ⟨_,rfl,?_⟩;have HO776:=yL (fun k_=>k_≠gb771) ho0 (fun k_ hk_=>(zf BK771 hk_));have HO779:=yL (fun k_=>k_≠gb771) ho1 (fun k_ hk_=>(zf BK771 hk_));replace BK771:=sK BK771 hb;replace HB:=sB hb;clear hb ho0 ho1;obtain ⟨Ao30,co30,rfl⟩:=Kd.V_slice HO776.out;obtain ⟨Ao31,co31,rfl⟩:=Kd.V_slice HO779.out)|(refine zg (some 16) func130 #[.agg #[.bool t773,.slice Ao30 t774.length co30,.slice Ao31 t777.length co31]] ?_;(with_reducible refine (YG.calls k t773 _ _ t774 _ _ t777 t780 false _ (zC (Kd.V_reads' HO776.out).2.2) ((Kd.V_reads' HO776.out).2.1) (zC (Kd.V_reads' HO779.out).2.2) ((Kd.V_reads' HO779.out).2.1) A5.out).mono ?_);rintro e w32 ⟨rfl,hb⟩;refine ⟨_,rfl,?_⟩;replace HO776:=yV HO776 hb;replace HO779:=yV HO779 hb;replace BK771:=sK BK771 hb;replace HB:=sB hb;clear hb))
  go_ret3
  exact ⟨ze,bw⟩
 subst c6
 replace H:=zT H
 obtain ⟨t782,A7,H⟩:=zB H
 by_cases c8:t782=true
 case neg=>
  replace c8:=Bool.eq_false_iff.mpr c8
  subst c8
  replace H:=zU H
  obtain ⟨rfl,rfl,rfl⟩:=zo3 H
  go_enter func83,ntmps83
  go_wp2_with (first|(refine box_ev 1 #[.string a0_0,.string a0_1] 61 ?_;intro gb771 hg w17 hbox hb;have BK771:=aZ hbox;have GE771:=sG hg;replace HB:=sB hb;clear hb hbox hg;obtain ⟨hcz18_0,hfz18_0⟩:=zc BK771 0 (.string a0_0) rfl;obtain ⟨hcz18_1,hfz18_1⟩:=zc BK771 1 (.string a0_1) rfl)|(refine zg (some 9) func56 #[.agg #[.string a0_0,.string a0_1]] ?_;(with_reducible refine (Y8.calls k a0_0 a0_1 t772 _ A2.out).mono ?_);rintro e w19 ⟨rfl,hb⟩;refine ⟨_,rfl,?_⟩;replace BK771:=sK BK771 hb;replace HB:=sB hb;clear hb;obtain ⟨hcz20_0,hfz20_0⟩:=zc BK771 0 (.string a0_0) rfl;obtain ⟨hcz20_1,hfz20_1⟩:=zc BK771 1 (.string a0_1) rfl)|(refine zg (some 15) func127 #[.agg #[.string a0_0,.string a0_1]] ?_;(with_reducible refine (YU.calls k a0_0 a0_1 t773 t774 t777 _ A4.out).mono ?_);rintro e w21 ⟨v775,v778,rfl,ho0,ho1,hb⟩;refine ⟨_,rfl,?_⟩;have HO776:=yL (fun k_=>k_≠gb771) ho0 (fun k_ hk_=>(zf BK771 hk_));have HO779:=yL (fun k_=>k_≠gb771) ho1 (fun k_ hk_=>(zf BK771 hk_));replace BK771:=sK BK771 hb;replace HB:=sB hb;clear hb ho0 ho1;obtain ⟨Ao22,co22,rfl⟩:=Kd.V_slice HO776.out;obtain ⟨Ao23,co23,rfl⟩:=Kd.V_slice HO779.out)|(refine zg (some 16) func130 #[.agg #[.bool t773,.slice Ao22 t774.length co22,.slice Ao23 t777.length co23]] ?_;(with_reducible refine (YG.calls k t773 _ _ t774 _ _ t777 t780 true _ (zC (Kd.V_reads' HO776.out).2.2) ((Kd.V_reads' HO776.out).2.1) (zC (Kd.V_reads' HO779.out).2.2) ((Kd.V_reads' HO779.out).2.1) A5.out).mono ?_);rintro e w24 ⟨rfl,hb⟩;refine ⟨_,rfl,?_⟩;replace HO776:=yV HO776 hb;replace HO779:=yV HO779 hb;replace BK771:=sK BK771 hb;replace HB:=sB hb;clear hb)|(go_at_call 87;(with_reducible refine (Y0q.calls t780 false _ A7.out).mono ?_);rintro e w' ⟨rfl,⟨nd,rfl⟩⟩))
  go_ret3
  exact ⟨ze,bw⟩
 subst c8
 replace H:=zT H
 obtain ⟨rfl,rfl,rfl⟩:=zo3 H
 go_enter func83,ntmps83
 go_wp2_with (first|(refine box_ev 1 #[.string a0_0,.string a0_1] 61 ?_;intro gb771 hg w9 hbox hb;have BK771:=aZ hbox;have GE771:=sG hg;replace HB:=sB hb;clear hb hbox hg;obtain ⟨hcz10_0,hfz10_0⟩:=zc BK771 0 (.string a0_0) rfl;obtain ⟨hcz10_1,hfz10_1⟩:=zc BK771 1 (.string a0_1) rfl)|(refine zg (some 9) func56 #[.agg #[.string a0_0,.string a0_1]] ?_;(with_reducible refine (Y8.calls k a0_0 a0_1 t772 _ A2.out).mono ?_);rintro e w11 ⟨rfl,hb⟩;refine ⟨_,rfl,?_⟩;replace BK771:=sK BK771 hb;replace HB:=sB hb;clear hb;obtain ⟨hcz12_0,hfz12_0⟩:=zc BK771 0 (.string a0_0) rfl;obtain ⟨hcz12_1,hfz12_1⟩:=zc BK771 1 (.string a0_1) rfl)|(refine zg (some 15) func127 #[.agg #[.string a0_0,.string a0_1]] ?_;(with_reducible refine (YU.calls k a0_0 a0_1 t773 t774 t777 _ A4.out).mono ?_);rintro e w13 ⟨v775,v778,rfl,ho0,ho1,hb⟩;refine ⟨_,rfl,?_⟩;have HO776:=yL (fun k_=>k_≠gb771) ho0 (fun k_ hk_=>(zf BK771 hk_));have HO779:=yL (fun k_=>k_≠gb771) ho1 (fun k_ hk_=>(zf BK771 hk_));replace BK771:=sK BK771 hb;replace HB:=sB hb;clear hb ho0 ho1;obtain ⟨Ao14,co14,rfl⟩:=Kd.V_slice HO776.out;obtain ⟨Ao15,co15,rfl⟩:=Kd.V_slice HO779.out)|(refine zg (some 16) func130 #[.agg #[.bool t773,.slice Ao14 t774.length co14,.slice Ao15 t777.length co15]] ?_;(with_reducible refine (YG.calls k t773 _ _ t774 _ _ t777 t780 true _ (zC (Kd.V_reads' HO776.out).2.2) ((Kd.V_reads' HO776.out).2.1) (zC (Kd.V_reads' HO779.out).2.2) ((Kd.V_reads' HO779.out).2.1) A5.out).mono ?_);rintro e w16 ⟨rfl,hb⟩;refine ⟨_,rfl,?_⟩;replace HO776:=yV HO776 hb;replace HO779:=yV HO779 hb;replace BK771:=sK BK771 hb;replace HB:=sB hb;clear hb)|(go_at_call 87;(with_reducible refine (Y0q.calls t780 true _ A7.out).mono ?_);rintro e w' ⟨rfl,⟨nd,rfl⟩⟩))
 go_ret3
 exact ⟨ze,bw⟩
section
def Y0w.f (a0:ByteArray):Option (Int×Option Int):=if a0.size≤281474976710656 then (match Lib.atoiAll a0.data.toList with
 | .ok n=>some (n,none)
 | .range=>some (Lib.atoiSat a0.data.toList,some 0)
 | _=>none) else none
def ErrLike:Option Int→Value→Prop
 | none,v=>v = .nilIface
 | some _,v=>∃ te pe,v = .iface te pe
theorem Y0w.calls (a0:ByteArray) (r1:Int) (r2:Option Int) (w:World) (hG:Tryz.Gl w) (h:Y0w.f a0=some (r1,r2)) :
  Calls Tryz.prog 133 #[.string a0] w fun e w'=>∃ ev,ErrLike r2 ev∧e = .returned (.tuple #[.int .i64 r1,ev])∧Below w.heap.size w w':=by
 unfold Y0w.f at h
 by_cases c:a0.size≤281474976710656
 case neg=>rw [if_neg c] at h;cases h
 rw [if_pos c] at h
 cases hp:Lib.atoiAll a0.data.toList with
 | ok n =>
  rw [hp] at h
  simp only [Option.some.injEq,Prod.mk.injEq] at h
  obtain ⟨rfl,rfl⟩:=h
  refine (Tryz.strconv_Atoi_ok a0 (by omega) n hp w).mono ?_
  rintro e w' ⟨rfl,hw⟩
  refine ⟨_,rfl,rfl,?_⟩
  rcases hw with rfl|⟨t,rfl⟩
  ·exact Below.refl _ _
  ·exact Lib.bytesWorld_below _ _ _
 | range =>
  rw [hp] at h
  simp only [Option.some.injEq,Prod.mk.injEq] at h
  obtain ⟨rfl,rfl⟩:=h
  obtain ⟨tp,p,hv⟩:=hG.2
  refine (Tryz.strconv_Atoi_range_var a0 c hp tp p w hv).mono ?_
  rintro e w' ⟨N,rfl,_,_,hb⟩
  exact ⟨_,⟨_,_,rfl⟩,rfl,hb⟩
 | _=>rw [hp] at h;cases h
def Yq.j0:Nat→Int→Bool→Bool→List Int→List Int→Option (Int×Bool)
 | 0,_,_,_,_,_=>none
 | k+1,x5,x34,x784000,x784001,x784002=>if x34=true then (some (0,false)) else (if x784000=true then (some (wrap64 (-x5),true)) else (some (x5,true)))
def Yq.f (k:Nat) (a0_0:Bool) (l0_1:List Int) (l0_2:List Int):Option (Int×Bool):=(YE.f l0_1).bind fun t784=>((Y0w.f t784).bind fun bt785=>(if bt785.2.isNone=true then (if (t784.size:Int)>18 then (Yq.j0 k bt785.1 true a0_0 l0_1 l0_2) else (if (l0_2.length:Int)=1 then (if 0<(l0_2.length:Int) then (Yq.j0 k bt785.1 ((rd l0_2 0) != 1) a0_0 l0_1 l0_2) else (none)) else (Yq.j0 k bt785.1 true a0_0 l0_1 l0_2))) else (Yq.j0 k bt785.1 true a0_0 l0_1 l0_2)))
theorem Yq.calls (k:Nat) (a0_0:Bool) (A0_1:Option Addr) (c0_1:Nat) (l0_1:List Int) (A0_2:Option Addr) (c0_2:Nat) (l0_2:List Int) (r1:Int) (r2:Bool) (w:World) (hr0_1:Kd.C (Kd.int .i64) w A0_1 l0_1.length l0_1) (hc0_1:l0_1.length≤c0_1) (hr0_2:Kd.C (Kd.int .i64) w A0_2 l0_2.length l0_2) (hc0_2:l0_2.length≤c0_2) (hG:Tryz.Gl w) (h:Yq.f k a0_0 l0_1 l0_2=some (r1,r2)) :
  Calls Tryz.prog 84 #[.agg #[.bool a0_0,.slice A0_1 l0_1.length c0_1,.slice A0_2 l0_2.length c0_2]] w fun e w'=>e = .returned (.tuple #[.int .i64 r1,.bool r2])∧Below w.heap.size w w':=by
 have hu67:=underlying67
 have hu132:=underlying132
 have HG:=aZ hG
 clear hG
 have HR0_1:=aZ hr0_1
 have HC0_1:=aZ hc0_1
 clear hr0_1 hc0_1
 have HR0_2:=aZ hr0_2
 have HC0_2:=aZ hc0_2
 clear hr0_2 hc0_2
 have HB:=aZ (Below.refl w.heap.size w)
 have H:=h
 unfold Yq.f at H
 clear h
 obtain ⟨t784,A2,H⟩:=zB H
 obtain ⟨⟨t785,t786⟩,A3,H⟩:=zB H
 (try dsimp only at H)
 have HC4:=aZ H
 clear H
 go_enter func84,ntmps84
 go_upto_region 3 with (first|((with_reducible refine gate_dst (N:=1) rfl ?_);(try (refine gate_guard (by rfl) ?_;dsimp only));refine box_ev 1 #[.bool a0_0,.slice A0_1 l0_1.length c0_1,.slice A0_2 l0_2.length c0_2] 67 ?_;intro gb783 hg w5 hbox hb;have BK783:=aZ hbox;have GE783:=sG hg;replace HB:=sB hb;clear hb hbox hg;obtain ⟨hcz6_0,hfz6_0⟩:=zc BK783 0 (.bool a0_0) rfl;obtain ⟨hcz6_1,hfz6_1⟩:=zc BK783 1 (.slice A0_1 l0_1.length c0_1) rfl;obtain ⟨hcz6_2,hfz6_2⟩:=zc BK783 2 (.slice A0_2 l0_2.length c0_2) rfl)|(refine zg (some 9) func100 #[.slice A0_1 l0_1.length c0_1] ?_;(with_reducible refine (YE.calls _ _ l0_1 t784 _ (zC (Kd.C_below HR0_1.out HB.out)) HC0_1.out (Tryz.Gl.below HG.out bw) A2.out).mono ?_);rintro e w7 ⟨rfl,hb⟩;refine ⟨_,rfl,?_⟩;replace BK783:=sK BK783 hb;replace HB:=sB hb;clear hb)|(refine zg (some 12) func133 #[.string t784] ?_;(with_reducible refine (Y0w.calls t784 t785 t786 _ ?sideE A3.out).mono ?_);(case sideE=>exact Tryz.Gl.below HG.out bw);rintro e w8 ⟨ev,hev,rfl,hb⟩;have HEV:=aZ hev;clear hev;refine ⟨_,rfl,?_⟩;replace BK783:=sK BK783 hb;replace HB:=sB hb;clear hb;(try simp only [errW_none,errW_some])))
 (try simp only [Act.put,List.setIfInBounds_toArray,List.set_cons_zero,List.set_cons_succ])
 go_cut [34] (fun v34 wc=>∃ (kq:Nat) (x34_3:Bool),v34 = .bool x34_3∧Aside0 (Yq.j0 kq t785 x34_3 a0_0 l0_1 l0_2=some (r1,r2))∧Aside0 (kq≤k)∧Aside0 (wc.heap[gb783]? = some (.cells #[.bool a0_0,(.slice A0_1 l0_1.length c0_1),(.slice A0_2 l0_2.length c0_2)] 67 (0,0)))∧Aside0 (Below w.heap.size w wc))
 case first =>
  have H:=HC4.out
  clear HC4
  rcases t786 with _|q787
  ·have H1:(if (t784.size:Int)>18 then (Yq.j0 k t785 true a0_0 l0_1 l0_2) else (if (l0_2.length:Int)=1 then (if 0<(l0_2.length:Int) then (Yq.j0 k t785 ((rd l0_2 0) != 1) a0_0 l0_1 l0_2) else (none)) else (Yq.j0 k t785 true a0_0 l0_1 l0_2)))=some (r1,r2):=by rw [if_pos (show (none:Option Int).isNone=true by rfl)] at H;exact H
   clear H
   have H:=H1
   clear H1
   obtain rfl:ev = .nilIface:=HEV.out
   by_cases c9:(t784.size:Int)>18
   case neg=>
    rw [if_neg c9] at H
    have c9b0:=decide_eq_false c9
    have c9b1:decide (18<t784.size)=false:=decide_eq_false (by omega)
    clear c9
    (first|rw [c9b0]|(simp only [i64_w,i32_w];rw [c9b0])|skip)
    by_cases c10:(l0_2.length:Int)=1
    case neg=>
     rw [if_neg c10] at H
     obtain ⟨c10b0,c10b1⟩:=zX c10
     have H':=aZ H
     clear H
     obtain ⟨hcz13_0,hfz13_0⟩:=zc BK783 0 (.bool a0_0) rfl
     obtain ⟨hcz13_1,hfz13_1⟩:=zc BK783 1 (.slice A0_1 l0_1.length c0_1) rfl
     obtain ⟨hcz13_2,hfz13_2⟩:=zc BK783 2 (.slice A0_2 l0_2.length c0_2) rfl
     go_wp2
     go_meet
     case rel=>exact ⟨_,(true),zs,H',⟨by first|omega|exact Nat.le_refl _⟩,⟨zb BK783⟩,⟨bw⟩⟩
    rw [if_pos c10] at H
    obtain ⟨c10b0,c10b1⟩:=zY c10
    clear c10
    by_cases c11:0<(l0_2.length:Int)
    case neg=>
     rw [if_neg c11] at H
     cases H
    rw [if_pos c11] at H
    have c11b0:=decide_eq_true c11
    have c11b1:decide (0<l0_2.length)=true:=decide_eq_true (by omega)
    clear c11
    have H':=aZ H
    clear H
    obtain ⟨hcz12_0,hfz12_0⟩:=zc BK783 0 (.bool a0_0) rfl
    obtain ⟨hcz12_1,hfz12_1⟩:=zc BK783 1 (.slice A0_1 l0_1.length c0_1) rfl
    obtain ⟨hcz12_2,hfz12_2⟩:=zc BK783 2 (.slice A0_2 l0_2.length c0_2) rfl
    have p788:0≤(0:Int):=(by omega)
    have q788:0<(l0_2.length:Int):=zd
    obtain ⟨ad788,e788,hx788_0⟩:=Kd.at_int HR0_2.out 0 p788 q788
    cases e788
    have qi788:(0<l0_2.length)=True:=eq_true (by omega)
    (try rw [show ((0:Int)).toNat=0 from rfl] at hx788_0)
    (try rw [Addr.add_zero'] at hx788_0)
    replace hx788_0:=(HB.out.cell (World.block_lt_of_cell? w _ hx788_0)).trans hx788_0
    replace p788:=eq_true p788
    replace q788:=eq_true q788
    go_wp2
    go_meet
    case rel=>exact ⟨_,(((rd l0_2 0) != 1)),zs,H',⟨by first|omega|exact Nat.le_refl _⟩,⟨zb BK783⟩,⟨bw⟩⟩
   rw [if_pos c9] at H
   have c9b0:=decide_eq_true c9
   have c9b1:decide (18<t784.size)=true:=decide_eq_true (by omega)
   clear c9
   (first|rw [c9b0]|(simp only [i64_w,i32_w];rw [c9b0])|skip)
   have H':=aZ H
   clear H
   go_wp2
   go_meet
   case rel=>exact ⟨_,(true),zs,H',⟨by first|omega|exact Nat.le_refl _⟩,⟨zb BK783⟩,⟨bw⟩⟩
  ·have H1:(Yq.j0 k t785 true a0_0 l0_1 l0_2)=some (r1,r2):=by rw [if_neg (show ¬ (some q787).isNone=true by simp)] at H;exact H
   clear H
   have H:=H1
   clear H1
   obtain ⟨te,pe,rfl⟩:∃ te pe,ev = .iface te pe:=HEV.out
   have H':=aZ H
   clear H
   go_wp2
   go_meet
   case rel=>exact ⟨_,(true),zs,H',⟨by first|omega|exact Nat.le_refl _⟩,⟨zb BK783⟩,⟨bw⟩⟩
 case rest =>
  clear HC4
  obtain ⟨kq,x34_3,rfl,HA,HJ3,BK783,HB⟩:=hcut
  cases kq with
  | zero=>exact absurd HA.out (by simp [Yq.j0])
  | succ kj3 =>
   have H:=HA.out
   clear HA
   simp only [Yq.j0] at H
   by_cases c14:x34_3=true
   case neg=>
    replace c14:=Bool.eq_false_iff.mpr c14
    subst c14
    replace H:=zU H
    by_cases c15:a0_0=true
    case neg=>
     replace c15:=Bool.eq_false_iff.mpr c15
     subst c15
     replace H:=zU H
     obtain ⟨rfl,rfl⟩:=zo2 H
     obtain ⟨hcz17_0,hfz17_0⟩:=zc BK783 0 (.bool false) rfl
     obtain ⟨hcz17_1,hfz17_1⟩:=zc BK783 1 (.slice A0_1 l0_1.length c0_1) rfl
     obtain ⟨hcz17_2,hfz17_2⟩:=zc BK783 2 (.slice A0_2 l0_2.length c0_2) rfl
     go_wp2
     go_ret2
     exact ⟨ze,bw⟩
    subst c15
    replace H:=zT H
    obtain ⟨rfl,rfl⟩:=zo2 H
    obtain ⟨hcz16_0,hfz16_0⟩:=zc BK783 0 (.bool true) rfl
    obtain ⟨hcz16_1,hfz16_1⟩:=zc BK783 1 (.slice A0_1 l0_1.length c0_1) rfl
    obtain ⟨hcz16_2,hfz16_2⟩:=zc BK783 2 (.slice A0_2 l0_2.length c0_2) rfl
    go_wp2
    go_ret2
    exact ⟨ze,bw⟩
   subst c14
   replace H:=zT H
   obtain ⟨rfl,rfl⟩:=zo2 H
   go_wp2
   go_ret2
   exact ⟨ze,bw⟩
end
def Yw.j0:Nat→List Int→Bool→Bool→List Int→List Int→Option (Bool×List Int×List Int)
 | 0,_,_,_,_,_=>none
 | k+1,x3,x19,x784000,x784001,x784002=>if x19=true then ((Y7.f k 1).bind fun t791=>((Ya.f k x3 t791 1).bind fun t794=>(if x784000=true then ((Y7.f k 1).bind fun t797=>(some (decide (0<t794.length),t794,t797))) else ((Y7.f k 1).bind fun t800=>(some (false,t794,t800)))))) else (if x784000=true then ((Y7.f k 1).bind fun t803=>(some (decide (0<x3.length),x3,t803))) else ((Y7.f k 1).bind fun t806=>(some (false,x3,t806))))
def Yw.f (k:Nat) (a0_0:Bool) (l0_1:List Int) (l0_2:List Int):Option (Bool×List Int×List Int):=(Y2.f k l0_1 l0_2).bind fun bt785=>(if a0_0=true then (Yw.j0 k bt785.1 (decide (0<bt785.2.length)) a0_0 l0_1 l0_2) else (Yw.j0 k bt785.1 false a0_0 l0_1 l0_2))
theorem Yw.calls (k:Nat) (a0_0:Bool) (P0_1_:Nat→Prop) (A0_1:Option Addr) (c0_1:Nat) (l0_1:List Int) (A0_2:Option Addr) (c0_2:Nat) (l0_2:List Int) (r1:Bool) (r2:List Int) (r3:List Int) (w:World) (hs0_1:Kd.V (Kd.int .i64) 3 w w.heap.size (fun k_=>P0_1_ k_) (.slice A0_1 l0_1.length c0_1) l0_1) (hr0_2:Kd.C (Kd.int .i64) w A0_2 l0_2.length l0_2) (hc0_2:l0_2.length≤c0_2) (h:Yw.f k a0_0 l0_1 l0_2=some (r1,r2,r3)) :
  Calls Tryz.prog 85 #[.agg #[.bool a0_0,.slice A0_1 l0_1.length c0_1,.slice A0_2 l0_2.length c0_2]] w fun e w'=>∃ v1_ v2_:Value,e = .returned (.agg #[.bool r1,v1_,v2_])∧Kd.V (Kd.int .i64) 3 w' w.heap.size (fun k_=>(P0_1_ k_∨w.heap.size≤k_)∧some k_≠(v2_:Value).ownBlock) v1_ r2∧Kd.R (Kd.int .i64) 3 w' w.heap.size (fun k_=>(w.heap.size≤k_)) v2_ r3∧Below w.heap.size w w':=by
 have hu67:=underlying67
 have HO0_1:=aZ (show Kd.V (Kd.int .i64) 3 w w.heap.size (fun k_=>(P0_1_ k_∨w.heap.size≤k_)) (.slice A0_1 l0_1.length c0_1) l0_1 from Kd.V_mono hs0_1 (fun k_ hk=>.inl hk))
 have HR0_2:=aZ hr0_2
 have HC0_2:=aZ hc0_2
 clear hr0_2 hc0_2
 have HB:=aZ (Below.refl w.heap.size w)
 have H:=h
 unfold Yw.f at H
 clear h
 obtain ⟨⟨t785,t788⟩,A2,H⟩:=zB H
 (try dsimp only at H)
 have HC3:=aZ H
 clear H
 go_enter func85,ntmps85
 go_upto_region 2 with (first|((with_reducible refine gate_dst (N:=1) rfl ?_);(try (refine gate_guard (by rfl) ?_;dsimp only));refine box_ev 1 #[.bool a0_0,.slice A0_1 l0_1.length c0_1,.slice A0_2 l0_2.length c0_2] 67 ?_;intro gb783 hg w4 hbox hb;replace HO0_1:=yE HO0_1 hg hb;have BK783:=aZ hbox;have GE783:=sG hg;replace HB:=sB hb;clear hb hbox hg)|((with_reducible refine gate_dst (N:=2) rfl ?_);(try (refine gate_guard (by rfl) ?_;dsimp only));refine box_ev 2 #[.bool false,.slice none 0 0,.slice none 0 0] 67 ?_;intro gb784 hg w5 hbox hb;replace HO0_1:=yE HO0_1 hg hb;have BK784:=aZ hbox;have GE784:=sG hg;replace HB:=sB hb;obtain ⟨NB783_784,NB784_783,BK783⟩:=sX hg hb BK783;clear hb hbox hg;have hnb6:=NB783_784.out;have hnc6:=NB784_783.out;obtain ⟨hcz7_0,hfz7_0⟩:=zc BK783 0 (.bool a0_0) rfl;obtain ⟨hcz7_1,hfz7_1⟩:=zc BK783 1 (.slice A0_1 l0_1.length c0_1) rfl;obtain ⟨hcz7_2,hfz7_2⟩:=zc BK783 2 (.slice A0_2 l0_2.length c0_2) rfl)|(refine zg (some 10) func134 #[.slice A0_1 l0_1.length c0_1,.slice A0_2 l0_2.length c0_2] ?_;(with_reducible refine (Y2.calls k (fun k_=>(((P0_1_ k_∨w.heap.size≤k_)∧k_≠gb783)∧k_≠gb784)) _ _ l0_1 _ _ l0_2 t785 t788 _ HO0_1.out (zC (Kd.C_below HR0_2.out HB.out)) HC0_2.out A2.out).mono ?_);rintro e w8 ⟨v786,v789,rfl,ho0,ho1,hb⟩;refine ⟨_,rfl,?_⟩;replace HO0_1:=yV HO0_1 hb;have HO787:=yL (fun k_=>(P0_1_ k_∨w.heap.size≤k_)∧k_≠gb783∧k_≠gb784) ho0 (fun k_ hk_=>⟨Or.elim hk_ (fun hs_=>hs_.1.1) (fun hn_=>(.inr (Nat.le_trans bs hn_))),Or.elim hk_ (fun hs_=>hs_.1.2) (fun hn_=>(zf BK783 hn_)),Or.elim hk_ (fun hs_=>hs_.2) (fun hn_=>(zf BK784 hn_))⟩);have HO790:=yL (fun k_=>(P0_1_ k_∨w.heap.size≤k_)∧k_≠gb783∧k_≠gb784) ho1 (fun k_ hk_=>⟨Or.elim hk_ (fun hs_=>hs_.1.1) (fun hn_=>(.inr (Nat.le_trans bs hn_))),Or.elim hk_ (fun hs_=>hs_.1.2) (fun hn_=>(zf BK783 hn_)),Or.elim hk_ (fun hs_=>hs_.2) (fun hn_=>(zf BK784 hn_))⟩);replace BK783:=sK BK783 hb;replace BK784:=sK BK784 hb;replace HB:=sB hb;clear hb ho0 ho1))
 (try simp only [Act.put,List.setIfInBounds_toArray,List.set_cons_zero,List.set_cons_succ])
 go_cut [19] (fun v19 wc=>∃ (kq:Nat) (x19_2:Bool),v19 = .bool x19_2∧Aside0 (Yw.j0 kq t785 x19_2 a0_0 l0_1 l0_2=some (r1,r2,r3))∧Aside0 (kq≤k)∧Aside0 (Kd.V (Kd.int .i64) 3 wc w.heap.size (fun k_=>(P0_1_ k_∨w.heap.size≤k_)∧k_≠gb783∧k_≠gb784) v786 t785)∧Aside0 (Kd.V (Kd.int .i64) 3 wc w.heap.size (fun k_=>(P0_1_ k_∨w.heap.size≤k_)∧k_≠gb783∧k_≠gb784) (.slice A0_1 l0_1.length c0_1) l0_1)∧Aside0 (wc.heap[gb783]? = some (.cells #[.bool a0_0,(.slice A0_1 l0_1.length c0_1),(.slice A0_2 l0_2.length c0_2)] 67 (0,0)))∧Aside0 (wc.heap[gb784]? = some (.cells #[.bool false,(.slice none 0 0),(.slice none 0 0)] 67 (0,0)))∧Aside0 (Below w.heap.size w wc))
 case first =>
  have H:=HC3.out
  clear HC3
  by_cases c9:a0_0=true
  case neg=>
   replace c9:=Bool.eq_false_iff.mpr c9
   subst c9
   replace H:=zU H
   have H':=aZ H
   clear H
   have hnb13:=NB783_784.out
   have hnc13:=NB784_783.out
   obtain ⟨hcz14_0,hfz14_0⟩:=zc BK783 0 (.bool false) rfl
   obtain ⟨hcz14_1,hfz14_1⟩:=zc BK783 1 (.slice A0_1 l0_1.length c0_1) rfl
   obtain ⟨hcz14_2,hfz14_2⟩:=zc BK783 2 (.slice A0_2 l0_2.length c0_2) rfl
   go_wp2
   go_meet
   case rel=>exact ⟨_,(false),zs,H',⟨by first|omega|exact Nat.le_refl _⟩,⟨zV HO787⟩,⟨vM HO0_1 (fun _ hk=>⟨hk.1.1,⟨hk.1.2,hk.2⟩⟩)⟩,⟨zb BK783⟩,⟨zb BK784⟩,⟨bw⟩⟩
  subst c9
  replace H:=zT H
  have H':=aZ H
  clear H
  have hnb10:=NB783_784.out
  have hnc10:=NB784_783.out
  obtain ⟨hcz11_0,hfz11_0⟩:=zc BK783 0 (.bool true) rfl
  obtain ⟨hcz11_1,hfz11_1⟩:=zc BK783 1 (.slice A0_1 l0_1.length c0_1) rfl
  obtain ⟨hcz11_2,hfz11_2⟩:=zc BK783 2 (.slice A0_2 l0_2.length c0_2) rfl
  obtain ⟨Ao12,co12,rfl⟩:=Kd.V_slice HO790.out
  go_wp2
  go_meet
  case rel=>exact ⟨_,(decide (0<t788.length)),zs,H',⟨by first|omega|exact Nat.le_refl _⟩,⟨zV HO787⟩,⟨vM HO0_1 (fun _ hk=>⟨hk.1.1,⟨hk.1.2,hk.2⟩⟩)⟩,⟨zb BK783⟩,⟨zb BK784⟩,⟨bw⟩⟩
 case rest =>
  clear HC3
  obtain ⟨kq,x19_2,rfl,HA,HJ2,HO_3,HO_784001,BK783,BK784,HB⟩:=hcut
  cases kq with
  | zero=>exact absurd HA.out (by simp [Yw.j0])
  | succ kj2 =>
   have H:=HA.out
   clear HA
   simp only [Yw.j0] at H
   by_cases c15:x19_2=true
   case neg=>
    replace c15:=Bool.eq_false_iff.mpr c15
    subst c15
    replace H:=zU H
    by_cases c41:a0_0=true
    case neg=>
     replace c41:=Bool.eq_false_iff.mpr c41
     subst c41
     replace H:=zU H
     obtain ⟨t806,A49,H⟩:=zB H
     obtain ⟨rfl,rfl,rfl⟩:=zo3 H
     have hnb50:=NB783_784.out
     have hnc50:=NB784_783.out
     obtain ⟨hcz51_0,hfz51_0⟩:=zc BK783 0 (.bool false) rfl
     obtain ⟨hcz51_1,hfz51_1⟩:=zc BK783 1 (.slice A0_1 l0_1.length c0_1) rfl
     obtain ⟨hcz51_2,hfz51_2⟩:=zc BK783 2 (.slice A0_2 l0_2.length c0_2) rfl
     go_wp2_with (first|(refine zg (some 31) func98 #[.int .u64 1] ?_;(with_reducible refine (Y7.calls kj2 1 t806 _ A49.out).mono ?_);rintro e w52 ⟨v807,rfl,ho0,hb⟩;refine ⟨_,rfl,?_⟩;replace HO_3:=aZ (Kd.V_elder' (zV HO_3) (Kd.R_base ho0) hb);replace HO_784001:=aZ (Kd.V_elder' (zV HO_784001) (Kd.R_base ho0) hb);have HO808:=aZ (Kd.R_lower (Kd.R_newM (M:=fun k_=>(w.heap.size≤k_)) ho0 bs (fun k_ h_=>h_)) bs);replace BK783:=sK BK783 hb;replace BK784:=sK BK784 hb;replace HB:=sB hb;clear hb ho0;obtain ⟨Ao53,co53,rfl⟩:=Kd.R_slice HO808.out;obtain ⟨Ao54,co54,rfl⟩:=Kd.V_slice HO_3.out;obtain ⟨hcz55_0,hfz55_0⟩:=zc BK784 0 (.bool false) rfl;obtain ⟨hcz55_1,hfz55_1⟩:=zc BK784 1 (.slice none 0 0) rfl;obtain ⟨hcz55_2,hfz55_2⟩:=zc BK784 2 (.slice none 0 0) rfl))
     refine bodyPost_ret (results_cell_row rfl _ _ gb784 67 #[.bool false,.slice Ao54 t785.length co54,.slice Ao53 t806.length co53] (0,0) _ rfl (zp BK784) underlying67 rfl (by kernel_rfl)) rfl ?_
     exact ⟨_,_,ze,zF HO_3,zF ⟨Kd.R_types HO808.out BK784.out (by decide)⟩,bw⟩
    subst c41
    replace H:=zT H
    obtain ⟨t803,A42,H⟩:=zB H
    obtain ⟨rfl,rfl,rfl⟩:=zo3 H
    have hnb43:=NB783_784.out
    have hnc43:=NB784_783.out
    obtain ⟨hcz44_0,hfz44_0⟩:=zc BK783 0 (.bool true) rfl
    obtain ⟨hcz44_1,hfz44_1⟩:=zc BK783 1 (.slice A0_1 l0_1.length c0_1) rfl
    obtain ⟨hcz44_2,hfz44_2⟩:=zc BK783 2 (.slice A0_2 l0_2.length c0_2) rfl
    obtain ⟨Ao45,co45,rfl⟩:=Kd.V_slice HO_3.out
    go_wp2_with (first|(refine zg (some 31) func98 #[.int .u64 1] ?_;(with_reducible refine (Y7.calls kj2 1 t803 _ A42.out).mono ?_);rintro e w46 ⟨v804,rfl,ho0,hb⟩;refine ⟨_,rfl,?_⟩;replace HO_3:=aZ (Kd.V_elder' (zV HO_3) (Kd.R_base ho0) hb);replace HO_784001:=aZ (Kd.V_elder' (zV HO_784001) (Kd.R_base ho0) hb);have HO805:=aZ (Kd.R_lower (Kd.R_newM (M:=fun k_=>(w.heap.size≤k_)) ho0 bs (fun k_ h_=>h_)) bs);replace BK783:=sK BK783 hb;replace BK784:=sK BK784 hb;replace HB:=sB hb;clear hb ho0;obtain ⟨Ao47,co47,rfl⟩:=Kd.R_slice HO805.out;obtain ⟨hcz48_0,hfz48_0⟩:=zc BK784 0 (.bool false) rfl;obtain ⟨hcz48_1,hfz48_1⟩:=zc BK784 1 (.slice none 0 0) rfl;obtain ⟨hcz48_2,hfz48_2⟩:=zc BK784 2 (.slice none 0 0) rfl))
    refine bodyPost_ret (results_cell_row rfl _ _ gb784 67 #[.bool (decide (0<t785.length)),.slice Ao45 t785.length co45,.slice Ao47 t803.length co47] (0,0) _ rfl (zp BK784) underlying67 rfl (by kernel_rfl)) rfl ?_
    exact ⟨_,_,ze,zF HO_3,zF ⟨Kd.R_types HO805.out BK784.out (by decide)⟩,bw⟩
   subst c15
   replace H:=zT H
   obtain ⟨t791,A16,H⟩:=zB H
   obtain ⟨t794,A17,H⟩:=zB H
   by_cases c18:a0_0=true
   case neg=>
    replace c18:=Bool.eq_false_iff.mpr c18
    subst c18
    replace H:=zU H
    obtain ⟨t800,A30,H⟩:=zB H
    obtain ⟨rfl,rfl,rfl⟩:=zo3 H
    go_wp2_with (first|(refine zg (some 21) func98 #[.int .u64 1] ?_;(with_reducible refine (Y7.calls kj2 1 t791 _ A16.out).mono ?_);rintro e w31 ⟨v792,rfl,ho0,hb⟩;refine ⟨_,rfl,?_⟩;replace HO_3:=aZ (Kd.V_elder' (zV HO_3) (Kd.R_base ho0) hb);replace HO_784001:=aZ (Kd.V_elder' (zV HO_784001) (Kd.R_base ho0) hb);have HO793:=aZ (Kd.R_lower (Kd.R_newM (M:=fun k_=>(w.heap.size≤k_)) ho0 bs (fun k_ h_=>h_)) bs);replace BK783:=sK BK783 hb;replace BK784:=sK BK784 hb;replace HB:=sB hb;clear hb ho0;obtain ⟨Ao32,co32,rfl⟩:=Kd.V_slice HO_3.out;obtain ⟨Ao33,co33,rfl⟩:=Kd.R_slice HO793.out)|(refine zg (some 22) func119 #[.slice Ao32 t785.length co32,.slice Ao33 t791.length co33,.int .i64 1] ?_;(with_reducible refine (Ya.calls kj2 _ _ t785 _ _ t791 1 t794 _ (zC (Kd.V_reads' HO_3.out).2.2) ((Kd.V_reads' HO_3.out).2.1) (zC (Kd.R_reads' HO793.out).2.2) ((Kd.R_reads' HO793.out).2.1) A17.out).mono ?_);rintro e w34 ⟨v795,rfl,ho0,hb⟩;refine ⟨_,rfl,?_⟩;replace HO_3:=yV HO_3 hb;replace HO_784001:=yV HO_784001 hb;have HO796:=yL (fun k_=>(P0_1_ k_∨w.heap.size≤k_)∧some k_≠(.slice Ao33 t791.length co33:Value).ownBlock∧k_≠gb783∧k_≠gb784) ho0 (fun k_ hk_=>⟨(.inr (Nat.le_trans bs hk_)),(yf HO793 hk_),(zf BK783 hk_),(zf BK784 hk_)⟩);replace HO793:=yR HO793 hb;replace BK783:=sK BK783 hb;replace BK784:=sK BK784 hb;replace HB:=sB hb;clear hb ho0;have hnb35:=NB783_784.out;have hnc35:=NB784_783.out;obtain ⟨hcz36_0,hfz36_0⟩:=zc BK783 0 (.bool false) rfl;obtain ⟨hcz36_1,hfz36_1⟩:=zc BK783 1 (.slice A0_1 l0_1.length c0_1) rfl;obtain ⟨hcz36_2,hfz36_2⟩:=zc BK783 2 (.slice A0_2 l0_2.length c0_2) rfl)|(refine zg (some 31) func98 #[.int .u64 1] ?_;(with_reducible refine (Y7.calls kj2 1 t800 _ A30.out).mono ?_);rintro e w37 ⟨v801,rfl,ho0,hb⟩;refine ⟨_,rfl,?_⟩;replace HO_3:=aZ (Kd.V_elder' (zV HO_3) (Kd.R_base ho0) hb);replace HO_784001:=aZ (Kd.V_elder' (zV HO_784001) (Kd.R_base ho0) hb);replace HO796:=aZ (Kd.V_elder' (zV HO796) (Kd.R_base ho0) hb);have HO802:=aZ (Kd.R_lower (Kd.R_new' (Kd.R_newM (M:=fun k_=>(w.heap.size≤k_)) ho0 bs (fun k_ h_=>h_)) (Kd.R_lt (zR HO793))) bs);replace HO793:=aZ (Kd.R_elder' (zR HO793) (Kd.R_base ho0) hb);replace BK783:=sK BK783 hb;replace BK784:=sK BK784 hb;replace HB:=sB hb;clear hb ho0;obtain ⟨Ao38,co38,rfl⟩:=Kd.R_slice HO802.out;obtain ⟨Ao39,co39,rfl⟩:=Kd.V_slice HO796.out;obtain ⟨hcz40_0,hfz40_0⟩:=zc BK784 0 (.bool false) rfl;obtain ⟨hcz40_1,hfz40_1⟩:=zc BK784 1 (.slice none 0 0) rfl;obtain ⟨hcz40_2,hfz40_2⟩:=zc BK784 2 (.slice none 0 0) rfl))
    refine bodyPost_ret (results_cell_row rfl _ _ gb784 67 #[.bool false,.slice Ao39 t794.length co39,.slice Ao38 t800.length co38] (0,0) _ rfl (zp BK784) underlying67 rfl (by kernel_rfl)) rfl ?_
    exact ⟨_,_,ze,zF HO796,zF ⟨Kd.R_types HO802.out BK784.out (by decide)⟩,bw⟩
   subst c18
   replace H:=zT H
   obtain ⟨t797,A19,H⟩:=zB H
   obtain ⟨rfl,rfl,rfl⟩:=zo3 H
   go_wp2_with (first|(refine zg (some 21) func98 #[.int .u64 1] ?_;(with_reducible refine (Y7.calls kj2 1 t791 _ A16.out).mono ?_);rintro e w20 ⟨v792,rfl,ho0,hb⟩;refine ⟨_,rfl,?_⟩;replace HO_3:=aZ (Kd.V_elder' (zV HO_3) (Kd.R_base ho0) hb);replace HO_784001:=aZ (Kd.V_elder' (zV HO_784001) (Kd.R_base ho0) hb);have HO793:=aZ (Kd.R_lower (Kd.R_newM (M:=fun k_=>(w.heap.size≤k_)) ho0 bs (fun k_ h_=>h_)) bs);replace BK783:=sK BK783 hb;replace BK784:=sK BK784 hb;replace HB:=sB hb;clear hb ho0;obtain ⟨Ao21,co21,rfl⟩:=Kd.V_slice HO_3.out;obtain ⟨Ao22,co22,rfl⟩:=Kd.R_slice HO793.out)|(refine zg (some 22) func119 #[.slice Ao21 t785.length co21,.slice Ao22 t791.length co22,.int .i64 1] ?_;(with_reducible refine (Ya.calls kj2 _ _ t785 _ _ t791 1 t794 _ (zC (Kd.V_reads' HO_3.out).2.2) ((Kd.V_reads' HO_3.out).2.1) (zC (Kd.R_reads' HO793.out).2.2) ((Kd.R_reads' HO793.out).2.1) A17.out).mono ?_);rintro e w23 ⟨v795,rfl,ho0,hb⟩;refine ⟨_,rfl,?_⟩;replace HO_3:=yV HO_3 hb;replace HO_784001:=yV HO_784001 hb;have HO796:=yL (fun k_=>(P0_1_ k_∨w.heap.size≤k_)∧some k_≠(.slice Ao22 t791.length co22:Value).ownBlock∧k_≠gb783∧k_≠gb784) ho0 (fun k_ hk_=>⟨(.inr (Nat.le_trans bs hk_)),(yf HO793 hk_),(zf BK783 hk_),(zf BK784 hk_)⟩);replace HO793:=yR HO793 hb;replace BK783:=sK BK783 hb;replace BK784:=sK BK784 hb;replace HB:=sB hb;clear hb ho0;have hnb24:=NB783_784.out;have hnc24:=NB784_783.out;obtain ⟨hcz25_0,hfz25_0⟩:=zc BK783 0 (.bool true) rfl;obtain ⟨hcz25_1,hfz25_1⟩:=zc BK783 1 (.slice A0_1 l0_1.length c0_1) rfl;obtain ⟨hcz25_2,hfz25_2⟩:=zc BK783 2 (.slice A0_2 l0_2.length c0_2) rfl;obtain ⟨Ao26,co26,rfl⟩:=Kd.V_slice HO796.out)|(refine zg (some 31) func98 #[.int .u64 1] ?_;(with_reducible refine (Y7.calls kj2 1 t797 _ A19.out).mono ?_);rintro e w27 ⟨v798,rfl,ho0,hb⟩;refine ⟨_,rfl,?_⟩;replace HO_3:=aZ (Kd.V_elder' (zV HO_3) (Kd.R_base ho0) hb);replace HO_784001:=aZ (Kd.V_elder' (zV HO_784001) (Kd.R_base ho0) hb);replace HO796:=aZ (Kd.V_elder' (zV HO796) (Kd.R_base ho0) hb);have HO799:=aZ (Kd.R_lower (Kd.R_new' (Kd.R_newM (M:=fun k_=>(w.heap.size≤k_)) ho0 bs (fun k_ h_=>h_)) (Kd.R_lt (zR HO793))) bs);replace HO793:=aZ (Kd.R_elder' (zR HO793) (Kd.R_base ho0) hb);replace BK783:=sK BK783 hb;replace BK784:=sK BK784 hb;replace HB:=sB hb;clear hb ho0;obtain ⟨Ao28,co28,rfl⟩:=Kd.R_slice HO799.out;obtain ⟨hcz29_0,hfz29_0⟩:=zc BK784 0 (.bool false) rfl;obtain ⟨hcz29_1,hfz29_1⟩:=zc BK784 1 (.slice none 0 0) rfl;obtain ⟨hcz29_2,hfz29_2⟩:=zc BK784 2 (.slice none 0 0) rfl))
   refine bodyPost_ret (results_cell_row rfl _ _ gb784 67 #[.bool (decide (0<t794.length)),.slice Ao26 t794.length co26,.slice Ao28 t797.length co28] (0,0) _ rfl (zp BK784) underlying67 rfl (by kernel_rfl)) rfl ?_
   exact ⟨_,_,ze,zF HO796,zF ⟨Kd.R_types HO799.out BK784.out (by decide)⟩,bw⟩
section
def Y0p.f (k:Nat) (a0:Int) (a1:Int):Option (Bool×List Int×List Int):=(Y04.f a0).bind fun t386=>((Y7.f k t386).bind fun t387=>((Y04.f a1).bind fun t390=>((Y7.f k t390).bind fun t391=>((Yz.f k ((decide (a0<0)) != (decide (a1<0))) t387 t391).bind fun bt394=>(some (bt394.1,bt394.2.1,bt394.2.2))))))
theorem Y0p.calls (k:Nat) (a0:Int) (a1:Int) (r1:Bool) (r2:List Int) (r3:List Int) (w:World) (h:Y0p.f k a0 a1=some (r1,r2,r3)) :
  Calls Tryz.prog 51 #[.int .i64 a0,.int .i64 a1] w fun e w'=>∃ v1_ v2_:Value,e = .returned (.agg #[.bool r1,v1_,v2_])∧Kd.V (Kd.int .i64) 3 w' w.heap.size (fun k_=>(w.heap.size≤k_)) v1_ r2∧Kd.V (Kd.int .i64) 3 w' w.heap.size (fun k_=>(w.heap.size≤k_)) v2_ r3∧Below w.heap.size w w':=by
 have hu67:=underlying67
 have HB:=aZ (Below.refl w.heap.size w)
 have H:=h
 unfold Y0p.f at H
 clear h
 obtain ⟨t386,A3,H⟩:=zB H
 obtain ⟨t387,A4,H⟩:=zB H
 obtain ⟨t390,A5,H⟩:=zB H
 obtain ⟨t391,A6,H⟩:=zB H
 replace H:=Option.bind_eq_some_iff.mp H
 obtain ⟨⟨t394,t395,t398⟩,A70,H⟩:=H
 obtain ⟨b1_,hb1_⟩:∃ b_,decide (a0<0)=b_:=⟨_,rfl⟩
 obtain ⟨b2_,hb2_⟩:∃ b_,decide (a1<0)=b_:=⟨_,rfl⟩
 rw [hb1_,hb2_,show (b1_ != b2_) = !(b1_==b2_) from rfl] at A70
 replace H:(some (t394,t395,t398))=some (r1,r2,r3):=H
 have A7:=aZ A70
 clear A70
 obtain ⟨rfl,rfl,rfl⟩:=zo3 H
 go_enter func51,ntmps51
 go_wp2_with (first|(refine box_ev 4 #[.bool false,.slice none 0 0,.slice none 0 0] 67 ?_;intro gb385 hg w8 hbox hb;have BK385:=aZ hbox;have GE385:=sG hg;replace HB:=sB hb;clear hb hbox hg)|(refine zg (some 11) func99 #[.int .i64 a0] ?_;(with_reducible refine (Y04.calls a0 t386 _ A3.out).mono ?_);rintro e w' ⟨rfl,⟨nd,rfl⟩⟩;refine ⟨_,rfl,?_⟩;(try (rw [drewN_self w8];generalize hq_:World.drewN w8 _=w8;have n0_:Aside0 (w8.heap[gb385]? = some (.cells #[.bool false,.slice none 0 0,.slice none 0 0] 67 (0,0))):=⟨by rw [← hq_];exact (zb BK385)⟩;have n1_:Aside0 (Below w.heap.size w w8):=⟨by rw [← hq_];exact bw⟩;clear BK385 HB hq_;have BK385:=n0_;have HB:=n1_;clear n0_ n1_)))|(refine zg (some 12) func98 #[.int .u64 t386] ?_;(with_reducible refine (Y7.calls k t386 t387 _ A4.out).mono ?_);rintro e w9 ⟨v388,rfl,ho0,hb⟩;refine ⟨_,rfl,?_⟩;have HO389:=aZ (Kd.R_lower (Kd.R_newM (M:=fun k_=>(w.heap.size≤k_)) ho0 bs (fun k_ h_=>h_)) bs);replace BK385:=sK BK385 hb;replace HB:=sB hb;clear hb ho0)|(refine zg (some 14) func99 #[.int .i64 a1] ?_;(with_reducible refine (Y04.calls a1 t390 _ A5.out).mono ?_);rintro e w' ⟨rfl,⟨nd,rfl⟩⟩;refine ⟨_,rfl,?_⟩;(try (rw [drewN_self w9];generalize hq_:World.drewN w9 _=w9;have n0_:Aside0 (Kd.R (Kd.int .i64) 3 w9 w.heap.size (fun k_=>(w.heap.size≤k_)) v388 t387):=⟨by rw [← hq_];exact (rM HO389 (fun _ hk=>hk.1))⟩;have n1_:Aside0 (w9.heap[gb385]? = some (.cells #[.bool false,.slice none 0 0,.slice none 0 0] 67 (0,0))):=⟨by rw [← hq_];exact (zb BK385)⟩;have n2_:Aside0 (Below w.heap.size w w9):=⟨by rw [← hq_];exact bw⟩;clear HO389 BK385 HB hq_;have HO389:=n0_;have BK385:=n1_;have HB:=n2_;clear n0_ n1_ n2_)))|(refine zg (some 15) func98 #[.int .u64 t390] ?_;(with_reducible refine (Y7.calls k t390 t391 _ A6.out).mono ?_);rintro e w10 ⟨v392,rfl,ho0,hb⟩;refine ⟨_,rfl,?_⟩;have HO393:=aZ (Kd.R_lower (Kd.R_new' (Kd.R_newM (M:=fun k_=>(w.heap.size≤k_)) ho0 bs (fun k_ h_=>h_)) (Kd.R_lt (zR HO389))) bs);replace HO389:=aZ (Kd.R_elder' (zR HO389) (Kd.R_base ho0) hb);replace BK385:=sK BK385 hb;replace HB:=sB hb;clear hb ho0;obtain ⟨Ao11,co11,rfl⟩:=Kd.R_slice HO389.out;obtain ⟨Ao12,co12,rfl⟩:=Kd.R_slice HO393.out)|(refine zg (some 16) func101 #[.bool (!(b1_==b2_)),.slice Ao11 t387.length co11,.slice Ao12 t391.length co12] ?_;(with_reducible refine (Yz.calls k (!(b1_==b2_)) (fun k_=>some k_=(.slice Ao11 t387.length co11:Value).ownBlock) _ _ t387 (fun k_=>some k_=(.slice Ao12 t391.length co12:Value).ownBlock) _ _ t391 t394 t395 t398 _ ?side1 ?side2 A7.out).mono ?_);(case side1=>exact Kd.R_V (Kd.R_tight rfl (Kd.R_types (HO389.out) BK385.out (by decide))));(case side2=>exact Kd.R_V (Kd.R_tight rfl (Kd.R_types (HO393.out) BK385.out (by decide))));rintro e w13 ⟨v396,v399,rfl,ho0,ho1,hb⟩;refine ⟨_,rfl,?_⟩;have HO397:=yL (fun k_=>(w.heap.size≤k_)∧k_≠gb385) ho0 (fun k_ hk_=>⟨Or.elim hk_ (fun hs_=>Or.elim hs_ (fun hs_=>(by have hq_:=(Kd.R_types (HO389.out) BK385.out (by decide)).1 k_ hs_.symm;first|exact hq_.1.1.1|exact hq_.1.1)) (fun hs_=>(by have hq_:=(Kd.R_types (HO393.out) BK385.out (by decide)).1 k_ hs_.symm;first|exact hq_.1.1.1|exact hq_.1.1))) (fun hn_=>(Nat.le_trans bs hn_)),Or.elim hk_ (fun hs_=>Or.elim hs_ (fun hs_=>((Kd.R_types (HO389.out) BK385.out (by decide)).1 k_ hs_.symm).2) (fun hs_=>((Kd.R_types (HO393.out) BK385.out (by decide)).1 k_ hs_.symm).2)) (fun hn_=>(zf BK385 hn_))⟩);have HO400:=yL (fun k_=>(w.heap.size≤k_)∧k_≠gb385) ho1 (fun k_ hk_=>⟨Or.elim hk_ (fun hs_=>Or.elim hs_ (fun hs_=>(by have hq_:=(Kd.R_types (HO389.out) BK385.out (by decide)).1 k_ hs_.symm;first|exact hq_.1.1.1|exact hq_.1.1)) (fun hs_=>(by have hq_:=(Kd.R_types (HO393.out) BK385.out (by decide)).1 k_ hs_.symm;first|exact hq_.1.1.1|exact hq_.1.1))) (fun hn_=>(Nat.le_trans bs hn_)),Or.elim hk_ (fun hs_=>Or.elim hs_ (fun hs_=>((Kd.R_types (HO389.out) BK385.out (by decide)).1 k_ hs_.symm).2) (fun hs_=>((Kd.R_types (HO393.out) BK385.out (by decide)).1 k_ hs_.symm).2)) (fun hn_=>(zf BK385 hn_))⟩);replace HO389:=yR HO389 hb;replace HO393:=yR HO393 hb;replace BK385:=sK BK385 hb;replace HB:=sB hb;clear hb ho0 ho1;obtain ⟨hcz14_0,hfz14_0⟩:=zc BK385 0 (.bool false) rfl;obtain ⟨hcz14_1,hfz14_1⟩:=zc BK385 1 (.slice none 0 0) rfl;obtain ⟨hcz14_2,hfz14_2⟩:=zc BK385 2 (.slice none 0 0) rfl;obtain ⟨Ao15,co15,rfl⟩:=Kd.V_slice HO397.out;obtain ⟨Ao16,co16,rfl⟩:=Kd.V_slice HO400.out))
 refine bodyPost_ret (results_cell_row rfl _ _ gb385 67 #[.bool t394,.slice Ao15 t395.length co15,.slice Ao16 t398.length co16] (0,0) _ rfl (zp BK385) underlying67 rfl (by kernel_rfl)) rfl ?_
 exact ⟨_,_,ze,zF HO397,zF HO400,bw⟩
end
def Y09.f (k:Nat) (a0_0:Bool) (l0_1:List Int) (l0_2:List Int):Option (Bool×List Int×List Int):=(Y0p.f k 1 2).bind fun bt811=>((Y6.f k a0_0 l0_1 l0_2 bt811.1 bt811.2.1 bt811.2.2).bind fun bt818=>((Yw.f k bt818.1 bt818.2.1 bt818.2.2).bind fun bt825=>(some (bt825.1,bt825.2.1,bt825.2.2))))
theorem Y09.calls (k:Nat) (a0_0:Bool) (A0_1:Option Addr) (c0_1:Nat) (l0_1:List Int) (A0_2:Option Addr) (c0_2:Nat) (l0_2:List Int) (r1:Bool) (r2:List Int) (r3:List Int) (w:World) (hr0_1:Kd.C (Kd.int .i64) w A0_1 l0_1.length l0_1) (hc0_1:l0_1.length≤c0_1) (hr0_2:Kd.C (Kd.int .i64) w A0_2 l0_2.length l0_2) (hc0_2:l0_2.length≤c0_2) (h:Y09.f k a0_0 l0_1 l0_2=some (r1,r2,r3)) :
  Calls Tryz.prog 86 #[.agg #[.bool a0_0,.slice A0_1 l0_1.length c0_1,.slice A0_2 l0_2.length c0_2]] w fun e w'=>∃ v1_ v2_:Value,e = .returned (.agg #[.bool r1,v1_,v2_])∧Kd.V (Kd.int .i64) 3 w' w.heap.size (fun k_=>(w.heap.size≤k_)∧some k_≠(v2_:Value).ownBlock) v1_ r2∧Kd.R (Kd.int .i64) 3 w' w.heap.size (fun k_=>(w.heap.size≤k_)) v2_ r3∧Below w.heap.size w w':=by
 have hu67:=underlying67
 have HR0_1:=aZ hr0_1
 have HC0_1:=aZ hc0_1
 clear hr0_1 hc0_1
 have HR0_2:=aZ hr0_2
 have HC0_2:=aZ hc0_2
 clear hr0_2 hc0_2
 have HB:=aZ (Below.refl w.heap.size w)
 have H:=h
 unfold Y09.f at H
 clear h
 obtain ⟨⟨t811,t812,t815⟩,A2,H⟩:=zB H
 (try dsimp only at H)
 obtain ⟨⟨t818,t819,t822⟩,A3,H⟩:=zB H
 (try dsimp only at H)
 obtain ⟨⟨t825,t826,t829⟩,A4,H⟩:=zB H
 (try dsimp only at H)
 obtain ⟨rfl,rfl,rfl⟩:=zo3 H
 go_enter func86,ntmps86
 try go_wp2_with (first|(refine box_ev 1 #[.bool a0_0,.slice A0_1 l0_1.length c0_1,.slice A0_2 l0_2.length c0_2] 67 ?_;intro gb809 hg w5 hbox hb;have BK809:=aZ hbox;have GE809:=sG hg;replace HB:=sB hb;clear hb hbox hg)|(refine box_ev 2 #[.bool false,.slice none 0 0,.slice none 0 0] 67 ?_;intro gb810 hg w6 hbox hb;have BK810:=aZ hbox;have GE810:=sG hg;replace HB:=sB hb;obtain ⟨NB809_810,NB810_809,BK809⟩:=sX hg hb BK809;clear hb hbox hg))
 replace BK809:=aZ (blk_drew BK809.out)
 replace BK810:=aZ (blk_drew BK810.out)
 replace HB:=aZ (below_drew1 HB.out)
 refine start_ (n:=5) (S:=fun w'=>w'.cell? ⟨gb809,0,none⟩=some (.bool a0_0)∧w'.cell? ⟨gb809,1,none⟩=some (.slice A0_1 l0_1.length c0_1)∧w'.cell? ⟨gb809,2,none⟩=some (.slice A0_2 l0_2.length c0_2)) (ds:=[]) #[false,false,false,false,false] (by kernel_rfl) rfl rfl ⟨zh BK809 0,zh BK809 1,zh BK809 2⟩ (fun hHeld=>?_)
 generalize w6.drew=w7 at BK809 BK810 HB hHeld ⊢
 refine tv 0 (some 3) hHeld ?_
 refine one_ (i:=1) (N:=some 4) #[true,true,false,false,false] rfl rfl (by kernel_rfl) (by decide) (fun K hK=>?_)
 refine goes_ func51 (by kernel_rfl) rfl #[.int .i64 1,.int .i64 2] (by rfl) rfl rfl zm ?_
 with_reducible refine (Y0p.calls k 1 2 t811 t812 t815 _ A2.out).mono ?_
 rintro e w8 ⟨v813,v816,rfl,ho0,ho1,hb⟩
 refine ⟨_,rfl,?_⟩
 have HO814:=yL (fun k_=>(w.heap.size≤k_)∧k_≠gb809∧k_≠gb810) ho0 (fun k_ hk_=>⟨(Nat.le_trans bs hk_),(zf BK809 hk_),(zf BK810 hk_)⟩)
 have HO817:=yL (fun k_=>(w.heap.size≤k_)∧k_≠gb809∧k_≠gb810) ho1 (fun k_ hk_=>⟨(Nat.le_trans bs hk_),(zf BK809 hk_),(zf BK810 hk_)⟩)
 replace BK809:=sK BK809 hb
 replace BK810:=sK BK810 hb
 replace HB:=sB hb
 clear hb ho0 ho1
 obtain ⟨Ao9,co9,eo9⟩:=Kd.V_slice HO814.out
 (first|subst eo9|(injection eo9 with f1_ f2_ f3_;have f4_:=f1_.symm;have f5_:=f3_.symm;clear f1_ f2_ f3_;subst f4_;subst f5_))
 obtain ⟨Ao10,co10,eo10⟩:=Kd.V_slice HO817.out
 (first|subst eo10|(injection eo10 with f1_ f2_ f3_;have f4_:=f1_.symm;have f5_:=f3_.symm;clear f1_ f2_ f3_;subst f4_;subst f5_))
 refine hK.out _ _ ⟨zh BK809 0,zh BK809 1,zh BK809 2⟩ (fun hHeld=>?_)
 clear hK K
 refine nm ?_
 refine one_ (i:=2) (N:=some 5) #[true,true,true,false,false] rfl rfl (by kernel_rfl) (by decide) (fun K hK=>?_)
 refine goes_ func68 (by kernel_rfl) rfl #[.agg #[.bool a0_0,.slice A0_1 l0_1.length c0_1,.slice A0_2 l0_2.length c0_2],.agg #[.bool t811,.slice Ao9 t812.length co9,.slice Ao10 t815.length co10]] (by rfl) rfl rfl zm ?_
 with_reducible refine (Y6.calls k a0_0 _ _ l0_1 _ _ l0_2 t811 _ _ t812 _ _ t815 t818 t819 t822 _ (zC (Kd.C_below HR0_1.out HB.out)) HC0_1.out (zC (Kd.C_below HR0_2.out HB.out)) HC0_2.out (zC (Kd.V_reads' HO814.out).2.2) ((Kd.V_reads' HO814.out).2.1) (zC (Kd.V_reads' HO817.out).2.2) ((Kd.V_reads' HO817.out).2.1) A3.out).mono ?_
 rintro e w11 ⟨v820,v823,rfl,ho0,ho1,hb⟩
 refine ⟨_,rfl,?_⟩
 replace HO814:=yV HO814 hb
 replace HO817:=yV HO817 hb
 have HO821:=yL (fun k_=>(w.heap.size≤k_)∧k_≠gb809∧k_≠gb810) ho0 (fun k_ hk_=>⟨(Nat.le_trans bs hk_),(zf BK809 hk_),(zf BK810 hk_)⟩)
 have HO824:=yL (fun k_=>(w.heap.size≤k_)∧k_≠gb809∧k_≠gb810) ho1 (fun k_ hk_=>⟨(Nat.le_trans bs hk_),(zf BK809 hk_),(zf BK810 hk_)⟩)
 replace BK809:=sK BK809 hb
 replace BK810:=sK BK810 hb
 replace HB:=sB hb
 clear hb ho0 ho1
 obtain ⟨Ao12,co12,eo12⟩:=Kd.V_slice HO821.out
 (first|subst eo12|(injection eo12 with f1_ f2_ f3_;have f4_:=f1_.symm;have f5_:=f3_.symm;clear f1_ f2_ f3_;subst f4_;subst f5_))
 obtain ⟨Ao13,co13,eo13⟩:=Kd.V_slice HO824.out
 (first|subst eo13|(injection eo13 with f1_ f2_ f3_;have f4_:=f1_.symm;have f5_:=f3_.symm;clear f1_ f2_ f3_;subst f4_;subst f5_))
 refine hK.out _ _ ⟨zh BK809 0,zh BK809 1,zh BK809 2⟩ (fun hHeld=>?_)
 clear hK K
 refine nm ?_
 refine one_ (i:=3) (N:=some 6) #[true,true,true,true,false] rfl rfl (by kernel_rfl) (by decide) (fun K hK=>?_)
 refine goes_ func85 (by kernel_rfl) rfl #[.agg #[.bool t818,.slice Ao12 t819.length co12,.slice Ao13 t822.length co13]] (by rfl) rfl rfl zm ?_
 with_reducible refine (Yw.calls k t818 (fun k_=>((w.heap.size≤k_)∧(k_≠gb809∧k_≠gb810))) _ _ t819 _ _ t822 t825 t826 t829 _ HO821.out (zC (Kd.V_reads' HO824.out).2.2) ((Kd.V_reads' HO824.out).2.1) A4.out).mono ?_
 rintro e w14 ⟨v827,v830,rfl,ho0,ho1,hb⟩
 refine ⟨_,rfl,?_⟩
 replace HO814:=aZ (Kd.V_elder' (zV HO814) (Kd.R_base ho1) hb)
 replace HO817:=aZ (Kd.V_elder' (zV HO817) (Kd.R_base ho1) hb)
 replace HO821:=aZ (Kd.V_elder' (zV HO821) (Kd.R_base ho1) hb)
 replace HO824:=aZ (Kd.V_elder' (zV HO824) (Kd.R_base ho1) hb)
 have HO828:=yL (fun k_=>(w.heap.size≤k_)∧some k_≠(v830:Value).ownBlock∧k_≠gb809∧k_≠gb810) ho0 (fun k_ hk_=>⟨Or.elim hk_.1 (fun hs_=>hs_.1) (fun hn_=>(Nat.le_trans bs hn_)),hk_.2,Or.elim hk_.1 (fun hs_=>hs_.2.1) (fun hn_=>(zf BK809 hn_)),Or.elim hk_.1 (fun hs_=>hs_.2.2) (fun hn_=>(zf BK810 hn_))⟩)
 have HO831:=aZ (Kd.R_lower (Kd.R_newM (M:=fun k_=>(w.heap.size≤k_)) (Kd.R_mono (ok':=fun k_=>True) ho1 (fun _ hk_=>trivial)) bs (fun k_ h_=>h_)) bs)
 replace BK809:=sK BK809 hb
 replace BK810:=sK BK810 hb
 replace HB:=sB hb
 clear hb ho0 ho1
 obtain ⟨Ao16,co16,eo16⟩:=Kd.V_slice HO828.out
 (first|subst eo16|(injection eo16 with f1_ f2_ f3_;have f4_:=f1_.symm;have f5_:=f3_.symm;clear f1_ f2_ f3_;subst f4_;subst f5_))
 obtain ⟨Ao18,co18,eo18⟩:=Kd.R_slice HO831.out
 (first|subst eo18|(injection eo18 with f1_ f2_ f3_;have f4_:=f1_.symm;have f5_:=f3_.symm;clear f1_ f2_ f3_;subst f4_;subst f5_))
 refine hK.out _ _ ⟨zh BK809 0,zh BK809 1,zh BK809 2⟩ (fun hHeld=>?_)
 clear hK K
 refine nm ?_
 refine one_ (i:=4) (N:=none) #[true,true,true,true,true] rfl rfl (by kernel_rfl) (by decide) (fun K hK=>?_)
 have hs15:w14.cell? ⟨gb810,0,none⟩=some (.bool false):=(blk_cell BK810.out 0).trans rfl
 have hfs15:=blk_frozen BK810.out 0
 have hns15_0:=NB809_810.out
 have hms15_0:=NB810_809.out
 have hs17:w14.cell? ⟨gb810,1,none⟩=some (.slice none 0 0):=(blk_cell BK810.out 1).trans rfl
 have hfs17:=blk_frozen BK810.out 1
 have hns17_0:=NB809_810.out
 have hms17_0:=NB810_809.out
 have hs19:w14.cell? ⟨gb810,2,none⟩=some (.slice none 0 0):=(blk_cell BK810.out 2).trans rfl
 have hfs19:=blk_frozen BK810.out 2
 have hns19_0:=NB809_810.out
 have hms19_0:=NB810_809.out
 refine skip_ (w1:=?_) (by rfl) rfl ?_ ?_
 rotate_left
 ·go_simp
  rfl
 refine hK.out _ _ ⟨((cell_far (p:=⟨gb810,_,none⟩) NB809_810.out _).trans (((cell_far (p:=⟨gb810,_,none⟩) NB809_810.out _).trans (((cell_far (p:=⟨gb810,_,none⟩) NB809_810.out _).trans (hHeld.1)))))),((cell_far (p:=⟨gb810,_,none⟩) NB809_810.out _).trans (((cell_far (p:=⟨gb810,_,none⟩) NB809_810.out _).trans (((cell_far (p:=⟨gb810,_,none⟩) NB809_810.out _).trans (hHeld.2.1)))))),((cell_far (p:=⟨gb810,_,none⟩) NB809_810.out _).trans (((cell_far (p:=⟨gb810,_,none⟩) NB809_810.out _).trans (((cell_far (p:=⟨gb810,_,none⟩) NB809_810.out _).trans (hHeld.2.2))))))⟩ (fun hHeld=>?_)
 clear hK K
 refine done_ (by kernel_rfl) ?_
 try go_wp2
 refine bodyPost_ret (results_cell_row rfl _ _ gb810 67 #[.bool t825,.slice Ao16 t826.length co16,.slice Ao18 t829.length co18] (0,0) _ rfl (zp BK810) underlying67 rfl (by kernel_rfl)) rfl ?_
 exact ⟨_,_,ze,zF HO828,zF ⟨Kd.R_types HO831.out BK810.out (by decide)⟩,bw⟩
end Go.Proofs.YtaffkbemjbfajaaGreatDoor.PNumOrders
