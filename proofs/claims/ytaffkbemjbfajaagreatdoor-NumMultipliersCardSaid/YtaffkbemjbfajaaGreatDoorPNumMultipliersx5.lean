-- By a program of this session: functions as plain Lean functions, each with its proof over the machine.
import Derived.Test.YtaffkbemjbfajaaGreatDoorPNumMultipliersx0
import Derived.Test.YtaffkbemjbfajaaGreatDoorPNumMultipliersx2
import Derived.Test.YtaffkbemjbfajaaGreatDoorPNumMultipliersx4
import Derived.Test.YtaffkbemjbfajaaGreatDoorPNumMultipliersx3
namespace Go.Proofs.YtaffkbemjbfajaaGreatDoor.PNumMultipliers
open Go.RowKit Go.Proofs.Tryz Go.Proofs.YtaffkbemjbfajaaGreatDoorW.PrintWords Go.Proofs.YtaffkbemjbfajaaGreatDoorW.PrintLast Go.Proofs.YtaffkbemjbfajaaGreatDoorW.PrintMore
attribute [local go_sem] max2_int min2_int max_two min_two max_three min_three max_four min_four
set_option linter.unusedVariables false
set_option linter.unusedSimpArgs false
set_option maxHeartbeats 8000000
set_option maxRecDepth 100000
section
def Y0m.f (a0:ByteArray):Option (Int×Option Int):=if a0.size≤281474976710656 then (match Lib.atoiAll a0.data.toList with
 | .ok n=>some (n,none)
 | .range=>some (Lib.atoiSat a0.data.toList,some 0)
 | _=>none) else none
def ErrLike:Option Int→Value→Prop
 | none,v=>v = .nilIface
 | some _,v=>∃ te pe,v = .iface te pe
theorem Y0m.calls (a0:ByteArray) (r1:Int) (r2:Option Int) (w:World) (hG:Tryz.Gl w) (h:Y0m.f a0=some (r1,r2)) :
  Calls Tryz.prog 133 #[.string a0] w fun e w'=>∃ ev,ErrLike r2 ev∧e = .returned (.tuple #[.int .i64 r1,ev])∧Below w.heap.size w w':=by
 unfold Y0m.f at h
 by_cases c:a0.size≤281474976710656
 case neg=>rw [if_neg c] at h;cases h
 rw [if_pos c] at h
 cases hp:Lib.atoiAll a0.data.toList with
 | ok n =>
  rw [hp] at h
  simp only [Option.some.injEq,Prod.mk.injEq] at h
  obtain ⟨rfl,rfl⟩:=h
  refine (Tryz.strconv_Atoi_ok a0 (by omega) n hp w).mono ?_
  rintro e w' ⟨rfl,hw⟩
  refine ⟨_,rfl,rfl,?_⟩
  rcases hw with rfl|⟨t,rfl⟩
  ·exact Below.refl _ _
  ·exact Lib.bytesWorld_below _ _ _
 | range =>
  rw [hp] at h
  simp only [Option.some.injEq,Prod.mk.injEq] at h
  obtain ⟨rfl,rfl⟩:=h
  obtain ⟨tp,p,hv⟩:=hG.2
  refine (Tryz.strconv_Atoi_range_var a0 c hp tp p w hv).mono ?_
  rintro e w' ⟨N,rfl,_,_,hb⟩
  exact ⟨_,⟨_,_,rfl⟩,rfl,hb⟩
 | _=>rw [hp] at h;cases h
def Yf.j0:Nat→Int→Bool→Bool→List Int→List Int→Option (Int×Bool)
 | 0,_,_,_,_,_=>none
 | k+1,x5,x34,x784000,x784001,x784002=>if x34=true then (some (0,false)) else (if x784000=true then (some (wrap64 (-x5),true)) else (some (x5,true)))
def Yf.f (k:Nat) (a0_0:Bool) (l0_1:List Int) (l0_2:List Int):Option (Int×Bool):=(Y05.f l0_1).bind fun t784=>((Y0m.f t784).bind fun bt785=>(if bt785.2.isNone=true then (if (t784.size:Int)>18 then (Yf.j0 k bt785.1 true a0_0 l0_1 l0_2) else (if (l0_2.length:Int)=1 then (if 0<(l0_2.length:Int) then (Yf.j0 k bt785.1 ((rd l0_2 0) != 1) a0_0 l0_1 l0_2) else (none)) else (Yf.j0 k bt785.1 true a0_0 l0_1 l0_2))) else (Yf.j0 k bt785.1 true a0_0 l0_1 l0_2)))
theorem Yf.calls (k:Nat) (a0_0:Bool) (A0_1:Option Addr) (c0_1:Nat) (l0_1:List Int) (A0_2:Option Addr) (c0_2:Nat) (l0_2:List Int) (r1:Int) (r2:Bool) (w:World) (hr0_1:Kd.C (Kd.int .i64) w A0_1 l0_1.length l0_1) (hc0_1:l0_1.length≤c0_1) (hr0_2:Kd.C (Kd.int .i64) w A0_2 l0_2.length l0_2) (hc0_2:l0_2.length≤c0_2) (hG:Tryz.Gl w) (h:Yf.f k a0_0 l0_1 l0_2=some (r1,r2)) :
  Calls Tryz.prog 84 #[.agg #[.bool a0_0,.slice A0_1 l0_1.length c0_1,.slice A0_2 l0_2.length c0_2]] w fun e w'=>e = .returned (.tuple #[.int .i64 r1,.bool r2])∧Below w.heap.size w w':=by
 have hu67:=underlying67
 have hu132:=underlying132
 have HG:=aZ hG
 clear hG
 have HR0_1:=aZ hr0_1
 have HC0_1:=aZ hc0_1
 clear hr0_1 hc0_1
 have HR0_2:=aZ hr0_2
 have HC0_2:=aZ hc0_2
 clear hr0_2 hc0_2
 have HB:=aZ (Below.refl w.heap.size w)
 have H:=h
 unfold Yf.f at H
 clear h
 obtain ⟨t784,A2,H⟩:=zB H
 obtain ⟨⟨t785,t786⟩,A3,H⟩:=zB H
 (try dsimp only at H)
 have HC4:=aZ H
 clear H
 go_enter func84,ntmps84
 go_upto_region 3 with (first|((with_reducible refine gate_dst (N:=1) rfl ?_);(try (refine gate_guard (by rfl) ?_;dsimp only));refine box_ev 1 #[.bool a0_0,.slice A0_1 l0_1.length c0_1,.slice A0_2 l0_2.length c0_2] 67 ?_;intro gb783 hg w5 hbox hb;have BK783:=aZ hbox;have GE783:=sG hg;replace HB:=sB hb;clear hb hbox hg;obtain ⟨hcz6_0,hfz6_0⟩:=zc BK783 0 (.bool a0_0) rfl;obtain ⟨hcz6_1,hfz6_1⟩:=zc BK783 1 (.slice A0_1 l0_1.length c0_1) rfl;obtain ⟨hcz6_2,hfz6_2⟩:=zc BK783 2 (.slice A0_2 l0_2.length c0_2) rfl)|(refine zg (some 9) func100 #[.slice A0_1 l0_1.length c0_1] ?_;(with_reducible refine (Y05.calls _ _ l0_1 t784 _ (zC (Kd.C_below HR0_1.out HB.out)) HC0_1.out (Tryz.Gl.below HG.out bw) A2.out).mono ?_);rintro e w7 ⟨rfl,hb⟩;refine ⟨_,rfl,?_⟩;replace BK783:=sK BK783 hb;replace HB:=sB hb;clear hb)|(refine zg (some 12) func133 #[.string t784] ?_;(with_reducible refine (Y0m.calls t784 t785 t786 _ ?sideE A3.out).mono ?_);(case sideE=>exact Tryz.Gl.below HG.out bw);rintro e w8 ⟨ev,hev,rfl,hb⟩;have HEV:=aZ hev;clear hev;refine ⟨_,rfl,?_⟩;replace BK783:=sK BK783 hb;replace HB:=sB hb;clear hb;(try simp only [errW_none,errW_some])))
 (try simp only [Act.put,List.setIfInBounds_toArray,List.set_cons_zero,List.set_cons_succ])
 go_cut [34] (fun v34 wc=>∃ (kq:Nat) (x34_3:Bool),v34 = .bool x34_3∧Aside0 (Yf.j0 kq t785 x34_3 a0_0 l0_1 l0_2=some (r1,r2))∧Aside0 (kq≤k)∧Aside0 (wc.heap[gb783]? = some (.cells #[.bool a0_0,(.slice A0_1 l0_1.length c0_1),(.slice A0_2 l0_2.length c0_2)] 67 (0,0)))∧Aside0 (Below w.heap.size w wc))
 case first =>
  have H:=HC4.out
  clear HC4
  rcases t786 with _|q787
  ·have H1:(if (t784.size:Int)>18 then (Yf.j0 k t785 true a0_0 l0_1 l0_2) else (if (l0_2.length:Int)=1 then (if 0<(l0_2.length:Int) then (Yf.j0 k t785 ((rd l0_2 0) != 1) a0_0 l0_1 l0_2) else (none)) else (Yf.j0 k t785 true a0_0 l0_1 l0_2)))=some (r1,r2):=by rw [if_pos (show (none:Option Int).isNone=true by rfl)] at H;exact H
   clear H
   have H:=H1
   clear H1
   obtain rfl:ev = .nilIface:=HEV.out
   by_cases c9:(t784.size:Int)>18
   case neg=>
    rw [if_neg c9] at H
    have c9b0:=decide_eq_false c9
    have c9b1:decide (18<t784.size)=false:=decide_eq_false (by omega)
    clear c9
    (first|rw [c9b0]|(simp only [i64_w,i32_w];rw [c9b0])|skip)
    by_cases c10:(l0_2.length:Int)=1
    case neg=>
     rw [if_neg c10] at H
     obtain ⟨c10b0,c10b1⟩:=zX c10
     have H':=aZ H
     clear H
     obtain ⟨hcz13_0,hfz13_0⟩:=zc BK783 0 (.bool a0_0) rfl
     obtain ⟨hcz13_1,hfz13_1⟩:=zc BK783 1 (.slice A0_1 l0_1.length c0_1) rfl
     obtain ⟨hcz13_2,hfz13_2⟩:=zc BK783 2 (.slice A0_2 l0_2.length c0_2) rfl
     go_wp2
     go_meet
     case rel=>exact ⟨_,(true),zs,H',⟨by first|omega|exact Nat.le_refl _⟩,⟨zb BK783⟩,⟨bw⟩⟩
    rw [if_pos c10] at H
    obtain ⟨c10b0,c10b1⟩:=zY c10
    clear c10
    by_cases c11:0<(l0_2.length:Int)
    case neg=>
     rw [if_neg c11] at H
     cases H
    rw [if_pos c11] at H
    have c11b0:=decide_eq_true c11
    have c11b1:decide (0<l0_2.length)=true:=decide_eq_true (by omega)
    clear c11
    have H':=aZ H
    clear H
    obtain ⟨hcz12_0,hfz12_0⟩:=zc BK783 0 (.bool a0_0) rfl
    obtain ⟨hcz12_1,hfz12_1⟩:=zc BK783 1 (.slice A0_1 l0_1.length c0_1) rfl
    obtain ⟨hcz12_2,hfz12_2⟩:=zc BK783 2 (.slice A0_2 l0_2.length c0_2) rfl
    have p788:0≤(0:Int):=(by omega)
    have q788:0<(l0_2.length:Int):=zd
    obtain ⟨ad788,e788,hx788_0⟩:=Kd.at_int HR0_2.out 0 p788 q788
    cases e788
    have qi788:(0<l0_2.length)=True:=eq_true (by omega)
    (try rw [show ((0:Int)).toNat=0 from rfl] at hx788_0)
    (try rw [Addr.add_zero'] at hx788_0)
    replace hx788_0:=(HB.out.cell (World.block_lt_of_cell? w _ hx788_0)).trans hx788_0
    replace p788:=eq_true p788
    replace q788:=eq_true q788
    go_wp2
    go_meet
    case rel=>exact ⟨_,(((rd l0_2 0) != 1)),zs,H',⟨by first|omega|exact Nat.le_refl _⟩,⟨zb BK783⟩,⟨bw⟩⟩
   rw [if_pos c9] at H
   have c9b0:=decide_eq_true c9
   have c9b1:decide (18<t784.size)=true:=decide_eq_true (by omega)
   clear c9
   (first|rw [c9b0]|(simp only [i64_w,i32_w];rw [c9b0])|skip)
   have H':=aZ H
   clear H
   go_wp2
   go_meet
   case rel=>exact ⟨_,(true),zs,H',⟨by first|omega|exact Nat.le_refl _⟩,⟨zb BK783⟩,⟨bw⟩⟩
  ·have H1:(Yf.j0 k t785 true a0_0 l0_1 l0_2)=some (r1,r2):=by rw [if_neg (show ¬ (some q787).isNone=true by simp)] at H;exact H
   clear H
   have H:=H1
   clear H1
   obtain ⟨te,pe,rfl⟩:∃ te pe,ev = .iface te pe:=HEV.out
   have H':=aZ H
   clear H
   go_wp2
   go_meet
   case rel=>exact ⟨_,(true),zs,H',⟨by first|omega|exact Nat.le_refl _⟩,⟨zb BK783⟩,⟨bw⟩⟩
 case rest =>
  clear HC4
  obtain ⟨kq,x34_3,rfl,HA,HJ3,BK783,HB⟩:=hcut
  cases kq with
  | zero=>exact absurd HA.out (by simp [Yf.j0])
  | succ kj3 =>
   have H:=HA.out
   clear HA
   simp only [Yf.j0] at H
   by_cases c14:x34_3=true
   case neg=>
    replace c14:=Bool.eq_false_iff.mpr c14
    subst c14
    replace H:=zU H
    by_cases c15:a0_0=true
    case neg=>
     replace c15:=Bool.eq_false_iff.mpr c15
     subst c15
     replace H:=zU H
     obtain ⟨rfl,rfl⟩:=zo2 H
     obtain ⟨hcz17_0,hfz17_0⟩:=zc BK783 0 (.bool false) rfl
     obtain ⟨hcz17_1,hfz17_1⟩:=zc BK783 1 (.slice A0_1 l0_1.length c0_1) rfl
     obtain ⟨hcz17_2,hfz17_2⟩:=zc BK783 2 (.slice A0_2 l0_2.length c0_2) rfl
     go_wp2
     go_ret2
     exact ⟨ze,bw⟩
    subst c15
    replace H:=zT H
    obtain ⟨rfl,rfl⟩:=zo2 H
    obtain ⟨hcz16_0,hfz16_0⟩:=zc BK783 0 (.bool true) rfl
    obtain ⟨hcz16_1,hfz16_1⟩:=zc BK783 1 (.slice A0_1 l0_1.length c0_1) rfl
    obtain ⟨hcz16_2,hfz16_2⟩:=zc BK783 2 (.slice A0_2 l0_2.length c0_2) rfl
    go_wp2
    go_ret2
    exact ⟨ze,bw⟩
   subst c14
   replace H:=zT H
   obtain ⟨rfl,rfl⟩:=zo2 H
   go_wp2
   go_ret2
   exact ⟨ze,bw⟩
end
section
def Y0i.f (k:Nat) (a0:Int) (a1:Int):Option (Bool×List Int×List Int):=(Y02.f a0).bind fun t386=>((Y5.f k t386).bind fun t387=>((Y02.f a1).bind fun t390=>((Y5.f k t390).bind fun t391=>((Yw.f k ((decide (a0<0)) != (decide (a1<0))) t387 t391).bind fun bt394=>(some (bt394.1,bt394.2.1,bt394.2.2))))))
theorem Y0i.calls (k:Nat) (a0:Int) (a1:Int) (r1:Bool) (r2:List Int) (r3:List Int) (w:World) (h:Y0i.f k a0 a1=some (r1,r2,r3)) :
  Calls Tryz.prog 51 #[.int .i64 a0,.int .i64 a1] w fun e w'=>∃ v1_ v2_:Value,e = .returned (.agg #[.bool r1,v1_,v2_])∧Kd.V (Kd.int .i64) 3 w' w.heap.size (fun k_=>(w.heap.size≤k_)) v1_ r2∧Kd.V (Kd.int .i64) 3 w' w.heap.size (fun k_=>(w.heap.size≤k_)) v2_ r3∧Below w.heap.size w w':=by
 have hu67:=underlying67
 have HB:=aZ (Below.refl w.heap.size w)
 have H:=h
 unfold Y0i.f at H
 clear h
 obtain ⟨t386,A3,H⟩:=zB H
 obtain ⟨t387,A4,H⟩:=zB H
 obtain ⟨t390,A5,H⟩:=zB H
 obtain ⟨t391,A6,H⟩:=zB H
 replace H:=Option.bind_eq_some_iff.mp H
 obtain ⟨⟨t394,t395,t398⟩,A70,H⟩:=H
 obtain ⟨b1_,hb1_⟩:∃ b_,decide (a0<0)=b_:=⟨_,rfl⟩
 obtain ⟨b2_,hb2_⟩:∃ b_,decide (a1<0)=b_:=⟨_,rfl⟩
 rw [hb1_,hb2_,show (b1_ != b2_) = !(b1_==b2_) from rfl] at A70
 replace H:(some (t394,t395,t398))=some (r1,r2,r3):=H
 have A7:=aZ A70
 clear A70
 obtain ⟨rfl,rfl,rfl⟩:=zo3 H
 go_enter func51,ntmps51
 go_wp2_with (first|(refine box_ev 4 #[.bool false,.slice none 0 0,.slice none 0 0] 67 ?_;intro gb385 hg w8 hbox hb;have BK385:=aZ hbox;have GE385:=sG hg;replace HB:=sB hb;clear hb hbox hg)|(refine zg (some 11) func99 #[.int .i64 a0] ?_;(with_reducible refine (Y02.calls a0 t386 _ A3.out).mono ?_);rintro e w' ⟨rfl,⟨nd,rfl⟩⟩;refine ⟨_,rfl,?_⟩;(try (rw [drewN_self w8];generalize hq_:World.drewN w8 _=w8;have n0_:Aside0 (w8.heap[gb385]? = some (.cells #[.bool false,.slice none 0 0,.slice none 0 0] 67 (0,0))):=⟨by rw [← hq_];exact (zb BK385)⟩;have n1_:Aside0 (Below w.heap.size w w8):=⟨by rw [← hq_];exact bw⟩;clear BK385 HB hq_;have BK385:=n0_;have HB:=n1_;clear n0_ n1_)))|(refine zg (some 12) func98 #[.int .u64 t386] ?_;(with_reducible refine (Y5.calls k t386 t387 _ A4.out).mono ?_);rintro e w9 ⟨v388,rfl,ho0,hb⟩;refine ⟨_,rfl,?_⟩;have HO389:=aZ (Kd.R_lower (Kd.R_newM (M:=fun k_=>(w.heap.size≤k_)) ho0 bs (fun k_ h_=>h_)) bs);replace BK385:=sK BK385 hb;replace HB:=sB hb;clear hb ho0)|(refine zg (some 14) func99 #[.int .i64 a1] ?_;(with_reducible refine (Y02.calls a1 t390 _ A5.out).mono ?_);rintro e w' ⟨rfl,⟨nd,rfl⟩⟩;refine ⟨_,rfl,?_⟩;(try (rw [drewN_self w9];generalize hq_:World.drewN w9 _=w9;have n0_:Aside0 (Kd.R (Kd.int .i64) 3 w9 w.heap.size (fun k_=>(w.heap.size≤k_)) v388 t387):=⟨by rw [← hq_];exact (rM HO389 (fun _ hk=>hk.1))⟩;have n1_:Aside0 (w9.heap[gb385]? = some (.cells #[.bool false,.slice none 0 0,.slice none 0 0] 67 (0,0))):=⟨by rw [← hq_];exact (zb BK385)⟩;have n2_:Aside0 (Below w.heap.size w w9):=⟨by rw [← hq_];exact bw⟩;clear HO389 BK385 HB hq_;have HO389:=n0_;have BK385:=n1_;have HB:=n2_;clear n0_ n1_ n2_)))|(refine zg (some 15) func98 #[.int .u64 t390] ?_;(with_reducible refine (Y5.calls k t390 t391 _ A6.out).mono ?_);rintro e w10 ⟨v392,rfl,ho0,hb⟩;refine ⟨_,rfl,?_⟩;have HO393:=aZ (Kd.R_lower (Kd.R_new' (Kd.R_newM (M:=fun k_=>(w.heap.size≤k_)) ho0 bs (fun k_ h_=>h_)) (Kd.R_lt (zR HO389))) bs);replace HO389:=aZ (Kd.R_elder' (zR HO389) (Kd.R_base ho0) hb);replace BK385:=sK BK385 hb;replace HB:=sB hb;clear hb ho0;obtain ⟨Ao11,co11,rfl⟩:=Kd.R_slice HO389.out;obtain ⟨Ao12,co12,rfl⟩:=Kd.R_slice HO393.out)|(refine zg (some 16) func101 #[.bool (!(b1_==b2_)),.slice Ao11 t387.length co11,.slice Ao12 t391.length co12] ?_;(with_reducible refine (Yw.calls k (!(b1_==b2_)) (fun k_=>some k_=(.slice Ao11 t387.length co11:Value).ownBlock) _ _ t387 (fun k_=>some k_=(.slice Ao12 t391.length co12:Value).ownBlock) _ _ t391 t394 t395 t398 _ ?side1 ?side2 A7.out).mono ?_);(case side1=>exact Kd.R_V (Kd.R_tight rfl (Kd.R_types (HO389.out) BK385.out (by decide))));(case side2=>exact Kd.R_V (Kd.R_tight rfl (Kd.R_types (HO393.out) BK385.out (by decide))));rintro e w13 ⟨v396,v399,rfl,ho0,ho1,hb⟩;refine ⟨_,rfl,?_⟩;have HO397:=yL (fun k_=>(w.heap.size≤k_)∧k_≠gb385) ho0 (fun k_ hk_=>⟨Or.elim hk_ (fun hs_=>Or.elim hs_ (fun hs_=>(by have hq_:=(Kd.R_types (HO389.out) BK385.out (by decide)).1 k_ hs_.symm;first|exact hq_.1.1.1|exact hq_.1.1)) (fun hs_=>(by have hq_:=(Kd.R_types (HO393.out) BK385.out (by decide)).1 k_ hs_.symm;first|exact hq_.1.1.1|exact hq_.1.1))) (fun hn_=>(Nat.le_trans bs hn_)),Or.elim hk_ (fun hs_=>Or.elim hs_ (fun hs_=>((Kd.R_types (HO389.out) BK385.out (by decide)).1 k_ hs_.symm).2) (fun hs_=>((Kd.R_types (HO393.out) BK385.out (by decide)).1 k_ hs_.symm).2)) (fun hn_=>(zf BK385 hn_))⟩);have HO400:=yL (fun k_=>(w.heap.size≤k_)∧k_≠gb385) ho1 (fun k_ hk_=>⟨Or.elim hk_ (fun hs_=>Or.elim hs_ (fun hs_=>(by have hq_:=(Kd.R_types (HO389.out) BK385.out (by decide)).1 k_ hs_.symm;first|exact hq_.1.1.1|exact hq_.1.1)) (fun hs_=>(by have hq_:=(Kd.R_types (HO393.out) BK385.out (by decide)).1 k_ hs_.symm;first|exact hq_.1.1.1|exact hq_.1.1))) (fun hn_=>(Nat.le_trans bs hn_)),Or.elim hk_ (fun hs_=>Or.elim hs_ (fun hs_=>((Kd.R_types (HO389.out) BK385.out (by decide)).1 k_ hs_.symm).2) (fun hs_=>((Kd.R_types (HO393.out) BK385.out (by decide)).1 k_ hs_.symm).2)) (fun hn_=>(zf BK385 hn_))⟩);replace HO389:=yR HO389 hb;replace HO393:=yR HO393 hb;replace BK385:=sK BK385 hb;replace HB:=sB hb;clear hb ho0 ho1;obtain ⟨hcz14_0,hfz14_0⟩:=zc BK385 0 (.bool false) rfl;obtain ⟨hcz14_1,hfz14_1⟩:=zc BK385 1 (.slice none 0 0) rfl;obtain ⟨hcz14_2,hfz14_2⟩:=zc BK385 2 (.slice none 0 0) rfl;obtain ⟨Ao15,co15,rfl⟩:=Kd.V_slice HO397.out;obtain ⟨Ao16,co16,rfl⟩:=Kd.V_slice HO400.out))
 refine bodyPost_ret (results_cell_row rfl _ _ gb385 67 #[.bool t394,.slice Ao15 t395.length co15,.slice Ao16 t398.length co16] (0,0) _ rfl (zp BK385) underlying67 rfl (by kernel_rfl)) rfl ?_
 exact ⟨_,_,ze,zF HO397,zF HO400,bw⟩
end
def Y6.f (k:Nat) (a0_0:Bool) (l0_1:List Int) (l0_2:List Int) (a1_0:Bool) (l1_1:List Int) (l1_2:List Int):Option (Bool×List Int×List Int):=(Y1.f k l0_1 l1_2).bind fun t678=>((Y1.f k l1_1 l0_2).bind fun t681=>((Y1.f k l0_2 l1_2).bind fun t684=>(if (a0_0==a1_0)=true then ((Ya.f k t678 t681 1).bind fun t687=>((Yw.f k a0_0 t687 t684).bind fun bt690=>(some (bt690.1,bt690.2.1,bt690.2.2)))) else ((Y9.f k t678 t681).bind fun t697=>(if t697≥0 then ((Ya.f k t678 t681 (-1)).bind fun t698=>((Yw.f k a0_0 t698 t684).bind fun bt701=>(some (bt701.1,bt701.2.1,bt701.2.2)))) else ((Ya.f k t681 t678 (-1)).bind fun t708=>((Yw.f k a1_0 t708 t684).bind fun bt711=>(some (bt711.1,bt711.2.1,bt711.2.2)))))))))
def Y6.T1:Bool×List (List Nat×List Nat):=(true,[([],[]),([0],[0]),([],[]),([2],[2]),([1,3],[1,3]),([],[]),([5],[5]),([],[]),([7],[7]),([6,8,4],[6,8]),([4,9,0,1,2,3,4],[4]),([9,10,0,1,2,3,4,5,6,7,8,9,10],[9])])
def Y6.B1:List Nat:=[0,1,0,4,15,0,32,0,128,511,1023,2047]
theorem Y6.tab1:rtab .any (opsOf Tryz.f68 1)=Y6.T1:=by kernel_rfl
theorem Y6.bits1:waitsOk Y6.T1.2 Y6.B1=true:=by kernel_rfl
def Y6.T4:Bool×List (List Nat×List Nat):=(true,[([],[]),([0],[0]),([],[]),([],[]),([2,3],[2,3]),([],[]),([1,4,5,4],[1,4,5]),([6,6,0,1,2,3,4,5,6],[6])])
def Y6.B4:List Nat:=[0,1,0,0,12,0,63,127]
theorem Y6.tab4:rtab .any (opsOf Tryz.f68 4)=Y6.T4:=by kernel_rfl
theorem Y6.bits4:waitsOk Y6.T4.2 Y6.B4=true:=by kernel_rfl
def Y6.T6:Bool×List (List Nat×List Nat):=(true,[([],[]),([0],[0]),([],[]),([],[]),([2,3],[2,3]),([],[]),([1,4,5,4],[1,4,5]),([6,6,0,1,2,3,4,5,6],[6])])
def Y6.B6:List Nat:=[0,1,0,0,12,0,63,127]
theorem Y6.tab6:rtab .any (opsOf Tryz.f68 6)=Y6.T6:=by kernel_rfl
theorem Y6.bits6:waitsOk Y6.T6.2 Y6.B6=true:=by kernel_rfl
def Y6.T7:Bool×List (List Nat×List Nat):=(true,[([],[]),([0],[0]),([],[]),([],[]),([2,3],[2,3]),([],[]),([1,4,5,4],[1,4,5]),([6,6,0,1,2,3,4,5,6],[6])])
def Y6.B7:List Nat:=[0,1,0,0,12,0,63,127]
theorem Y6.tab7:rtab .any (opsOf Tryz.f68 7)=Y6.T7:=by kernel_rfl
theorem Y6.bits7:waitsOk Y6.T7.2 Y6.B7=true:=by kernel_rfl
theorem Y6.calls (k:Nat) (a0_0:Bool) (A0_1:Option Addr) (c0_1:Nat) (l0_1:List Int) (A0_2:Option Addr) (c0_2:Nat) (l0_2:List Int) (a1_0:Bool) (A1_1:Option Addr) (c1_1:Nat) (l1_1:List Int) (A1_2:Option Addr) (c1_2:Nat) (l1_2:List Int) (r1:Bool) (r2:List Int) (r3:List Int) (w:World) (hr0_1:Kd.C (Kd.int .i64) w A0_1 l0_1.length l0_1) (hc0_1:l0_1.length≤c0_1) (hr0_2:Kd.C (Kd.int .i64) w A0_2 l0_2.length l0_2) (hc0_2:l0_2.length≤c0_2) (hr1_1:Kd.C (Kd.int .i64) w A1_1 l1_1.length l1_1) (hc1_1:l1_1.length≤c1_1) (hr1_2:Kd.C (Kd.int .i64) w A1_2 l1_2.length l1_2) (hc1_2:l1_2.length≤c1_2) (h:Y6.f k a0_0 l0_1 l0_2 a1_0 l1_1 l1_2=some (r1,r2,r3)) :
  Calls Tryz.prog 68 #[.agg #[.bool a0_0,.slice A0_1 l0_1.length c0_1,.slice A0_2 l0_2.length c0_2],.agg #[.bool a1_0,.slice A1_1 l1_1.length c1_1,.slice A1_2 l1_2.length c1_2]] w fun e w'=>∃ v1_ v2_:Value,e = .returned (.agg #[.bool r1,v1_,v2_])∧Kd.V (Kd.int .i64) 3 w' w.heap.size (fun k_=>(w.heap.size≤k_)) v1_ r2∧Kd.V (Kd.int .i64) 3 w' w.heap.size (fun k_=>(w.heap.size≤k_)) v2_ r3∧Below w.heap.size w w':=by
 have hu67:=underlying67
 have HR0_1:=aZ hr0_1
 have HC0_1:=aZ hc0_1
 clear hr0_1 hc0_1
 have HR0_2:=aZ hr0_2
 have HC0_2:=aZ hc0_2
 clear hr0_2 hc0_2
 have HR1_1:=aZ hr1_1
 have HC1_1:=aZ hc1_1
 clear hr1_1 hc1_1
 have HR1_2:=aZ hr1_2
 have HC1_2:=aZ hc1_2
 clear hr1_2 hc1_2
 have HB:=aZ (Below.refl w.heap.size w)
 have H:=h
 unfold Y6.f at H
 clear h
 obtain ⟨t678,A3,H⟩:=zB H
 obtain ⟨t681,A4,H⟩:=zB H
 obtain ⟨t684,A5,H⟩:=zB H
 by_cases c6:(a0_0==a1_0)=true
 case neg=>
  rw [if_neg c6] at H
  have c6b0:(a0_0==a1_0)=false:=by simpa using c6
  (try (have c6b1:decide (a0_0=a1_0)=false:=by simpa using c6))
  (try (have c6b2:(a0_0==a1_0)=false:=by simpa using c6))
  (try (have c6b3:¬ (a0_0=a1_0):=by simpa using c6))
  clear c6
  obtain ⟨t697,A35,H⟩:=zB H
  by_cases c36:t697≥0
  case neg=>
   rw [if_neg c36] at H
   have c36b0:=decide_eq_false c36
   clear c36
   obtain ⟨t708,A65,H⟩:=zB H
   obtain ⟨⟨t711,t712,t715⟩,A66,H⟩:=zB H
   (try dsimp only at H)
   obtain ⟨rfl,rfl,rfl⟩:=zo3 H
   go_enter func68,ntmps68
   try go_wp2_with (first|(refine box_ev 2 #[.bool a0_0,.slice A0_1 l0_1.length c0_1,.slice A0_2 l0_2.length c0_2] 67 ?_;intro gb675 hg w67 hbox hb;have BK675:=aZ hbox;have GE675:=sG hg;replace HB:=sB hb;clear hb hbox hg)|(refine box_ev 3 #[.bool a1_0,.slice A1_1 l1_1.length c1_1,.slice A1_2 l1_2.length c1_2] 67 ?_;intro gb676 hg w68 hbox hb;have BK676:=aZ hbox;have GE676:=sG hg;replace HB:=sB hb;obtain ⟨NB675_676,NB676_675,BK675⟩:=sX hg hb BK675;clear hb hbox hg)|(refine box_ev 4 #[.bool false,.slice none 0 0,.slice none 0 0] 67 ?_;intro gb677 hg w69 hbox hb;have BK677:=aZ hbox;have GE677:=sG hg;replace HB:=sB hb;obtain ⟨NB675_677,NB677_675,BK675⟩:=sX hg hb BK675;obtain ⟨NB676_677,NB677_676,BK676⟩:=sX hg hb BK676;clear hb hbox hg))
   replace BK675:=aZ (blk_drew BK675.out)
   replace BK676:=aZ (blk_drew BK676.out)
   replace BK677:=aZ (blk_drew BK677.out)
   replace HB:=aZ (below_drew1 HB.out)
   refine start_ (n:=12) (S:=fun w'=>w'.cell? ⟨gb675,0,none⟩=some (.bool a0_0)∧w'.cell? ⟨gb675,1,none⟩=some (.slice A0_1 l0_1.length c0_1)∧w'.cell? ⟨gb675,2,none⟩=some (.slice A0_2 l0_2.length c0_2)∧w'.cell? ⟨gb676,0,none⟩=some (.bool a1_0)∧w'.cell? ⟨gb676,1,none⟩=some (.slice A1_1 l1_1.length c1_1)∧w'.cell? ⟨gb676,2,none⟩=some (.slice A1_2 l1_2.length c1_2)) (ds:=[]) #[false,false,false,false,false,false,false,false,false,false,false,false] (by kernel_rfl) rfl rfl ⟨zh BK675 0,zh BK675 1,zh BK675 2,zh BK676 0,zh BK676 1,zh BK676 2⟩ (fun hHeld=>?_);refine with_tabW Y6.tab1 Y6.bits1 (fun HT_ HW_=>?_)
   generalize w69.drew=w70 at BK675 BK676 BK677 HB hHeld ⊢
   refine pu 0 (some 8) HT_ ?_
   refine pu 2 (some 10) HT_ ?_
   refine pu 5 (some 13) HT_ ?_
   refine pu 7 (some 15) HT_ ?_
   refine tk 1 (some 9) HT_ HW_ hHeld ?_
   refine tk 3 (some 11) HT_ HW_ hHeld ?_
   refine tk 6 (some 14) HT_ HW_ hHeld ?_
   refine tk 8 (some 16) HT_ HW_ hHeld ?_
   refine one_ (i:=4) (N:=some 12) #[true,true,true,true,true,true,true,true,true,false,false,false] rfl rfl (one_of HT_.out (by kernel_rfl)) (by decide) (fun K hK=>?_)
   refine goes_ func112 (by kernel_rfl) rfl #[.slice A0_1 l0_1.length c0_1,.slice A1_2 l1_2.length c1_2] (by rfl) rfl rfl zm ?_
   with_reducible refine (Y1.calls k _ _ l0_1 _ _ l1_2 t678 _ (zC (Kd.C_below HR0_1.out HB.out)) HC0_1.out (zC (Kd.C_below HR1_2.out HB.out)) HC1_2.out A3.out).mono ?_
   rintro e w71 ⟨v679,rfl,ho0,hb⟩
   refine ⟨_,rfl,?_⟩
   have HO680:=yL (fun k_=>(w.heap.size≤k_)∧k_≠gb675∧k_≠gb676∧k_≠gb677) ho0 (fun k_ hk_=>⟨(Nat.le_trans bs hk_),(zf BK675 hk_),(zf BK676 hk_),(zf BK677 hk_)⟩)
   replace BK675:=sK BK675 hb
   replace BK676:=sK BK676 hb
   replace BK677:=sK BK677 hb
   replace HB:=sB hb
   clear hb ho0
   refine hK.out _ _ ⟨zh BK675 0,zh BK675 1,zh BK675 2,zh BK676 0,zh BK676 1,zh BK676 2⟩ (fun hHeld=>?_)
   clear hK K
   refine nm ?_
   refine one_ (i:=9) (N:=some 17) #[true,true,true,true,true,true,true,true,true,true,false,false] rfl rfl (one_of HT_.out (by kernel_rfl)) (by decide) (fun K hK=>?_)
   refine goes_ func112 (by kernel_rfl) rfl #[.slice A1_1 l1_1.length c1_1,.slice A0_2 l0_2.length c0_2] (by rfl) rfl rfl zm ?_
   with_reducible refine (Y1.calls k _ _ l1_1 _ _ l0_2 t681 _ (zC (Kd.C_below HR1_1.out HB.out)) HC1_1.out (zC (Kd.C_below HR0_2.out HB.out)) HC0_2.out A4.out).mono ?_
   rintro e w72 ⟨v682,rfl,ho0,hb⟩
   refine ⟨_,rfl,?_⟩
   replace HO680:=yV HO680 hb
   have HO683:=yL (fun k_=>(w.heap.size≤k_)∧k_≠gb675∧k_≠gb676∧k_≠gb677) ho0 (fun k_ hk_=>⟨(Nat.le_trans bs hk_),(zf BK675 hk_),(zf BK676 hk_),(zf BK677 hk_)⟩)
   replace BK675:=sK BK675 hb
   replace BK676:=sK BK676 hb
   replace BK677:=sK BK677 hb
   replace HB:=sB hb
   clear hb ho0
   refine hK.out _ _ ⟨zh BK675 0,zh BK675 1,zh BK675 2,zh BK676 0,zh BK676 1,zh BK676 2⟩ (fun hHeld=>?_)
   clear hK K
   refine nm ?_
   refine pu 10 (some 5) HT_ ?_
   refine pu 11 (some 6) HT_ ?_
   refine done_ (done_of HT_.out (by kernel_rfl)) ?_
   have hnb73:=NB675_676.out
   have hnc73:=NB676_675.out
   have hnb74:=NB675_677.out
   have hnc74:=NB677_675.out
   obtain ⟨hcz75_0,hfz75_0⟩:=zc BK675 0 (.bool a0_0) rfl
   obtain ⟨hcz75_1,hfz75_1⟩:=zc BK675 1 (.slice A0_1 l0_1.length c0_1) rfl
   obtain ⟨hcz75_2,hfz75_2⟩:=zc BK675 2 (.slice A0_2 l0_2.length c0_2) rfl
   have hnb76:=NB676_677.out
   have hnc76:=NB677_676.out
   obtain ⟨hcz77_0,hfz77_0⟩:=zc BK676 0 (.bool a1_0) rfl
   obtain ⟨hcz77_1,hfz77_1⟩:=zc BK676 1 (.slice A1_1 l1_1.length c1_1) rfl
   obtain ⟨hcz77_2,hfz77_2⟩:=zc BK676 2 (.slice A1_2 l1_2.length c1_2) rfl
   try go_wp2_with (first|(refine zg (some 22) func112 #[.slice A0_2 l0_2.length c0_2,.slice A1_2 l1_2.length c1_2] ?_;(with_reducible refine (Y1.calls k _ _ l0_2 _ _ l1_2 t684 _ (zC (Kd.C_below HR0_2.out HB.out)) HC0_2.out (zC (Kd.C_below HR1_2.out HB.out)) HC1_2.out A5.out).mono ?_);rintro e w78 ⟨v685,rfl,ho0,hb⟩;refine ⟨_,rfl,?_⟩;replace HO680:=yV HO680 hb;replace HO683:=yV HO683 hb;have HO686:=yL (fun k_=>(w.heap.size≤k_)∧k_≠gb675∧k_≠gb676∧k_≠gb677) ho0 (fun k_ hk_=>⟨(Nat.le_trans bs hk_),(zf BK675 hk_),(zf BK676 hk_),(zf BK677 hk_)⟩);replace BK675:=sK BK675 hb;replace BK676:=sK BK676 hb;replace BK677:=sK BK677 hb;replace HB:=sB hb;clear hb ho0;obtain ⟨hcz79_0,hfz79_0⟩:=zc BK675 0 (.bool a0_0) rfl;obtain ⟨hcz79_1,hfz79_1⟩:=zc BK675 1 (.slice A0_1 l0_1.length c0_1) rfl;obtain ⟨hcz79_2,hfz79_2⟩:=zc BK675 2 (.slice A0_2 l0_2.length c0_2) rfl;obtain ⟨hcz80_0,hfz80_0⟩:=zc BK676 0 (.bool a1_0) rfl;obtain ⟨hcz80_1,hfz80_1⟩:=zc BK676 1 (.slice A1_1 l1_1.length c1_1) rfl;obtain ⟨hcz80_2,hfz80_2⟩:=zc BK676 2 (.slice A1_2 l1_2.length c1_2) rfl;obtain ⟨Ao81,co81,rfl⟩:=Kd.V_slice HO680.out;obtain ⟨Ao82,co82,rfl⟩:=Kd.V_slice HO683.out)|(refine zg (some 39) func120 #[.slice Ao81 t678.length co81,.slice Ao82 t681.length co82] ?_;(with_reducible refine (Y9.calls k _ _ t678 _ _ t681 t697 _ (zC (Kd.V_reads' HO680.out).2.2) ((Kd.V_reads' HO680.out).2.1) (zC (Kd.V_reads' HO683.out).2.2) ((Kd.V_reads' HO683.out).2.1) A35.out).mono ?_);rintro e w' ⟨rfl,⟨nd,rfl⟩⟩;refine ⟨_,rfl,?_⟩;(try (rw [drewN_self w78];generalize hq_:World.drewN w78 _=w78;have n0_:Aside0 (Kd.V (Kd.int .i64) 3 w78 w.heap.size (fun k_=>(w.heap.size≤k_)∧k_≠gb675∧k_≠gb676∧k_≠gb677) (.slice Ao81 t678.length co81) t678):=⟨by rw [← hq_];exact (zV HO680)⟩;have n1_:Aside0 (Kd.V (Kd.int .i64) 3 w78 w.heap.size (fun k_=>(w.heap.size≤k_)∧k_≠gb675∧k_≠gb676∧k_≠gb677) (.slice Ao82 t681.length co82) t681):=⟨by rw [← hq_];exact (zV HO683)⟩;have n2_:Aside0 (Kd.V (Kd.int .i64) 3 w78 w.heap.size (fun k_=>(w.heap.size≤k_)∧k_≠gb675∧k_≠gb676∧k_≠gb677) v685 t684):=⟨by rw [← hq_];exact (zV HO686)⟩;have n3_:Aside0 (w78.heap[gb675]? = some (.cells #[.bool a0_0,.slice A0_1 l0_1.length c0_1,.slice A0_2 l0_2.length c0_2] 67 (0,0))):=⟨by rw [← hq_];exact (zb BK675)⟩;have n4_:Aside0 (w78.heap[gb676]? = some (.cells #[.bool a1_0,.slice A1_1 l1_1.length c1_1,.slice A1_2 l1_2.length c1_2] 67 (0,0))):=⟨by rw [← hq_];exact (zb BK676)⟩;have n5_:Aside0 (w78.heap[gb677]? = some (.cells #[.bool false,.slice none 0 0,.slice none 0 0] 67 (0,0))):=⟨by rw [← hq_];exact (zb BK677)⟩;have n6_:Aside0 (Below w.heap.size w w78):=⟨by rw [← hq_];exact bw⟩;clear HO680 HO683 HO686 BK675 BK676 BK677 HB hq_;have HO680:=n0_;have HO683:=n1_;have HO686:=n2_;have BK675:=n3_;have BK676:=n4_;have BK677:=n5_;have HB:=n6_;clear n0_ n1_ n2_ n3_ n4_ n5_ n6_))))
   replace HO680:=aZ (Kd.V_drew HO680.out)
   replace HO683:=aZ (Kd.V_drew HO683.out)
   replace HO686:=aZ (Kd.V_drew HO686.out)
   replace BK675:=aZ (blk_drew BK675.out)
   replace BK676:=aZ (blk_drew BK676.out)
   replace BK677:=aZ (blk_drew BK677.out)
   replace HB:=aZ (below_drew1 HB.out)
   refine start_ (n:=8) (S:=fun w'=>w'.cell? ⟨gb676,0,none⟩=some (.bool a1_0)∧w'.cell? ⟨gb676,1,none⟩=some (.slice A1_1 l1_1.length c1_1)∧w'.cell? ⟨gb676,2,none⟩=some (.slice A1_2 l1_2.length c1_2)) (ds:=[]) #[false,false,false,false,false,false,false,false] (by kernel_rfl) rfl rfl ⟨zh BK676 0,zh BK676 1,zh BK676 2⟩ (fun hHeld=>?_);refine with_tabW Y6.tab7 Y6.bits7 (fun HT_ HW_=>?_)
   generalize w78.drew=w83 at HO680 HO683 HO686 BK675 BK676 BK677 HB hHeld ⊢
   refine pu 0 (some 48) HT_ ?_
   refine pu 2 (some 50) HT_ ?_
   refine pu 3 (some 51) HT_ ?_
   refine pu 5 (some 53) HT_ ?_
   refine tk 1 (some 49) HT_ HW_ hHeld ?_
   refine one_ (i:=4) (N:=some 52) #[true,true,true,true,true,true,false,false] rfl rfl (one_of HT_.out (by kernel_rfl)) (by decide) (fun K hK=>?_)
   refine goes_ func119 (by kernel_rfl) rfl #[.slice Ao82 t681.length co82,.slice Ao81 t678.length co81,.int .i64 (-1)] (by rfl) rfl rfl zm ?_
   with_reducible refine (Ya.calls k _ _ t681 _ _ t678 (-1) t708 _ (zC (Kd.V_reads' HO683.out).2.2) ((Kd.V_reads' HO683.out).2.1) (zC (Kd.V_reads' HO680.out).2.2) ((Kd.V_reads' HO680.out).2.1) A65.out).mono ?_
   rintro e w84 ⟨v709,rfl,ho0,hb⟩
   refine ⟨_,rfl,?_⟩
   replace HO680:=yV HO680 hb
   replace HO683:=yV HO683 hb
   replace HO686:=yV HO686 hb
   have HO710:=yL (fun k_=>(w.heap.size≤k_)∧k_≠gb675∧k_≠gb676∧k_≠gb677) ho0 (fun k_ hk_=>⟨(Nat.le_trans bs hk_),(zf BK675 hk_),(zf BK676 hk_),(zf BK677 hk_)⟩)
   replace BK675:=sK BK675 hb
   replace BK676:=sK BK676 hb
   replace BK677:=sK BK677 hb
   replace HB:=sB hb
   clear hb ho0
   obtain ⟨Ao85,co85,eo85⟩:=Kd.V_slice HO710.out
   (first|subst eo85|(injection eo85 with f1_ f2_ f3_;have f4_:=f1_.symm;have f5_:=f3_.symm;clear f1_ f2_ f3_;subst f4_;subst f5_))
   obtain ⟨Ao86,co86,eo86⟩:=Kd.V_slice HO686.out
   (first|subst eo86|(injection eo86 with f1_ f2_ f3_;have f4_:=f1_.symm;have f5_:=f3_.symm;clear f1_ f2_ f3_;subst f4_;subst f5_))
   refine hK.out _ _ ⟨zh BK676 0,zh BK676 1,zh BK676 2⟩ (fun hHeld=>?_)
   clear hK K
   refine nm ?_
   refine one_ (i:=6) (N:=some 54) #[true,true,true,true,true,true,true,false] rfl rfl (one_of HT_.out (by kernel_rfl)) (by decide) (fun K hK=>?_)
   refine goes_ func101 (by kernel_rfl) rfl #[.bool a1_0,.slice Ao85 t708.length co85,.slice Ao86 t684.length co86] (by rfl) rfl rfl zm ?_
   with_reducible refine (Yw.calls k a1_0 (fun k_=>((w.heap.size≤k_)∧(k_≠gb675∧(k_≠gb676∧k_≠gb677)))) _ _ t708 (fun k_=>((w.heap.size≤k_)∧(k_≠gb675∧(k_≠gb676∧k_≠gb677)))) _ _ t684 t711 t712 t715 _ HO710.out HO686.out A66.out).mono ?_
   rintro e w87 ⟨v713,v716,rfl,ho0,ho1,hb⟩
   refine ⟨_,rfl,?_⟩
   replace HO680:=yV HO680 hb
   replace HO683:=yV HO683 hb
   replace HO686:=yV HO686 hb
   replace HO710:=yV HO710 hb
   have HO714:=yL (fun k_=>(w.heap.size≤k_)∧k_≠gb675∧k_≠gb676∧k_≠gb677) ho0 (fun k_ hk_=>⟨Or.elim hk_ (fun hs_=>Or.elim hs_ (fun hs_=>hs_.1) (fun hs_=>hs_.1)) (fun hn_=>(Nat.le_trans bs hn_)),Or.elim hk_ (fun hs_=>Or.elim hs_ (fun hs_=>hs_.2.1) (fun hs_=>hs_.2.1)) (fun hn_=>(zf BK675 hn_)),Or.elim hk_ (fun hs_=>Or.elim hs_ (fun hs_=>hs_.2.2.1) (fun hs_=>hs_.2.2.1)) (fun hn_=>(zf BK676 hn_)),Or.elim hk_ (fun hs_=>Or.elim hs_ (fun hs_=>hs_.2.2.2) (fun hs_=>hs_.2.2.2)) (fun hn_=>(zf BK677 hn_))⟩)
   have HO717:=yL (fun k_=>(w.heap.size≤k_)∧k_≠gb675∧k_≠gb676∧k_≠gb677) ho1 (fun k_ hk_=>⟨Or.elim hk_ (fun hs_=>Or.elim hs_ (fun hs_=>hs_.1) (fun hs_=>hs_.1)) (fun hn_=>(Nat.le_trans bs hn_)),Or.elim hk_ (fun hs_=>Or.elim hs_ (fun hs_=>hs_.2.1) (fun hs_=>hs_.2.1)) (fun hn_=>(zf BK675 hn_)),Or.elim hk_ (fun hs_=>Or.elim hs_ (fun hs_=>hs_.2.2.1) (fun hs_=>hs_.2.2.1)) (fun hn_=>(zf BK676 hn_)),Or.elim hk_ (fun hs_=>Or.elim hs_ (fun hs_=>hs_.2.2.2) (fun hs_=>hs_.2.2.2)) (fun hn_=>(zf BK677 hn_))⟩)
   replace BK675:=sK BK675 hb
   replace BK676:=sK BK676 hb
   replace BK677:=sK BK677 hb
   replace HB:=sB hb
   clear hb ho0 ho1
   obtain ⟨Ao89,co89,eo89⟩:=Kd.V_slice HO714.out
   (first|subst eo89|(injection eo89 with f1_ f2_ f3_;have f4_:=f1_.symm;have f5_:=f3_.symm;clear f1_ f2_ f3_;subst f4_;subst f5_))
   obtain ⟨Ao91,co91,eo91⟩:=Kd.V_slice HO717.out
   (first|subst eo91|(injection eo91 with f1_ f2_ f3_;have f4_:=f1_.symm;have f5_:=f3_.symm;clear f1_ f2_ f3_;subst f4_;subst f5_))
   refine hK.out _ _ ⟨zh BK676 0,zh BK676 1,zh BK676 2⟩ (fun hHeld=>?_)
   clear hK K
   refine nm ?_
   refine one_ (i:=7) (N:=none) #[true,true,true,true,true,true,true,true] rfl rfl (one_of HT_.out (by kernel_rfl)) (by decide) (fun K hK=>?_)
   have hs88:w87.cell? ⟨gb677,0,none⟩=some (.bool false):=(blk_cell BK677.out 0).trans rfl
   have hfs88:=blk_frozen BK677.out 0
   have hns88_0:=NB675_677.out
   have hns88_1:=NB676_677.out
   have hms88_0:=NB677_675.out
   have hms88_1:=NB677_676.out
   have hs90:w87.cell? ⟨gb677,1,none⟩=some (.slice none 0 0):=(blk_cell BK677.out 1).trans rfl
   have hfs90:=blk_frozen BK677.out 1
   have hns90_0:=NB675_677.out
   have hns90_1:=NB676_677.out
   have hms90_0:=NB677_675.out
   have hms90_1:=NB677_676.out
   have hs92:w87.cell? ⟨gb677,2,none⟩=some (.slice none 0 0):=(blk_cell BK677.out 2).trans rfl
   have hfs92:=blk_frozen BK677.out 2
   have hns92_0:=NB675_677.out
   have hns92_1:=NB676_677.out
   have hms92_0:=NB677_675.out
   have hms92_1:=NB677_676.out
   refine skip_ (w1:=?_) (by rfl) rfl ?_ ?_
   rotate_left
   ·go_simp
    rfl
   refine hK.out _ _ ⟨((cell_far (p:=⟨gb677,_,none⟩) NB676_677.out _).trans (((cell_far (p:=⟨gb677,_,none⟩) NB676_677.out _).trans (((cell_far (p:=⟨gb677,_,none⟩) NB676_677.out _).trans (hHeld.1)))))),((cell_far (p:=⟨gb677,_,none⟩) NB676_677.out _).trans (((cell_far (p:=⟨gb677,_,none⟩) NB676_677.out _).trans (((cell_far (p:=⟨gb677,_,none⟩) NB676_677.out _).trans (hHeld.2.1)))))),((cell_far (p:=⟨gb677,_,none⟩) NB676_677.out _).trans (((cell_far (p:=⟨gb677,_,none⟩) NB676_677.out _).trans (((cell_far (p:=⟨gb677,_,none⟩) NB676_677.out _).trans (hHeld.2.2))))))⟩ (fun hHeld=>?_)
   clear hK K
   refine done_ (done_of HT_.out (by kernel_rfl)) ?_
   try go_wp2
   refine bodyPost_ret (results_cell_row rfl _ _ gb677 67 #[.bool t711,.slice Ao89 t712.length co89,.slice Ao91 t715.length co91] (0,0) _ rfl (zp BK677) underlying67 rfl (by kernel_rfl)) rfl ?_
   exact ⟨_,_,ze,zF HO714,zF HO717,bw⟩
  rw [if_pos c36] at H
  have c36b0:=decide_eq_true c36
  clear c36
  obtain ⟨t698,A37,H⟩:=zB H
  obtain ⟨⟨t701,t702,t705⟩,A38,H⟩:=zB H
  (try dsimp only at H)
  obtain ⟨rfl,rfl,rfl⟩:=zo3 H
  go_enter func68,ntmps68
  try go_wp2_with (first|(refine box_ev 2 #[.bool a0_0,.slice A0_1 l0_1.length c0_1,.slice A0_2 l0_2.length c0_2] 67 ?_;intro gb675 hg w39 hbox hb;have BK675:=aZ hbox;have GE675:=sG hg;replace HB:=sB hb;clear hb hbox hg)|(refine box_ev 3 #[.bool a1_0,.slice A1_1 l1_1.length c1_1,.slice A1_2 l1_2.length c1_2] 67 ?_;intro gb676 hg w40 hbox hb;have BK676:=aZ hbox;have GE676:=sG hg;replace HB:=sB hb;obtain ⟨NB675_676,NB676_675,BK675⟩:=sX hg hb BK675;clear hb hbox hg)|(refine box_ev 4 #[.bool false,.slice none 0 0,.slice none 0 0] 67 ?_;intro gb677 hg w41 hbox hb;have BK677:=aZ hbox;have GE677:=sG hg;replace HB:=sB hb;obtain ⟨NB675_677,NB677_675,BK675⟩:=sX hg hb BK675;obtain ⟨NB676_677,NB677_676,BK676⟩:=sX hg hb BK676;clear hb hbox hg))
  replace BK675:=aZ (blk_drew BK675.out)
  replace BK676:=aZ (blk_drew BK676.out)
  replace BK677:=aZ (blk_drew BK677.out)
  replace HB:=aZ (below_drew1 HB.out)
  refine start_ (n:=12) (S:=fun w'=>w'.cell? ⟨gb675,0,none⟩=some (.bool a0_0)∧w'.cell? ⟨gb675,1,none⟩=some (.slice A0_1 l0_1.length c0_1)∧w'.cell? ⟨gb675,2,none⟩=some (.slice A0_2 l0_2.length c0_2)∧w'.cell? ⟨gb676,0,none⟩=some (.bool a1_0)∧w'.cell? ⟨gb676,1,none⟩=some (.slice A1_1 l1_1.length c1_1)∧w'.cell? ⟨gb676,2,none⟩=some (.slice A1_2 l1_2.length c1_2)) (ds:=[]) #[false,false,false,false,false,false,false,false,false,false,false,false] (by kernel_rfl) rfl rfl ⟨zh BK675 0,zh BK675 1,zh BK675 2,zh BK676 0,zh BK676 1,zh BK676 2⟩ (fun hHeld=>?_);refine with_tabW Y6.tab1 Y6.bits1 (fun HT_ HW_=>?_)
  generalize w41.drew=w42 at BK675 BK676 BK677 HB hHeld ⊢
  refine pu 0 (some 8) HT_ ?_
  refine pu 2 (some 10) HT_ ?_
  refine pu 5 (some 13) HT_ ?_
  refine pu 7 (some 15) HT_ ?_
  refine tk 1 (some 9) HT_ HW_ hHeld ?_
  refine tk 3 (some 11) HT_ HW_ hHeld ?_
  refine tk 6 (some 14) HT_ HW_ hHeld ?_
  refine tk 8 (some 16) HT_ HW_ hHeld ?_
  refine one_ (i:=4) (N:=some 12) #[true,true,true,true,true,true,true,true,true,false,false,false] rfl rfl (one_of HT_.out (by kernel_rfl)) (by decide) (fun K hK=>?_)
  refine goes_ func112 (by kernel_rfl) rfl #[.slice A0_1 l0_1.length c0_1,.slice A1_2 l1_2.length c1_2] (by rfl) rfl rfl zm ?_
  with_reducible refine (Y1.calls k _ _ l0_1 _ _ l1_2 t678 _ (zC (Kd.C_below HR0_1.out HB.out)) HC0_1.out (zC (Kd.C_below HR1_2.out HB.out)) HC1_2.out A3.out).mono ?_
  rintro e w43 ⟨v679,rfl,ho0,hb⟩
  refine ⟨_,rfl,?_⟩
  have HO680:=yL (fun k_=>(w.heap.size≤k_)∧k_≠gb675∧k_≠gb676∧k_≠gb677) ho0 (fun k_ hk_=>⟨(Nat.le_trans bs hk_),(zf BK675 hk_),(zf BK676 hk_),(zf BK677 hk_)⟩)
  replace BK675:=sK BK675 hb
  replace BK676:=sK BK676 hb
  replace BK677:=sK BK677 hb
  replace HB:=sB hb
  clear hb ho0
  refine hK.out _ _ ⟨zh BK675 0,zh BK675 1,zh BK675 2,zh BK676 0,zh BK676 1,zh BK676 2⟩ (fun hHeld=>?_)
  clear hK K
  refine nm ?_
  refine one_ (i:=9) (N:=some 17) #[true,true,true,true,true,true,true,true,true,true,false,false] rfl rfl (one_of HT_.out (by kernel_rfl)) (by decide) (fun K hK=>?_)
  refine goes_ func112 (by kernel_rfl) rfl #[.slice A1_1 l1_1.length c1_1,.slice A0_2 l0_2.length c0_2] (by rfl) rfl rfl zm ?_
  with_reducible refine (Y1.calls k _ _ l1_1 _ _ l0_2 t681 _ (zC (Kd.C_below HR1_1.out HB.out)) HC1_1.out (zC (Kd.C_below HR0_2.out HB.out)) HC0_2.out A4.out).mono ?_
  rintro e w44 ⟨v682,rfl,ho0,hb⟩
  refine ⟨_,rfl,?_⟩
  replace HO680:=yV HO680 hb
  have HO683:=yL (fun k_=>(w.heap.size≤k_)∧k_≠gb675∧k_≠gb676∧k_≠gb677) ho0 (fun k_ hk_=>⟨(Nat.le_trans bs hk_),(zf BK675 hk_),(zf BK676 hk_),(zf BK677 hk_)⟩)
  replace BK675:=sK BK675 hb
  replace BK676:=sK BK676 hb
  replace BK677:=sK BK677 hb
  replace HB:=sB hb
  clear hb ho0
  refine hK.out _ _ ⟨zh BK675 0,zh BK675 1,zh BK675 2,zh BK676 0,zh BK676 1,zh BK676 2⟩ (fun hHeld=>?_)
  clear hK K
  refine nm ?_
  refine pu 10 (some 5) HT_ ?_
  refine pu 11 (some 6) HT_ ?_
  refine done_ (done_of HT_.out (by kernel_rfl)) ?_
  have hnb45:=NB675_676.out
  have hnc45:=NB676_675.out
  have hnb46:=NB675_677.out
  have hnc46:=NB677_675.out
  obtain ⟨hcz47_0,hfz47_0⟩:=zc BK675 0 (.bool a0_0) rfl
  obtain ⟨hcz47_1,hfz47_1⟩:=zc BK675 1 (.slice A0_1 l0_1.length c0_1) rfl
  obtain ⟨hcz47_2,hfz47_2⟩:=zc BK675 2 (.slice A0_2 l0_2.length c0_2) rfl
  have hnb48:=NB676_677.out
  have hnc48:=NB677_676.out
  obtain ⟨hcz49_0,hfz49_0⟩:=zc BK676 0 (.bool a1_0) rfl
  obtain ⟨hcz49_1,hfz49_1⟩:=zc BK676 1 (.slice A1_1 l1_1.length c1_1) rfl
  obtain ⟨hcz49_2,hfz49_2⟩:=zc BK676 2 (.slice A1_2 l1_2.length c1_2) rfl
  try go_wp2_with (first|(refine zg (some 22) func112 #[.slice A0_2 l0_2.length c0_2,.slice A1_2 l1_2.length c1_2] ?_;(with_reducible refine (Y1.calls k _ _ l0_2 _ _ l1_2 t684 _ (zC (Kd.C_below HR0_2.out HB.out)) HC0_2.out (zC (Kd.C_below HR1_2.out HB.out)) HC1_2.out A5.out).mono ?_);rintro e w50 ⟨v685,rfl,ho0,hb⟩;refine ⟨_,rfl,?_⟩;replace HO680:=yV HO680 hb;replace HO683:=yV HO683 hb;have HO686:=yL (fun k_=>(w.heap.size≤k_)∧k_≠gb675∧k_≠gb676∧k_≠gb677) ho0 (fun k_ hk_=>⟨(Nat.le_trans bs hk_),(zf BK675 hk_),(zf BK676 hk_),(zf BK677 hk_)⟩);replace BK675:=sK BK675 hb;replace BK676:=sK BK676 hb;replace BK677:=sK BK677 hb;replace HB:=sB hb;clear hb ho0;obtain ⟨hcz51_0,hfz51_0⟩:=zc BK675 0 (.bool a0_0) rfl;obtain ⟨hcz51_1,hfz51_1⟩:=zc BK675 1 (.slice A0_1 l0_1.length c0_1) rfl;obtain ⟨hcz51_2,hfz51_2⟩:=zc BK675 2 (.slice A0_2 l0_2.length c0_2) rfl;obtain ⟨hcz52_0,hfz52_0⟩:=zc BK676 0 (.bool a1_0) rfl;obtain ⟨hcz52_1,hfz52_1⟩:=zc BK676 1 (.slice A1_1 l1_1.length c1_1) rfl;obtain ⟨hcz52_2,hfz52_2⟩:=zc BK676 2 (.slice A1_2 l1_2.length c1_2) rfl;obtain ⟨Ao53,co53,rfl⟩:=Kd.V_slice HO680.out;obtain ⟨Ao54,co54,rfl⟩:=Kd.V_slice HO683.out)|(refine zg (some 39) func120 #[.slice Ao53 t678.length co53,.slice Ao54 t681.length co54] ?_;(with_reducible refine (Y9.calls k _ _ t678 _ _ t681 t697 _ (zC (Kd.V_reads' HO680.out).2.2) ((Kd.V_reads' HO680.out).2.1) (zC (Kd.V_reads' HO683.out).2.2) ((Kd.V_reads' HO683.out).2.1) A35.out).mono ?_);rintro e w' ⟨rfl,⟨nd,rfl⟩⟩;refine ⟨_,rfl,?_⟩;(try (rw [drewN_self w50];generalize hq_:World.drewN w50 _=w50;have n0_:Aside0 (Kd.V (Kd.int .i64) 3 w50 w.heap.size (fun k_=>(w.heap.size≤k_)∧k_≠gb675∧k_≠gb676∧k_≠gb677) (.slice Ao53 t678.length co53) t678):=⟨by rw [← hq_];exact (zV HO680)⟩;have n1_:Aside0 (Kd.V (Kd.int .i64) 3 w50 w.heap.size (fun k_=>(w.heap.size≤k_)∧k_≠gb675∧k_≠gb676∧k_≠gb677) (.slice Ao54 t681.length co54) t681):=⟨by rw [← hq_];exact (zV HO683)⟩;have n2_:Aside0 (Kd.V (Kd.int .i64) 3 w50 w.heap.size (fun k_=>(w.heap.size≤k_)∧k_≠gb675∧k_≠gb676∧k_≠gb677) v685 t684):=⟨by rw [← hq_];exact (zV HO686)⟩;have n3_:Aside0 (w50.heap[gb675]? = some (.cells #[.bool a0_0,.slice A0_1 l0_1.length c0_1,.slice A0_2 l0_2.length c0_2] 67 (0,0))):=⟨by rw [← hq_];exact (zb BK675)⟩;have n4_:Aside0 (w50.heap[gb676]? = some (.cells #[.bool a1_0,.slice A1_1 l1_1.length c1_1,.slice A1_2 l1_2.length c1_2] 67 (0,0))):=⟨by rw [← hq_];exact (zb BK676)⟩;have n5_:Aside0 (w50.heap[gb677]? = some (.cells #[.bool false,.slice none 0 0,.slice none 0 0] 67 (0,0))):=⟨by rw [← hq_];exact (zb BK677)⟩;have n6_:Aside0 (Below w.heap.size w w50):=⟨by rw [← hq_];exact bw⟩;clear HO680 HO683 HO686 BK675 BK676 BK677 HB hq_;have HO680:=n0_;have HO683:=n1_;have HO686:=n2_;have BK675:=n3_;have BK676:=n4_;have BK677:=n5_;have HB:=n6_;clear n0_ n1_ n2_ n3_ n4_ n5_ n6_))))
  replace HO680:=aZ (Kd.V_drew HO680.out)
  replace HO683:=aZ (Kd.V_drew HO683.out)
  replace HO686:=aZ (Kd.V_drew HO686.out)
  replace BK675:=aZ (blk_drew BK675.out)
  replace BK676:=aZ (blk_drew BK676.out)
  replace BK677:=aZ (blk_drew BK677.out)
  replace HB:=aZ (below_drew1 HB.out)
  refine start_ (n:=8) (S:=fun w'=>w'.cell? ⟨gb675,0,none⟩=some (.bool a0_0)∧w'.cell? ⟨gb675,1,none⟩=some (.slice A0_1 l0_1.length c0_1)∧w'.cell? ⟨gb675,2,none⟩=some (.slice A0_2 l0_2.length c0_2)) (ds:=[]) #[false,false,false,false,false,false,false,false] (by kernel_rfl) rfl rfl ⟨zh BK675 0,zh BK675 1,zh BK675 2⟩ (fun hHeld=>?_);refine with_tabW Y6.tab6 Y6.bits6 (fun HT_ HW_=>?_)
  generalize w50.drew=w55 at HO680 HO683 HO686 BK675 BK676 BK677 HB hHeld ⊢
  refine pu 0 (some 41) HT_ ?_
  refine pu 2 (some 43) HT_ ?_
  refine pu 3 (some 44) HT_ ?_
  refine pu 5 (some 46) HT_ ?_
  refine tk 1 (some 42) HT_ HW_ hHeld ?_
  refine one_ (i:=4) (N:=some 45) #[true,true,true,true,true,true,false,false] rfl rfl (one_of HT_.out (by kernel_rfl)) (by decide) (fun K hK=>?_)
  refine goes_ func119 (by kernel_rfl) rfl #[.slice Ao53 t678.length co53,.slice Ao54 t681.length co54,.int .i64 (-1)] (by rfl) rfl rfl zm ?_
  with_reducible refine (Ya.calls k _ _ t678 _ _ t681 (-1) t698 _ (zC (Kd.V_reads' HO680.out).2.2) ((Kd.V_reads' HO680.out).2.1) (zC (Kd.V_reads' HO683.out).2.2) ((Kd.V_reads' HO683.out).2.1) A37.out).mono ?_
  rintro e w56 ⟨v699,rfl,ho0,hb⟩
  refine ⟨_,rfl,?_⟩
  replace HO680:=yV HO680 hb
  replace HO683:=yV HO683 hb
  replace HO686:=yV HO686 hb
  have HO700:=yL (fun k_=>(w.heap.size≤k_)∧k_≠gb675∧k_≠gb676∧k_≠gb677) ho0 (fun k_ hk_=>⟨(Nat.le_trans bs hk_),(zf BK675 hk_),(zf BK676 hk_),(zf BK677 hk_)⟩)
  replace BK675:=sK BK675 hb
  replace BK676:=sK BK676 hb
  replace BK677:=sK BK677 hb
  replace HB:=sB hb
  clear hb ho0
  obtain ⟨Ao57,co57,eo57⟩:=Kd.V_slice HO700.out
  (first|subst eo57|(injection eo57 with f1_ f2_ f3_;have f4_:=f1_.symm;have f5_:=f3_.symm;clear f1_ f2_ f3_;subst f4_;subst f5_))
  obtain ⟨Ao58,co58,eo58⟩:=Kd.V_slice HO686.out
  (first|subst eo58|(injection eo58 with f1_ f2_ f3_;have f4_:=f1_.symm;have f5_:=f3_.symm;clear f1_ f2_ f3_;subst f4_;subst f5_))
  refine hK.out _ _ ⟨zh BK675 0,zh BK675 1,zh BK675 2⟩ (fun hHeld=>?_)
  clear hK K
  refine nm ?_
  refine one_ (i:=6) (N:=some 47) #[true,true,true,true,true,true,true,false] rfl rfl (one_of HT_.out (by kernel_rfl)) (by decide) (fun K hK=>?_)
  refine goes_ func101 (by kernel_rfl) rfl #[.bool a0_0,.slice Ao57 t698.length co57,.slice Ao58 t684.length co58] (by rfl) rfl rfl zm ?_
  with_reducible refine (Yw.calls k a0_0 (fun k_=>((w.heap.size≤k_)∧(k_≠gb675∧(k_≠gb676∧k_≠gb677)))) _ _ t698 (fun k_=>((w.heap.size≤k_)∧(k_≠gb675∧(k_≠gb676∧k_≠gb677)))) _ _ t684 t701 t702 t705 _ HO700.out HO686.out A38.out).mono ?_
  rintro e w59 ⟨v703,v706,rfl,ho0,ho1,hb⟩
  refine ⟨_,rfl,?_⟩
  replace HO680:=yV HO680 hb
  replace HO683:=yV HO683 hb
  replace HO686:=yV HO686 hb
  replace HO700:=yV HO700 hb
  have HO704:=yL (fun k_=>(w.heap.size≤k_)∧k_≠gb675∧k_≠gb676∧k_≠gb677) ho0 (fun k_ hk_=>⟨Or.elim hk_ (fun hs_=>Or.elim hs_ (fun hs_=>hs_.1) (fun hs_=>hs_.1)) (fun hn_=>(Nat.le_trans bs hn_)),Or.elim hk_ (fun hs_=>Or.elim hs_ (fun hs_=>hs_.2.1) (fun hs_=>hs_.2.1)) (fun hn_=>(zf BK675 hn_)),Or.elim hk_ (fun hs_=>Or.elim hs_ (fun hs_=>hs_.2.2.1) (fun hs_=>hs_.2.2.1)) (fun hn_=>(zf BK676 hn_)),Or.elim hk_ (fun hs_=>Or.elim hs_ (fun hs_=>hs_.2.2.2) (fun hs_=>hs_.2.2.2)) (fun hn_=>(zf BK677 hn_))⟩)
  have HO707:=yL (fun k_=>(w.heap.size≤k_)∧k_≠gb675∧k_≠gb676∧k_≠gb677) ho1 (fun k_ hk_=>⟨Or.elim hk_ (fun hs_=>Or.elim hs_ (fun hs_=>hs_.1) (fun hs_=>hs_.1)) (fun hn_=>(Nat.le_trans bs hn_)),Or.elim hk_ (fun hs_=>Or.elim hs_ (fun hs_=>hs_.2.1) (fun hs_=>hs_.2.1)) (fun hn_=>(zf BK675 hn_)),Or.elim hk_ (fun hs_=>Or.elim hs_ (fun hs_=>hs_.2.2.1) (fun hs_=>hs_.2.2.1)) (fun hn_=>(zf BK676 hn_)),Or.elim hk_ (fun hs_=>Or.elim hs_ (fun hs_=>hs_.2.2.2) (fun hs_=>hs_.2.2.2)) (fun hn_=>(zf BK677 hn_))⟩)
  replace BK675:=sK BK675 hb
  replace BK676:=sK BK676 hb
  replace BK677:=sK BK677 hb
  replace HB:=sB hb
  clear hb ho0 ho1
  obtain ⟨Ao61,co61,eo61⟩:=Kd.V_slice HO704.out
  (first|subst eo61|(injection eo61 with f1_ f2_ f3_;have f4_:=f1_.symm;have f5_:=f3_.symm;clear f1_ f2_ f3_;subst f4_;subst f5_))
  obtain ⟨Ao63,co63,eo63⟩:=Kd.V_slice HO707.out
  (first|subst eo63|(injection eo63 with f1_ f2_ f3_;have f4_:=f1_.symm;have f5_:=f3_.symm;clear f1_ f2_ f3_;subst f4_;subst f5_))
  refine hK.out _ _ ⟨zh BK675 0,zh BK675 1,zh BK675 2⟩ (fun hHeld=>?_)
  clear hK K
  refine nm ?_
  refine one_ (i:=7) (N:=none) #[true,true,true,true,true,true,true,true] rfl rfl (one_of HT_.out (by kernel_rfl)) (by decide) (fun K hK=>?_)
  have hs60:w59.cell? ⟨gb677,0,none⟩=some (.bool false):=(blk_cell BK677.out 0).trans rfl
  have hfs60:=blk_frozen BK677.out 0
  have hns60_0:=NB675_677.out
  have hns60_1:=NB676_677.out
  have hms60_0:=NB677_675.out
  have hms60_1:=NB677_676.out
  have hs62:w59.cell? ⟨gb677,1,none⟩=some (.slice none 0 0):=(blk_cell BK677.out 1).trans rfl
  have hfs62:=blk_frozen BK677.out 1
  have hns62_0:=NB675_677.out
  have hns62_1:=NB676_677.out
  have hms62_0:=NB677_675.out
  have hms62_1:=NB677_676.out
  have hs64:w59.cell? ⟨gb677,2,none⟩=some (.slice none 0 0):=(blk_cell BK677.out 2).trans rfl
  have hfs64:=blk_frozen BK677.out 2
  have hns64_0:=NB675_677.out
  have hns64_1:=NB676_677.out
  have hms64_0:=NB677_675.out
  have hms64_1:=NB677_676.out
  refine skip_ (w1:=?_) (by rfl) rfl ?_ ?_
  rotate_left
  ·go_simp
   rfl
  refine hK.out _ _ ⟨((cell_far (p:=⟨gb677,_,none⟩) NB675_677.out _).trans (((cell_far (p:=⟨gb677,_,none⟩) NB675_677.out _).trans (((cell_far (p:=⟨gb677,_,none⟩) NB675_677.out _).trans (hHeld.1)))))),((cell_far (p:=⟨gb677,_,none⟩) NB675_677.out _).trans (((cell_far (p:=⟨gb677,_,none⟩) NB675_677.out _).trans (((cell_far (p:=⟨gb677,_,none⟩) NB675_677.out _).trans (hHeld.2.1)))))),((cell_far (p:=⟨gb677,_,none⟩) NB675_677.out _).trans (((cell_far (p:=⟨gb677,_,none⟩) NB675_677.out _).trans (((cell_far (p:=⟨gb677,_,none⟩) NB675_677.out _).trans (hHeld.2.2))))))⟩ (fun hHeld=>?_)
  clear hK K
  refine done_ (done_of HT_.out (by kernel_rfl)) ?_
  try go_wp2
  refine bodyPost_ret (results_cell_row rfl _ _ gb677 67 #[.bool t701,.slice Ao61 t702.length co61,.slice Ao63 t705.length co63] (0,0) _ rfl (zp BK677) underlying67 rfl (by kernel_rfl)) rfl ?_
  exact ⟨_,_,ze,zF HO704,zF HO707,bw⟩
 rw [if_pos c6] at H
 have c6b0:(a0_0==a1_0)=true:=c6
 (try (have c6b1:decide (a0_0=a1_0)=true:=by simpa using c6))
 (try (have c6b2:(a0_0==a1_0)=true:=by simpa using c6))
 clear c6
 obtain ⟨t687,A7,H⟩:=zB H
 obtain ⟨⟨t690,t691,t694⟩,A8,H⟩:=zB H
 (try dsimp only at H)
 obtain ⟨rfl,rfl,rfl⟩:=zo3 H
 go_enter func68,ntmps68
 try go_wp2_with (first|(refine box_ev 2 #[.bool a0_0,.slice A0_1 l0_1.length c0_1,.slice A0_2 l0_2.length c0_2] 67 ?_;intro gb675 hg w9 hbox hb;have BK675:=aZ hbox;have GE675:=sG hg;replace HB:=sB hb;clear hb hbox hg)|(refine box_ev 3 #[.bool a1_0,.slice A1_1 l1_1.length c1_1,.slice A1_2 l1_2.length c1_2] 67 ?_;intro gb676 hg w10 hbox hb;have BK676:=aZ hbox;have GE676:=sG hg;replace HB:=sB hb;obtain ⟨NB675_676,NB676_675,BK675⟩:=sX hg hb BK675;clear hb hbox hg)|(refine box_ev 4 #[.bool false,.slice none 0 0,.slice none 0 0] 67 ?_;intro gb677 hg w11 hbox hb;have BK677:=aZ hbox;have GE677:=sG hg;replace HB:=sB hb;obtain ⟨NB675_677,NB677_675,BK675⟩:=sX hg hb BK675;obtain ⟨NB676_677,NB677_676,BK676⟩:=sX hg hb BK676;clear hb hbox hg))
 replace BK675:=aZ (blk_drew BK675.out)
 replace BK676:=aZ (blk_drew BK676.out)
 replace BK677:=aZ (blk_drew BK677.out)
 replace HB:=aZ (below_drew1 HB.out)
 refine start_ (n:=12) (S:=fun w'=>w'.cell? ⟨gb675,0,none⟩=some (.bool a0_0)∧w'.cell? ⟨gb675,1,none⟩=some (.slice A0_1 l0_1.length c0_1)∧w'.cell? ⟨gb675,2,none⟩=some (.slice A0_2 l0_2.length c0_2)∧w'.cell? ⟨gb676,0,none⟩=some (.bool a1_0)∧w'.cell? ⟨gb676,1,none⟩=some (.slice A1_1 l1_1.length c1_1)∧w'.cell? ⟨gb676,2,none⟩=some (.slice A1_2 l1_2.length c1_2)) (ds:=[]) #[false,false,false,false,false,false,false,false,false,false,false,false] (by kernel_rfl) rfl rfl ⟨zh BK675 0,zh BK675 1,zh BK675 2,zh BK676 0,zh BK676 1,zh BK676 2⟩ (fun hHeld=>?_);refine with_tabW Y6.tab1 Y6.bits1 (fun HT_ HW_=>?_)
 generalize w11.drew=w12 at BK675 BK676 BK677 HB hHeld ⊢
 refine pu 0 (some 8) HT_ ?_
 refine pu 2 (some 10) HT_ ?_
 refine pu 5 (some 13) HT_ ?_
 refine pu 7 (some 15) HT_ ?_
 refine tk 1 (some 9) HT_ HW_ hHeld ?_
 refine tk 3 (some 11) HT_ HW_ hHeld ?_
 refine tk 6 (some 14) HT_ HW_ hHeld ?_
 refine tk 8 (some 16) HT_ HW_ hHeld ?_
 refine one_ (i:=4) (N:=some 12) #[true,true,true,true,true,true,true,true,true,false,false,false] rfl rfl (one_of HT_.out (by kernel_rfl)) (by decide) (fun K hK=>?_)
 refine goes_ func112 (by kernel_rfl) rfl #[.slice A0_1 l0_1.length c0_1,.slice A1_2 l1_2.length c1_2] (by rfl) rfl rfl zm ?_
 with_reducible refine (Y1.calls k _ _ l0_1 _ _ l1_2 t678 _ (zC (Kd.C_below HR0_1.out HB.out)) HC0_1.out (zC (Kd.C_below HR1_2.out HB.out)) HC1_2.out A3.out).mono ?_
 rintro e w13 ⟨v679,rfl,ho0,hb⟩
 refine ⟨_,rfl,?_⟩
 have HO680:=yL (fun k_=>(w.heap.size≤k_)∧k_≠gb675∧k_≠gb676∧k_≠gb677) ho0 (fun k_ hk_=>⟨(Nat.le_trans bs hk_),(zf BK675 hk_),(zf BK676 hk_),(zf BK677 hk_)⟩)
 replace BK675:=sK BK675 hb
 replace BK676:=sK BK676 hb
 replace BK677:=sK BK677 hb
 replace HB:=sB hb
 clear hb ho0
 refine hK.out _ _ ⟨zh BK675 0,zh BK675 1,zh BK675 2,zh BK676 0,zh BK676 1,zh BK676 2⟩ (fun hHeld=>?_)
 clear hK K
 refine nm ?_
 refine one_ (i:=9) (N:=some 17) #[true,true,true,true,true,true,true,true,true,true,false,false] rfl rfl (one_of HT_.out (by kernel_rfl)) (by decide) (fun K hK=>?_)
 refine goes_ func112 (by kernel_rfl) rfl #[.slice A1_1 l1_1.length c1_1,.slice A0_2 l0_2.length c0_2] (by rfl) rfl rfl zm ?_
 with_reducible refine (Y1.calls k _ _ l1_1 _ _ l0_2 t681 _ (zC (Kd.C_below HR1_1.out HB.out)) HC1_1.out (zC (Kd.C_below HR0_2.out HB.out)) HC0_2.out A4.out).mono ?_
 rintro e w14 ⟨v682,rfl,ho0,hb⟩
 refine ⟨_,rfl,?_⟩
 replace HO680:=yV HO680 hb
 have HO683:=yL (fun k_=>(w.heap.size≤k_)∧k_≠gb675∧k_≠gb676∧k_≠gb677) ho0 (fun k_ hk_=>⟨(Nat.le_trans bs hk_),(zf BK675 hk_),(zf BK676 hk_),(zf BK677 hk_)⟩)
 replace BK675:=sK BK675 hb
 replace BK676:=sK BK676 hb
 replace BK677:=sK BK677 hb
 replace HB:=sB hb
 clear hb ho0
 refine hK.out _ _ ⟨zh BK675 0,zh BK675 1,zh BK675 2,zh BK676 0,zh BK676 1,zh BK676 2⟩ (fun hHeld=>?_)
 clear hK K
 refine nm ?_
 refine pu 10 (some 5) HT_ ?_
 refine pu 11 (some 6) HT_ ?_
 refine done_ (done_of HT_.out (by kernel_rfl)) ?_
 have hnb15:=NB675_676.out
 have hnc15:=NB676_675.out
 have hnb16:=NB675_677.out
 have hnc16:=NB677_675.out
 obtain ⟨hcz17_0,hfz17_0⟩:=zc BK675 0 (.bool a0_0) rfl
 obtain ⟨hcz17_1,hfz17_1⟩:=zc BK675 1 (.slice A0_1 l0_1.length c0_1) rfl
 obtain ⟨hcz17_2,hfz17_2⟩:=zc BK675 2 (.slice A0_2 l0_2.length c0_2) rfl
 have hnb18:=NB676_677.out
 have hnc18:=NB677_676.out
 obtain ⟨hcz19_0,hfz19_0⟩:=zc BK676 0 (.bool a1_0) rfl
 obtain ⟨hcz19_1,hfz19_1⟩:=zc BK676 1 (.slice A1_1 l1_1.length c1_1) rfl
 obtain ⟨hcz19_2,hfz19_2⟩:=zc BK676 2 (.slice A1_2 l1_2.length c1_2) rfl
 try go_wp2_with (first|(refine zg (some 22) func112 #[.slice A0_2 l0_2.length c0_2,.slice A1_2 l1_2.length c1_2] ?_;(with_reducible refine (Y1.calls k _ _ l0_2 _ _ l1_2 t684 _ (zC (Kd.C_below HR0_2.out HB.out)) HC0_2.out (zC (Kd.C_below HR1_2.out HB.out)) HC1_2.out A5.out).mono ?_);rintro e w20 ⟨v685,rfl,ho0,hb⟩;refine ⟨_,rfl,?_⟩;replace HO680:=yV HO680 hb;replace HO683:=yV HO683 hb;have HO686:=yL (fun k_=>(w.heap.size≤k_)∧k_≠gb675∧k_≠gb676∧k_≠gb677) ho0 (fun k_ hk_=>⟨(Nat.le_trans bs hk_),(zf BK675 hk_),(zf BK676 hk_),(zf BK677 hk_)⟩);replace BK675:=sK BK675 hb;replace BK676:=sK BK676 hb;replace BK677:=sK BK677 hb;replace HB:=sB hb;clear hb ho0;obtain ⟨hcz21_0,hfz21_0⟩:=zc BK675 0 (.bool a0_0) rfl;obtain ⟨hcz21_1,hfz21_1⟩:=zc BK675 1 (.slice A0_1 l0_1.length c0_1) rfl;obtain ⟨hcz21_2,hfz21_2⟩:=zc BK675 2 (.slice A0_2 l0_2.length c0_2) rfl;obtain ⟨hcz22_0,hfz22_0⟩:=zc BK676 0 (.bool a1_0) rfl;obtain ⟨hcz22_1,hfz22_1⟩:=zc BK676 1 (.slice A1_1 l1_1.length c1_1) rfl;obtain ⟨hcz22_2,hfz22_2⟩:=zc BK676 2 (.slice A1_2 l1_2.length c1_2) rfl))
 replace HO680:=aZ (Kd.V_drew HO680.out)
 replace HO683:=aZ (Kd.V_drew HO683.out)
 replace HO686:=aZ (Kd.V_drew HO686.out)
 replace BK675:=aZ (blk_drew BK675.out)
 replace BK676:=aZ (blk_drew BK676.out)
 replace BK677:=aZ (blk_drew BK677.out)
 replace HB:=aZ (below_drew1 HB.out)
 obtain ⟨Ao24,co24,eo24⟩:=Kd.V_slice HO680.out
 (first|subst eo24|(injection eo24 with f1_ f2_ f3_;have f4_:=f1_.symm;have f5_:=f3_.symm;clear f1_ f2_ f3_;subst f4_;subst f5_))
 obtain ⟨Ao25,co25,eo25⟩:=Kd.V_slice HO683.out
 (first|subst eo25|(injection eo25 with f1_ f2_ f3_;have f4_:=f1_.symm;have f5_:=f3_.symm;clear f1_ f2_ f3_;subst f4_;subst f5_))
 refine start_ (n:=8) (S:=fun w'=>w'.cell? ⟨gb675,0,none⟩=some (.bool a0_0)∧w'.cell? ⟨gb675,1,none⟩=some (.slice A0_1 l0_1.length c0_1)∧w'.cell? ⟨gb675,2,none⟩=some (.slice A0_2 l0_2.length c0_2)) (ds:=[]) #[false,false,false,false,false,false,false,false] (by kernel_rfl) rfl rfl ⟨zh BK675 0,zh BK675 1,zh BK675 2⟩ (fun hHeld=>?_);refine with_tabW Y6.tab4 Y6.bits4 (fun HT_ HW_=>?_)
 generalize w20.drew=w23 at HO680 HO683 HO686 BK675 BK676 BK677 HB hHeld ⊢
 refine pu 0 (some 29) HT_ ?_
 refine pu 2 (some 31) HT_ ?_
 refine pu 3 (some 32) HT_ ?_
 refine pu 5 (some 34) HT_ ?_
 refine tk 1 (some 30) HT_ HW_ hHeld ?_
 refine one_ (i:=4) (N:=some 33) #[true,true,true,true,true,true,false,false] rfl rfl (one_of HT_.out (by kernel_rfl)) (by decide) (fun K hK=>?_)
 refine goes_ func119 (by kernel_rfl) rfl #[.slice Ao24 t678.length co24,.slice Ao25 t681.length co25,.int .i64 1] (by rfl) rfl rfl zm ?_
 with_reducible refine (Ya.calls k _ _ t678 _ _ t681 1 t687 _ (zC (Kd.V_reads' HO680.out).2.2) ((Kd.V_reads' HO680.out).2.1) (zC (Kd.V_reads' HO683.out).2.2) ((Kd.V_reads' HO683.out).2.1) A7.out).mono ?_
 rintro e w26 ⟨v688,rfl,ho0,hb⟩
 refine ⟨_,rfl,?_⟩
 replace HO680:=yV HO680 hb
 replace HO683:=yV HO683 hb
 replace HO686:=yV HO686 hb
 have HO689:=yL (fun k_=>(w.heap.size≤k_)∧k_≠gb675∧k_≠gb676∧k_≠gb677) ho0 (fun k_ hk_=>⟨(Nat.le_trans bs hk_),(zf BK675 hk_),(zf BK676 hk_),(zf BK677 hk_)⟩)
 replace BK675:=sK BK675 hb
 replace BK676:=sK BK676 hb
 replace BK677:=sK BK677 hb
 replace HB:=sB hb
 clear hb ho0
 obtain ⟨Ao27,co27,eo27⟩:=Kd.V_slice HO689.out
 (first|subst eo27|(injection eo27 with f1_ f2_ f3_;have f4_:=f1_.symm;have f5_:=f3_.symm;clear f1_ f2_ f3_;subst f4_;subst f5_))
 obtain ⟨Ao28,co28,eo28⟩:=Kd.V_slice HO686.out
 (first|subst eo28|(injection eo28 with f1_ f2_ f3_;have f4_:=f1_.symm;have f5_:=f3_.symm;clear f1_ f2_ f3_;subst f4_;subst f5_))
 refine hK.out _ _ ⟨zh BK675 0,zh BK675 1,zh BK675 2⟩ (fun hHeld=>?_)
 clear hK K
 refine nm ?_
 refine one_ (i:=6) (N:=some 35) #[true,true,true,true,true,true,true,false] rfl rfl (one_of HT_.out (by kernel_rfl)) (by decide) (fun K hK=>?_)
 refine goes_ func101 (by kernel_rfl) rfl #[.bool a0_0,.slice Ao27 t687.length co27,.slice Ao28 t684.length co28] (by rfl) rfl rfl zm ?_
 with_reducible refine (Yw.calls k a0_0 (fun k_=>((w.heap.size≤k_)∧(k_≠gb675∧(k_≠gb676∧k_≠gb677)))) _ _ t687 (fun k_=>((w.heap.size≤k_)∧(k_≠gb675∧(k_≠gb676∧k_≠gb677)))) _ _ t684 t690 t691 t694 _ HO689.out HO686.out A8.out).mono ?_
 rintro e w29 ⟨v692,v695,rfl,ho0,ho1,hb⟩
 refine ⟨_,rfl,?_⟩
 replace HO680:=yV HO680 hb
 replace HO683:=yV HO683 hb
 replace HO686:=yV HO686 hb
 replace HO689:=yV HO689 hb
 have HO693:=yL (fun k_=>(w.heap.size≤k_)∧k_≠gb675∧k_≠gb676∧k_≠gb677) ho0 (fun k_ hk_=>⟨Or.elim hk_ (fun hs_=>Or.elim hs_ (fun hs_=>hs_.1) (fun hs_=>hs_.1)) (fun hn_=>(Nat.le_trans bs hn_)),Or.elim hk_ (fun hs_=>Or.elim hs_ (fun hs_=>hs_.2.1) (fun hs_=>hs_.2.1)) (fun hn_=>(zf BK675 hn_)),Or.elim hk_ (fun hs_=>Or.elim hs_ (fun hs_=>hs_.2.2.1) (fun hs_=>hs_.2.2.1)) (fun hn_=>(zf BK676 hn_)),Or.elim hk_ (fun hs_=>Or.elim hs_ (fun hs_=>hs_.2.2.2) (fun hs_=>hs_.2.2.2)) (fun hn_=>(zf BK677 hn_))⟩)
 have HO696:=yL (fun k_=>(w.heap.size≤k_)∧k_≠gb675∧k_≠gb676∧k_≠gb677) ho1 (fun k_ hk_=>⟨Or.elim hk_ (fun hs_=>Or.elim hs_ (fun hs_=>hs_.1) (fun hs_=>hs_.1)) (fun hn_=>(Nat.le_trans bs hn_)),Or.elim hk_ (fun hs_=>Or.elim hs_ (fun hs_=>hs_.2.1) (fun hs_=>hs_.2.1)) (fun hn_=>(zf BK675 hn_)),Or.elim hk_ (fun hs_=>Or.elim hs_ (fun hs_=>hs_.2.2.1) (fun hs_=>hs_.2.2.1)) (fun hn_=>(zf BK676 hn_)),Or.elim hk_ (fun hs_=>Or.elim hs_ (fun hs_=>hs_.2.2.2) (fun hs_=>hs_.2.2.2)) (fun hn_=>(zf BK677 hn_))⟩)
 replace BK675:=sK BK675 hb
 replace BK676:=sK BK676 hb
 replace BK677:=sK BK677 hb
 replace HB:=sB hb
 clear hb ho0 ho1
 obtain ⟨Ao31,co31,eo31⟩:=Kd.V_slice HO693.out
 (first|subst eo31|(injection eo31 with f1_ f2_ f3_;have f4_:=f1_.symm;have f5_:=f3_.symm;clear f1_ f2_ f3_;subst f4_;subst f5_))
 obtain ⟨Ao33,co33,eo33⟩:=Kd.V_slice HO696.out
 (first|subst eo33|(injection eo33 with f1_ f2_ f3_;have f4_:=f1_.symm;have f5_:=f3_.symm;clear f1_ f2_ f3_;subst f4_;subst f5_))
 refine hK.out _ _ ⟨zh BK675 0,zh BK675 1,zh BK675 2⟩ (fun hHeld=>?_)
 clear hK K
 refine nm ?_
 refine one_ (i:=7) (N:=none) #[true,true,true,true,true,true,true,true] rfl rfl (one_of HT_.out (by kernel_rfl)) (by decide) (fun K hK=>?_)
 have hs30:w29.cell? ⟨gb677,0,none⟩=some (.bool false):=(blk_cell BK677.out 0).trans rfl
 have hfs30:=blk_frozen BK677.out 0
 have hns30_0:=NB675_677.out
 have hns30_1:=NB676_677.out
 have hms30_0:=NB677_675.out
 have hms30_1:=NB677_676.out
 have hs32:w29.cell? ⟨gb677,1,none⟩=some (.slice none 0 0):=(blk_cell BK677.out 1).trans rfl
 have hfs32:=blk_frozen BK677.out 1
 have hns32_0:=NB675_677.out
 have hns32_1:=NB676_677.out
 have hms32_0:=NB677_675.out
 have hms32_1:=NB677_676.out
 have hs34:w29.cell? ⟨gb677,2,none⟩=some (.slice none 0 0):=(blk_cell BK677.out 2).trans rfl
 have hfs34:=blk_frozen BK677.out 2
 have hns34_0:=NB675_677.out
 have hns34_1:=NB676_677.out
 have hms34_0:=NB677_675.out
 have hms34_1:=NB677_676.out
 refine skip_ (w1:=?_) (by rfl) rfl ?_ ?_
 rotate_left
 ·go_simp
  rfl
 refine hK.out _ _ ⟨((cell_far (p:=⟨gb677,_,none⟩) NB675_677.out _).trans (((cell_far (p:=⟨gb677,_,none⟩) NB675_677.out _).trans (((cell_far (p:=⟨gb677,_,none⟩) NB675_677.out _).trans (hHeld.1)))))),((cell_far (p:=⟨gb677,_,none⟩) NB675_677.out _).trans (((cell_far (p:=⟨gb677,_,none⟩) NB675_677.out _).trans (((cell_far (p:=⟨gb677,_,none⟩) NB675_677.out _).trans (hHeld.2.1)))))),((cell_far (p:=⟨gb677,_,none⟩) NB675_677.out _).trans (((cell_far (p:=⟨gb677,_,none⟩) NB675_677.out _).trans (((cell_far (p:=⟨gb677,_,none⟩) NB675_677.out _).trans (hHeld.2.2))))))⟩ (fun hHeld=>?_)
 clear hK K
 refine done_ (done_of HT_.out (by kernel_rfl)) ?_
 try go_wp2
 refine bodyPost_ret (results_cell_row rfl _ _ gb677 67 #[.bool t690,.slice Ao31 t691.length co31,.slice Ao33 t694.length co33] (0,0) _ rfl (zp BK677) underlying67 rfl (by kernel_rfl)) rfl ?_
 exact ⟨_,_,ze,zF HO693,zF HO696,bw⟩
def YA.j0:Nat→List Int→Bool→Bool→List Int→List Int→Option (Bool×List Int×List Int)
 | 0,_,_,_,_,_=>none
 | k+1,x3,x19,x719000,x719001,x719002=>if x19=true then ((Y5.f k 1).bind fun t726=>((Ya.f k x3 t726 1).bind fun t729=>(if x719000=true then ((Y5.f k 1).bind fun t732=>(some (decide (0<t729.length),t729,t732))) else ((Y5.f k 1).bind fun t735=>(some (false,t729,t735)))))) else (if x719000=true then ((Y5.f k 1).bind fun t738=>(some (decide (0<x3.length),x3,t738))) else ((Y5.f k 1).bind fun t741=>(some (false,x3,t741))))
def YA.f (k:Nat) (a0_0:Bool) (l0_1:List Int) (l0_2:List Int):Option (Bool×List Int×List Int):=(Y2.f k l0_1 l0_2).bind fun bt720=>(if a0_0=true then (YA.j0 k bt720.1 (decide (0<bt720.2.length)) a0_0 l0_1 l0_2) else (YA.j0 k bt720.1 false a0_0 l0_1 l0_2))
theorem YA.calls (k:Nat) (a0_0:Bool) (P0_1_:Nat→Prop) (A0_1:Option Addr) (c0_1:Nat) (l0_1:List Int) (A0_2:Option Addr) (c0_2:Nat) (l0_2:List Int) (r1:Bool) (r2:List Int) (r3:List Int) (w:World) (hs0_1:Kd.V (Kd.int .i64) 3 w w.heap.size (fun k_=>P0_1_ k_) (.slice A0_1 l0_1.length c0_1) l0_1) (hr0_2:Kd.C (Kd.int .i64) w A0_2 l0_2.length l0_2) (hc0_2:l0_2.length≤c0_2) (h:YA.f k a0_0 l0_1 l0_2=some (r1,r2,r3)) :
  Calls Tryz.prog 85 #[.agg #[.bool a0_0,.slice A0_1 l0_1.length c0_1,.slice A0_2 l0_2.length c0_2]] w fun e w'=>∃ v1_ v2_:Value,e = .returned (.agg #[.bool r1,v1_,v2_])∧Kd.V (Kd.int .i64) 3 w' w.heap.size (fun k_=>(P0_1_ k_∨w.heap.size≤k_)∧some k_≠(v2_:Value).ownBlock) v1_ r2∧Kd.R (Kd.int .i64) 3 w' w.heap.size (fun k_=>(w.heap.size≤k_)) v2_ r3∧Below w.heap.size w w':=by
 have hu67:=underlying67
 have HO0_1:=aZ (show Kd.V (Kd.int .i64) 3 w w.heap.size (fun k_=>(P0_1_ k_∨w.heap.size≤k_)) (.slice A0_1 l0_1.length c0_1) l0_1 from Kd.V_mono hs0_1 (fun k_ hk=>.inl hk))
 have HR0_2:=aZ hr0_2
 have HC0_2:=aZ hc0_2
 clear hr0_2 hc0_2
 have HB:=aZ (Below.refl w.heap.size w)
 have H:=h
 unfold YA.f at H
 clear h
 obtain ⟨⟨t720,t723⟩,A2,H⟩:=zB H
 (try dsimp only at H)
 have HC3:=aZ H
 clear H
 go_enter func85,ntmps85
 go_upto_region 2 with (first|((with_reducible refine gate_dst (N:=1) rfl ?_);(try (refine gate_guard (by rfl) ?_;dsimp only));refine box_ev 1 #[.bool a0_0,.slice A0_1 l0_1.length c0_1,.slice A0_2 l0_2.length c0_2] 67 ?_;intro gb718 hg w4 hbox hb;replace HO0_1:=yE HO0_1 hg hb;have BK718:=aZ hbox;have GE718:=sG hg;replace HB:=sB hb;clear hb hbox hg)|((with_reducible refine gate_dst (N:=2) rfl ?_);(try (refine gate_guard (by rfl) ?_;dsimp only));refine box_ev 2 #[.bool false,.slice none 0 0,.slice none 0 0] 67 ?_;intro gb719 hg w5 hbox hb;replace HO0_1:=yE HO0_1 hg hb;have BK719:=aZ hbox;have GE719:=sG hg;replace HB:=sB hb;obtain ⟨NB718_719,NB719_718,BK718⟩:=sX hg hb BK718;clear hb hbox hg;have hnb6:=NB718_719.out;have hnc6:=NB719_718.out;obtain ⟨hcz7_0,hfz7_0⟩:=zc BK718 0 (.bool a0_0) rfl;obtain ⟨hcz7_1,hfz7_1⟩:=zc BK718 1 (.slice A0_1 l0_1.length c0_1) rfl;obtain ⟨hcz7_2,hfz7_2⟩:=zc BK718 2 (.slice A0_2 l0_2.length c0_2) rfl)|(refine zg (some 10) func134 #[.slice A0_1 l0_1.length c0_1,.slice A0_2 l0_2.length c0_2] ?_;(with_reducible refine (Y2.calls k (fun k_=>(((P0_1_ k_∨w.heap.size≤k_)∧k_≠gb718)∧k_≠gb719)) _ _ l0_1 _ _ l0_2 t720 t723 _ HO0_1.out (zC (Kd.C_below HR0_2.out HB.out)) HC0_2.out A2.out).mono ?_);rintro e w8 ⟨v721,v724,rfl,ho0,ho1,hb⟩;refine ⟨_,rfl,?_⟩;replace HO0_1:=yV HO0_1 hb;have HO722:=yL (fun k_=>(P0_1_ k_∨w.heap.size≤k_)∧k_≠gb718∧k_≠gb719) ho0 (fun k_ hk_=>⟨Or.elim hk_ (fun hs_=>hs_.1.1) (fun hn_=>(.inr (Nat.le_trans bs hn_))),Or.elim hk_ (fun hs_=>hs_.1.2) (fun hn_=>(zf BK718 hn_)),Or.elim hk_ (fun hs_=>hs_.2) (fun hn_=>(zf BK719 hn_))⟩);have HO725:=yL (fun k_=>(P0_1_ k_∨w.heap.size≤k_)∧k_≠gb718∧k_≠gb719) ho1 (fun k_ hk_=>⟨Or.elim hk_ (fun hs_=>hs_.1.1) (fun hn_=>(.inr (Nat.le_trans bs hn_))),Or.elim hk_ (fun hs_=>hs_.1.2) (fun hn_=>(zf BK718 hn_)),Or.elim hk_ (fun hs_=>hs_.2) (fun hn_=>(zf BK719 hn_))⟩);replace BK718:=sK BK718 hb;replace BK719:=sK BK719 hb;replace HB:=sB hb;clear hb ho0 ho1))
 (try simp only [Act.put,List.setIfInBounds_toArray,List.set_cons_zero,List.set_cons_succ])
 go_cut [19] (fun v19 wc=>∃ (kq:Nat) (x19_2:Bool),v19 = .bool x19_2∧Aside0 (YA.j0 kq t720 x19_2 a0_0 l0_1 l0_2=some (r1,r2,r3))∧Aside0 (kq≤k)∧Aside0 (Kd.V (Kd.int .i64) 3 wc w.heap.size (fun k_=>(P0_1_ k_∨w.heap.size≤k_)∧k_≠gb718∧k_≠gb719) v721 t720)∧Aside0 (Kd.V (Kd.int .i64) 3 wc w.heap.size (fun k_=>(P0_1_ k_∨w.heap.size≤k_)∧k_≠gb718∧k_≠gb719) (.slice A0_1 l0_1.length c0_1) l0_1)∧Aside0 (wc.heap[gb718]? = some (.cells #[.bool a0_0,(.slice A0_1 l0_1.length c0_1),(.slice A0_2 l0_2.length c0_2)] 67 (0,0)))∧Aside0 (wc.heap[gb719]? = some (.cells #[.bool false,(.slice none 0 0),(.slice none 0 0)] 67 (0,0)))∧Aside0 (Below w.heap.size w wc))
 case first =>
  have H:=HC3.out
  clear HC3
  by_cases c9:a0_0=true
  case neg=>
   replace c9:=Bool.eq_false_iff.mpr c9
   subst c9
   replace H:=zU H
   have H':=aZ H
   clear H
   have hnb13:=NB718_719.out
   have hnc13:=NB719_718.out
   obtain ⟨hcz14_0,hfz14_0⟩:=zc BK718 0 (.bool false) rfl
   obtain ⟨hcz14_1,hfz14_1⟩:=zc BK718 1 (.slice A0_1 l0_1.length c0_1) rfl
   obtain ⟨hcz14_2,hfz14_2⟩:=zc BK718 2 (.slice A0_2 l0_2.length c0_2) rfl
   go_wp2
   go_meet
   case rel=>exact ⟨_,(false),zs,H',⟨by first|omega|exact Nat.le_refl _⟩,⟨zV HO722⟩,⟨vM HO0_1 (fun _ hk=>⟨hk.1.1,⟨hk.1.2,hk.2⟩⟩)⟩,⟨zb BK718⟩,⟨zb BK719⟩,⟨bw⟩⟩
  subst c9
  replace H:=zT H
  have H':=aZ H
  clear H
  have hnb10:=NB718_719.out
  have hnc10:=NB719_718.out
  obtain ⟨hcz11_0,hfz11_0⟩:=zc BK718 0 (.bool true) rfl
  obtain ⟨hcz11_1,hfz11_1⟩:=zc BK718 1 (.slice A0_1 l0_1.length c0_1) rfl
  obtain ⟨hcz11_2,hfz11_2⟩:=zc BK718 2 (.slice A0_2 l0_2.length c0_2) rfl
  obtain ⟨Ao12,co12,rfl⟩:=Kd.V_slice HO725.out
  go_wp2
  go_meet
  case rel=>exact ⟨_,(decide (0<t723.length)),zs,H',⟨by first|omega|exact Nat.le_refl _⟩,⟨zV HO722⟩,⟨vM HO0_1 (fun _ hk=>⟨hk.1.1,⟨hk.1.2,hk.2⟩⟩)⟩,⟨zb BK718⟩,⟨zb BK719⟩,⟨bw⟩⟩
 case rest =>
  clear HC3
  obtain ⟨kq,x19_2,rfl,HA,HJ2,HO_3,HO_719001,BK718,BK719,HB⟩:=hcut
  cases kq with
  | zero=>exact absurd HA.out (by simp [YA.j0])
  | succ kj2 =>
   have H:=HA.out
   clear HA
   simp only [YA.j0] at H
   by_cases c15:x19_2=true
   case neg=>
    replace c15:=Bool.eq_false_iff.mpr c15
    subst c15
    replace H:=zU H
    by_cases c41:a0_0=true
    case neg=>
     replace c41:=Bool.eq_false_iff.mpr c41
     subst c41
     replace H:=zU H
     obtain ⟨t741,A49,H⟩:=zB H
     obtain ⟨rfl,rfl,rfl⟩:=zo3 H
     have hnb50:=NB718_719.out
     have hnc50:=NB719_718.out
     obtain ⟨hcz51_0,hfz51_0⟩:=zc BK718 0 (.bool false) rfl
     obtain ⟨hcz51_1,hfz51_1⟩:=zc BK718 1 (.slice A0_1 l0_1.length c0_1) rfl
     obtain ⟨hcz51_2,hfz51_2⟩:=zc BK718 2 (.slice A0_2 l0_2.length c0_2) rfl
     go_wp2_with (first|(refine zg (some 31) func98 #[.int .u64 1] ?_;(with_reducible refine (Y5.calls kj2 1 t741 _ A49.out).mono ?_);rintro e w52 ⟨v742,rfl,ho0,hb⟩;refine ⟨_,rfl,?_⟩;replace HO_3:=aZ (Kd.V_elder' (zV HO_3) (Kd.R_base ho0) hb);replace HO_719001:=aZ (Kd.V_elder' (zV HO_719001) (Kd.R_base ho0) hb);have HO743:=aZ (Kd.R_lower (Kd.R_newM (M:=fun k_=>(w.heap.size≤k_)) ho0 bs (fun k_ h_=>h_)) bs);replace BK718:=sK BK718 hb;replace BK719:=sK BK719 hb;replace HB:=sB hb;clear hb ho0;obtain ⟨Ao53,co53,rfl⟩:=Kd.R_slice HO743.out;obtain ⟨Ao54,co54,rfl⟩:=Kd.V_slice HO_3.out;obtain ⟨hcz55_0,hfz55_0⟩:=zc BK719 0 (.bool false) rfl;obtain ⟨hcz55_1,hfz55_1⟩:=zc BK719 1 (.slice none 0 0) rfl;obtain ⟨hcz55_2,hfz55_2⟩:=zc BK719 2 (.slice none 0 0) rfl))
     refine bodyPost_ret (results_cell_row rfl _ _ gb719 67 #[.bool false,.slice Ao54 t720.length co54,.slice Ao53 t741.length co53] (0,0) _ rfl (zp BK719) underlying67 rfl (by kernel_rfl)) rfl ?_
     exact ⟨_,_,ze,zF HO_3,zF ⟨Kd.R_types HO743.out BK719.out (by decide)⟩,bw⟩
    subst c41
    replace H:=zT H
    obtain ⟨t738,A42,H⟩:=zB H
    obtain ⟨rfl,rfl,rfl⟩:=zo3 H
    have hnb43:=NB718_719.out
    have hnc43:=NB719_718.out
    obtain ⟨hcz44_0,hfz44_0⟩:=zc BK718 0 (.bool true) rfl
    obtain ⟨hcz44_1,hfz44_1⟩:=zc BK718 1 (.slice A0_1 l0_1.length c0_1) rfl
    obtain ⟨hcz44_2,hfz44_2⟩:=zc BK718 2 (.slice A0_2 l0_2.length c0_2) rfl
    obtain ⟨Ao45,co45,rfl⟩:=Kd.V_slice HO_3.out
    go_wp2_with (first|(refine zg (some 31) func98 #[.int .u64 1] ?_;(with_reducible refine (Y5.calls kj2 1 t738 _ A42.out).mono ?_);rintro e w46 ⟨v739,rfl,ho0,hb⟩;refine ⟨_,rfl,?_⟩;replace HO_3:=aZ (Kd.V_elder' (zV HO_3) (Kd.R_base ho0) hb);replace HO_719001:=aZ (Kd.V_elder' (zV HO_719001) (Kd.R_base ho0) hb);have HO740:=aZ (Kd.R_lower (Kd.R_newM (M:=fun k_=>(w.heap.size≤k_)) ho0 bs (fun k_ h_=>h_)) bs);replace BK718:=sK BK718 hb;replace BK719:=sK BK719 hb;replace HB:=sB hb;clear hb ho0;obtain ⟨Ao47,co47,rfl⟩:=Kd.R_slice HO740.out;obtain ⟨hcz48_0,hfz48_0⟩:=zc BK719 0 (.bool false) rfl;obtain ⟨hcz48_1,hfz48_1⟩:=zc BK719 1 (.slice none 0 0) rfl;obtain ⟨hcz48_2,hfz48_2⟩:=zc BK719 2 (.slice none 0 0) rfl))
    refine bodyPost_ret (results_cell_row rfl _ _ gb719 67 #[.bool (decide (0<t720.length)),.slice Ao45 t720.length co45,.slice Ao47 t738.length co47] (0,0) _ rfl (zp BK719) underlying67 rfl (by kernel_rfl)) rfl ?_
    exact ⟨_,_,ze,zF HO_3,zF ⟨Kd.R_types HO740.out BK719.out (by decide)⟩,bw⟩
   subst c15
   replace H:=zT H
   obtain ⟨t726,A16,H⟩:=zB H
   obtain ⟨t729,A17,H⟩:=zB H
   by_cases c18:a0_0=true
   case neg=>
    replace c18:=Bool.eq_false_iff.mpr c18
    subst c18
    replace H:=zU H
    obtain ⟨t735,A30,H⟩:=zB H
    obtain ⟨rfl,rfl,rfl⟩:=zo3 H
    go_wp2_with (first|(refine zg (some 21) func98 #[.int .u64 1] ?_;(with_reducible refine (Y5.calls kj2 1 t726 _ A16.out).mono ?_);rintro e w31 ⟨v727,rfl,ho0,hb⟩;refine ⟨_,rfl,?_⟩;replace HO_3:=aZ (Kd.V_elder' (zV HO_3) (Kd.R_base ho0) hb);replace HO_719001:=aZ (Kd.V_elder' (zV HO_719001) (Kd.R_base ho0) hb);have HO728:=aZ (Kd.R_lower (Kd.R_newM (M:=fun k_=>(w.heap.size≤k_)) ho0 bs (fun k_ h_=>h_)) bs);replace BK718:=sK BK718 hb;replace BK719:=sK BK719 hb;replace HB:=sB hb;clear hb ho0;obtain ⟨Ao32,co32,rfl⟩:=Kd.V_slice HO_3.out;obtain ⟨Ao33,co33,rfl⟩:=Kd.R_slice HO728.out)|(refine zg (some 22) func119 #[.slice Ao32 t720.length co32,.slice Ao33 t726.length co33,.int .i64 1] ?_;(with_reducible refine (Ya.calls kj2 _ _ t720 _ _ t726 1 t729 _ (zC (Kd.V_reads' HO_3.out).2.2) ((Kd.V_reads' HO_3.out).2.1) (zC (Kd.R_reads' HO728.out).2.2) ((Kd.R_reads' HO728.out).2.1) A17.out).mono ?_);rintro e w34 ⟨v730,rfl,ho0,hb⟩;refine ⟨_,rfl,?_⟩;replace HO_3:=yV HO_3 hb;replace HO_719001:=yV HO_719001 hb;have HO731:=yL (fun k_=>(P0_1_ k_∨w.heap.size≤k_)∧some k_≠(.slice Ao33 t726.length co33:Value).ownBlock∧k_≠gb718∧k_≠gb719) ho0 (fun k_ hk_=>⟨(.inr (Nat.le_trans bs hk_)),(yf HO728 hk_),(zf BK718 hk_),(zf BK719 hk_)⟩);replace HO728:=yR HO728 hb;replace BK718:=sK BK718 hb;replace BK719:=sK BK719 hb;replace HB:=sB hb;clear hb ho0;have hnb35:=NB718_719.out;have hnc35:=NB719_718.out;obtain ⟨hcz36_0,hfz36_0⟩:=zc BK718 0 (.bool false) rfl;obtain ⟨hcz36_1,hfz36_1⟩:=zc BK718 1 (.slice A0_1 l0_1.length c0_1) rfl;obtain ⟨hcz36_2,hfz36_2⟩:=zc BK718 2 (.slice A0_2 l0_2.length c0_2) rfl)|(refine zg (some 31) func98 #[.int .u64 1] ?_;(with_reducible refine (Y5.calls kj2 1 t735 _ A30.out).mono ?_);rintro e w37 ⟨v736,rfl,ho0,hb⟩;refine ⟨_,rfl,?_⟩;replace HO_3:=aZ (Kd.V_elder' (zV HO_3) (Kd.R_base ho0) hb);replace HO_719001:=aZ (Kd.V_elder' (zV HO_719001) (Kd.R_base ho0) hb);replace HO731:=aZ (Kd.V_elder' (zV HO731) (Kd.R_base ho0) hb);have HO737:=aZ (Kd.R_lower (Kd.R_new' (Kd.R_newM (M:=fun k_=>(w.heap.size≤k_)) ho0 bs (fun k_ h_=>h_)) (Kd.R_lt (zR HO728))) bs);replace HO728:=aZ (Kd.R_elder' (zR HO728) (Kd.R_base ho0) hb);replace BK718:=sK BK718 hb;replace BK719:=sK BK719 hb;replace HB:=sB hb;clear hb ho0;obtain ⟨Ao38,co38,rfl⟩:=Kd.R_slice HO737.out;obtain ⟨Ao39,co39,rfl⟩:=Kd.V_slice HO731.out;obtain ⟨hcz40_0,hfz40_0⟩:=zc BK719 0 (.bool false) rfl;obtain ⟨hcz40_1,hfz40_1⟩:=zc BK719 1 (.slice none 0 0) rfl;obtain ⟨hcz40_2,hfz40_2⟩:=zc BK719 2 (.slice none 0 0) rfl))
    refine bodyPost_ret (results_cell_row rfl _ _ gb719 67 #[.bool false,.slice Ao39 t729.length co39,.slice Ao38 t735.length co38] (0,0) _ rfl (zp BK719) underlying67 rfl (by kernel_rfl)) rfl ?_
    exact ⟨_,_,ze,zF HO731,zF ⟨Kd.R_types HO737.out BK719.out (by decide)⟩,bw⟩
   subst c18
   replace H:=zT H
   obtain ⟨t732,A19,H⟩:=zB H
   obtain ⟨rfl,rfl,rfl⟩:=zo3 H
   go_wp2_with (first|(refine zg (some 21) func98 #[.int .u64 1] ?_;(with_reducible refine (Y5.calls kj2 1 t726 _ A16.out).mono ?_);rintro e w20 ⟨v727,rfl,ho0,hb⟩;refine ⟨_,rfl,?_⟩;replace HO_3:=aZ (Kd.V_elder' (zV HO_3) (Kd.R_base ho0) hb);replace HO_719001:=aZ (Kd.V_elder' (zV HO_719001) (Kd.R_base ho0) hb);have HO728:=aZ (Kd.R_lower (Kd.R_newM (M:=fun k_=>(w.heap.size≤k_)) ho0 bs (fun k_ h_=>h_)) bs);replace BK718:=sK BK718 hb;replace BK719:=sK BK719 hb;replace HB:=sB hb;clear hb ho0;obtain ⟨Ao21,co21,rfl⟩:=Kd.V_slice HO_3.out;obtain ⟨Ao22,co22,rfl⟩:=Kd.R_slice HO728.out)|(refine zg (some 22) func119 #[.slice Ao21 t720.length co21,.slice Ao22 t726.length co22,.int .i64 1] ?_;(with_reducible refine (Ya.calls kj2 _ _ t720 _ _ t726 1 t729 _ (zC (Kd.V_reads' HO_3.out).2.2) ((Kd.V_reads' HO_3.out).2.1) (zC (Kd.R_reads' HO728.out).2.2) ((Kd.R_reads' HO728.out).2.1) A17.out).mono ?_);rintro e w23 ⟨v730,rfl,ho0,hb⟩;refine ⟨_,rfl,?_⟩;replace HO_3:=yV HO_3 hb;replace HO_719001:=yV HO_719001 hb;have HO731:=yL (fun k_=>(P0_1_ k_∨w.heap.size≤k_)∧some k_≠(.slice Ao22 t726.length co22:Value).ownBlock∧k_≠gb718∧k_≠gb719) ho0 (fun k_ hk_=>⟨(.inr (Nat.le_trans bs hk_)),(yf HO728 hk_),(zf BK718 hk_),(zf BK719 hk_)⟩);replace HO728:=yR HO728 hb;replace BK718:=sK BK718 hb;replace BK719:=sK BK719 hb;replace HB:=sB hb;clear hb ho0;have hnb24:=NB718_719.out;have hnc24:=NB719_718.out;obtain ⟨hcz25_0,hfz25_0⟩:=zc BK718 0 (.bool true) rfl;obtain ⟨hcz25_1,hfz25_1⟩:=zc BK718 1 (.slice A0_1 l0_1.length c0_1) rfl;obtain ⟨hcz25_2,hfz25_2⟩:=zc BK718 2 (.slice A0_2 l0_2.length c0_2) rfl;obtain ⟨Ao26,co26,rfl⟩:=Kd.V_slice HO731.out)|(refine zg (some 31) func98 #[.int .u64 1] ?_;(with_reducible refine (Y5.calls kj2 1 t732 _ A19.out).mono ?_);rintro e w27 ⟨v733,rfl,ho0,hb⟩;refine ⟨_,rfl,?_⟩;replace HO_3:=aZ (Kd.V_elder' (zV HO_3) (Kd.R_base ho0) hb);replace HO_719001:=aZ (Kd.V_elder' (zV HO_719001) (Kd.R_base ho0) hb);replace HO731:=aZ (Kd.V_elder' (zV HO731) (Kd.R_base ho0) hb);have HO734:=aZ (Kd.R_lower (Kd.R_new' (Kd.R_newM (M:=fun k_=>(w.heap.size≤k_)) ho0 bs (fun k_ h_=>h_)) (Kd.R_lt (zR HO728))) bs);replace HO728:=aZ (Kd.R_elder' (zR HO728) (Kd.R_base ho0) hb);replace BK718:=sK BK718 hb;replace BK719:=sK BK719 hb;replace HB:=sB hb;clear hb ho0;obtain ⟨Ao28,co28,rfl⟩:=Kd.R_slice HO734.out;obtain ⟨hcz29_0,hfz29_0⟩:=zc BK719 0 (.bool false) rfl;obtain ⟨hcz29_1,hfz29_1⟩:=zc BK719 1 (.slice none 0 0) rfl;obtain ⟨hcz29_2,hfz29_2⟩:=zc BK719 2 (.slice none 0 0) rfl))
   refine bodyPost_ret (results_cell_row rfl _ _ gb719 67 #[.bool (decide (0<t729.length)),.slice Ao26 t729.length co26,.slice Ao28 t732.length co28] (0,0) _ rfl (zp BK719) underlying67 rfl (by kernel_rfl)) rfl ?_
   exact ⟨_,_,ze,zF HO731,zF ⟨Kd.R_types HO734.out BK719.out (by decide)⟩,bw⟩
def YQ.f (k:Nat) (a0_0:Bool) (l0_1:List Int) (l0_2:List Int):Option (Bool×List Int×List Int):=(Y0i.f k 1 2).bind fun bt746=>((Y6.f k a0_0 l0_1 l0_2 bt746.1 bt746.2.1 bt746.2.2).bind fun bt753=>((YA.f k bt753.1 bt753.2.1 bt753.2.2).bind fun bt760=>(some (bt760.1,bt760.2.1,bt760.2.2))))
theorem YQ.calls (k:Nat) (a0_0:Bool) (A0_1:Option Addr) (c0_1:Nat) (l0_1:List Int) (A0_2:Option Addr) (c0_2:Nat) (l0_2:List Int) (r1:Bool) (r2:List Int) (r3:List Int) (w:World) (hr0_1:Kd.C (Kd.int .i64) w A0_1 l0_1.length l0_1) (hc0_1:l0_1.length≤c0_1) (hr0_2:Kd.C (Kd.int .i64) w A0_2 l0_2.length l0_2) (hc0_2:l0_2.length≤c0_2) (h:YQ.f k a0_0 l0_1 l0_2=some (r1,r2,r3)) :
  Calls Tryz.prog 86 #[.agg #[.bool a0_0,.slice A0_1 l0_1.length c0_1,.slice A0_2 l0_2.length c0_2]] w fun e w'=>∃ v1_ v2_:Value,e = .returned (.agg #[.bool r1,v1_,v2_])∧Kd.V (Kd.int .i64) 3 w' w.heap.size (fun k_=>(w.heap.size≤k_)∧some k_≠(v2_:Value).ownBlock) v1_ r2∧Kd.R (Kd.int .i64) 3 w' w.heap.size (fun k_=>(w.heap.size≤k_)) v2_ r3∧Below w.heap.size w w':=by
 have hu67:=underlying67
 have HR0_1:=aZ hr0_1
 have HC0_1:=aZ hc0_1
 clear hr0_1 hc0_1
 have HR0_2:=aZ hr0_2
 have HC0_2:=aZ hc0_2
 clear hr0_2 hc0_2
 have HB:=aZ (Below.refl w.heap.size w)
 have H:=h
 unfold YQ.f at H
 clear h
 obtain ⟨⟨t746,t747,t750⟩,A2,H⟩:=zB H
 (try dsimp only at H)
 obtain ⟨⟨t753,t754,t757⟩,A3,H⟩:=zB H
 (try dsimp only at H)
 obtain ⟨⟨t760,t761,t764⟩,A4,H⟩:=zB H
 (try dsimp only at H)
 obtain ⟨rfl,rfl,rfl⟩:=zo3 H
 go_enter func86,ntmps86
 try go_wp2_with (first|(refine box_ev 1 #[.bool a0_0,.slice A0_1 l0_1.length c0_1,.slice A0_2 l0_2.length c0_2] 67 ?_;intro gb744 hg w5 hbox hb;have BK744:=aZ hbox;have GE744:=sG hg;replace HB:=sB hb;clear hb hbox hg)|(refine box_ev 2 #[.bool false,.slice none 0 0,.slice none 0 0] 67 ?_;intro gb745 hg w6 hbox hb;have BK745:=aZ hbox;have GE745:=sG hg;replace HB:=sB hb;obtain ⟨NB744_745,NB745_744,BK744⟩:=sX hg hb BK744;clear hb hbox hg))
 replace BK744:=aZ (blk_drew BK744.out)
 replace BK745:=aZ (blk_drew BK745.out)
 replace HB:=aZ (below_drew1 HB.out)
 refine start_ (n:=5) (S:=fun w'=>w'.cell? ⟨gb744,0,none⟩=some (.bool a0_0)∧w'.cell? ⟨gb744,1,none⟩=some (.slice A0_1 l0_1.length c0_1)∧w'.cell? ⟨gb744,2,none⟩=some (.slice A0_2 l0_2.length c0_2)) (ds:=[]) #[false,false,false,false,false] (by kernel_rfl) rfl rfl ⟨zh BK744 0,zh BK744 1,zh BK744 2⟩ (fun hHeld=>?_)
 generalize w6.drew=w7 at BK744 BK745 HB hHeld ⊢
 refine tv 0 (some 3) hHeld ?_
 refine one_ (i:=1) (N:=some 4) #[true,true,false,false,false] rfl rfl (by kernel_rfl) (by decide) (fun K hK=>?_)
 refine goes_ func51 (by kernel_rfl) rfl #[.int .i64 1,.int .i64 2] (by rfl) rfl rfl zm ?_
 with_reducible refine (Y0i.calls k 1 2 t746 t747 t750 _ A2.out).mono ?_
 rintro e w8 ⟨v748,v751,rfl,ho0,ho1,hb⟩
 refine ⟨_,rfl,?_⟩
 have HO749:=yL (fun k_=>(w.heap.size≤k_)∧k_≠gb744∧k_≠gb745) ho0 (fun k_ hk_=>⟨(Nat.le_trans bs hk_),(zf BK744 hk_),(zf BK745 hk_)⟩)
 have HO752:=yL (fun k_=>(w.heap.size≤k_)∧k_≠gb744∧k_≠gb745) ho1 (fun k_ hk_=>⟨(Nat.le_trans bs hk_),(zf BK744 hk_),(zf BK745 hk_)⟩)
 replace BK744:=sK BK744 hb
 replace BK745:=sK BK745 hb
 replace HB:=sB hb
 clear hb ho0 ho1
 obtain ⟨Ao9,co9,eo9⟩:=Kd.V_slice HO749.out
 (first|subst eo9|(injection eo9 with f1_ f2_ f3_;have f4_:=f1_.symm;have f5_:=f3_.symm;clear f1_ f2_ f3_;subst f4_;subst f5_))
 obtain ⟨Ao10,co10,eo10⟩:=Kd.V_slice HO752.out
 (first|subst eo10|(injection eo10 with f1_ f2_ f3_;have f4_:=f1_.symm;have f5_:=f3_.symm;clear f1_ f2_ f3_;subst f4_;subst f5_))
 refine hK.out _ _ ⟨zh BK744 0,zh BK744 1,zh BK744 2⟩ (fun hHeld=>?_)
 clear hK K
 refine nm ?_
 refine one_ (i:=2) (N:=some 5) #[true,true,true,false,false] rfl rfl (by kernel_rfl) (by decide) (fun K hK=>?_)
 refine goes_ func68 (by kernel_rfl) rfl #[.agg #[.bool a0_0,.slice A0_1 l0_1.length c0_1,.slice A0_2 l0_2.length c0_2],.agg #[.bool t746,.slice Ao9 t747.length co9,.slice Ao10 t750.length co10]] (by rfl) rfl rfl zm ?_
 with_reducible refine (Y6.calls k a0_0 _ _ l0_1 _ _ l0_2 t746 _ _ t747 _ _ t750 t753 t754 t757 _ (zC (Kd.C_below HR0_1.out HB.out)) HC0_1.out (zC (Kd.C_below HR0_2.out HB.out)) HC0_2.out (zC (Kd.V_reads' HO749.out).2.2) ((Kd.V_reads' HO749.out).2.1) (zC (Kd.V_reads' HO752.out).2.2) ((Kd.V_reads' HO752.out).2.1) A3.out).mono ?_
 rintro e w11 ⟨v755,v758,rfl,ho0,ho1,hb⟩
 refine ⟨_,rfl,?_⟩
 replace HO749:=yV HO749 hb
 replace HO752:=yV HO752 hb
 have HO756:=yL (fun k_=>(w.heap.size≤k_)∧k_≠gb744∧k_≠gb745) ho0 (fun k_ hk_=>⟨(Nat.le_trans bs hk_),(zf BK744 hk_),(zf BK745 hk_)⟩)
 have HO759:=yL (fun k_=>(w.heap.size≤k_)∧k_≠gb744∧k_≠gb745) ho1 (fun k_ hk_=>⟨(Nat.le_trans bs hk_),(zf BK744 hk_),(zf BK745 hk_)⟩)
 replace BK744:=sK BK744 hb
 replace BK745:=sK BK745 hb
 replace HB:=sB hb
 clear hb ho0 ho1
 obtain ⟨Ao12,co12,eo12⟩:=Kd.V_slice HO756.out
 (first|subst eo12|(injection eo12 with f1_ f2_ f3_;have f4_:=f1_.symm;have f5_:=f3_.symm;clear f1_ f2_ f3_;subst f4_;subst f5_))
 obtain ⟨Ao13,co13,eo13⟩:=Kd.V_slice HO759.out
 (first|subst eo13|(injection eo13 with f1_ f2_ f3_;have f4_:=f1_.symm;have f5_:=f3_.symm;clear f1_ f2_ f3_;subst f4_;subst f5_))
 refine hK.out _ _ ⟨zh BK744 0,zh BK744 1,zh BK744 2⟩ (fun hHeld=>?_)
 clear hK K
 refine nm ?_
 refine one_ (i:=3) (N:=some 6) #[true,true,true,true,false] rfl rfl (by kernel_rfl) (by decide) (fun K hK=>?_)
 refine goes_ func85 (by kernel_rfl) rfl #[.agg #[.bool t753,.slice Ao12 t754.length co12,.slice Ao13 t757.length co13]] (by rfl) rfl rfl zm ?_
 with_reducible refine (YA.calls k t753 (fun k_=>((w.heap.size≤k_)∧(k_≠gb744∧k_≠gb745))) _ _ t754 _ _ t757 t760 t761 t764 _ HO756.out (zC (Kd.V_reads' HO759.out).2.2) ((Kd.V_reads' HO759.out).2.1) A4.out).mono ?_
 rintro e w14 ⟨v762,v765,rfl,ho0,ho1,hb⟩
 refine ⟨_,rfl,?_⟩
 replace HO749:=aZ (Kd.V_elder' (zV HO749) (Kd.R_base ho1) hb)
 replace HO752:=aZ (Kd.V_elder' (zV HO752) (Kd.R_base ho1) hb)
 replace HO756:=aZ (Kd.V_elder' (zV HO756) (Kd.R_base ho1) hb)
 replace HO759:=aZ (Kd.V_elder' (zV HO759) (Kd.R_base ho1) hb)
 have HO763:=yL (fun k_=>(w.heap.size≤k_)∧some k_≠(v765:Value).ownBlock∧k_≠gb744∧k_≠gb745) ho0 (fun k_ hk_=>⟨Or.elim hk_.1 (fun hs_=>hs_.1) (fun hn_=>(Nat.le_trans bs hn_)),hk_.2,Or.elim hk_.1 (fun hs_=>hs_.2.1) (fun hn_=>(zf BK744 hn_)),Or.elim hk_.1 (fun hs_=>hs_.2.2) (fun hn_=>(zf BK745 hn_))⟩)
 have HO766:=aZ (Kd.R_lower (Kd.R_newM (M:=fun k_=>(w.heap.size≤k_)) (Kd.R_mono (ok':=fun k_=>True) ho1 (fun _ hk_=>trivial)) bs (fun k_ h_=>h_)) bs)
 replace BK744:=sK BK744 hb
 replace BK745:=sK BK745 hb
 replace HB:=sB hb
 clear hb ho0 ho1
 obtain ⟨Ao16,co16,eo16⟩:=Kd.V_slice HO763.out
 (first|subst eo16|(injection eo16 with f1_ f2_ f3_;have f4_:=f1_.symm;have f5_:=f3_.symm;clear f1_ f2_ f3_;subst f4_;subst f5_))
 obtain ⟨Ao18,co18,eo18⟩:=Kd.R_slice HO766.out
 (first|subst eo18|(injection eo18 with f1_ f2_ f3_;have f4_:=f1_.symm;have f5_:=f3_.symm;clear f1_ f2_ f3_;subst f4_;subst f5_))
 refine hK.out _ _ ⟨zh BK744 0,zh BK744 1,zh BK744 2⟩ (fun hHeld=>?_)
 clear hK K
 refine nm ?_
 refine one_ (i:=4) (N:=none) #[true,true,true,true,true] rfl rfl (by kernel_rfl) (by decide) (fun K hK=>?_)
 have hs15:w14.cell? ⟨gb745,0,none⟩=some (.bool false):=(blk_cell BK745.out 0).trans rfl
 have hfs15:=blk_frozen BK745.out 0
 have hns15_0:=NB744_745.out
 have hms15_0:=NB745_744.out
 have hs17:w14.cell? ⟨gb745,1,none⟩=some (.slice none 0 0):=(blk_cell BK745.out 1).trans rfl
 have hfs17:=blk_frozen BK745.out 1
 have hns17_0:=NB744_745.out
 have hms17_0:=NB745_744.out
 have hs19:w14.cell? ⟨gb745,2,none⟩=some (.slice none 0 0):=(blk_cell BK745.out 2).trans rfl
 have hfs19:=blk_frozen BK745.out 2
 have hns19_0:=NB744_745.out
 have hms19_0:=NB745_744.out
 refine skip_ (w1:=?_) (by rfl) rfl ?_ ?_
 rotate_left
 ·go_simp
  rfl
 refine hK.out _ _ ⟨((cell_far (p:=⟨gb745,_,none⟩) NB744_745.out _).trans (((cell_far (p:=⟨gb745,_,none⟩) NB744_745.out _).trans (((cell_far (p:=⟨gb745,_,none⟩) NB744_745.out _).trans (hHeld.1)))))),((cell_far (p:=⟨gb745,_,none⟩) NB744_745.out _).trans (((cell_far (p:=⟨gb745,_,none⟩) NB744_745.out _).trans (((cell_far (p:=⟨gb745,_,none⟩) NB744_745.out _).trans (hHeld.2.1)))))),((cell_far (p:=⟨gb745,_,none⟩) NB744_745.out _).trans (((cell_far (p:=⟨gb745,_,none⟩) NB744_745.out _).trans (((cell_far (p:=⟨gb745,_,none⟩) NB744_745.out _).trans (hHeld.2.2))))))⟩ (fun hHeld=>?_)
 clear hK K
 refine done_ (by kernel_rfl) ?_
 try go_wp2
 refine bodyPost_ret (results_cell_row rfl _ _ gb745 67 #[.bool t760,.slice Ao16 t761.length co16,.slice Ao18 t764.length co18] (0,0) _ rfl (zp BK745) underlying67 rfl (by kernel_rfl)) rfl ?_
 exact ⟨_,_,ze,zF HO763,zF ⟨Kd.R_types HO766.out BK745.out (by decide)⟩,bw⟩
def Y7.l0:Nat→Int→Int→Bool→List Int→List Int→Option (Int×Int×Bool)
 | 0,_,_,_,_,_=>none
 | k+1,x1,x9,x768000,x768001,x768002=>if x9≥1 then (if 0≤x9 then ((Y03.f k (shl .i64 1 x9)).bind fun bt768=>((Yu.f k x768000 x768001 x768002 bt768.1 bt768.2.1 bt768.2.2).bind fun bt775=>((YQ.f k bt775.1 bt775.2.1 bt775.2.2).bind fun bt782=>((Yf.f k bt782.1 bt782.2.1 bt782.2.2).bind fun bt789=>(if bt789.2=true then (if bt789.1≤x1 then (some (bt789.1,x9,true)) else (Y7.l0 k x1 (wrap64 (x9-1)) x768000 x768001 x768002)) else (Y7.l0 k x1 (wrap64 (x9-1)) x768000 x768001 x768002)))))) else (none)) else (some (0,0,false))
def Y7.f (k:Nat) (a0_0:Bool) (l0_1:List Int) (l0_2:List Int) (a1:Int) (a2:Int):Option (Int×Int×Bool):=Y7.l0 k a1 a2 a0_0 l0_1 l0_2
def Y7.T4:Bool×List (List Nat×List Nat):=(true,[([],[]),([],[]),([1],[1]),([2],[2]),([0,3,3],[0,3]),([4,4],[4]),([5,5],[5]),([6],[6]),([7],[7]),([7],[7]),([8,6,0,1,2,3,4,5,6,7,8],[8]),([9,10,0,1,2,3,4,5,6,7,8,9,10],[9])])
def Y7.B4:List Nat:=[0,0,2,6,15,31,63,127,255,255,511,2047]
theorem Y7.tab4:rtab .any (opsOf Tryz.f77 4)=Y7.T4:=by kernel_rfl
theorem Y7.bits4:waitsOk Y7.T4.2 Y7.B4=true:=by kernel_rfl
theorem Y7.calls (k:Nat) (a0_0:Bool) (A0_1:Option Addr) (c0_1:Nat) (l0_1:List Int) (A0_2:Option Addr) (c0_2:Nat) (l0_2:List Int) (a1:Int) (a2:Int) (r1:Int) (r2:Int) (r3:Bool) (w:World) (hr0_1:Kd.C (Kd.int .i64) w A0_1 l0_1.length l0_1) (hc0_1:l0_1.length≤c0_1) (hr0_2:Kd.C (Kd.int .i64) w A0_2 l0_2.length l0_2) (hc0_2:l0_2.length≤c0_2) (hG:Tryz.Gl w) (h:Y7.f k a0_0 l0_1 l0_2 a1 a2=some (r1,r2,r3)) :
  Calls Tryz.prog 77 #[.agg #[.bool a0_0,.slice A0_1 l0_1.length c0_1,.slice A0_2 l0_2.length c0_2],.int .i64 a1,.int .i64 a2] w fun e w'=>e = .returned (.tuple #[.int .i64 r1,.int .i64 r2,.bool r3])∧Below w.heap.size w w':=by
 have hu67:=underlying67
 have HG:=aZ hG
 clear hG
 have HR0_1:=aZ hr0_1
 have HC0_1:=aZ hc0_1
 clear hr0_1 hc0_1
 have HR0_2:=aZ hr0_2
 have HC0_2:=aZ hc0_2
 clear hr0_2 hc0_2
 have HB:=aZ (Below.refl w.heap.size w)
 have H:=h
 unfold Y7.f at H
 clear h
 have H':=aZ H
 clear H
 go_enter func77,ntmps77
 go_wp2_with (first|(refine box_ev 3 #[.bool a0_0,.slice A0_1 l0_1.length c0_1,.slice A0_2 l0_2.length c0_2] 67 ?_;intro gb767 hg w4 hbox hb;have BK767:=aZ hbox;have GE767:=sG hg;replace HB:=sB hb;clear hb hbox hg))
 go_loopg [9] k (fun kq v9 w'=>∃ (x9_1:Int),v9 = .int .i64 x9_1∧Aside0 (Y7.l0 kq a1 x9_1 a0_0 l0_1 l0_2=some (r1,r2,r3))∧Aside0 (kq≤k)∧Aside0 (w'.heap[gb767]? = some (.cells #[.bool a0_0,(.slice A0_1 l0_1.length c0_1),(.slice A0_2 l0_2.length c0_2)] 67 (0,0)))∧Aside0 (Below w.heap.size w w'))
 case atStart=>exact ⟨(a2),zs,H',⟨Nat.le_refl _⟩,⟨zb BK767⟩,⟨bw⟩⟩
 case round =>
  clear H'
  obtain ⟨x9_1,rfl,HA,HK1,BK767,HB⟩:=hrel
  cases gk with
  | zero=>exact absurd HA.out (by simp [Y7.l0])
  | succ k1 =>
   have H:=HA.out
   clear HA
   simp only [Y7.l0] at H
   by_cases c5:x9_1≥1
   case neg=>
    rw [if_neg c5] at H
    have c5b0:=decide_eq_false c5
    clear c5
    obtain ⟨rfl,rfl,rfl⟩:=zo3 H
    go_wp2
    go_ret3
    exact ⟨ze,bw⟩
   rw [if_pos c5] at H
   have c5b0:=decide_eq_true c5
   clear c5
   by_cases c6:0≤x9_1
   case neg=>
    rw [if_neg c6] at H
    cases H
   rw [if_pos c6] at H
   have c6b0:=eq_true c6
   have c6b1:=decide_eq_true c6
   clear c6
   obtain ⟨ji7,hji7⟩:∃ j_:Int,(shl .i64 1 x9_1)=j_:=⟨_,rfl⟩
   (first|rw [hji7] at H|simp only [hji7] at H)
   have hji7_:(IntKind.i64.wrap (1*2^min x9_1.toNat 64))=ji7:=hji7
   have hji7z:x9_1≤64→(IntKind.i64.wrap (1*2^x9_1.toNat))=ji7:=shl_small hji7
   have hji7u:(IntKind.i64.wrap (2^min x9_1.toNat 64))=ji7:=by have h_:=hji7_;rw [Int.one_mul] at h_;exact h_
   have hji7v:x9_1≤64→(IntKind.i64.wrap (2^x9_1.toNat))=ji7:=fun hle_=>by have h_:=hji7z hle_;rw [Int.one_mul] at h_;exact h_
   have hji7yu:(wrap64 (2^min x9_1.toNat 64))=ji7:=(i64_w _).symm.trans hji7u
   have hji7xu:x9_1≤64→(wrap64 (2^x9_1.toNat))=ji7:=fun h_=>(i64_w _).symm.trans (hji7v h_)
   have hji7y:(wrap64 (1*2^min x9_1.toNat 64))=ji7:=(i64_w _).symm.trans hji7_
   have hji7x:x9_1≤64→(wrap64 (1*2^x9_1.toNat))=ji7:=fun h_=>(i64_w _).symm.trans (hji7z h_)
   obtain ⟨⟨t768,t769,t772⟩,A8,H⟩:=zB H
   (try dsimp only at H)
   obtain ⟨⟨t775,t776,t779⟩,A9,H⟩:=zB H
   (try dsimp only at H)
   obtain ⟨⟨t782,t783,t786⟩,A10,H⟩:=zB H
   (try dsimp only at H)
   obtain ⟨⟨t789,t790⟩,A11,H⟩:=zB H
   (try dsimp only at H)
   by_cases c12:t790=true
   case neg=>
    replace c12:=Bool.eq_false_iff.mpr c12
    subst c12
    replace H:=zU H
    have H':=aZ H
    clear H
    try go_wp2
    replace BK767:=aZ (blk_drew BK767.out)
    replace HB:=aZ (below_drew1 HB.out)
    refine start_ (n:=12) (S:=fun w'=>w'.cell? ⟨gb767,0,none⟩=some (.bool a0_0)∧w'.cell? ⟨gb767,1,none⟩=some (.slice A0_1 l0_1.length c0_1)∧w'.cell? ⟨gb767,2,none⟩=some (.slice A0_2 l0_2.length c0_2)) (ds:=[]) #[false,false,false,false,false,false,false,false,false,false,false,false] (by kernel_rfl) rfl rfl ⟨zh BK767 0,zh BK767 1,zh BK767 2⟩ (fun hHeld=>?_);refine with_tabW Y7.tab4 Y7.bits4 (fun HT_ HW_=>?_)
    generalize wr.drew=w36 at BK767 HB hHeld ⊢
    refine pu 1 (some 19) HT_ ?_
    refine pu 2 (some 20) HT_ ?_
    refine tk 0 (some 18) HT_ HW_ hHeld ?_
    refine one_ (i:=3) (N:=some 21) #[true,true,true,true,false,false,false,false,false,false,false,false] rfl rfl (one_of HT_.out (by kernel_rfl)) (by decide) (fun K hK=>?_)
    refine goes_ func48 (by kernel_rfl) rfl #[.int .i64 ji7] (by rfl) rfl rfl (by (try simp only [List.map_toArray,List.map_cons,List.map_nil]);first|done|(simp only [hji7];rfl)|rfl|(simp only [List.length_drop,List.length_take];rfl)) ?_
    with_reducible refine (Y03.calls k1 ji7 t768 t769 t772 _ A8.out).mono ?_
    rintro e w37 ⟨v770,v773,rfl,ho0,ho1,hb⟩
    refine ⟨_,rfl,?_⟩
    have HO771:=aZ (Kd.R_lower ho0 bs)
    have HO774:=aZ (Kd.R_lower ho1 bs)
    replace BK767:=sK BK767 hb
    replace HB:=sB hb
    clear hb ho0 ho1
    obtain ⟨Ao38,co38,eo38⟩:=Kd.R_slice HO771.out
    (first|subst eo38|(injection eo38 with f1_ f2_ f3_;have f4_:=f1_.symm;have f5_:=f3_.symm;clear f1_ f2_ f3_;subst f4_;subst f5_))
    obtain ⟨Ao39,co39,eo39⟩:=Kd.R_slice HO774.out
    (first|subst eo39|(injection eo39 with f1_ f2_ f3_;have f4_:=f1_.symm;have f5_:=f3_.symm;clear f1_ f2_ f3_;subst f4_;subst f5_))
    refine hK.out _ _ ⟨zh BK767 0,zh BK767 1,zh BK767 2⟩ (fun hHeld=>?_)
    clear hK K
    refine nm ?_
    refine one_ (i:=4) (N:=some 22) #[true,true,true,true,true,false,false,false,false,false,false,false] rfl rfl (one_of HT_.out (by kernel_rfl)) (by decide) (fun K hK=>?_)
    refine goes_ func60 (by kernel_rfl) rfl #[.agg #[.bool a0_0,.slice A0_1 l0_1.length c0_1,.slice A0_2 l0_2.length c0_2],.agg #[.bool t768,.slice Ao38 t769.length co38,.slice Ao39 t772.length co39]] (by rfl) rfl rfl zm ?_
    with_reducible refine (Yu.calls k1 a0_0 _ _ l0_1 _ _ l0_2 t768 _ _ t769 _ _ t772 t775 t776 t779 _ (zC (Kd.C_below HR0_1.out HB.out)) HC0_1.out (zC (Kd.C_below HR0_2.out HB.out)) HC0_2.out (zC (Kd.R_reads' HO771.out).2.2) ((Kd.R_reads' HO771.out).2.1) (zC (Kd.R_reads' HO774.out).2.2) ((Kd.R_reads' HO774.out).2.1) A9.out).mono ?_
    rintro e w40 ⟨v777,v780,rfl,ho0,ho1,hb⟩
    refine ⟨_,rfl,?_⟩
    have HO778:=yL (fun k_=>some k_≠(.slice Ao38 t769.length co38:Value).ownBlock∧some k_≠(.slice Ao39 t772.length co39:Value).ownBlock∧k_≠gb767) ho0 (fun k_ hk_=>⟨(yf HO771 hk_),(yf HO774 hk_),(zf BK767 hk_)⟩)
    have HO781:=yL (fun k_=>some k_≠(.slice Ao38 t769.length co38:Value).ownBlock∧some k_≠(.slice Ao39 t772.length co39:Value).ownBlock∧k_≠gb767) ho1 (fun k_ hk_=>⟨(yf HO771 hk_),(yf HO774 hk_),(zf BK767 hk_)⟩)
    replace HO771:=yR HO771 hb
    replace HO774:=yR HO774 hb
    replace BK767:=sK BK767 hb
    replace HB:=sB hb
    clear hb ho0 ho1
    obtain ⟨Ao41,co41,eo41⟩:=Kd.V_slice HO778.out
    (first|subst eo41|(injection eo41 with f1_ f2_ f3_;have f4_:=f1_.symm;have f5_:=f3_.symm;clear f1_ f2_ f3_;subst f4_;subst f5_))
    obtain ⟨Ao42,co42,eo42⟩:=Kd.V_slice HO781.out
    (first|subst eo42|(injection eo42 with f1_ f2_ f3_;have f4_:=f1_.symm;have f5_:=f3_.symm;clear f1_ f2_ f3_;subst f4_;subst f5_))
    refine hK.out _ _ ⟨zh BK767 0,zh BK767 1,zh BK767 2⟩ (fun hHeld=>?_)
    clear hK K
    refine nm ?_
    refine one_ (i:=5) (N:=some 23) #[true,true,true,true,true,true,false,false,false,false,false,false] rfl rfl (one_of HT_.out (by kernel_rfl)) (by decide) (fun K hK=>?_)
    refine goes_ func86 (by kernel_rfl) rfl #[.agg #[.bool t775,.slice Ao41 t776.length co41,.slice Ao42 t779.length co42]] (by rfl) rfl rfl zm ?_
    with_reducible refine (YQ.calls k1 t775 _ _ t776 _ _ t779 t782 t783 t786 _ (zC (Kd.V_reads' HO778.out).2.2) ((Kd.V_reads' HO778.out).2.1) (zC (Kd.V_reads' HO781.out).2.2) ((Kd.V_reads' HO781.out).2.1) A10.out).mono ?_
    rintro e w43 ⟨v784,v787,rfl,ho0,ho1,hb⟩
    refine ⟨_,rfl,?_⟩
    replace HO778:=aZ (Kd.V_elder' (zV HO778) (Kd.R_base ho1) hb)
    replace HO781:=aZ (Kd.V_elder' (zV HO781) (Kd.R_base ho1) hb)
    have HO785:=yL (fun k_=>some k_≠(v787:Value).ownBlock∧some k_≠(.slice Ao38 t769.length co38:Value).ownBlock∧some k_≠(.slice Ao39 t772.length co39:Value).ownBlock∧k_≠gb767) ho0 (fun k_ hk_=>⟨hk_.2,(Kd.fresh' (Kd.R_lt (zR HO771)) k_ hk_.1),(Kd.fresh' (Kd.R_lt (zR HO774)) k_ hk_.1),(Kd.freshB (g:=gb767) (o:=.cells #[.bool a0_0,.slice A0_1 l0_1.length c0_1,.slice A0_2 l0_2.length c0_2] 67 (0,0)) (zb BK767) k_ hk_.1)⟩)
    have HO788:=aZ (Kd.R_lower (Kd.R_new' (Kd.R_new' (Kd.R_mono (ok':=fun k_=>True) ho1 (fun _ hk_=>trivial)) (Kd.R_lt (zR HO771))) (Kd.R_lt (zR HO774))) bs)
    replace HO771:=aZ (Kd.R_elder' (zR HO771) (Kd.R_base ho1) hb)
    replace HO774:=aZ (Kd.R_elder' (zR HO774) (Kd.R_base ho1) hb)
    replace BK767:=sK BK767 hb
    replace HB:=sB hb
    clear hb ho0 ho1
    obtain ⟨Ao44,co44,eo44⟩:=Kd.V_slice HO785.out
    (first|subst eo44|(injection eo44 with f1_ f2_ f3_;have f4_:=f1_.symm;have f5_:=f3_.symm;clear f1_ f2_ f3_;subst f4_;subst f5_))
    obtain ⟨Ao45,co45,eo45⟩:=Kd.R_slice HO788.out
    (first|subst eo45|(injection eo45 with f1_ f2_ f3_;have f4_:=f1_.symm;have f5_:=f3_.symm;clear f1_ f2_ f3_;subst f4_;subst f5_))
    refine hK.out _ _ ⟨zh BK767 0,zh BK767 1,zh BK767 2⟩ (fun hHeld=>?_)
    clear hK K
    refine nm ?_
    refine one_ (i:=6) (N:=some 24) #[true,true,true,true,true,true,true,false,false,false,false,false] rfl rfl (one_of HT_.out (by kernel_rfl)) (by decide) (fun K hK=>?_)
    refine goes_ func84 (by kernel_rfl) rfl #[.agg #[.bool t782,.slice Ao44 t783.length co44,.slice Ao45 t786.length co45]] (by rfl) rfl rfl zm ?_
    with_reducible refine (Yf.calls k1 t782 _ _ t783 _ _ t786 t789 false _ (zC (Kd.V_reads' HO785.out).2.2) ((Kd.V_reads' HO785.out).2.1) (zC (Kd.R_reads' HO788.out).2.2) ((Kd.R_reads' HO788.out).2.1) (Tryz.Gl.below HG.out bw) A11.out).mono ?_
    rintro e w46 ⟨rfl,hb⟩
    refine ⟨_,rfl,?_⟩
    replace HO771:=yR HO771 hb
    replace HO774:=yR HO774 hb
    replace HO778:=yV HO778 hb
    replace HO781:=yV HO781 hb
    replace HO785:=yV HO785 hb
    replace HO788:=yR HO788 hb
    replace BK767:=sK BK767 hb
    replace HB:=sB hb
    clear hb
    refine hK.out _ _ ⟨zh BK767 0,zh BK767 1,zh BK767 2⟩ (fun hHeld=>?_)
    clear hK K
    refine nm ?_
    refine pu 7 (some 17) HT_ ?_
    refine pu 8 (some 25) HT_ ?_
    refine pu 9 (some 26) HT_ ?_
    refine pu 10 (some 10) HT_ ?_
    refine pu 11 (some 11) HT_ ?_
    refine done_ (done_of HT_.out (by kernel_rfl)) ?_
    try go_wp2
    go_roundg k1
    case measure=>have:=HK1.out;omega
    case rel=>exact ⟨(wrap64 (x9_1-1)),zs,H',⟨by have:=HK1.out;omega⟩,⟨zb BK767⟩,⟨bw⟩⟩
   subst c12
   replace H:=zT H
   by_cases c13:t789≤a1
   case neg=>
    rw [if_neg c13] at H
    have c13b0:=decide_eq_false c13
    clear c13
    have H':=aZ H
    clear H
    try go_wp2
    replace BK767:=aZ (blk_drew BK767.out)
    replace HB:=aZ (below_drew1 HB.out)
    refine start_ (n:=12) (S:=fun w'=>w'.cell? ⟨gb767,0,none⟩=some (.bool a0_0)∧w'.cell? ⟨gb767,1,none⟩=some (.slice A0_1 l0_1.length c0_1)∧w'.cell? ⟨gb767,2,none⟩=some (.slice A0_2 l0_2.length c0_2)) (ds:=[]) #[false,false,false,false,false,false,false,false,false,false,false,false] (by kernel_rfl) rfl rfl ⟨zh BK767 0,zh BK767 1,zh BK767 2⟩ (fun hHeld=>?_);refine with_tabW Y7.tab4 Y7.bits4 (fun HT_ HW_=>?_)
    generalize wr.drew=w25 at BK767 HB hHeld ⊢
    refine pu 1 (some 19) HT_ ?_
    refine pu 2 (some 20) HT_ ?_
    refine tk 0 (some 18) HT_ HW_ hHeld ?_
    refine one_ (i:=3) (N:=some 21) #[true,true,true,true,false,false,false,false,false,false,false,false] rfl rfl (one_of HT_.out (by kernel_rfl)) (by decide) (fun K hK=>?_)
    refine goes_ func48 (by kernel_rfl) rfl #[.int .i64 ji7] (by rfl) rfl rfl (by (try simp only [List.map_toArray,List.map_cons,List.map_nil]);first|done|(simp only [hji7];rfl)|rfl|(simp only [List.length_drop,List.length_take];rfl)) ?_
    with_reducible refine (Y03.calls k1 ji7 t768 t769 t772 _ A8.out).mono ?_
    rintro e w26 ⟨v770,v773,rfl,ho0,ho1,hb⟩
    refine ⟨_,rfl,?_⟩
    have HO771:=aZ (Kd.R_lower ho0 bs)
    have HO774:=aZ (Kd.R_lower ho1 bs)
    replace BK767:=sK BK767 hb
    replace HB:=sB hb
    clear hb ho0 ho1
    obtain ⟨Ao27,co27,eo27⟩:=Kd.R_slice HO771.out
    (first|subst eo27|(injection eo27 with f1_ f2_ f3_;have f4_:=f1_.symm;have f5_:=f3_.symm;clear f1_ f2_ f3_;subst f4_;subst f5_))
    obtain ⟨Ao28,co28,eo28⟩:=Kd.R_slice HO774.out
    (first|subst eo28|(injection eo28 with f1_ f2_ f3_;have f4_:=f1_.symm;have f5_:=f3_.symm;clear f1_ f2_ f3_;subst f4_;subst f5_))
    refine hK.out _ _ ⟨zh BK767 0,zh BK767 1,zh BK767 2⟩ (fun hHeld=>?_)
    clear hK K
    refine nm ?_
    refine one_ (i:=4) (N:=some 22) #[true,true,true,true,true,false,false,false,false,false,false,false] rfl rfl (one_of HT_.out (by kernel_rfl)) (by decide) (fun K hK=>?_)
    refine goes_ func60 (by kernel_rfl) rfl #[.agg #[.bool a0_0,.slice A0_1 l0_1.length c0_1,.slice A0_2 l0_2.length c0_2],.agg #[.bool t768,.slice Ao27 t769.length co27,.slice Ao28 t772.length co28]] (by rfl) rfl rfl zm ?_
    with_reducible refine (Yu.calls k1 a0_0 _ _ l0_1 _ _ l0_2 t768 _ _ t769 _ _ t772 t775 t776 t779 _ (zC (Kd.C_below HR0_1.out HB.out)) HC0_1.out (zC (Kd.C_below HR0_2.out HB.out)) HC0_2.out (zC (Kd.R_reads' HO771.out).2.2) ((Kd.R_reads' HO771.out).2.1) (zC (Kd.R_reads' HO774.out).2.2) ((Kd.R_reads' HO774.out).2.1) A9.out).mono ?_
    rintro e w29 ⟨v777,v780,rfl,ho0,ho1,hb⟩
    refine ⟨_,rfl,?_⟩
    have HO778:=yL (fun k_=>some k_≠(.slice Ao27 t769.length co27:Value).ownBlock∧some k_≠(.slice Ao28 t772.length co28:Value).ownBlock∧k_≠gb767) ho0 (fun k_ hk_=>⟨(yf HO771 hk_),(yf HO774 hk_),(zf BK767 hk_)⟩)
    have HO781:=yL (fun k_=>some k_≠(.slice Ao27 t769.length co27:Value).ownBlock∧some k_≠(.slice Ao28 t772.length co28:Value).ownBlock∧k_≠gb767) ho1 (fun k_ hk_=>⟨(yf HO771 hk_),(yf HO774 hk_),(zf BK767 hk_)⟩)
    replace HO771:=yR HO771 hb
    replace HO774:=yR HO774 hb
    replace BK767:=sK BK767 hb
    replace HB:=sB hb
    clear hb ho0 ho1
    obtain ⟨Ao30,co30,eo30⟩:=Kd.V_slice HO778.out
    (first|subst eo30|(injection eo30 with f1_ f2_ f3_;have f4_:=f1_.symm;have f5_:=f3_.symm;clear f1_ f2_ f3_;subst f4_;subst f5_))
    obtain ⟨Ao31,co31,eo31⟩:=Kd.V_slice HO781.out
    (first|subst eo31|(injection eo31 with f1_ f2_ f3_;have f4_:=f1_.symm;have f5_:=f3_.symm;clear f1_ f2_ f3_;subst f4_;subst f5_))
    refine hK.out _ _ ⟨zh BK767 0,zh BK767 1,zh BK767 2⟩ (fun hHeld=>?_)
    clear hK K
    refine nm ?_
    refine one_ (i:=5) (N:=some 23) #[true,true,true,true,true,true,false,false,false,false,false,false] rfl rfl (one_of HT_.out (by kernel_rfl)) (by decide) (fun K hK=>?_)
    refine goes_ func86 (by kernel_rfl) rfl #[.agg #[.bool t775,.slice Ao30 t776.length co30,.slice Ao31 t779.length co31]] (by rfl) rfl rfl zm ?_
    with_reducible refine (YQ.calls k1 t775 _ _ t776 _ _ t779 t782 t783 t786 _ (zC (Kd.V_reads' HO778.out).2.2) ((Kd.V_reads' HO778.out).2.1) (zC (Kd.V_reads' HO781.out).2.2) ((Kd.V_reads' HO781.out).2.1) A10.out).mono ?_
    rintro e w32 ⟨v784,v787,rfl,ho0,ho1,hb⟩
    refine ⟨_,rfl,?_⟩
    replace HO778:=aZ (Kd.V_elder' (zV HO778) (Kd.R_base ho1) hb)
    replace HO781:=aZ (Kd.V_elder' (zV HO781) (Kd.R_base ho1) hb)
    have HO785:=yL (fun k_=>some k_≠(v787:Value).ownBlock∧some k_≠(.slice Ao27 t769.length co27:Value).ownBlock∧some k_≠(.slice Ao28 t772.length co28:Value).ownBlock∧k_≠gb767) ho0 (fun k_ hk_=>⟨hk_.2,(Kd.fresh' (Kd.R_lt (zR HO771)) k_ hk_.1),(Kd.fresh' (Kd.R_lt (zR HO774)) k_ hk_.1),(Kd.freshB (g:=gb767) (o:=.cells #[.bool a0_0,.slice A0_1 l0_1.length c0_1,.slice A0_2 l0_2.length c0_2] 67 (0,0)) (zb BK767) k_ hk_.1)⟩)
    have HO788:=aZ (Kd.R_lower (Kd.R_new' (Kd.R_new' (Kd.R_mono (ok':=fun k_=>True) ho1 (fun _ hk_=>trivial)) (Kd.R_lt (zR HO771))) (Kd.R_lt (zR HO774))) bs)
    replace HO771:=aZ (Kd.R_elder' (zR HO771) (Kd.R_base ho1) hb)
    replace HO774:=aZ (Kd.R_elder' (zR HO774) (Kd.R_base ho1) hb)
    replace BK767:=sK BK767 hb
    replace HB:=sB hb
    clear hb ho0 ho1
    obtain ⟨Ao33,co33,eo33⟩:=Kd.V_slice HO785.out
    (first|subst eo33|(injection eo33 with f1_ f2_ f3_;have f4_:=f1_.symm;have f5_:=f3_.symm;clear f1_ f2_ f3_;subst f4_;subst f5_))
    obtain ⟨Ao34,co34,eo34⟩:=Kd.R_slice HO788.out
    (first|subst eo34|(injection eo34 with f1_ f2_ f3_;have f4_:=f1_.symm;have f5_:=f3_.symm;clear f1_ f2_ f3_;subst f4_;subst f5_))
    refine hK.out _ _ ⟨zh BK767 0,zh BK767 1,zh BK767 2⟩ (fun hHeld=>?_)
    clear hK K
    refine nm ?_
    refine one_ (i:=6) (N:=some 24) #[true,true,true,true,true,true,true,false,false,false,false,false] rfl rfl (one_of HT_.out (by kernel_rfl)) (by decide) (fun K hK=>?_)
    refine goes_ func84 (by kernel_rfl) rfl #[.agg #[.bool t782,.slice Ao33 t783.length co33,.slice Ao34 t786.length co34]] (by rfl) rfl rfl zm ?_
    with_reducible refine (Yf.calls k1 t782 _ _ t783 _ _ t786 t789 true _ (zC (Kd.V_reads' HO785.out).2.2) ((Kd.V_reads' HO785.out).2.1) (zC (Kd.R_reads' HO788.out).2.2) ((Kd.R_reads' HO788.out).2.1) (Tryz.Gl.below HG.out bw) A11.out).mono ?_
    rintro e w35 ⟨rfl,hb⟩
    refine ⟨_,rfl,?_⟩
    replace HO771:=yR HO771 hb
    replace HO774:=yR HO774 hb
    replace HO778:=yV HO778 hb
    replace HO781:=yV HO781 hb
    replace HO785:=yV HO785 hb
    replace HO788:=yR HO788 hb
    replace BK767:=sK BK767 hb
    replace HB:=sB hb
    clear hb
    refine hK.out _ _ ⟨zh BK767 0,zh BK767 1,zh BK767 2⟩ (fun hHeld=>?_)
    clear hK K
    refine nm ?_
    refine pu 7 (some 17) HT_ ?_
    refine pu 8 (some 25) HT_ ?_
    refine pu 9 (some 26) HT_ ?_
    refine pu 10 (some 10) HT_ ?_
    refine pu 11 (some 11) HT_ ?_
    refine done_ (done_of HT_.out (by kernel_rfl)) ?_
    try go_wp2
    go_roundg k1
    case measure=>have:=HK1.out;omega
    case rel=>exact ⟨(wrap64 (x9_1-1)),zs,H',⟨by have:=HK1.out;omega⟩,⟨zb BK767⟩,⟨bw⟩⟩
   rw [if_pos c13] at H
   have c13b0:=decide_eq_true c13
   clear c13
   obtain ⟨rfl,rfl,rfl⟩:=zo3 H
   try go_wp2
   replace BK767:=aZ (blk_drew BK767.out)
   replace HB:=aZ (below_drew1 HB.out)
   refine start_ (n:=12) (S:=fun w'=>w'.cell? ⟨gb767,0,none⟩=some (.bool a0_0)∧w'.cell? ⟨gb767,1,none⟩=some (.slice A0_1 l0_1.length c0_1)∧w'.cell? ⟨gb767,2,none⟩=some (.slice A0_2 l0_2.length c0_2)) (ds:=[]) #[false,false,false,false,false,false,false,false,false,false,false,false] (by kernel_rfl) rfl rfl ⟨zh BK767 0,zh BK767 1,zh BK767 2⟩ (fun hHeld=>?_);refine with_tabW Y7.tab4 Y7.bits4 (fun HT_ HW_=>?_)
   generalize wr.drew=w14 at BK767 HB hHeld ⊢
   refine pu 1 (some 19) HT_ ?_
   refine pu 2 (some 20) HT_ ?_
   refine tk 0 (some 18) HT_ HW_ hHeld ?_
   refine one_ (i:=3) (N:=some 21) #[true,true,true,true,false,false,false,false,false,false,false,false] rfl rfl (one_of HT_.out (by kernel_rfl)) (by decide) (fun K hK=>?_)
   refine goes_ func48 (by kernel_rfl) rfl #[.int .i64 ji7] (by rfl) rfl rfl (by (try simp only [List.map_toArray,List.map_cons,List.map_nil]);first|done|(simp only [hji7];rfl)|rfl|(simp only [List.length_drop,List.length_take];rfl)) ?_
   with_reducible refine (Y03.calls k1 ji7 t768 t769 t772 _ A8.out).mono ?_
   rintro e w15 ⟨v770,v773,rfl,ho0,ho1,hb⟩
   refine ⟨_,rfl,?_⟩
   have HO771:=aZ (Kd.R_lower ho0 bs)
   have HO774:=aZ (Kd.R_lower ho1 bs)
   replace BK767:=sK BK767 hb
   replace HB:=sB hb
   clear hb ho0 ho1
   obtain ⟨Ao16,co16,eo16⟩:=Kd.R_slice HO771.out
   (first|subst eo16|(injection eo16 with f1_ f2_ f3_;have f4_:=f1_.symm;have f5_:=f3_.symm;clear f1_ f2_ f3_;subst f4_;subst f5_))
   obtain ⟨Ao17,co17,eo17⟩:=Kd.R_slice HO774.out
   (first|subst eo17|(injection eo17 with f1_ f2_ f3_;have f4_:=f1_.symm;have f5_:=f3_.symm;clear f1_ f2_ f3_;subst f4_;subst f5_))
   refine hK.out _ _ ⟨zh BK767 0,zh BK767 1,zh BK767 2⟩ (fun hHeld=>?_)
   clear hK K
   refine nm ?_
   refine one_ (i:=4) (N:=some 22) #[true,true,true,true,true,false,false,false,false,false,false,false] rfl rfl (one_of HT_.out (by kernel_rfl)) (by decide) (fun K hK=>?_)
   refine goes_ func60 (by kernel_rfl) rfl #[.agg #[.bool a0_0,.slice A0_1 l0_1.length c0_1,.slice A0_2 l0_2.length c0_2],.agg #[.bool t768,.slice Ao16 t769.length co16,.slice Ao17 t772.length co17]] (by rfl) rfl rfl zm ?_
   with_reducible refine (Yu.calls k1 a0_0 _ _ l0_1 _ _ l0_2 t768 _ _ t769 _ _ t772 t775 t776 t779 _ (zC (Kd.C_below HR0_1.out HB.out)) HC0_1.out (zC (Kd.C_below HR0_2.out HB.out)) HC0_2.out (zC (Kd.R_reads' HO771.out).2.2) ((Kd.R_reads' HO771.out).2.1) (zC (Kd.R_reads' HO774.out).2.2) ((Kd.R_reads' HO774.out).2.1) A9.out).mono ?_
   rintro e w18 ⟨v777,v780,rfl,ho0,ho1,hb⟩
   refine ⟨_,rfl,?_⟩
   have HO778:=yL (fun k_=>some k_≠(.slice Ao16 t769.length co16:Value).ownBlock∧some k_≠(.slice Ao17 t772.length co17:Value).ownBlock∧k_≠gb767) ho0 (fun k_ hk_=>⟨(yf HO771 hk_),(yf HO774 hk_),(zf BK767 hk_)⟩)
   have HO781:=yL (fun k_=>some k_≠(.slice Ao16 t769.length co16:Value).ownBlock∧some k_≠(.slice Ao17 t772.length co17:Value).ownBlock∧k_≠gb767) ho1 (fun k_ hk_=>⟨(yf HO771 hk_),(yf HO774 hk_),(zf BK767 hk_)⟩)
   replace HO771:=yR HO771 hb
   replace HO774:=yR HO774 hb
   replace BK767:=sK BK767 hb
   replace HB:=sB hb
   clear hb ho0 ho1
   obtain ⟨Ao19,co19,eo19⟩:=Kd.V_slice HO778.out
   (first|subst eo19|(injection eo19 with f1_ f2_ f3_;have f4_:=f1_.symm;have f5_:=f3_.symm;clear f1_ f2_ f3_;subst f4_;subst f5_))
   obtain ⟨Ao20,co20,eo20⟩:=Kd.V_slice HO781.out
   (first|subst eo20|(injection eo20 with f1_ f2_ f3_;have f4_:=f1_.symm;have f5_:=f3_.symm;clear f1_ f2_ f3_;subst f4_;subst f5_))
   refine hK.out _ _ ⟨zh BK767 0,zh BK767 1,zh BK767 2⟩ (fun hHeld=>?_)
   clear hK K
   refine nm ?_
   refine one_ (i:=5) (N:=some 23) #[true,true,true,true,true,true,false,false,false,false,false,false] rfl rfl (one_of HT_.out (by kernel_rfl)) (by decide) (fun K hK=>?_)
   refine goes_ func86 (by kernel_rfl) rfl #[.agg #[.bool t775,.slice Ao19 t776.length co19,.slice Ao20 t779.length co20]] (by rfl) rfl rfl zm ?_
   with_reducible refine (YQ.calls k1 t775 _ _ t776 _ _ t779 t782 t783 t786 _ (zC (Kd.V_reads' HO778.out).2.2) ((Kd.V_reads' HO778.out).2.1) (zC (Kd.V_reads' HO781.out).2.2) ((Kd.V_reads' HO781.out).2.1) A10.out).mono ?_
   rintro e w21 ⟨v784,v787,rfl,ho0,ho1,hb⟩
   refine ⟨_,rfl,?_⟩
   replace HO778:=aZ (Kd.V_elder' (zV HO778) (Kd.R_base ho1) hb)
   replace HO781:=aZ (Kd.V_elder' (zV HO781) (Kd.R_base ho1) hb)
   have HO785:=yL (fun k_=>some k_≠(v787:Value).ownBlock∧some k_≠(.slice Ao16 t769.length co16:Value).ownBlock∧some k_≠(.slice Ao17 t772.length co17:Value).ownBlock∧k_≠gb767) ho0 (fun k_ hk_=>⟨hk_.2,(Kd.fresh' (Kd.R_lt (zR HO771)) k_ hk_.1),(Kd.fresh' (Kd.R_lt (zR HO774)) k_ hk_.1),(Kd.freshB (g:=gb767) (o:=.cells #[.bool a0_0,.slice A0_1 l0_1.length c0_1,.slice A0_2 l0_2.length c0_2] 67 (0,0)) (zb BK767) k_ hk_.1)⟩)
   have HO788:=aZ (Kd.R_lower (Kd.R_new' (Kd.R_new' (Kd.R_mono (ok':=fun k_=>True) ho1 (fun _ hk_=>trivial)) (Kd.R_lt (zR HO771))) (Kd.R_lt (zR HO774))) bs)
   replace HO771:=aZ (Kd.R_elder' (zR HO771) (Kd.R_base ho1) hb)
   replace HO774:=aZ (Kd.R_elder' (zR HO774) (Kd.R_base ho1) hb)
   replace BK767:=sK BK767 hb
   replace HB:=sB hb
   clear hb ho0 ho1
   obtain ⟨Ao22,co22,eo22⟩:=Kd.V_slice HO785.out
   (first|subst eo22|(injection eo22 with f1_ f2_ f3_;have f4_:=f1_.symm;have f5_:=f3_.symm;clear f1_ f2_ f3_;subst f4_;subst f5_))
   obtain ⟨Ao23,co23,eo23⟩:=Kd.R_slice HO788.out
   (first|subst eo23|(injection eo23 with f1_ f2_ f3_;have f4_:=f1_.symm;have f5_:=f3_.symm;clear f1_ f2_ f3_;subst f4_;subst f5_))
   refine hK.out _ _ ⟨zh BK767 0,zh BK767 1,zh BK767 2⟩ (fun hHeld=>?_)
   clear hK K
   refine nm ?_
   refine one_ (i:=6) (N:=some 24) #[true,true,true,true,true,true,true,false,false,false,false,false] rfl rfl (one_of HT_.out (by kernel_rfl)) (by decide) (fun K hK=>?_)
   refine goes_ func84 (by kernel_rfl) rfl #[.agg #[.bool t782,.slice Ao22 t783.length co22,.slice Ao23 t786.length co23]] (by rfl) rfl rfl zm ?_
   with_reducible refine (Yf.calls k1 t782 _ _ t783 _ _ t786 t789 true _ (zC (Kd.V_reads' HO785.out).2.2) ((Kd.V_reads' HO785.out).2.1) (zC (Kd.R_reads' HO788.out).2.2) ((Kd.R_reads' HO788.out).2.1) (Tryz.Gl.below HG.out bw) A11.out).mono ?_
   rintro e w24 ⟨rfl,hb⟩
   refine ⟨_,rfl,?_⟩
   replace HO771:=yR HO771 hb
   replace HO774:=yR HO774 hb
   replace HO778:=yV HO778 hb
   replace HO781:=yV HO781 hb
   replace HO785:=yV HO785 hb
   replace HO788:=yR HO788 hb
   replace BK767:=sK BK767 hb
   replace HB:=sB hb
   clear hb
   refine hK.out _ _ ⟨zh BK767 0,zh BK767 1,zh BK767 2⟩ (fun hHeld=>?_)
   clear hK K
   refine nm ?_
   refine pu 7 (some 17) HT_ ?_
   refine pu 8 (some 25) HT_ ?_
   refine pu 9 (some 26) HT_ ?_
   refine pu 10 (some 10) HT_ ?_
   refine pu 11 (some 11) HT_ ?_
   refine done_ (done_of HT_.out (by kernel_rfl)) ?_
   try go_wp2
   go_ret3
   exact ⟨by first|rfl|(simp [errW_none,errW_some] <;> rfl)|(simp only [← hji7];first|rfl|(simp [errW_none,errW_some] <;> rfl))|(simp [*,errW_none,errW_some] <;> rfl),bw⟩
end Go.Proofs.YtaffkbemjbfajaaGreatDoor.PNumMultipliers
