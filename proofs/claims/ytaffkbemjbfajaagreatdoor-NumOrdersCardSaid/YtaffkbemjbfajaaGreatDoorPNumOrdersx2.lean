-- By a program of this session: functions as plain Lean functions, each with its proof over the machine.
import Derived.Test.YtaffkbemjbfajaaGreatDoorPNumOrdersx0
import Derived.Test.YtaffkbemjbfajaaGreatDoorPNumOrdersx1
namespace Go.Proofs.YtaffkbemjbfajaaGreatDoor.PNumOrders
open Go.RowKit Go.Proofs.Tryz Go.Proofs.YtaffkbemjbfajaaGreatDoorW.PrintWords Go.Proofs.YtaffkbemjbfajaaGreatDoorW.PrintLast Go.Proofs.YtaffkbemjbfajaaGreatDoorW.PrintMore
attribute [local go_sem] max2_int min2_int max_two min_two max_three min_three max_four min_four
set_option linter.unusedVariables false
set_option linter.unusedSimpArgs false
set_option maxHeartbeats 8000000
set_option maxRecDepth 100000
attribute [local go_sem high] eqA61
def Y8.j0:Nat→ByteArray→Bool→Bool→ByteArray→ByteArray→Option (Int)
 | 0,_,_,_,_,_=>none
 | k+1,x3,x4,x11,x281000,x281001=>if x11=true then (some 3) else (if x3.toList=([48]:List UInt8) then (if x4=true then (some 3) else (if x281001.toList=([49]:List UInt8) then (some 0) else (some 3))) else (if x281001.toList=([49]:List UInt8) then (some 0) else ((Yr.f k x3).bind fun t285=>((Yr.f k x281001).bind fun t288=>((Yj.f k t285 t288).bind fun t291=>((YH.f t291).bind fun t294=>(if t294=true then (some 0) else (some 3))))))))
def Y8.f (k:Nat) (a0_0:ByteArray) (a0_1:ByteArray):Option (Int):=(YF.f a0_0 (⟨#[45]⟩:ByteArray)).bind fun bt281=>((Y0d.f bt281.1).bind fun t283=>(if t283=true then ((Y0d.f a0_1).bind fun t284=>(if t284=true then (Y8.j0 k bt281.1 bt281.2 (a0_1.toList==([48]:List UInt8)) a0_0 a0_1) else (Y8.j0 k bt281.1 bt281.2 true a0_0 a0_1))) else (Y8.j0 k bt281.1 bt281.2 true a0_0 a0_1)))
theorem Y8.mono_l:∀ k,(∀ y0 y1 y2 y3 y4,LeO (Y8.j0 k y0 y1 y2 y3 y4) (Y8.j0 (k+1) y0 y1 y2 y3 y4))
 | 0=>fun _ _ _ _ _ r h=>by simp [Y8.j0] at h
 | k+1=>by
  have ih0:=Y8.mono_l k
  ·intro y0 y1 y2 y3 y4
   unfold Y8.j0
   have m0:=Yj.mono
   have m1:=Yr.mono
   exact zM
theorem Y8.mono:∀ a0 a1 k,LeO (Y8.f k a0 a1) (Y8.f (k+1) a0 a1):=by
 intro a0 a1 k
 have ih0:=Y8.mono_l k
 unfold Y8.f
 have m0:=Yj.mono
 have m1:=Yr.mono
 exact zM
def Y8.T7:Bool×List (List Nat×List Nat):=(true,[([],[]),([0],[0]),([1],[1]),([2],[2]),([3],[3]),([4,3,3],[3,4]),([3],[3]),([6,3],[3,6]),([7,5,3],[3,7]),([5,8,8,3],[3,5,8]),([9,9,3],[3,9]),([10,3],[3,10]),([3,11],[3,11]),([12,10],[12])])
def Y8.B7:List Nat:=[0,1,3,7,15,31,15,79,255,511,1023,2047,4095,8191]
theorem Y8.tab7:rtab .any (opsOf Tryz.f56 7)=Y8.T7:=by kernel_rfl
theorem Y8.bits7:waitsOk Y8.T7.2 Y8.B7=true:=by kernel_rfl
theorem Y8.calls (k:Nat) (a0_0:ByteArray) (a0_1:ByteArray) (r:Int) (w:World) (h:Y8.f k a0_0 a0_1=some r) :
  Calls Tryz.prog 56 #[.agg #[.string a0_0,.string a0_1]] w fun e w'=>e = .returned (.int .i64 r)∧Below w.heap.size w w':=by
 have hu61:=underlying61
 have HB:=aZ (Below.refl w.heap.size w)
 have H:=h
 unfold Y8.f at H
 clear h
 obtain ⟨⟨t281,t282⟩,A2,H⟩:=zB H
 (try dsimp only at H)
 have HC3:=aZ H
 clear H
 go_enter func56,ntmps56
 go_upto_region 2 with (first|(refine box_ev 1 #[.string a0_0,.string a0_1] 61 ?_;intro gb280 hg w4 hbox hb;have BK280:=aZ hbox;have GE280:=sG hg;replace HB:=sB hb;clear hb hbox hg;obtain ⟨hcz5_0,hfz5_0⟩:=zc BK280 0 (.string a0_0) rfl;obtain ⟨hcz5_1,hfz5_1⟩:=zc BK280 1 (.string a0_1) rfl)|(refine zg (some 8) func102 #[.string a0_0,.string (⟨#[45]⟩:ByteArray)] ?_;(with_reducible refine (YF.calls a0_0 (⟨#[45]⟩:ByteArray) t281 t282 _ A2.out).mono ?_);rintro e w' ⟨rfl,⟨nd,rfl⟩⟩;refine ⟨_,rfl,?_⟩))
 (try simp only [Act.put,List.setIfInBounds_toArray,List.set_cons_zero,List.set_cons_succ])
 go_cut [11] (fun v11 wc=>∃ (kq:Nat) (x11_2:Bool),v11 = .bool x11_2∧Aside0 (Y8.j0 kq t281 t282 x11_2 a0_0 a0_1=some r)∧Aside0 (kq≤k)∧Aside0 (wc.heap[gb280]? = some (.cells #[.string a0_0,.string a0_1] 61 (0,0)))∧Aside0 (Below w.heap.size w wc))
 case first =>
  have H:=HC3.out
  clear HC3
  obtain ⟨t283,A6,H⟩:=zB H
  by_cases c7:t283=true
  case neg=>
   replace c7:=Bool.eq_false_iff.mpr c7
   subst c7
   replace H:=zU H
   have H':=aZ H
   clear H
   go_wp2_with (first|(refine zg (some 13) func106 #[.string t281] ?_;(with_reducible refine (Y0d.calls t281 false _ A6.out).mono ?_);rintro e w17 ⟨rfl,hb⟩;refine ⟨_,rfl,?_⟩;replace BK280:=sK BK280 hb;replace HB:=sB hb;clear hb))
   go_meet
   case rel=>exact ⟨_,(true),zs,H',⟨by first|omega|exact Nat.le_refl _⟩,⟨zb BK280⟩,⟨bw⟩⟩
  subst c7
  replace H:=zT H
  obtain ⟨t284,A8,H⟩:=zB H
  by_cases c9:t284=true
  case neg=>
   replace c9:=Bool.eq_false_iff.mpr c9
   subst c9
   replace H:=zU H
   have H':=aZ H
   clear H
   go_wp2_with (first|(refine zg (some 13) func106 #[.string t281] ?_;(with_reducible refine (Y0d.calls t281 true _ A6.out).mono ?_);rintro e w14 ⟨rfl,hb⟩;refine ⟨_,rfl,?_⟩;replace BK280:=sK BK280 hb;replace HB:=sB hb;clear hb;obtain ⟨hcz15_0,hfz15_0⟩:=zc BK280 0 (.string a0_0) rfl;obtain ⟨hcz15_1,hfz15_1⟩:=zc BK280 1 (.string a0_1) rfl)|(go_at_call 106;(with_reducible refine (Y0d.calls a0_1 false _ A8.out).mono ?_);rintro e w16 ⟨rfl,hb⟩;replace BK280:=sK BK280 hb;replace HB:=sB hb;clear hb))
   go_meet
   case rel=>exact ⟨_,(true),zs,H',⟨by first|omega|exact Nat.le_refl _⟩,⟨zb BK280⟩,⟨bw⟩⟩
  subst c9
  replace H:=zT H
  have H':=aZ H
  clear H
  go_wp2_with (first|(refine zg (some 13) func106 #[.string t281] ?_;(with_reducible refine (Y0d.calls t281 true _ A6.out).mono ?_);rintro e w10 ⟨rfl,hb⟩;refine ⟨_,rfl,?_⟩;replace BK280:=sK BK280 hb;replace HB:=sB hb;clear hb;obtain ⟨hcz11_0,hfz11_0⟩:=zc BK280 0 (.string a0_0) rfl;obtain ⟨hcz11_1,hfz11_1⟩:=zc BK280 1 (.string a0_1) rfl)|(go_at_call 106;(with_reducible refine (Y0d.calls a0_1 true _ A8.out).mono ?_);rintro e w12 ⟨rfl,hb⟩;replace BK280:=sK BK280 hb;replace HB:=sB hb;clear hb;obtain ⟨hcz13_0,hfz13_0⟩:=zc BK280 0 (.string a0_0) rfl;obtain ⟨hcz13_1,hfz13_1⟩:=zc BK280 1 (.string a0_1) rfl))
  go_meet
  case rel=>exact ⟨_,((a0_1.toList==([48]:List UInt8))),zs,H',⟨by first|omega|exact Nat.le_refl _⟩,⟨zb BK280⟩,⟨bw⟩⟩
 case rest =>
  clear HC3
  obtain ⟨kq,x11_2,rfl,HA,HJ2,BK280,HB⟩:=hcut
  cases kq with
  | zero=>exact absurd HA.out (by simp [Y8.j0])
  | succ kj2 =>
   have H:=HA.out
   clear HA
   simp only [Y8.j0] at H
   by_cases c18:x11_2=true
   case neg=>
    replace c18:=Bool.eq_false_iff.mpr c18
    subst c18
    replace H:=zU H
    by_cases c19:t281.toList=([48]:List UInt8)
    case neg=>
     rw [if_neg c19] at H
     obtain ⟨c19b0,c19b1⟩:=zX c19
     by_cases c24:a0_1.toList=([49]:List UInt8)
     case neg=>
      rw [if_neg c24] at H
      obtain ⟨c24b0,c24b1⟩:=zX c24
      obtain ⟨t285,A26,H⟩:=zB H
      obtain ⟨t288,A27,H⟩:=zB H
      obtain ⟨t291,A28,H⟩:=zB H
      obtain ⟨t294,A29,H⟩:=zB H
      by_cases c30:t294=true
      case neg=>
       replace c30:=Bool.eq_false_iff.mpr c30
       subst c30
       replace H:=zU H
       obtain rfl:=Option.some.inj H
       try go_wp2
       replace BK280:=aZ (blk_drew BK280.out)
       replace HB:=aZ (below_drew1 HB.out)
       refine start_ (n:=14) (S:=fun w'=>w'.cell? ⟨gb280,0,none⟩=some (.string a0_0)∧w'.cell? ⟨gb280,1,none⟩=some (.string a0_1)) (ds:=[]) #[false,false,false,false,false,false,false,false,false,false,false,false,false,false] (by kernel_rfl) rfl rfl ⟨zh BK280 0,zh BK280 1⟩ (fun hHeld=>?_);refine with_tabW Y8.tab7 Y8.bits7 (fun HT_ HW_=>?_)
       generalize wc.drew=w38 at BK280 HB hHeld ⊢
       refine pu 0 (some 36) HT_ ?_
       refine tk 1 (some 37) HT_ HW_ hHeld ?_
       refine pu 2 (some 38) HT_ ?_
       refine pu 3 (some 39) HT_ ?_
       refine pu 4 (some 40) HT_ ?_
       refine pu 6 (some 42) HT_ ?_
       refine tk 7 (some 43) HT_ HW_ hHeld ?_
       refine one_ (i:=5) (N:=some 41) #[true,true,true,true,true,true,true,true,false,false,false,false,false,false] rfl rfl (one_of HT_.out (by kernel_rfl)) (by decide) (fun K hK=>?_)
       refine goes_ func108 (by kernel_rfl) rfl #[.string t281] (by rfl) rfl rfl zm ?_
       with_reducible refine (Yr.calls kj2 t281 t285 _ A26.out).mono ?_
       rintro e w39 ⟨v286,rfl,ho0,hb⟩
       refine ⟨_,rfl,?_⟩
       have HO287:=yL (fun k_=>k_≠gb280) ho0 (fun k_ hk_=>(zf BK280 hk_))
       replace BK280:=sK BK280 hb
       replace HB:=sB hb
       clear hb ho0
       refine hK.out _ _ ⟨zh BK280 0,zh BK280 1⟩ (fun hHeld=>?_)
       clear hK K
       refine nm ?_
       refine one_ (i:=8) (N:=some 44) #[true,true,true,true,true,true,true,true,true,false,false,false,false,false] rfl rfl (one_of HT_.out (by kernel_rfl)) (by decide) (fun K hK=>?_)
       refine goes_ func108 (by kernel_rfl) rfl #[.string a0_1] (by rfl) rfl rfl zm ?_
       with_reducible refine (Yr.calls kj2 a0_1 t288 _ A27.out).mono ?_
       rintro e w40 ⟨v289,rfl,ho0,hb⟩
       refine ⟨_,rfl,?_⟩
       replace HO287:=yV HO287 hb
       have HO290:=yL (fun k_=>k_≠gb280) ho0 (fun k_ hk_=>(zf BK280 hk_))
       replace BK280:=sK BK280 hb
       replace HB:=sB hb
       clear hb ho0
       obtain ⟨Ao41,co41,eo41⟩:=Kd.V_slice HO287.out
       (first|subst eo41|(injection eo41 with f1_ f2_ f3_;have f4_:=f1_.symm;have f5_:=f3_.symm;clear f1_ f2_ f3_;subst f4_;subst f5_))
       obtain ⟨Ao42,co42,eo42⟩:=Kd.V_slice HO290.out
       (first|subst eo42|(injection eo42 with f1_ f2_ f3_;have f4_:=f1_.symm;have f5_:=f3_.symm;clear f1_ f2_ f3_;subst f4_;subst f5_))
       refine hK.out _ _ ⟨zh BK280 0,zh BK280 1⟩ (fun hHeld=>?_)
       clear hK K
       refine nm ?_
       refine one_ (i:=9) (N:=some 45) #[true,true,true,true,true,true,true,true,true,true,false,false,false,false] rfl rfl (one_of HT_.out (by kernel_rfl)) (by decide) (fun K hK=>?_)
       refine goes_ func107 (by kernel_rfl) rfl #[.slice Ao41 t285.length co41,.slice Ao42 t288.length co42] (by rfl) rfl rfl zm ?_
       with_reducible refine (Yj.calls kj2 (fun k_=>k_≠gb280) _ _ t285 (fun k_=>k_≠gb280) _ _ t288 t291 _ HO287.out HO290.out A28.out).mono ?_
       rintro e w43 ⟨v292,rfl,ho0,hb⟩
       refine ⟨_,rfl,?_⟩
       replace HO287:=aZ (Kd.V_elder' (zV HO287) (Kd.R_base ho0) hb)
       replace HO290:=aZ (Kd.V_elder' (zV HO290) (Kd.R_base ho0) hb)
       have HO293:=aZ (Kd.R_lower (Kd.R_mono (ok':=fun k_=>True) ho0 (fun _ hk_=>trivial)) bs)
       replace BK280:=sK BK280 hb
       replace HB:=sB hb
       clear hb ho0
       obtain ⟨Ao44,co44,eo44⟩:=Kd.R_slice HO293.out
       (first|subst eo44|(injection eo44 with f1_ f2_ f3_;have f4_:=f1_.symm;have f5_:=f3_.symm;clear f1_ f2_ f3_;subst f4_;subst f5_))
       refine hK.out _ _ ⟨zh BK280 0,zh BK280 1⟩ (fun hHeld=>?_)
       clear hK K
       refine nm ?_
       refine one_ (i:=10) (N:=some 46) #[true,true,true,true,true,true,true,true,true,true,true,false,false,false] rfl rfl (one_of HT_.out (by kernel_rfl)) (by decide) (fun K hK=>?_)
       refine goes_ func109 (by kernel_rfl) rfl #[.slice Ao44 t291.length co44] (by rfl) rfl rfl zm ?_
       with_reducible refine (YH.calls _ _ t291 false _ (zC (Kd.R_reads' HO293.out).2.2) ((Kd.R_reads' HO293.out).2.1) A29.out).mono ?_
       rintro e w' ⟨rfl,⟨nd,rfl⟩⟩
       refine ⟨_,rfl,?_⟩
       refine hK.out _ _ ⟨zh BK280 0,zh BK280 1⟩ (fun hHeld=>?_)
       clear hK K
       refine nm ?_
       refine pu 11 (some 47) HT_ ?_
       refine pu 12 (some 48) HT_ ?_
       refine pu 13 (some 35) HT_ ?_
       refine done_ (done_of HT_.out (by kernel_rfl)) ?_
       try go_wp2
       go_ret
       exact ⟨ze,bw⟩
      subst c30
      replace H:=zT H
      obtain rfl:=Option.some.inj H
      try go_wp2
      replace BK280:=aZ (blk_drew BK280.out)
      replace HB:=aZ (below_drew1 HB.out)
      refine start_ (n:=14) (S:=fun w'=>w'.cell? ⟨gb280,0,none⟩=some (.string a0_0)∧w'.cell? ⟨gb280,1,none⟩=some (.string a0_1)) (ds:=[]) #[false,false,false,false,false,false,false,false,false,false,false,false,false,false] (by kernel_rfl) rfl rfl ⟨zh BK280 0,zh BK280 1⟩ (fun hHeld=>?_);refine with_tabW Y8.tab7 Y8.bits7 (fun HT_ HW_=>?_)
      generalize wc.drew=w31 at BK280 HB hHeld ⊢
      refine pu 0 (some 36) HT_ ?_
      refine tk 1 (some 37) HT_ HW_ hHeld ?_
      refine pu 2 (some 38) HT_ ?_
      refine pu 3 (some 39) HT_ ?_
      refine pu 4 (some 40) HT_ ?_
      refine pu 6 (some 42) HT_ ?_
      refine tk 7 (some 43) HT_ HW_ hHeld ?_
      refine one_ (i:=5) (N:=some 41) #[true,true,true,true,true,true,true,true,false,false,false,false,false,false] rfl rfl (one_of HT_.out (by kernel_rfl)) (by decide) (fun K hK=>?_)
      refine goes_ func108 (by kernel_rfl) rfl #[.string t281] (by rfl) rfl rfl zm ?_
      with_reducible refine (Yr.calls kj2 t281 t285 _ A26.out).mono ?_
      rintro e w32 ⟨v286,rfl,ho0,hb⟩
      refine ⟨_,rfl,?_⟩
      have HO287:=yL (fun k_=>k_≠gb280) ho0 (fun k_ hk_=>(zf BK280 hk_))
      replace BK280:=sK BK280 hb
      replace HB:=sB hb
      clear hb ho0
      refine hK.out _ _ ⟨zh BK280 0,zh BK280 1⟩ (fun hHeld=>?_)
      clear hK K
      refine nm ?_
      refine one_ (i:=8) (N:=some 44) #[true,true,true,true,true,true,true,true,true,false,false,false,false,false] rfl rfl (one_of HT_.out (by kernel_rfl)) (by decide) (fun K hK=>?_)
      refine goes_ func108 (by kernel_rfl) rfl #[.string a0_1] (by rfl) rfl rfl zm ?_
      with_reducible refine (Yr.calls kj2 a0_1 t288 _ A27.out).mono ?_
      rintro e w33 ⟨v289,rfl,ho0,hb⟩
      refine ⟨_,rfl,?_⟩
      replace HO287:=yV HO287 hb
      have HO290:=yL (fun k_=>k_≠gb280) ho0 (fun k_ hk_=>(zf BK280 hk_))
      replace BK280:=sK BK280 hb
      replace HB:=sB hb
      clear hb ho0
      obtain ⟨Ao34,co34,eo34⟩:=Kd.V_slice HO287.out
      (first|subst eo34|(injection eo34 with f1_ f2_ f3_;have f4_:=f1_.symm;have f5_:=f3_.symm;clear f1_ f2_ f3_;subst f4_;subst f5_))
      obtain ⟨Ao35,co35,eo35⟩:=Kd.V_slice HO290.out
      (first|subst eo35|(injection eo35 with f1_ f2_ f3_;have f4_:=f1_.symm;have f5_:=f3_.symm;clear f1_ f2_ f3_;subst f4_;subst f5_))
      refine hK.out _ _ ⟨zh BK280 0,zh BK280 1⟩ (fun hHeld=>?_)
      clear hK K
      refine nm ?_
      refine one_ (i:=9) (N:=some 45) #[true,true,true,true,true,true,true,true,true,true,false,false,false,false] rfl rfl (one_of HT_.out (by kernel_rfl)) (by decide) (fun K hK=>?_)
      refine goes_ func107 (by kernel_rfl) rfl #[.slice Ao34 t285.length co34,.slice Ao35 t288.length co35] (by rfl) rfl rfl zm ?_
      with_reducible refine (Yj.calls kj2 (fun k_=>k_≠gb280) _ _ t285 (fun k_=>k_≠gb280) _ _ t288 t291 _ HO287.out HO290.out A28.out).mono ?_
      rintro e w36 ⟨v292,rfl,ho0,hb⟩
      refine ⟨_,rfl,?_⟩
      replace HO287:=aZ (Kd.V_elder' (zV HO287) (Kd.R_base ho0) hb)
      replace HO290:=aZ (Kd.V_elder' (zV HO290) (Kd.R_base ho0) hb)
      have HO293:=aZ (Kd.R_lower (Kd.R_mono (ok':=fun k_=>True) ho0 (fun _ hk_=>trivial)) bs)
      replace BK280:=sK BK280 hb
      replace HB:=sB hb
      clear hb ho0
      obtain ⟨Ao37,co37,eo37⟩:=Kd.R_slice HO293.out
      (first|subst eo37|(injection eo37 with f1_ f2_ f3_;have f4_:=f1_.symm;have f5_:=f3_.symm;clear f1_ f2_ f3_;subst f4_;subst f5_))
      refine hK.out _ _ ⟨zh BK280 0,zh BK280 1⟩ (fun hHeld=>?_)
      clear hK K
      refine nm ?_
      refine one_ (i:=10) (N:=some 46) #[true,true,true,true,true,true,true,true,true,true,true,false,false,false] rfl rfl (one_of HT_.out (by kernel_rfl)) (by decide) (fun K hK=>?_)
      refine goes_ func109 (by kernel_rfl) rfl #[.slice Ao37 t291.length co37] (by rfl) rfl rfl zm ?_
      with_reducible refine (YH.calls _ _ t291 true _ (zC (Kd.R_reads' HO293.out).2.2) ((Kd.R_reads' HO293.out).2.1) A29.out).mono ?_
      rintro e w' ⟨rfl,⟨nd,rfl⟩⟩
      refine ⟨_,rfl,?_⟩
      refine hK.out _ _ ⟨zh BK280 0,zh BK280 1⟩ (fun hHeld=>?_)
      clear hK K
      refine nm ?_
      refine pu 11 (some 47) HT_ ?_
      refine pu 12 (some 48) HT_ ?_
      refine pu 13 (some 35) HT_ ?_
      refine done_ (done_of HT_.out (by kernel_rfl)) ?_
      try go_wp2
      go_ret
      exact ⟨ze,bw⟩
     rw [if_pos c24] at H
     obtain ⟨c24b0,c24b1⟩:=zY c24
     clear c24
     obtain rfl:=Option.some.inj H
     try go_wp2
     replace BK280:=aZ (blk_drew BK280.out)
     replace HB:=aZ (below_drew1 HB.out)
     refine start_ (n:=14) (S:=fun w'=>w'.cell? ⟨gb280,0,none⟩=some (.string a0_0)∧w'.cell? ⟨gb280,1,none⟩=some (.string a0_1)) (ds:=[]) #[false,false,false,false,false,false,false,false,false,false,false,false,false,false] (by kernel_rfl) rfl rfl ⟨zh BK280 0,zh BK280 1⟩ (fun hHeld=>?_);refine with_tabW Y8.tab7 Y8.bits7 (fun HT_ HW_=>?_)
     generalize wc.drew=w25 at BK280 HB hHeld ⊢
     refine pu 0 (some 36) HT_ ?_
     refine tk 1 (some 37) HT_ HW_ hHeld ?_
     refine pu 2 (some 38) HT_ ?_
     refine pu 3 (some 39) HT_ ?_
     refine pure_ (i:=4) (N:=some 40) (v:=undef) (a':=?_) #[true,true,true,true,true,false,false,false,false,false,false,false,false,false] rfl rfl (any_of HT_.out (by kernel_rfl)) (fun _ _ _ h=>h) (Or.inr ⟨by rfl,rfl⟩) ?_ ?_
     rotate_left
     ·simp only [Act.put,List.setIfInBounds_toArray,List.set_cons_zero,List.set_cons_succ,i64_w,i32_w]
      rfl
     refine pure_ (i:=5) (N:=some 41) (v:=undef) (a':=?_) #[true,true,true,true,true,true,false,false,false,false,false,false,false,false] rfl rfl (any_of HT_.out (by kernel_rfl)) (fun _ _ _ h=>h) (Or.inr ⟨by rfl,rfl⟩) ?_ ?_
     rotate_left
     ·simp only [Act.put,List.setIfInBounds_toArray,List.set_cons_zero,List.set_cons_succ,i64_w,i32_w]
      rfl
     refine pure_ (i:=6) (N:=some 42) (v:=undef) (a':=?_) #[true,true,true,true,true,true,true,false,false,false,false,false,false,false] rfl rfl (any_of HT_.out (by kernel_rfl)) (fun _ _ _ h=>h) (Or.inr ⟨by rfl,rfl⟩) ?_ ?_
     rotate_left
     ·simp only [Act.put,List.setIfInBounds_toArray,List.set_cons_zero,List.set_cons_succ,i64_w,i32_w]
      rfl
     refine pure_ (i:=7) (N:=some 43) (v:=undef) (a':=?_) #[true,true,true,true,true,true,true,true,false,false,false,false,false,false] rfl rfl (any_of HT_.out (by kernel_rfl)) (fun _ _ _ h=>h) (Or.inr ⟨by rfl,rfl⟩) ?_ ?_
     rotate_left
     ·simp only [Act.put,List.setIfInBounds_toArray,List.set_cons_zero,List.set_cons_succ,i64_w,i32_w]
      rfl
     refine pure_ (i:=8) (N:=some 44) (v:=undef) (a':=?_) #[true,true,true,true,true,true,true,true,true,false,false,false,false,false] rfl rfl (any_of HT_.out (by kernel_rfl)) (fun _ _ _ h=>h) (Or.inr ⟨by rfl,rfl⟩) ?_ ?_
     rotate_left
     ·simp only [Act.put,List.setIfInBounds_toArray,List.set_cons_zero,List.set_cons_succ,i64_w,i32_w]
      rfl
     refine pure_ (i:=9) (N:=some 45) (v:=undef) (a':=?_) #[true,true,true,true,true,true,true,true,true,true,false,false,false,false] rfl rfl (any_of HT_.out (by kernel_rfl)) (fun _ _ _ h=>h) (Or.inr ⟨by rfl,rfl⟩) ?_ ?_
     rotate_left
     ·simp only [Act.put,List.setIfInBounds_toArray,List.set_cons_zero,List.set_cons_succ,i64_w,i32_w]
      rfl
     refine pure_ (i:=10) (N:=some 46) (v:=undef) (a':=?_) #[true,true,true,true,true,true,true,true,true,true,true,false,false,false] rfl rfl (any_of HT_.out (by kernel_rfl)) (fun _ _ _ h=>h) (Or.inr ⟨by rfl,rfl⟩) ?_ ?_
     rotate_left
     ·simp only [Act.put,List.setIfInBounds_toArray,List.set_cons_zero,List.set_cons_succ,i64_w,i32_w]
      rfl
     refine pure_ (i:=11) (N:=some 47) (v:=undef) (a':=?_) #[true,true,true,true,true,true,true,true,true,true,true,true,false,false] rfl rfl (any_of HT_.out (by kernel_rfl)) (fun _ _ _ h=>h) (Or.inr ⟨by rfl,rfl⟩) ?_ ?_
     rotate_left
     ·simp only [Act.put,List.setIfInBounds_toArray,List.set_cons_zero,List.set_cons_succ,i64_w,i32_w]
      rfl
     refine pu 12 (some 48) HT_ ?_
     refine pu 13 (some 35) HT_ ?_
     refine done_ (done_of HT_.out (by kernel_rfl)) ?_
     try go_wp2
     go_ret
     exact ⟨ze,bw⟩
    rw [if_pos c19] at H
    obtain ⟨c19b0,c19b1⟩:=zY c19
    clear c19
    by_cases c20:t282=true
    case neg=>
     replace c20:=Bool.eq_false_iff.mpr c20
     subst c20
     replace H:=zU H
     by_cases c21:a0_1.toList=([49]:List UInt8)
     case neg=>
      rw [if_neg c21] at H
      obtain ⟨c21b0,c21b1⟩:=zX c21
      obtain rfl:=Option.some.inj H
      obtain ⟨hcz23_0,hfz23_0⟩:=zc BK280 0 (.string a0_0) rfl
      obtain ⟨hcz23_1,hfz23_1⟩:=zc BK280 1 (.string a0_1) rfl
      go_wp2
      go_ret
      exact ⟨ze,bw⟩
     rw [if_pos c21] at H
     obtain ⟨c21b0,c21b1⟩:=zY c21
     clear c21
     obtain rfl:=Option.some.inj H
     obtain ⟨hcz22_0,hfz22_0⟩:=zc BK280 0 (.string a0_0) rfl
     obtain ⟨hcz22_1,hfz22_1⟩:=zc BK280 1 (.string a0_1) rfl
     go_wp2
     go_ret
     exact ⟨ze,bw⟩
    subst c20
    replace H:=zT H
    obtain rfl:=Option.some.inj H
    go_wp2
    go_ret
    exact ⟨ze,bw⟩
   subst c18
   replace H:=zT H
   obtain rfl:=Option.some.inj H
   go_wp2
   go_ret
   exact ⟨ze,bw⟩
def YR.f (k:Nat)  : Option (Bool):=(Y0i.f k 6 (-4)).bind fun bt295=>(if bt295.2.2=0 then (if (bt295.1.toList==([45,51]:List UInt8)&&(bt295.2.1.toList==([50]:List UInt8)))=true then ((Y8.f k bt295.1 bt295.2.1).bind fun t299=>(if t299=0 then ((Y8.f k (⟨#[]⟩:ByteArray) (⟨#[]⟩:ByteArray)).bind fun t300=>(some (t300==3))) else (some false))) else (some false)) else (some false))
theorem YR.mono:∀ k,LeO (YR.f k ) (YR.f (k+1) ):=by
 intro  k
 unfold YR.f
 have m0:=Y8.mono
 have m1:=Y0i.mono
 exact zM
theorem YR.calls (k:Nat)  (r:Bool) (w:World) (hG:Tryz.Gl w) (h:YR.f k  = some r) :
  Calls Tryz.prog 20 #[] w fun e w'=>e = .returned (.bool r)∧Below w.heap.size w w':=by
 have hu61:=underlying61
 have HG:=aZ hG
 clear hG
 have HB:=aZ (Below.refl w.heap.size w)
 have H:=h
 unfold YR.f at H
 clear h
 obtain ⟨⟨t295,t296,t297⟩,A1,H⟩:=zB H
 (try dsimp only at H)
 by_cases c2:t297=0
 case neg=>
  rw [if_neg c2] at H
  obtain ⟨c2b0,c2b1⟩:=zX c2
  obtain rfl:=Option.some.inj H
  go_enter func20,ntmps20
  go_wp2_with (first|(refine zg (some 4) func46 #[.int .i64 6,.int .i64 (-4)] ?_;(with_reducible refine (Y0i.calls k 6 (-4) t295 t296 t297 _ (Tryz.Gl.below HG.out bw) A1.out).mono ?_);rintro e w19 ⟨rfl,hb⟩;refine ⟨_,rfl,?_⟩;replace HB:=sB hb;clear hb)|(refine box_ev 1 #[.string ⟨#[]⟩,.string ⟨#[]⟩] 61 ?_;intro gb298 hg w20 hbox hb;have BK298:=aZ hbox;have GE298:=sG hg;replace HB:=sB hb;clear hb hbox hg;obtain ⟨hcz21_0,hfz21_0⟩:=zc BK298 0 (.string ⟨#[]⟩) rfl;obtain ⟨hcz21_1,hfz21_1⟩:=zc BK298 1 (.string ⟨#[]⟩) rfl))
  go_ret
  exact ⟨ze,bw⟩
 rw [if_pos c2] at H
 obtain ⟨c2b0,c2b1⟩:=zY c2
 clear c2
 by_cases c3:(t295.toList==([45,51]:List UInt8)&&(t296.toList==([50]:List UInt8)))=true
 case neg=>
  rw [if_neg c3] at H
  have c3b0:(t295.toList==([45,51]:List UInt8)&&(t296.toList==([50]:List UInt8)))=false:=by simpa using c3
  (try (have c3b1:decide (t295.toList=([45,51]:List UInt8)&&(t296.toList==([50]:List UInt8)))=false:=by simpa using c3))
  (try (have c3b2:(t295.toList==([45,51]:List UInt8)&&(t296.toList==([50]:List UInt8)))=false:=by simpa using c3))
  (try (have c3b3:¬ (t295.toList=([45,51]:List UInt8)&&(t296.toList==([50]:List UInt8))):=by simpa using c3))
  clear c3
  obtain rfl:=Option.some.inj H
  go_enter func20,ntmps20
  go_wp2_with (first|(refine zg (some 4) func46 #[.int .i64 6,.int .i64 (-4)] ?_;(with_reducible refine (Y0i.calls k 6 (-4) t295 t296 t297 _ (Tryz.Gl.below HG.out bw) A1.out).mono ?_);rintro e w16 ⟨rfl,hb⟩;refine ⟨_,rfl,?_⟩;replace HB:=sB hb;clear hb)|(refine box_ev 1 #[.string ⟨#[]⟩,.string ⟨#[]⟩] 61 ?_;intro gb298 hg w17 hbox hb;have BK298:=aZ hbox;have GE298:=sG hg;replace HB:=sB hb;clear hb hbox hg;obtain ⟨hcz18_0,hfz18_0⟩:=zc BK298 0 (.string ⟨#[]⟩) rfl;obtain ⟨hcz18_1,hfz18_1⟩:=zc BK298 1 (.string ⟨#[]⟩) rfl))
  go_ret
  exact ⟨ze,bw⟩
 rw [if_pos c3] at H
 have c3b0:(t295.toList==([45,51]:List UInt8)&&(t296.toList==([50]:List UInt8)))=true:=c3
 (try (have c3b1:decide (t295.toList=([45,51]:List UInt8)&&(t296.toList==([50]:List UInt8)))=true:=by simpa using c3))
 (try (have c3b2:(t295.toList==([45,51]:List UInt8)&&(t296.toList==([50]:List UInt8)))=true:=by simpa using c3))
 clear c3
 obtain ⟨t299,A4,H⟩:=zB H
 by_cases c5:t299=0
 case neg=>
  rw [if_neg c5] at H
  obtain ⟨c5b0,c5b1⟩:=zX c5
  obtain rfl:=Option.some.inj H
  go_enter func20,ntmps20
  go_wp2_with (first|(refine zg (some 4) func46 #[.int .i64 6,.int .i64 (-4)] ?_;(with_reducible refine (Y0i.calls k 6 (-4) t295 t296 t297 _ (Tryz.Gl.below HG.out bw) A1.out).mono ?_);rintro e w12 ⟨rfl,hb⟩;refine ⟨_,rfl,?_⟩;replace HB:=sB hb;clear hb)|(refine box_ev 1 #[.string ⟨#[]⟩,.string ⟨#[]⟩] 61 ?_;intro gb298 hg w13 hbox hb;have BK298:=aZ hbox;have GE298:=sG hg;replace HB:=sB hb;clear hb hbox hg;obtain ⟨hcz14_0,hfz14_0⟩:=zc BK298 0 (.string ⟨#[]⟩) rfl;obtain ⟨hcz14_1,hfz14_1⟩:=zc BK298 1 (.string ⟨#[]⟩) rfl)|(go_at_call 56;(with_reducible refine (Y8.calls k t295 t296 t299 _ A4.out).mono ?_);rintro e w15 ⟨rfl,hb⟩;replace BK298:=sP (.cells #[.string t295,.string t296] 61 (0,0)) BK298 hb;replace HB:=sB hb;clear hb))
  go_ret
  exact ⟨ze,bw⟩
 rw [if_pos c5] at H
 obtain ⟨c5b0,c5b1⟩:=zY c5
 clear c5
 obtain ⟨t300,A6,H⟩:=zB H
 obtain rfl:=Option.some.inj H
 go_enter func20,ntmps20
 go_wp2_with (first|(refine zg (some 4) func46 #[.int .i64 6,.int .i64 (-4)] ?_;(with_reducible refine (Y0i.calls k 6 (-4) t295 t296 t297 _ (Tryz.Gl.below HG.out bw) A1.out).mono ?_);rintro e w7 ⟨rfl,hb⟩;refine ⟨_,rfl,?_⟩;replace HB:=sB hb;clear hb)|(refine box_ev 1 #[.string ⟨#[]⟩,.string ⟨#[]⟩] 61 ?_;intro gb298 hg w8 hbox hb;have BK298:=aZ hbox;have GE298:=sG hg;replace HB:=sB hb;clear hb hbox hg;obtain ⟨hcz9_0,hfz9_0⟩:=zc BK298 0 (.string ⟨#[]⟩) rfl;obtain ⟨hcz9_1,hfz9_1⟩:=zc BK298 1 (.string ⟨#[]⟩) rfl)|(go_at_call 56;(with_reducible refine (Y8.calls k t295 t296 t299 _ A4.out).mono ?_);rintro e w10 ⟨rfl,hb⟩;replace BK298:=sP (.cells #[.string t295,.string t296] 61 (0,0)) BK298 hb;replace HB:=sB hb;clear hb)|(go_at_call 56;(with_reducible refine (Y8.calls k (⟨#[]⟩:ByteArray) (⟨#[]⟩:ByteArray) t300 _ A6.out).mono ?_);rintro e w11 ⟨rfl,hb⟩;replace BK298:=sK BK298 hb;replace HB:=sB hb;clear hb))
 go_ret
 exact ⟨ze,bw⟩
def YX.f (s0_0:List Int) (s0_1:Int) (l1:List Int):Option (Int×Int):=(Y5.f s0_0 s0_1 (l1.length:Int)).bind fun bt327=>(if 0≤bt327.1 then (if bt327.1<(l1.length:Int) then (some (rd l1 bt327.1,bt327.2)) else (none)) else (none))
theorem YX.calls (g:Nat) (s0_0:List Int) (s0_1:Int) (A1:Option Addr) (c1:Nat) (l1:List Int) (r1:Int) (r2:Int) (w0 w:World) (hI:IsS44 w0 w g s0_0 s0_1) (hB:Below w0.heap.size w0 w) (hr1:Kd.C (Kd.int .i64) w A1 l1.length l1) (hc1:l1.length≤c1) (hf1:∀ ad,A1=some ad→0<l1.length→ad.block≠g) (h:YX.f s0_0 s0_1 l1=some (r1,r2)) :
  Calls Tryz.prog 122 #[.pointer (some ⟨g,0,none⟩),.slice A1 l1.length c1] w fun e w'=>e = .returned (.int .i64 r1)∧IsS44 w0 w' g s0_0 r2∧Below w0.heap.size w0 w'∧KeepBut w w' g none:=by
 have HR1:=aZ hr1
 have HC1:=aZ hc1
 clear hr1 hc1
 have HI0:=aZ hI
 have HK:=aZ (KeepBut.refl w g none)
 have HL:=aZ hB.size
 clear hI
 have HW0:=aZ hB.size
 have HB:=aZ hB
 clear hB
 have H:=h
 unfold YX.f at H
 clear h
 obtain ⟨⟨t327,t328⟩,A3,H⟩:=zB H
 (try dsimp only at H)
 by_cases c4:0≤t327
 case neg=>
  rw [if_neg c4] at H
  cases H
 rw [if_pos c4] at H
 have c4b0:=decide_eq_true c4
 clear c4
 by_cases c5:t327<(l1.length:Int)
 case neg=>
  rw [if_neg c5] at H
  cases H
 rw [if_pos c5] at H
 have c5b0:=decide_eq_true c5
 clear c5
 obtain ⟨rfl,rfl⟩:=zo2 H
 go_enter func122,ntmps122
 go_wp2_with (first|(refine zg (some 9) func33 #[.pointer (some ⟨g,0,none⟩),.int .i64 (l1.length:Int)] ?_;(with_reducible refine (Y5.calls g s0_0 s0_1 (l1.length:Int) t327 t328 w0 _ (zi HI0) bw A3.out).mono ?_);rintro e w6 ⟨rfl,hi,hb,hk⟩;refine ⟨_,rfl,?_⟩;replace HK:=sT hk;replace HB:=aZ (hb);replace HI0:=aZ (hi);clear hb hk hi;have p329:0≤(t327:Int):=zd;have q329:t327<(l1.length:Int):=zd;obtain ⟨ad329,e329,hx329_0⟩:=Kd.at_int HR1.out t327 p329 q329;cases e329;replace hx329_0:=keep_cell HK.out hx329_0 (by first|(rw [add_block];exact hf1 _ rfl (by omega))|exact hf1 _ rfl (by omega)|exact hf1 ad329 rfl (by omega));replace p329:=eq_true p329;replace q329:=eq_true q329))
 go_ret
 exact ⟨ze,zi HI0,bw,kk⟩
def Y02.f (s0_0:List Int) (s0_1:Int):Option (Int×Int):=(Y5.f s0_0 s0_1 6).bind fun bt330=>(if bt330.1=0 then ((Y5.f s0_0 bt330.2 3).bind fun bt332=>(some (wrap64 ((-2147483648)+bt332.1),bt332.2))) else (if bt330.1=1 then ((Y5.f s0_0 bt330.2 3).bind fun bt334=>(some (wrap64 (2147483647-bt334.1),bt334.2))) else (if bt330.1=2 then ((Y5.f s0_0 bt330.2 1073741824).bind fun bt336=>((Y5.f s0_0 bt336.2 4).bind fun bt338=>(some (wrap64 ((wrap64 ((wrap64 (bt336.1*4))+bt338.1))+(-2147483648)),bt338.2)))) else ((Yd.f s0_0 bt330.2 (-9) 9).bind fun bt340=>(some (bt340.1,bt340.2))))))
theorem Y02.calls (g:Nat) (s0_0:List Int) (s0_1:Int) (r1:Int) (r2:Int) (w0 w:World) (hI:IsS44 w0 w g s0_0 s0_1) (hB:Below w0.heap.size w0 w) (h:Y02.f s0_0 s0_1=some (r1,r2)) :
  Calls Tryz.prog 123 #[.pointer (some ⟨g,0,none⟩)] w fun e w'=>e = .returned (.int .i64 r1)∧IsS44 w0 w' g s0_0 r2∧Below w0.heap.size w0 w'∧KeepBut w w' g none:=by
 have HI0:=aZ hI
 have HK:=aZ (KeepBut.refl w g none)
 have HL:=aZ hB.size
 clear hI
 have HW0:=aZ hB.size
 have HB:=aZ hB
 clear hB
 have H:=h
 unfold Y02.f at H
 clear h
 obtain ⟨⟨t330,t331⟩,A2,H⟩:=zB H
 (try dsimp only at H)
 by_cases c3:t330=0
 case neg=>
  rw [if_neg c3] at H
  obtain ⟨c3b0,c3b1⟩:=zX c3
  by_cases c7:t330=1
  case neg=>
   rw [if_neg c7] at H
   obtain ⟨c7b0,c7b1⟩:=zX c7
   by_cases c11:t330=2
   case neg=>
    rw [if_neg c11] at H
    obtain ⟨c11b0,c11b1⟩:=zX c11
    obtain ⟨⟨t340,t341⟩,A17,H⟩:=zB H
    (try dsimp only at H)
    obtain ⟨rfl,rfl⟩:=zo2 H
    go_enter func123,ntmps123
    go_wp2_with (first|(refine zg (some 4) func33 #[.pointer (some ⟨g,0,none⟩),.int .i64 6] ?_;(with_reducible refine (Y5.calls g s0_0 s0_1 6 t330 t331 w0 _ (zi HI0) bw A2.out).mono ?_);rintro e w18 ⟨rfl,hi,hb,hk⟩;refine ⟨_,rfl,?_⟩;replace HK:=sT hk;replace HB:=aZ (hb);replace HI0:=aZ (hi);clear hb hk hi)|(refine zg (some 25) func37 #[.pointer (some ⟨g,0,none⟩),.int .i64 (-9),.int .i64 9] ?_;(with_reducible refine (Yd.calls g s0_0 t331 (-9) 9 t340 t341 w0 _ (zi HI0) bw A17.out).mono ?_);rintro e w19 ⟨rfl,hi,hb,hk⟩;refine ⟨_,rfl,?_⟩;replace HK:=sT hk;replace HB:=aZ (hb);replace HI0:=aZ (hi);clear hb hk hi))
    go_ret
    exact ⟨ze,zi HI0,bw,kk⟩
   rw [if_pos c11] at H
   obtain ⟨c11b0,c11b1⟩:=zY c11
   clear c11
   obtain ⟨⟨t336,t337⟩,A12,H⟩:=zB H
   (try dsimp only at H)
   obtain ⟨⟨t338,t339⟩,A13,H⟩:=zB H
   (try dsimp only at H)
   obtain ⟨rfl,rfl⟩:=zo2 H
   go_enter func123,ntmps123
   go_wp2_with (first|(refine zg (some 4) func33 #[.pointer (some ⟨g,0,none⟩),.int .i64 6] ?_;(with_reducible refine (Y5.calls g s0_0 s0_1 6 t330 t331 w0 _ (zi HI0) bw A2.out).mono ?_);rintro e w14 ⟨rfl,hi,hb,hk⟩;refine ⟨_,rfl,?_⟩;replace HK:=sT hk;replace HB:=aZ (hb);replace HI0:=aZ (hi);clear hb hk hi)|(refine zg (some 18) func33 #[.pointer (some ⟨g,0,none⟩),.int .i64 1073741824] ?_;(with_reducible refine (Y5.calls g s0_0 t331 1073741824 t336 t337 w0 _ (zi HI0) bw A12.out).mono ?_);rintro e w15 ⟨rfl,hi,hb,hk⟩;refine ⟨_,rfl,?_⟩;replace HK:=sT hk;replace HB:=aZ (hb);replace HI0:=aZ (hi);clear hb hk hi)|(refine zg (some 21) func33 #[.pointer (some ⟨g,0,none⟩),.int .i64 4] ?_;(with_reducible refine (Y5.calls g s0_0 t337 4 t338 t339 w0 _ (zi HI0) bw A13.out).mono ?_);rintro e w16 ⟨rfl,hi,hb,hk⟩;refine ⟨_,rfl,?_⟩;replace HK:=sT hk;replace HB:=aZ (hb);replace HI0:=aZ (hi);clear hb hk hi))
   go_ret
   exact ⟨ze,zi HI0,bw,kk⟩
  rw [if_pos c7] at H
  obtain ⟨c7b0,c7b1⟩:=zY c7
  clear c7
  obtain ⟨⟨t334,t335⟩,A8,H⟩:=zB H
  (try dsimp only at H)
  obtain ⟨rfl,rfl⟩:=zo2 H
  go_enter func123,ntmps123
  go_wp2_with (first|(refine zg (some 4) func33 #[.pointer (some ⟨g,0,none⟩),.int .i64 6] ?_;(with_reducible refine (Y5.calls g s0_0 s0_1 6 t330 t331 w0 _ (zi HI0) bw A2.out).mono ?_);rintro e w9 ⟨rfl,hi,hb,hk⟩;refine ⟨_,rfl,?_⟩;replace HK:=sT hk;replace HB:=aZ (hb);replace HI0:=aZ (hi);clear hb hk hi)|(refine zg (some 13) func33 #[.pointer (some ⟨g,0,none⟩),.int .i64 3] ?_;(with_reducible refine (Y5.calls g s0_0 t331 3 t334 t335 w0 _ (zi HI0) bw A8.out).mono ?_);rintro e w10 ⟨rfl,hi,hb,hk⟩;refine ⟨_,rfl,?_⟩;replace HK:=sT hk;replace HB:=aZ (hb);replace HI0:=aZ (hi);clear hb hk hi))
  go_ret
  exact ⟨ze,zi HI0,bw,kk⟩
 rw [if_pos c3] at H
 obtain ⟨c3b0,c3b1⟩:=zY c3
 clear c3
 obtain ⟨⟨t332,t333⟩,A4,H⟩:=zB H
 (try dsimp only at H)
 obtain ⟨rfl,rfl⟩:=zo2 H
 go_enter func123,ntmps123
 go_wp2_with (first|(refine zg (some 4) func33 #[.pointer (some ⟨g,0,none⟩),.int .i64 6] ?_;(with_reducible refine (Y5.calls g s0_0 s0_1 6 t330 t331 w0 _ (zi HI0) bw A2.out).mono ?_);rintro e w5 ⟨rfl,hi,hb,hk⟩;refine ⟨_,rfl,?_⟩;replace HK:=sT hk;replace HB:=aZ (hb);replace HI0:=aZ (hi);clear hb hk hi)|(refine zg (some 8) func33 #[.pointer (some ⟨g,0,none⟩),.int .i64 3] ?_;(with_reducible refine (Y5.calls g s0_0 t331 3 t332 t333 w0 _ (zi HI0) bw A4.out).mono ?_);rintro e w6 ⟨rfl,hi,hb,hk⟩;refine ⟨_,rfl,?_⟩;replace HK:=sT hk;replace HB:=aZ (hb);replace HI0:=aZ (hi);clear hb hk hi))
 go_ret
 exact ⟨ze,zi HI0,bw,kk⟩
def Yk.f (s0_0:List Int) (s0_1:Int) (a1:Int):Option (Bool×Int):=(Y5.f s0_0 s0_1 a1).bind fun bt342=>(some ((bt342.1==0),bt342.2))
theorem Yk.calls (g:Nat) (s0_0:List Int) (s0_1:Int) (a1:Int) (r1:Bool) (r2:Int) (w0 w:World) (hI:IsS44 w0 w g s0_0 s0_1) (hB:Below w0.heap.size w0 w) (h:Yk.f s0_0 s0_1 a1=some (r1,r2)) :
  Calls Tryz.prog 78 #[.pointer (some ⟨g,0,none⟩),.int .i64 a1] w fun e w'=>e = .returned (.bool r1)∧IsS44 w0 w' g s0_0 r2∧Below w0.heap.size w0 w'∧KeepBut w w' g none:=by
 have HI0:=aZ hI
 have HK:=aZ (KeepBut.refl w g none)
 have HL:=aZ hB.size
 clear hI
 have HW0:=aZ hB.size
 have HB:=aZ hB
 clear hB
 have H:=h
 unfold Yk.f at H
 clear h
 obtain ⟨⟨t342,t343⟩,A3,H⟩:=zB H
 (try dsimp only at H)
 obtain ⟨rfl,rfl⟩:=zo2 H
 go_enter func78,ntmps78
 go_wp2_with (first|(refine zg (some 7) func33 #[.pointer (some ⟨g,0,none⟩),.int .i64 a1] ?_;(with_reducible refine (Y5.calls g s0_0 s0_1 a1 t342 t343 w0 _ (zi HI0) bw A3.out).mono ?_);rintro e w4 ⟨rfl,hi,hb,hk⟩;refine ⟨_,rfl,?_⟩;replace HK:=sT hk;replace HB:=aZ (hb);replace HI0:=aZ (hi);clear hb hk hi))
 go_ret
 exact ⟨ze,zi HI0,bw,kk⟩
def Yg.l0:Nat→List Int→Int→Int→List Int→Int→Option (ByteArray×ByteArray×Int)
 | 0,_,_,_,_,_=>none
 | k+1,x3,x7,x8,x1000,x1001=>if x8<x7 then (if x3.length<140737488355328 then (Yg.l0 k (x3++[48]) x7 (wrap64 (x8+1)) x1000 x1001) else (none)) else (if x3.length<140737488355328 then ((some (x3++[49]:List Int)).bind fun y353=>((Yk.f x1000 x1001 2).bind fun bt357=>(if bt357.1=true then ((Yd.f x1000 bt357.2 0 20).bind fun bt359=>(if 0≤bt359.1 then ((YN.f (shl .i64 1 bt359.1)).bind fun t361=>((Yk.f x1000 bt359.2 2).bind fun bt362=>(if bt362.1=true then (if 1+(strOfNums y353).size≤9223372036854775807 then (some ((⟨#[45]⟩:ByteArray)++(strOfNums y353),t361,bt362.2)) else (none)) else (some (strOfNums y353,t361,bt362.2))))) else (none))) else ((Yk.f x1000 bt357.2 2).bind fun bt364=>(if bt364.1=true then (if 1+(strOfNums y353).size≤9223372036854775807 then (some ((⟨#[45]⟩:ByteArray)++(strOfNums y353),(⟨#[49]⟩:ByteArray),bt364.2)) else (none)) else (some (strOfNums y353,(⟨#[49]⟩:ByteArray),bt364.2))))))) else (none))
def Yg.f (k:Nat) (s0_0:List Int) (s0_1:Int):Option (ByteArray×ByteArray×Int):=(Yd.f s0_0 s0_1 1 60).bind fun bt348=>(Yg.l0 k (([49]:List Int)) bt348.1 0 s0_0 bt348.2)
theorem Yg.calls (k:Nat) (g:Nat) (s0_0:List Int) (s0_1:Int) (r1:ByteArray) (r2:ByteArray) (r3:Int) (w0 w:World) (hI:IsS44 w0 w g s0_0 s0_1) (hB:Below w0.heap.size w0 w) (hG:Tryz.Gl w0) (h:Yg.f k s0_0 s0_1=some (r1,r2,r3)) :
  Calls Tryz.prog 124 #[.pointer (some ⟨g,0,none⟩)] w fun e w'=>e = .returned (.agg #[.string r1,.string r2])∧IsS44 w0 w' g s0_0 r3∧Below w0.heap.size w0 w'∧KeepBut w w' g none:=by
 have hu61:=underlying61
 have HG:=aZ hG
 clear hG
 have HI0:=aZ hI
 have HK:=aZ (KeepBut.refl w g none)
 have HL:=aZ hB.size
 clear hI
 have HW0:=aZ hB.size
 have HB:=aZ hB
 clear hB
 have H:=h
 unfold Yg.f at H
 clear h
 obtain ⟨y345,hy345⟩:∃ y_:List Int,y_=(([49]:List Int)):=⟨_,rfl⟩
 replace H:((Yd.f s0_0 s0_1 1 60).bind fun bt348=>(Yg.l0 k y345 bt348.1 0 s0_0 bt348.2))=some (r1,r2,r3):=zy hy345 H
 have Ny345:=aZ hy345
 clear hy345
 obtain ⟨⟨t348,t349⟩,A2,H⟩:=zB H
 (try dsimp only at H)
 have H':=aZ H
 clear H
 go_enter func124,ntmps124
 go_wp2_with (first|(refine box_ev 2 #[.string ⟨#[]⟩,.string ⟨#[]⟩] 61 ?_;intro gb344 hg w3 hbox hb;replace HB:=sB hb;have BK344:=aZ hbox;have GW344:=sE hg;have GE344:=zW HW0 hg;replace HK:=sU hb;have NB0_344:=aZ ((by rw [hg];exact Nat.ne_of_lt (IsS44.lt (show IsS44 w0 _ g s0_0 s0_1 from zi HI0)):g≠gb344));have NB344_0:=aZ ((by rw [hg];exact Nat.ne_of_gt (IsS44.lt (show IsS44 w0 _ g s0_0 s0_1 from zi HI0)):gb344≠g));replace HI0:=aZ (IsS44.below (zi HI0) hb);clear hb hbox hg)|((with_reducible refine gate_dst (N:=5) rfl ?_);refine Kd.R_lit (Kd.int .u8) _ 5 ?hg (N:=5) ?hd (xs:=([49]:List Int)) (inner:=[.int .u8 49]) (ok:=fun _=>True) (okp:=fun _=>True) ?hr ?hp (fun _ hk=>hk) trivial (Below.refl _ _) (Nat.le_refl _) (by simp) ?_;(case hd=>rfl);(case hg=>rfl);(case hr=>first|(go_simp;done)|(go_simp;rfl));(case hp=>exact (Reps.one (show Kd.M (Kd.int .u8) _ _ _ 49 [.int .u8 49] from rfl) (Reps.none _ _)));intro v346 w4 ho5 hb hg_ hnew_;clear hg_ hnew_;(first|rw [← Ny345.out] at ho5|(simp only [Int.reduceToNat] at ho5;rw [← Ny345.out] at ho5));have HO347:=aZ (Kd.R_lower ho5 ks);replace HI0:=aZ (IsS44.below (zi HI0) hb);replace BK344:=sK BK344 hb;replace HK:=sU hb;replace HB:=sB hb;clear hb ho5)|(refine zg (some 7) func37 #[.pointer (some ⟨g,0,none⟩),.int .i64 1,.int .i64 60] ?_;(with_reducible refine (Yd.calls g s0_0 s0_1 1 60 t348 t349 w0 _ (zi HI0) bw A2.out).mono ?_);rintro e w6 ⟨rfl,hi,hb,hk⟩;refine ⟨_,rfl,?_⟩;replace BK344:=kB hk NB344_0 BK344;replace HO347:=aZ (Kd.R_mono (Kd.R_keep (IsS44.apart (show IsS44 w0 _ g s0_0 s0_1 from zi HI0) (zR HO347) (by decide)) hk (fun _ h=>h.2)) (fun _ h=>h.1));replace HK:=sT hk;replace HB:=aZ (hb);replace HI0:=aZ (hi);clear hb hk hi))
 go_loopg [3,8] k (fun kq v3 v8 w'=>∃ (x3_1:List Int) (x8_1:Int),v8 = .int .i64 x8_1∧Aside0 (Yg.l0 kq x3_1 t348 x8_1 s0_0 t349=some (r1,r2,r3))∧Aside0 (kq≤k)∧Aside0 (Kd.R (Kd.int .u8) 5 w' w.heap.size (fun _=>True) v3 x3_1)∧Aside0 (w'.heap[gb344]? = some (.cells #[.string ⟨#[]⟩,.string ⟨#[]⟩] 61 (0,0)))∧Aside0 (IsS44 w0 w' g s0_0 t349)∧Aside0 (KeepBut w w' g none)∧Aside0 (Below w0.heap.size w0 w'))
 case atStart=>exact ⟨(y345),(0),zs,H',⟨Nat.le_refl _⟩,⟨zR HO347⟩,⟨zb BK344⟩,⟨zi HI0⟩,⟨kk⟩,⟨bw⟩⟩
 case round =>
  clear H'
  try clear c1
  try clear c3
  obtain ⟨x3_1,x8_1,rfl,HA,HK1,HO_3,BK344,HI0,HK,HB⟩:=hrel
  cases gk with
  | zero=>exact absurd HA.out (by simp [Yg.l0])
  | succ k1 =>
   have H:=HA.out
   clear HA
   simp only [Yg.l0] at H
   by_cases c7:x8_1<t348
   case neg=>
    rw [if_neg c7] at H
    have c7b0:=decide_eq_false c7
    clear c7
    by_cases c10:x3_1.length<140737488355328
    case neg=>
     rw [if_neg c10] at H
     cases H
    rw [if_pos c10] at H
    have LMc10:=aZ c10
    clear c10
    obtain ⟨y353,hy353⟩:∃ y_:List Int,y_=(x3_1++[49]):=⟨_,rfl⟩
    replace H:((Yk.f s0_0 t349 2).bind fun bt357=>(if bt357.1=true then ((Yd.f s0_0 bt357.2 0 20).bind fun bt359=>(if 0≤bt359.1 then ((YN.f (shl .i64 1 bt359.1)).bind fun t361=>((Yk.f s0_0 bt359.2 2).bind fun bt362=>(if bt362.1=true then (if 1+(strOfNums y353).size≤9223372036854775807 then (some ((⟨#[45]⟩:ByteArray)++(strOfNums y353),t361,bt362.2)) else (none)) else (some (strOfNums y353,t361,bt362.2))))) else (none))) else ((Yk.f s0_0 bt357.2 2).bind fun bt364=>(if bt364.1=true then (if 1+(strOfNums y353).size≤9223372036854775807 then (some ((⟨#[45]⟩:ByteArray)++(strOfNums y353),(⟨#[49]⟩:ByteArray),bt364.2)) else (none)) else (some (strOfNums y353,(⟨#[49]⟩:ByteArray),bt364.2))))))=some (r1,r2,r3):=zy hy353 H
    have Ny353:=aZ hy353
    clear hy353
    obtain ⟨⟨t357,t358⟩,A11,H⟩:=zB H
    (try dsimp only at H)
    by_cases c12:t357=true
    case neg=>
     replace c12:=Bool.eq_false_iff.mpr c12
     subst c12
     replace H:=zU H
     obtain ⟨⟨t364,t365⟩,A48,H⟩:=zB H
     (try dsimp only at H)
     by_cases c49:t364=true
     case neg=>
      replace c49:=Bool.eq_false_iff.mpr c49
      subst c49
      replace H:=zU H
      obtain ⟨rfl,rfl,rfl⟩:=zo3 H
      go_wp2_with (first|((with_reducible refine gate_builtin (b:=.append) (xs:=#[.tmp 14,.tmp 15]) rfl ?_);at_builtin;refine Kd.R_append (Kd.int .u8) w.heap.size rfl (.tmp 14) (.tmp 15) 45 5 (.int .u8 0) 1 rfl underlying45 info5 rfl (by decide) (by omega) u3 x3_1 49 [.int .u8 49] (fun _=>True) (fun _=>False) rfl rfl ?aP (fun _ hk=>hk.elim) ?aF ?aO (Below.refl _ _) ?aS ?aL ?_;(case aP=>exact rfl);(case aF=>exact (fun _ _=>trivial));(case aO=>exact (zR HO_3));(case aS=>exact ks);(case aL=>have:=LMc10.out;omega);intro v354 w62 ho hb hg hat;rw [← Ny353.out] at ho;replace BK344:=aZ (blk_grown (g:=gb344) (o:=.cells #[.string ⟨#[]⟩,.string ⟨#[]⟩] 61 (0,0)) (zb BK344) hg (Kd.R_ne HO_3.out BK344.out (by decide)));replace HI0:=aZ (IsS44.grown (zi HI0) hg (IsS44.own_ne HI0.out HO_3.out (by decide)));replace HB:=aZ (below_weaken bw HL.out hb);replace HK:=aZ (KeepBut.trans kk (KeepBut.of_grown hg g) (Kd.R_base2 HO_3.out));have HO355:=aZ (ho);clear HO_3;clear ho hb hg hat;have hcv63:=own_string (P:=Tryz.prog) underlying45 underlying5 underlying9 (Kd.own_of_R HO355.out))|(refine box_ev 4 #[.string ⟨#[]⟩,.string ⟨#[]⟩] 61 ?_;intro gb356 hg w64 hbox hb;replace HO355:=yR HO355 hb;replace HB:=sB hb;have BK356:=aZ hbox;have GW356:=sE hg;have GE356:=zW HW0 hg;replace HK:=sU hb;obtain ⟨NB344_356,NB356_344,BK344⟩:=sX hg hb BK344;have NB0_356:=aZ ((by rw [hg];exact Nat.ne_of_lt (IsS44.lt (show IsS44 w0 _ g s0_0 t349 from zi HI0)):g≠gb356));have NB356_0:=aZ ((by rw [hg];exact Nat.ne_of_gt (IsS44.lt (show IsS44 w0 _ g s0_0 t349 from zi HI0)):gb356≠g));replace HI0:=aZ (IsS44.below (zi HI0) hb);clear hb hbox hg;have hnb65:=NB356_344.out;have hnc65:=NB344_356.out;have hnb66:=NB356_0.out;have hnc66:=NB0_356.out;obtain ⟨hcz67_0,hfz67_0⟩:=zc BK356 0 (.string ⟨#[]⟩) rfl;obtain ⟨hcz67_1,hfz67_1⟩:=zc BK356 1 (.string ⟨#[]⟩) rfl)|(refine zg (some 21) func78 #[.pointer (some ⟨g,0,none⟩),.int .i64 2] ?_;(with_reducible refine (Yk.calls g s0_0 t349 2 false t358 w0 _ (zi HI0) bw A11.out).mono ?_);rintro e w68 ⟨rfl,hi,hb,hk⟩;refine ⟨_,rfl,?_⟩;replace BK344:=aZ (KeepBut.blk hk (g':=gb344) (o:=.cells #[.string ⟨#[]⟩,.string ⟨#[]⟩] 61 (0,0)) (zq BK344) NB344_0.out (by simp));replace HO355:=aZ (Kd.R_mono (Kd.R_keep (IsS44.apart (show IsS44 w0 _ g s0_0 t349 from zi HI0) (by (with_reducible repeat (first|apply Kd.R_alloc|apply Kd.R_drewN|apply Kd.R_drew));exact (Kd.R_mono (Kd.R_far (p:=⟨gb356,1,none⟩) (Kd.R_far (p:=⟨gb356,0,none⟩) (Kd.R_types HO355.out BK356.out (by decide)) (fun _ hk=>hk.2) (.string (strOfNums y353))) (fun _ hk=>hk.2) (.string (⟨#[49]⟩:ByteArray))) (fun _ h_=>h_.1))) (by decide)) hk (fun _ h=>h.2)) (fun _ h=>h.1));replace BK356:=aZ (KeepBut.blk hk (g':=gb356) (o:=.cells #[.string (strOfNums y353),.string (⟨#[49]⟩:ByteArray)] 61 (0,0)) (zp BK356) NB356_0.out (by simp));replace HK:=sT hk;replace HB:=aZ (hb);replace HI0:=aZ (hi);clear hb hk hi)|(refine zg (some 28) func78 #[.pointer (some ⟨g,0,none⟩),.int .i64 2] ?_;(with_reducible refine (Yk.calls g s0_0 t358 2 false t365 w0 _ (zi HI0) bw A48.out).mono ?_);rintro e w69 ⟨rfl,hi,hb,hk⟩;refine ⟨_,rfl,?_⟩;replace BK344:=kB hk NB344_0 BK344;replace HO355:=aZ (Kd.R_mono (Kd.R_keep (IsS44.apart (show IsS44 w0 _ g s0_0 t358 from zi HI0) (zR HO355) (by decide)) hk (fun _ h=>h.2)) (fun _ h=>h.1));replace BK356:=kB hk NB356_0 BK356;replace HK:=sT hk;replace HB:=aZ (hb);replace HI0:=aZ (hi);clear hb hk hi;obtain ⟨hcz70_0,hfz70_0⟩:=zc BK356 0 (.string (strOfNums y353)) rfl;obtain ⟨hcz70_1,hfz70_1⟩:=zc BK356 1 (.string (⟨#[49]⟩:ByteArray)) rfl;have hnb71:=NB344_0.out;have hnc71:=NB0_344.out;obtain ⟨hcz72_0,hfz72_0⟩:=zc BK344 0 (.string ⟨#[]⟩) rfl;obtain ⟨hcz72_1,hfz72_1⟩:=zc BK344 1 (.string ⟨#[]⟩) rfl))
      refine bodyPost_ret (results_cell_row rfl _ _ gb344 61 #[.string (strOfNums y353),.string (⟨#[49]⟩:ByteArray)] (0,0) _ rfl (zp BK344) underlying61 rfl (by kernel_rfl)) rfl ?_
      exact ⟨ze,zi HI0,bw,kk⟩
     subst c49
     replace H:=zT H
     by_cases c50:1+(strOfNums y353).size≤9223372036854775807
     case neg=>
      rw [if_neg c50] at H
      cases H
     rw [if_pos c50] at H
     have c50b0:=eq_true c50
     have c50b1:=decide_eq_true c50
     try have c50b2:=eq_false (Nat.not_lt.2 c50)
     obtain ⟨rfl,rfl,rfl⟩:=zo3 H
     go_wp2_with (first|((with_reducible refine gate_builtin (b:=.append) (xs:=#[.tmp 14,.tmp 15]) rfl ?_);at_builtin;refine Kd.R_append (Kd.int .u8) w.heap.size rfl (.tmp 14) (.tmp 15) 45 5 (.int .u8 0) 1 rfl underlying45 info5 rfl (by decide) (by omega) u3 x3_1 49 [.int .u8 49] (fun _=>True) (fun _=>False) rfl rfl ?aP (fun _ hk=>hk.elim) ?aF ?aO (Below.refl _ _) ?aS ?aL ?_;(case aP=>exact rfl);(case aF=>exact (fun _ _=>trivial));(case aO=>exact (zR HO_3));(case aS=>exact ks);(case aL=>have:=LMc10.out;omega);intro v354 w51 ho hb hg hat;rw [← Ny353.out] at ho;replace BK344:=aZ (blk_grown (g:=gb344) (o:=.cells #[.string ⟨#[]⟩,.string ⟨#[]⟩] 61 (0,0)) (zb BK344) hg (Kd.R_ne HO_3.out BK344.out (by decide)));replace HI0:=aZ (IsS44.grown (zi HI0) hg (IsS44.own_ne HI0.out HO_3.out (by decide)));replace HB:=aZ (below_weaken bw HL.out hb);replace HK:=aZ (KeepBut.trans kk (KeepBut.of_grown hg g) (Kd.R_base2 HO_3.out));have HO355:=aZ (ho);clear HO_3;clear ho hb hg hat;have hcv52:=own_string (P:=Tryz.prog) underlying45 underlying5 underlying9 (Kd.own_of_R HO355.out))|(refine box_ev 4 #[.string ⟨#[]⟩,.string ⟨#[]⟩] 61 ?_;intro gb356 hg w53 hbox hb;replace HO355:=yR HO355 hb;replace HB:=sB hb;have BK356:=aZ hbox;have GW356:=sE hg;have GE356:=zW HW0 hg;replace HK:=sU hb;obtain ⟨NB344_356,NB356_344,BK344⟩:=sX hg hb BK344;have NB0_356:=aZ ((by rw [hg];exact Nat.ne_of_lt (IsS44.lt (show IsS44 w0 _ g s0_0 t349 from zi HI0)):g≠gb356));have NB356_0:=aZ ((by rw [hg];exact Nat.ne_of_gt (IsS44.lt (show IsS44 w0 _ g s0_0 t349 from zi HI0)):gb356≠g));replace HI0:=aZ (IsS44.below (zi HI0) hb);clear hb hbox hg;have hnb54:=NB356_344.out;have hnc54:=NB344_356.out;have hnb55:=NB356_0.out;have hnc55:=NB0_356.out;obtain ⟨hcz56_0,hfz56_0⟩:=zc BK356 0 (.string ⟨#[]⟩) rfl;obtain ⟨hcz56_1,hfz56_1⟩:=zc BK356 1 (.string ⟨#[]⟩) rfl)|(refine zg (some 21) func78 #[.pointer (some ⟨g,0,none⟩),.int .i64 2] ?_;(with_reducible refine (Yk.calls g s0_0 t349 2 false t358 w0 _ (zi HI0) bw A11.out).mono ?_);rintro e w57 ⟨rfl,hi,hb,hk⟩;refine ⟨_,rfl,?_⟩;replace BK344:=aZ (KeepBut.blk hk (g':=gb344) (o:=.cells #[.string ⟨#[]⟩,.string ⟨#[]⟩] 61 (0,0)) (zq BK344) NB344_0.out (by simp));replace HO355:=aZ (Kd.R_mono (Kd.R_keep (IsS44.apart (show IsS44 w0 _ g s0_0 t349 from zi HI0) (by (with_reducible repeat (first|apply Kd.R_alloc|apply Kd.R_drewN|apply Kd.R_drew));exact (Kd.R_mono (Kd.R_far (p:=⟨gb356,1,none⟩) (Kd.R_far (p:=⟨gb356,0,none⟩) (Kd.R_types HO355.out BK356.out (by decide)) (fun _ hk=>hk.2) (.string (strOfNums y353))) (fun _ hk=>hk.2) (.string (⟨#[49]⟩:ByteArray))) (fun _ h_=>h_.1))) (by decide)) hk (fun _ h=>h.2)) (fun _ h=>h.1));replace BK356:=aZ (KeepBut.blk hk (g':=gb356) (o:=.cells #[.string (strOfNums y353),.string (⟨#[49]⟩:ByteArray)] 61 (0,0)) (zp BK356) NB356_0.out (by simp));replace HK:=sT hk;replace HB:=aZ (hb);replace HI0:=aZ (hi);clear hb hk hi)|(refine zg (some 28) func78 #[.pointer (some ⟨g,0,none⟩),.int .i64 2] ?_;(with_reducible refine (Yk.calls g s0_0 t358 2 true t365 w0 _ (zi HI0) bw A48.out).mono ?_);rintro e w58 ⟨rfl,hi,hb,hk⟩;refine ⟨_,rfl,?_⟩;replace BK344:=kB hk NB344_0 BK344;replace HO355:=aZ (Kd.R_mono (Kd.R_keep (IsS44.apart (show IsS44 w0 _ g s0_0 t358 from zi HI0) (zR HO355) (by decide)) hk (fun _ h=>h.2)) (fun _ h=>h.1));replace BK356:=kB hk NB356_0 BK356;replace HK:=sT hk;replace HB:=aZ (hb);replace HI0:=aZ (hi);clear hb hk hi;obtain ⟨hcz59_0,hfz59_0⟩:=zc BK356 0 (.string (strOfNums y353)) rfl;obtain ⟨hcz59_1,hfz59_1⟩:=zc BK356 1 (.string (⟨#[49]⟩:ByteArray)) rfl;have hnb60:=NB344_0.out;have hnc60:=NB0_344.out;obtain ⟨hcz61_0,hfz61_0⟩:=zc BK344 0 (.string ⟨#[]⟩) rfl;obtain ⟨hcz61_1,hfz61_1⟩:=zc BK344 1 (.string ⟨#[]⟩) rfl))
     refine bodyPost_ret (results_cell_row rfl _ _ gb344 61 #[.string ((⟨#[45]⟩:ByteArray)++(strOfNums y353)),.string (⟨#[49]⟩:ByteArray)] (0,0) _ rfl (zq BK344) underlying61 rfl (by kernel_rfl)) rfl ?_
     exact ⟨ze,zi HI0,bw,kk⟩
    subst c12
    replace H:=zT H
    obtain ⟨⟨t359,t360⟩,A13,H⟩:=zB H
    (try dsimp only at H)
    by_cases c14:0≤t359
    case neg=>
     rw [if_neg c14] at H
     cases H
    rw [if_pos c14] at H
    have c14b0:=eq_true c14
    have c14b1:=decide_eq_true c14
    clear c14
    obtain ⟨ji15,hji15⟩:∃ j_:Int,(shl .i64 1 t359)=j_:=⟨_,rfl⟩
    (first|rw [hji15] at H|simp only [hji15] at H)
    (try rw [hji15] at A11)
    (try rw [hji15] at A13)
    have hji15_:(IntKind.i64.wrap (1*2^min t359.toNat 64))=ji15:=hji15
    have hji15z:t359≤64→(IntKind.i64.wrap (1*2^t359.toNat))=ji15:=shl_small hji15
    have hji15u:(IntKind.i64.wrap (2^min t359.toNat 64))=ji15:=by have h_:=hji15_;rw [Int.one_mul] at h_;exact h_
    have hji15v:t359≤64→(IntKind.i64.wrap (2^t359.toNat))=ji15:=fun hle_=>by have h_:=hji15z hle_;rw [Int.one_mul] at h_;exact h_
    have hji15yu:(wrap64 (2^min t359.toNat 64))=ji15:=(i64_w _).symm.trans hji15u
    have hji15xu:t359≤64→(wrap64 (2^t359.toNat))=ji15:=fun h_=>(i64_w _).symm.trans (hji15v h_)
    have hji15y:(wrap64 (1*2^min t359.toNat 64))=ji15:=(i64_w _).symm.trans hji15_
    have hji15x:t359≤64→(wrap64 (1*2^t359.toNat))=ji15:=fun h_=>(i64_w _).symm.trans (hji15z h_)
    obtain ⟨t361,A16,H⟩:=zB H
    obtain ⟨⟨t362,t363⟩,A17,H⟩:=zB H
    (try dsimp only at H)
    by_cases c18:t362=true
    case neg=>
     replace c18:=Bool.eq_false_iff.mpr c18
     subst c18
     replace H:=zU H
     obtain ⟨rfl,rfl,rfl⟩:=zo3 H
     go_wp2_with (first|((with_reducible refine gate_builtin (b:=.append) (xs:=#[.tmp 14,.tmp 15]) rfl ?_);at_builtin;refine Kd.R_append (Kd.int .u8) w.heap.size rfl (.tmp 14) (.tmp 15) 45 5 (.int .u8 0) 1 rfl underlying45 info5 rfl (by decide) (by omega) u3 x3_1 49 [.int .u8 49] (fun _=>True) (fun _=>False) rfl rfl ?aP (fun _ hk=>hk.elim) ?aF ?aO (Below.refl _ _) ?aS ?aL ?_;(case aP=>exact rfl);(case aF=>exact (fun _ _=>trivial));(case aO=>exact (zR HO_3));(case aS=>exact ks);(case aL=>have:=LMc10.out;omega);intro v354 w34 ho hb hg hat;rw [← Ny353.out] at ho;replace BK344:=aZ (blk_grown (g:=gb344) (o:=.cells #[.string ⟨#[]⟩,.string ⟨#[]⟩] 61 (0,0)) (zb BK344) hg (Kd.R_ne HO_3.out BK344.out (by decide)));replace HI0:=aZ (IsS44.grown (zi HI0) hg (IsS44.own_ne HI0.out HO_3.out (by decide)));replace HB:=aZ (below_weaken bw HL.out hb);replace HK:=aZ (KeepBut.trans kk (KeepBut.of_grown hg g) (Kd.R_base2 HO_3.out));have HO355:=aZ (ho);clear HO_3;clear ho hb hg hat;have hcv35:=own_string (P:=Tryz.prog) underlying45 underlying5 underlying9 (Kd.own_of_R HO355.out))|(refine box_ev 4 #[.string ⟨#[]⟩,.string ⟨#[]⟩] 61 ?_;intro gb356 hg w36 hbox hb;replace HO355:=yR HO355 hb;replace HB:=sB hb;have BK356:=aZ hbox;have GW356:=sE hg;have GE356:=zW HW0 hg;replace HK:=sU hb;obtain ⟨NB344_356,NB356_344,BK344⟩:=sX hg hb BK344;have NB0_356:=aZ ((by rw [hg];exact Nat.ne_of_lt (IsS44.lt (show IsS44 w0 _ g s0_0 t349 from zi HI0)):g≠gb356));have NB356_0:=aZ ((by rw [hg];exact Nat.ne_of_gt (IsS44.lt (show IsS44 w0 _ g s0_0 t349 from zi HI0)):gb356≠g));replace HI0:=aZ (IsS44.below (zi HI0) hb);clear hb hbox hg;have hnb37:=NB356_344.out;have hnc37:=NB344_356.out;have hnb38:=NB356_0.out;have hnc38:=NB0_356.out;obtain ⟨hcz39_0,hfz39_0⟩:=zc BK356 0 (.string ⟨#[]⟩) rfl;obtain ⟨hcz39_1,hfz39_1⟩:=zc BK356 1 (.string ⟨#[]⟩) rfl)|(refine zg (some 21) func78 #[.pointer (some ⟨g,0,none⟩),.int .i64 2] ?_;(with_reducible refine (Yk.calls g s0_0 t349 2 true t358 w0 _ (zi HI0) bw A11.out).mono ?_);rintro e w40 ⟨rfl,hi,hb,hk⟩;refine ⟨_,rfl,?_⟩;replace BK344:=aZ (KeepBut.blk hk (g':=gb344) (o:=.cells #[.string ⟨#[]⟩,.string ⟨#[]⟩] 61 (0,0)) (zq BK344) NB344_0.out (by simp));replace HO355:=aZ (Kd.R_mono (Kd.R_keep (IsS44.apart (show IsS44 w0 _ g s0_0 t349 from zi HI0) (by (with_reducible repeat (first|apply Kd.R_alloc|apply Kd.R_drewN|apply Kd.R_drew));exact (Kd.R_mono (Kd.R_far (p:=⟨gb356,1,none⟩) (Kd.R_far (p:=⟨gb356,0,none⟩) (Kd.R_types HO355.out BK356.out (by decide)) (fun _ hk=>hk.2) (.string (strOfNums y353))) (fun _ hk=>hk.2) (.string (⟨#[49]⟩:ByteArray))) (fun _ h_=>h_.1))) (by decide)) hk (fun _ h=>h.2)) (fun _ h=>h.1));replace BK356:=aZ (KeepBut.blk hk (g':=gb356) (o:=.cells #[.string (strOfNums y353),.string (⟨#[49]⟩:ByteArray)] 61 (0,0)) (zp BK356) NB356_0.out (by simp));replace HK:=sT hk;replace HB:=aZ (hb);replace HI0:=aZ (hi);clear hb hk hi)|(refine zg (some 23) func37 #[.pointer (some ⟨g,0,none⟩),.int .i64 0,.int .i64 20] ?_;(with_reducible refine (Yd.calls g s0_0 t358 0 20 t359 t360 w0 _ (zi HI0) bw A13.out).mono ?_);rintro e w41 ⟨rfl,hi,hb,hk⟩;refine ⟨_,rfl,?_⟩;replace BK344:=kB hk NB344_0 BK344;replace HO355:=aZ (Kd.R_mono (Kd.R_keep (IsS44.apart (show IsS44 w0 _ g s0_0 t358 from zi HI0) (zR HO355) (by decide)) hk (fun _ h=>h.2)) (fun _ h=>h.1));replace BK356:=kB hk NB356_0 BK356;replace HK:=sT hk;replace HB:=aZ (hb);replace HI0:=aZ (hi);clear hb hk hi)|((with_reducible refine gate_callee (f:=138) rfl ?_);refine goesL_ (some 25) rfl rfl func138 (by kernel_rfl) rfl #[.int .i64 ji15] rfl (by (try simp only [List.map_toArray,List.map_cons,List.map_nil]);first|done|(simp only [hji15];rfl)|rfl|(simp only [List.length_drop,List.length_take];rfl)) ?_;(with_reducible refine (YN.calls ji15 t361 _ (Tryz.Gl.below HG.out bw) A16.out).mono ?_);rintro e w42 ⟨rfl,hb⟩;refine ⟨_,rfl,?_⟩;replace HO355:=yR HO355 hb;replace BK344:=sK BK344 hb;replace HI0:=aZ (IsS44.below (zi HI0) hb);replace BK356:=sK BK356 hb;replace HK:=sU hb;replace HB:=sB hb;clear hb;obtain ⟨hcz43_0,hfz43_0⟩:=zc BK356 0 (.string (strOfNums y353)) rfl;obtain ⟨hcz43_1,hfz43_1⟩:=zc BK356 1 (.string (⟨#[49]⟩:ByteArray)) rfl)|(refine zg (some 28) func78 #[.pointer (some ⟨g,0,none⟩),.int .i64 2] ?_;(with_reducible refine (Yk.calls g s0_0 t360 2 false t363 w0 _ (zi HI0) bw A17.out).mono ?_);rintro e w44 ⟨rfl,hi,hb,hk⟩;refine ⟨_,rfl,?_⟩;replace BK344:=aZ (KeepBut.blk hk (g':=gb344) (o:=.cells #[.string ⟨#[]⟩,.string ⟨#[]⟩] 61 (0,0)) (zq BK344) NB344_0.out (by simp));replace HO355:=aZ (Kd.R_mono (Kd.R_keep (IsS44.apart (show IsS44 w0 _ g s0_0 t360 from zi HI0) (by (with_reducible repeat (first|apply Kd.R_alloc|apply Kd.R_drewN|apply Kd.R_drew));exact (Kd.R_mono (Kd.R_far (p:=⟨gb356,1,none⟩) (Kd.R_types HO355.out BK356.out (by decide)) (fun _ hk=>hk.2) (.string t361)) (fun _ h_=>h_.1))) (by decide)) hk (fun _ h=>h.2)) (fun _ h=>h.1));replace BK356:=aZ (KeepBut.blk hk (g':=gb356) (o:=.cells #[.string (strOfNums y353),.string t361] 61 (0,0)) (zp BK356) NB356_0.out (by simp));replace HK:=sT hk;replace HB:=aZ (hb);replace HI0:=aZ (hi);clear hb hk hi;obtain ⟨hcz45_0,hfz45_0⟩:=zc BK356 0 (.string (strOfNums y353)) rfl;obtain ⟨hcz45_1,hfz45_1⟩:=zc BK356 1 (.string t361) rfl;have hnb46:=NB344_0.out;have hnc46:=NB0_344.out;obtain ⟨hcz47_0,hfz47_0⟩:=zc BK344 0 (.string ⟨#[]⟩) rfl;obtain ⟨hcz47_1,hfz47_1⟩:=zc BK344 1 (.string ⟨#[]⟩) rfl))
     refine bodyPost_ret (results_cell_row rfl _ _ gb344 61 #[.string (strOfNums y353),.string t361] (0,0) _ rfl (zp BK344) underlying61 rfl (by kernel_rfl)) rfl ?_
     exact ⟨by first|rfl|(simp [errW_none,errW_some] <;> rfl)|(simp only [← hji15];first|rfl|(simp [errW_none,errW_some] <;> rfl))|(simp [*,errW_none,errW_some] <;> rfl),zi HI0,bw,kk⟩
    subst c18
    replace H:=zT H
    by_cases c19:1+(strOfNums y353).size≤9223372036854775807
    case neg=>
     rw [if_neg c19] at H
     cases H
    rw [if_pos c19] at H
    have c19b0:=eq_true c19
    have c19b1:=decide_eq_true c19
    try have c19b2:=eq_false (Nat.not_lt.2 c19)
    obtain ⟨rfl,rfl,rfl⟩:=zo3 H
    go_wp2_with (first|((with_reducible refine gate_builtin (b:=.append) (xs:=#[.tmp 14,.tmp 15]) rfl ?_);at_builtin;refine Kd.R_append (Kd.int .u8) w.heap.size rfl (.tmp 14) (.tmp 15) 45 5 (.int .u8 0) 1 rfl underlying45 info5 rfl (by decide) (by omega) u3 x3_1 49 [.int .u8 49] (fun _=>True) (fun _=>False) rfl rfl ?aP (fun _ hk=>hk.elim) ?aF ?aO (Below.refl _ _) ?aS ?aL ?_;(case aP=>exact rfl);(case aF=>exact (fun _ _=>trivial));(case aO=>exact (zR HO_3));(case aS=>exact ks);(case aL=>have:=LMc10.out;omega);intro v354 w20 ho hb hg hat;rw [← Ny353.out] at ho;replace BK344:=aZ (blk_grown (g:=gb344) (o:=.cells #[.string ⟨#[]⟩,.string ⟨#[]⟩] 61 (0,0)) (zb BK344) hg (Kd.R_ne HO_3.out BK344.out (by decide)));replace HI0:=aZ (IsS44.grown (zi HI0) hg (IsS44.own_ne HI0.out HO_3.out (by decide)));replace HB:=aZ (below_weaken bw HL.out hb);replace HK:=aZ (KeepBut.trans kk (KeepBut.of_grown hg g) (Kd.R_base2 HO_3.out));have HO355:=aZ (ho);clear HO_3;clear ho hb hg hat;have hcv21:=own_string (P:=Tryz.prog) underlying45 underlying5 underlying9 (Kd.own_of_R HO355.out))|(refine box_ev 4 #[.string ⟨#[]⟩,.string ⟨#[]⟩] 61 ?_;intro gb356 hg w22 hbox hb;replace HO355:=yR HO355 hb;replace HB:=sB hb;have BK356:=aZ hbox;have GW356:=sE hg;have GE356:=zW HW0 hg;replace HK:=sU hb;obtain ⟨NB344_356,NB356_344,BK344⟩:=sX hg hb BK344;have NB0_356:=aZ ((by rw [hg];exact Nat.ne_of_lt (IsS44.lt (show IsS44 w0 _ g s0_0 t349 from zi HI0)):g≠gb356));have NB356_0:=aZ ((by rw [hg];exact Nat.ne_of_gt (IsS44.lt (show IsS44 w0 _ g s0_0 t349 from zi HI0)):gb356≠g));replace HI0:=aZ (IsS44.below (zi HI0) hb);clear hb hbox hg;have hnb23:=NB356_344.out;have hnc23:=NB344_356.out;have hnb24:=NB356_0.out;have hnc24:=NB0_356.out;obtain ⟨hcz25_0,hfz25_0⟩:=zc BK356 0 (.string ⟨#[]⟩) rfl;obtain ⟨hcz25_1,hfz25_1⟩:=zc BK356 1 (.string ⟨#[]⟩) rfl)|(refine zg (some 21) func78 #[.pointer (some ⟨g,0,none⟩),.int .i64 2] ?_;(with_reducible refine (Yk.calls g s0_0 t349 2 true t358 w0 _ (zi HI0) bw A11.out).mono ?_);rintro e w26 ⟨rfl,hi,hb,hk⟩;refine ⟨_,rfl,?_⟩;replace BK344:=aZ (KeepBut.blk hk (g':=gb344) (o:=.cells #[.string ⟨#[]⟩,.string ⟨#[]⟩] 61 (0,0)) (zq BK344) NB344_0.out (by simp));replace HO355:=aZ (Kd.R_mono (Kd.R_keep (IsS44.apart (show IsS44 w0 _ g s0_0 t349 from zi HI0) (by (with_reducible repeat (first|apply Kd.R_alloc|apply Kd.R_drewN|apply Kd.R_drew));exact (Kd.R_mono (Kd.R_far (p:=⟨gb356,1,none⟩) (Kd.R_far (p:=⟨gb356,0,none⟩) (Kd.R_types HO355.out BK356.out (by decide)) (fun _ hk=>hk.2) (.string (strOfNums y353))) (fun _ hk=>hk.2) (.string (⟨#[49]⟩:ByteArray))) (fun _ h_=>h_.1))) (by decide)) hk (fun _ h=>h.2)) (fun _ h=>h.1));replace BK356:=aZ (KeepBut.blk hk (g':=gb356) (o:=.cells #[.string (strOfNums y353),.string (⟨#[49]⟩:ByteArray)] 61 (0,0)) (zp BK356) NB356_0.out (by simp));replace HK:=sT hk;replace HB:=aZ (hb);replace HI0:=aZ (hi);clear hb hk hi)|(refine zg (some 23) func37 #[.pointer (some ⟨g,0,none⟩),.int .i64 0,.int .i64 20] ?_;(with_reducible refine (Yd.calls g s0_0 t358 0 20 t359 t360 w0 _ (zi HI0) bw A13.out).mono ?_);rintro e w27 ⟨rfl,hi,hb,hk⟩;refine ⟨_,rfl,?_⟩;replace BK344:=kB hk NB344_0 BK344;replace HO355:=aZ (Kd.R_mono (Kd.R_keep (IsS44.apart (show IsS44 w0 _ g s0_0 t358 from zi HI0) (zR HO355) (by decide)) hk (fun _ h=>h.2)) (fun _ h=>h.1));replace BK356:=kB hk NB356_0 BK356;replace HK:=sT hk;replace HB:=aZ (hb);replace HI0:=aZ (hi);clear hb hk hi)|((with_reducible refine gate_callee (f:=138) rfl ?_);refine goesL_ (some 25) rfl rfl func138 (by kernel_rfl) rfl #[.int .i64 ji15] rfl (by (try simp only [List.map_toArray,List.map_cons,List.map_nil]);first|done|(simp only [hji15];rfl)|rfl|(simp only [List.length_drop,List.length_take];rfl)) ?_;(with_reducible refine (YN.calls ji15 t361 _ (Tryz.Gl.below HG.out bw) A16.out).mono ?_);rintro e w28 ⟨rfl,hb⟩;refine ⟨_,rfl,?_⟩;replace HO355:=yR HO355 hb;replace BK344:=sK BK344 hb;replace HI0:=aZ (IsS44.below (zi HI0) hb);replace BK356:=sK BK356 hb;replace HK:=sU hb;replace HB:=sB hb;clear hb;obtain ⟨hcz29_0,hfz29_0⟩:=zc BK356 0 (.string (strOfNums y353)) rfl;obtain ⟨hcz29_1,hfz29_1⟩:=zc BK356 1 (.string (⟨#[49]⟩:ByteArray)) rfl)|(refine zg (some 28) func78 #[.pointer (some ⟨g,0,none⟩),.int .i64 2] ?_;(with_reducible refine (Yk.calls g s0_0 t360 2 true t363 w0 _ (zi HI0) bw A17.out).mono ?_);rintro e w30 ⟨rfl,hi,hb,hk⟩;refine ⟨_,rfl,?_⟩;replace BK344:=aZ (KeepBut.blk hk (g':=gb344) (o:=.cells #[.string ⟨#[]⟩,.string ⟨#[]⟩] 61 (0,0)) (zq BK344) NB344_0.out (by simp));replace HO355:=aZ (Kd.R_mono (Kd.R_keep (IsS44.apart (show IsS44 w0 _ g s0_0 t360 from zi HI0) (by (with_reducible repeat (first|apply Kd.R_alloc|apply Kd.R_drewN|apply Kd.R_drew));exact (Kd.R_mono (Kd.R_far (p:=⟨gb356,1,none⟩) (Kd.R_types HO355.out BK356.out (by decide)) (fun _ hk=>hk.2) (.string t361)) (fun _ h_=>h_.1))) (by decide)) hk (fun _ h=>h.2)) (fun _ h=>h.1));replace BK356:=aZ (KeepBut.blk hk (g':=gb356) (o:=.cells #[.string (strOfNums y353),.string t361] 61 (0,0)) (zp BK356) NB356_0.out (by simp));replace HK:=sT hk;replace HB:=aZ (hb);replace HI0:=aZ (hi);clear hb hk hi;obtain ⟨hcz31_0,hfz31_0⟩:=zc BK356 0 (.string (strOfNums y353)) rfl;obtain ⟨hcz31_1,hfz31_1⟩:=zc BK356 1 (.string t361) rfl;have hnb32:=NB344_0.out;have hnc32:=NB0_344.out;obtain ⟨hcz33_0,hfz33_0⟩:=zc BK344 0 (.string ⟨#[]⟩) rfl;obtain ⟨hcz33_1,hfz33_1⟩:=zc BK344 1 (.string ⟨#[]⟩) rfl))
    refine bodyPost_ret (results_cell_row rfl _ _ gb344 61 #[.string ((⟨#[45]⟩:ByteArray)++(strOfNums y353)),.string t361] (0,0) _ rfl (zq BK344) underlying61 rfl (by kernel_rfl)) rfl ?_
    exact ⟨by first|rfl|(simp [errW_none,errW_some] <;> rfl)|(simp only [← hji15];first|rfl|(simp [errW_none,errW_some] <;> rfl))|(simp [*,errW_none,errW_some] <;> rfl),zi HI0,bw,kk⟩
   rw [if_pos c7] at H
   have c7b0:=decide_eq_true c7
   clear c7
   by_cases c8:x3_1.length<140737488355328
   case neg=>
    rw [if_neg c8] at H
    cases H
   rw [if_pos c8] at H
   have LMc8:=aZ c8
   clear c8
   obtain ⟨y350,hy350⟩:∃ y_:List Int,y_=(x3_1++[48]):=⟨_,rfl⟩
   replace H:(Yg.l0 k1 y350 t348 (wrap64 (x8_1+1)) s0_0 t349)=some (r1,r2,r3):=zy hy350 H
   have Ny350:=aZ hy350
   clear hy350
   have H':=aZ H
   clear H
   go_wp2_with (first|((with_reducible refine gate_builtin (b:=.append) (xs:=#[.tmp 10,.tmp 11]) rfl ?_);at_builtin;refine Kd.R_append (Kd.int .u8) w.heap.size rfl (.tmp 10) (.tmp 11) 45 5 (.int .u8 0) 1 rfl underlying45 info5 rfl (by decide) (by omega) u3 x3_1 48 [.int .u8 48] (fun _=>True) (fun _=>False) rfl rfl ?aP (fun _ hk=>hk.elim) ?aF ?aO (Below.refl _ _) ?aS ?aL ?_;(case aP=>exact rfl);(case aF=>exact (fun _ _=>trivial));(case aO=>exact (zR HO_3));(case aS=>exact ks);(case aL=>have:=LMc8.out;omega);intro v351 w9 ho hb hg hat;rw [← Ny350.out] at ho;replace BK344:=aZ (blk_grown (g:=gb344) (o:=.cells #[.string ⟨#[]⟩,.string ⟨#[]⟩] 61 (0,0)) (zb BK344) hg (Kd.R_ne HO_3.out BK344.out (by decide)));replace HI0:=aZ (IsS44.grown (zi HI0) hg (IsS44.own_ne HI0.out HO_3.out (by decide)));replace HB:=aZ (below_weaken bw HL.out hb);replace HK:=aZ (KeepBut.trans kk (KeepBut.of_grown hg g) (Kd.R_base2 HO_3.out));have HO352:=aZ (ho);clear HO_3;clear ho hb hg hat))
   go_roundg k1
   case measure=>have:=HK1.out;omega
   case rel=>exact ⟨(y350),(wrap64 (x8_1+1)),zs,H',⟨by have:=HK1.out;omega⟩,⟨zR HO352⟩,⟨zb BK344⟩,⟨zi HI0⟩,⟨kk⟩,⟨bw⟩⟩
def Yc.l0:Nat→Int→Int→Int→Int→Option (ByteArray×ByteArray)
 | 0,_,_,_,_=>none
 | k+1,x0,x1,x5,x6=>if x6=0 then (if x5=0 then (none) else ((YN.f (wrap64 (Int.tdiv x0 x5))).bind fun t367=>((YN.f (wrap64 (Int.tdiv x1 x5))).bind fun t368=>(some (t367,t368))))) else (Yc.l0 k x0 x1 x6 (Int.tmod x5 x6))
def Yc.f (k:Nat) (a0:Int) (a1:Int):Option (ByteArray×ByteArray):=Yc.l0 k a0 a1 (mx a0 (wrap64 (-a0))) a1
def Yc.T4:Bool×List (List Nat×List Nat):=(true,[([],[]),([],[]),([0,1],[0,1]),([2],[2]),([],[]),([],[]),([4,5],[4,5]),([6,3],[6]),([3,7],[3,7]),([8,7,0,1,2,3,4,5,6,7,8],[8])])
def Yc.B4:List Nat:=[0,0,3,7,0,0,48,127,255,511]
theorem Yc.tab4:rtab .any (opsOf Tryz.f125 4)=Yc.T4:=by kernel_rfl
theorem Yc.bits4:waitsOk Yc.T4.2 Yc.B4=true:=by kernel_rfl
theorem Yc.calls (k:Nat) (a0:Int) (a1:Int) (r1:ByteArray) (r2:ByteArray) (w:World) (hG:Tryz.Gl w) (h:Yc.f k a0 a1=some (r1,r2)) :
  Calls Tryz.prog 125 #[.int .i64 a0,.int .i64 a1] w fun e w'=>e = .returned (.agg #[.string r1,.string r2])∧Below w.heap.size w w':=by
 have hu61:=underlying61
 have HG:=aZ hG
 clear hG
 have HB:=aZ (Below.refl w.heap.size w)
 have H:=h
 unfold Yc.f at H
 clear h
 obtain ⟨ji3,hji3⟩:∃ j_:Int,(mx a0 (wrap64 (-a0)))=j_:=⟨_,rfl⟩
 (first|rw [hji3] at H|simp only [hji3] at H)
 have hji3_:(if a0<(wrap64 (-a0)) then (wrap64 (-a0)) else a0)=ji3:=hji3
 have H':=aZ H
 clear H
 go_enter func125,ntmps125
 go_wp2_with (first|(refine box_ev 4 #[.string ⟨#[]⟩,.string ⟨#[]⟩] 61 ?_;intro gb366 hg w4 hbox hb;have BK366:=aZ hbox;have GE366:=sG hg;replace HB:=sB hb;clear hb hbox hg))
 go_loopg [5,6] k (fun kq v5 v6 w'=>∃ (x5_1:Int) (x6_1:Int),v5 = .int .i64 x5_1∧v6 = .int .i64 x6_1∧Aside0 (Yc.l0 kq a0 a1 x5_1 x6_1=some (r1,r2))∧Aside0 (kq≤k)∧Aside0 (w'.heap[gb366]? = some (.cells #[.string ⟨#[]⟩,.string ⟨#[]⟩] 61 (0,0)))∧Aside0 (Below w.heap.size w w'))
 case atStart=>exact ⟨(ji3),(a1),(by first|rfl|(simp;done)|(simp only [← hji3] <;> (first|rfl|simp))|(simp [*];done)),zs,H',⟨Nat.le_refl _⟩,⟨zb BK366⟩,⟨bw⟩⟩
 case round =>
  clear H'
  try clear c1
  obtain ⟨x5_1,x6_1,rfl,rfl,HA,HK1,BK366,HB⟩:=hrel
  cases gk with
  | zero=>exact absurd HA.out (by simp [Yc.l0])
  | succ k1 =>
   have H:=HA.out
   clear HA
   simp only [Yc.l0] at H
   by_cases c5:x6_1=0
   case neg=>
    rw [if_neg c5] at H
    obtain ⟨c5b0,c5b1⟩:=zX c5
    have H':=aZ H
    clear H
    try go_wp2
    replace BK366:=aZ (blk_drew BK366.out)
    replace HB:=aZ (below_drew1 HB.out)
    refine start_ (n:=6) (S:=fun w'=>True) (ds:=[]) #[false,false,false,false,false,false] (by kernel_rfl) rfl rfl trivial (fun hHeld=>?_)
    generalize wr.drew=w14 at BK366 HB hHeld ⊢
    refine pv 0 (some 14) ?_
    refine pv 1 (some 15) ?_
    refine pv 2 (some 16) ?_
    refine pv 3 (some 17) ?_
    refine pv 4 (some 5) ?_
    refine pv 5 (some 6) ?_
    refine done_ (by kernel_rfl) ?_
    try go_wp2
    go_roundg k1
    case measure=>have:=HK1.out;omega
    case rel=>exact ⟨(x6_1),(Int.tmod x5_1 x6_1),zs,zs,H',⟨by have:=HK1.out;omega⟩,⟨zb BK366⟩,⟨bw⟩⟩
   rw [if_pos c5] at H
   obtain ⟨c5b0,c5b1⟩:=zY c5
   clear c5
   by_cases c6:x5_1=0
   case neg=>
    rw [if_neg c6] at H
    obtain ⟨c6b0,c6b1⟩:=zX c6
    obtain ⟨t367,A7,H⟩:=zB H
    obtain ⟨t368,A8,H⟩:=zB H
    obtain ⟨rfl,rfl⟩:=zo2 H
    try go_wp2
    replace BK366:=aZ (blk_drew BK366.out)
    replace HB:=aZ (below_drew1 HB.out)
    refine start_ (n:=10) (S:=fun w'=>True) (ds:=[]) #[false,false,false,false,false,false,false,false,false,false] (by kernel_rfl) rfl rfl trivial (fun hHeld=>?_);refine with_tabW Yc.tab4 Yc.bits4 (fun HT_ HW_=>?_)
    generalize wr.drew=w9 at BK366 HB hHeld ⊢
    refine pu 0 (some 18) HT_ ?_
    refine pu 1 (some 19) HT_ ?_
    refine pu 2 (some 20) HT_ ?_
    refine pu 4 (some 22) HT_ ?_
    refine pu 5 (some 23) HT_ ?_
    refine pu 6 (some 24) HT_ ?_
    refine one_ (i:=3) (N:=some 21) #[true,true,true,true,true,true,true,false,false,false] rfl rfl (one_of HT_.out (by kernel_rfl)) (by decide) (fun K hK=>?_)
    refine goes_ func138 (by kernel_rfl) rfl #[.int .i64 (wrap64 (Int.tdiv a0 x5_1))] (by rfl) rfl rfl zm ?_
    with_reducible refine (YN.calls (wrap64 (Int.tdiv a0 x5_1)) t367 _ (Tryz.Gl.below HG.out bw) A7.out).mono ?_
    rintro e w10 ⟨rfl,hb⟩
    refine ⟨_,rfl,?_⟩
    replace BK366:=sK BK366 hb
    replace HB:=sB hb
    clear hb
    refine hK.out _ _ trivial (fun hHeld=>?_)
    clear hK K
    refine nm ?_
    refine one_ (i:=7) (N:=some 25) #[true,true,true,true,true,true,true,true,false,false] rfl rfl (one_of HT_.out (by kernel_rfl)) (by decide) (fun K hK=>?_)
    refine goes_ func138 (by kernel_rfl) rfl #[.int .i64 (wrap64 (Int.tdiv a1 x5_1))] (by rfl) rfl rfl zm ?_
    with_reducible refine (YN.calls (wrap64 (Int.tdiv a1 x5_1)) t368 _ (Tryz.Gl.below HG.out bw) A8.out).mono ?_
    rintro e w11 ⟨rfl,hb⟩
    refine ⟨_,rfl,?_⟩
    replace BK366:=sK BK366 hb
    replace HB:=sB hb
    clear hb
    refine hK.out _ _ trivial (fun hHeld=>?_)
    clear hK K
    refine nm ?_
    refine pu 8 (some 26) HT_ ?_
    refine one_ (i:=9) (N:=none) #[true,true,true,true,true,true,true,true,true,true] rfl rfl (one_of HT_.out (by kernel_rfl)) (by decide) (fun K hK=>?_)
    have hs12:w11.cell? ⟨gb366,0,none⟩=some (.string (⟨#[]⟩:ByteArray)):=(blk_cell BK366.out 0).trans rfl
    have hfs12:=blk_frozen BK366.out 0
    have hs13:w11.cell? ⟨gb366,1,none⟩=some (.string (⟨#[]⟩:ByteArray)):=(blk_cell BK366.out 1).trans rfl
    have hfs13:=blk_frozen BK366.out 1
    refine skip_ (w1:=?_) (by rfl) rfl ?_ ?_
    rotate_left
    ·go_simp
     rfl
    refine hK.out _ _ trivial (fun hHeld=>?_)
    clear hK K
    refine done_ (done_of HT_.out (by kernel_rfl)) ?_
    try go_wp2
    refine bodyPost_ret (results_cell_row rfl _ _ gb366 61 #[.string t367,.string t368] (0,0) _ rfl (zp BK366) underlying61 rfl (by kernel_rfl)) rfl ?_
    exact ⟨by first|rfl|(simp [errW_none,errW_some] <;> rfl)|(simp only [← hji3];first|rfl|(simp [errW_none,errW_some] <;> rfl))|(simp [*,errW_none,errW_some] <;> rfl),bw⟩
   rw [if_pos c6] at H
   cases H
def Yy.f (k:Nat) (s0_0:List Int) (s0_1:Int):Option (ByteArray×ByteArray×Int):=(Yd.f s0_0 s0_1 (-20) 20).bind fun bt370=>((Y5.f s0_0 bt370.2 6).bind fun bt372=>(if bt372.1=0 then ((Yd.f s0_0 bt372.2 1 9).bind fun bt374=>((Yc.f k bt370.1 bt374.1).bind fun bt376=>(some (bt376.1,bt376.2,bt374.2)))) else (if bt372.1=1 then ((YX.f s0_0 bt372.2 (([2,4,8,3,7,1000]:List Int))).bind fun bt381=>((Yc.f k bt370.1 bt381.1).bind fun bt383=>(some (bt383.1,bt383.2,bt381.2)))) else (if bt372.1=2 then ((Y02.f s0_0 bt372.2).bind fun bt385=>((Yd.f s0_0 bt385.2 1 99).bind fun bt387=>((Yc.f k bt385.1 bt387.1).bind fun bt389=>(some (bt389.1,bt389.2,bt387.2))))) else (if bt372.1=3 then ((Yg.f k s0_0 bt372.2).bind fun bt391=>(some (bt391.1,bt391.2.1,bt391.2.2))) else ((Yc.f k bt370.1 1).bind fun bt394=>(some (bt394.1,bt394.2,bt372.2))))))))
theorem Yy.calls (k:Nat) (g:Nat) (s0_0:List Int) (s0_1:Int) (r1:ByteArray) (r2:ByteArray) (r3:Int) (w0 w:World) (hI:IsS44 w0 w g s0_0 s0_1) (hB:Below w0.heap.size w0 w) (hG:Tryz.Gl w0) (h:Yy.f k s0_0 s0_1=some (r1,r2,r3)) :
  Calls Tryz.prog 72 #[.pointer (some ⟨g,0,none⟩)] w fun e w'=>e = .returned (.agg #[.string r1,.string r2])∧IsS44 w0 w' g s0_0 r3∧Below w0.heap.size w0 w'∧KeepBut w w' g none:=by
 have hu61:=underlying61
 have HG:=aZ hG
 clear hG
 have HI0:=aZ hI
 have HK:=aZ (KeepBut.refl w g none)
 have HL:=aZ hB.size
 clear hI
 have HW0:=aZ hB.size
 have HB:=aZ hB
 clear hB
 have H:=h
 unfold Yy.f at H
 clear h
 obtain ⟨⟨t370,t371⟩,A2,H⟩:=zB H
 (try dsimp only at H)
 obtain ⟨⟨t372,t373⟩,A3,H⟩:=zB H
 (try dsimp only at H)
 by_cases c4:t372=0
 case neg=>
  rw [if_neg c4] at H
  obtain ⟨c4b0,c4b1⟩:=zX c4
  by_cases c14:t372=1
  case neg=>
   rw [if_neg c14] at H
   obtain ⟨c14b0,c14b1⟩:=zX c14
   by_cases c27:t372=2
   case neg=>
    rw [if_neg c27] at H
    obtain ⟨c27b0,c27b1⟩:=zX c27
    by_cases c39:t372=3
    case neg=>
     rw [if_neg c39] at H
     obtain ⟨c39b0,c39b1⟩:=zX c39
     obtain ⟨⟨t394,t395⟩,A47,H⟩:=zB H
     (try dsimp only at H)
     obtain ⟨rfl,rfl,rfl⟩:=zo3 H
     go_enter func72,ntmps72
     go_wp2_with (first|(refine box_ev 2 #[.string ⟨#[]⟩,.string ⟨#[]⟩] 61 ?_;intro gb369 hg w48 hbox hb;replace HB:=sB hb;have BK369:=aZ hbox;have GW369:=sE hg;have GE369:=zW HW0 hg;replace HK:=sU hb;have NB0_369:=aZ ((by rw [hg];exact Nat.ne_of_lt (IsS44.lt (show IsS44 w0 _ g s0_0 s0_1 from zi HI0)):g≠gb369));have NB369_0:=aZ ((by rw [hg];exact Nat.ne_of_gt (IsS44.lt (show IsS44 w0 _ g s0_0 s0_1 from zi HI0)):gb369≠g));replace HI0:=aZ (IsS44.below (zi HI0) hb);clear hb hbox hg)|(refine zg (some 6) func37 #[.pointer (some ⟨g,0,none⟩),.int .i64 (-20),.int .i64 20] ?_;(with_reducible refine (Yd.calls g s0_0 s0_1 (-20) 20 t370 t371 w0 _ (zi HI0) bw A2.out).mono ?_);rintro e w49 ⟨rfl,hi,hb,hk⟩;refine ⟨_,rfl,?_⟩;replace BK369:=kB hk NB369_0 BK369;replace HK:=sT hk;replace HB:=aZ (hb);replace HI0:=aZ (hi);clear hb hk hi)|(refine zg (some 8) func33 #[.pointer (some ⟨g,0,none⟩),.int .i64 6] ?_;(with_reducible refine (Y5.calls g s0_0 t371 6 t372 t373 w0 _ (zi HI0) bw A3.out).mono ?_);rintro e w50 ⟨rfl,hi,hb,hk⟩;refine ⟨_,rfl,?_⟩;replace BK369:=kB hk NB369_0 BK369;replace HK:=sT hk;replace HB:=aZ (hb);replace HI0:=aZ (hi);clear hb hk hi)|(refine zg (some 30) func125 #[.int .i64 t370,.int .i64 1] ?_;(with_reducible refine (Yc.calls k t370 1 t394 t395 _ (Tryz.Gl.below HG.out bw) A47.out).mono ?_);rintro e w51 ⟨rfl,hb⟩;refine ⟨_,rfl,?_⟩;replace HI0:=aZ (IsS44.below (zi HI0) hb);replace BK369:=sK BK369 hb;replace HK:=sU hb;replace HB:=sB hb;clear hb;have hnb52:=NB369_0.out;have hnc52:=NB0_369.out;obtain ⟨hcz53_0,hfz53_0⟩:=zc BK369 0 (.string ⟨#[]⟩) rfl;obtain ⟨hcz53_1,hfz53_1⟩:=zc BK369 1 (.string ⟨#[]⟩) rfl))
     refine bodyPost_ret (results_cell_row rfl _ _ gb369 61 #[.string t394,.string t395] (0,0) _ rfl (zp BK369) underlying61 rfl (by kernel_rfl)) rfl ?_
     exact ⟨ze,zi HI0,bw,kk⟩
    rw [if_pos c39] at H
    obtain ⟨c39b0,c39b1⟩:=zY c39
    clear c39
    obtain ⟨⟨t391,t392,t393⟩,A40,H⟩:=zB H
    (try dsimp only at H)
    obtain ⟨rfl,rfl,rfl⟩:=zo3 H
    go_enter func72,ntmps72
    go_wp2_with (first|(refine box_ev 2 #[.string ⟨#[]⟩,.string ⟨#[]⟩] 61 ?_;intro gb369 hg w41 hbox hb;replace HB:=sB hb;have BK369:=aZ hbox;have GW369:=sE hg;have GE369:=zW HW0 hg;replace HK:=sU hb;have NB0_369:=aZ ((by rw [hg];exact Nat.ne_of_lt (IsS44.lt (show IsS44 w0 _ g s0_0 s0_1 from zi HI0)):g≠gb369));have NB369_0:=aZ ((by rw [hg];exact Nat.ne_of_gt (IsS44.lt (show IsS44 w0 _ g s0_0 s0_1 from zi HI0)):gb369≠g));replace HI0:=aZ (IsS44.below (zi HI0) hb);clear hb hbox hg)|(refine zg (some 6) func37 #[.pointer (some ⟨g,0,none⟩),.int .i64 (-20),.int .i64 20] ?_;(with_reducible refine (Yd.calls g s0_0 s0_1 (-20) 20 t370 t371 w0 _ (zi HI0) bw A2.out).mono ?_);rintro e w42 ⟨rfl,hi,hb,hk⟩;refine ⟨_,rfl,?_⟩;replace BK369:=kB hk NB369_0 BK369;replace HK:=sT hk;replace HB:=aZ (hb);replace HI0:=aZ (hi);clear hb hk hi)|(refine zg (some 8) func33 #[.pointer (some ⟨g,0,none⟩),.int .i64 6] ?_;(with_reducible refine (Y5.calls g s0_0 t371 6 t372 t373 w0 _ (zi HI0) bw A3.out).mono ?_);rintro e w43 ⟨rfl,hi,hb,hk⟩;refine ⟨_,rfl,?_⟩;replace BK369:=kB hk NB369_0 BK369;replace HK:=sT hk;replace HB:=aZ (hb);replace HI0:=aZ (hi);clear hb hk hi)|(refine zg (some 27) func124 #[.pointer (some ⟨g,0,none⟩)] ?_;(with_reducible refine (Yg.calls k g s0_0 t373 t391 t392 t393 w0 _ (zi HI0) bw HG.out A40.out).mono ?_);rintro e w44 ⟨rfl,hi,hb,hk⟩;refine ⟨_,rfl,?_⟩;replace BK369:=kB hk NB369_0 BK369;replace HK:=sT hk;replace HB:=aZ (hb);replace HI0:=aZ (hi);clear hb hk hi;have hnb45:=NB369_0.out;have hnc45:=NB0_369.out;obtain ⟨hcz46_0,hfz46_0⟩:=zc BK369 0 (.string ⟨#[]⟩) rfl;obtain ⟨hcz46_1,hfz46_1⟩:=zc BK369 1 (.string ⟨#[]⟩) rfl))
    refine bodyPost_ret (results_cell_row rfl _ _ gb369 61 #[.string t391,.string t392] (0,0) _ rfl (zp BK369) underlying61 rfl (by kernel_rfl)) rfl ?_
    exact ⟨ze,zi HI0,bw,kk⟩
   rw [if_pos c27] at H
   obtain ⟨c27b0,c27b1⟩:=zY c27
   clear c27
   obtain ⟨⟨t385,t386⟩,A28,H⟩:=zB H
   (try dsimp only at H)
   obtain ⟨⟨t387,t388⟩,A29,H⟩:=zB H
   (try dsimp only at H)
   obtain ⟨⟨t389,t390⟩,A30,H⟩:=zB H
   (try dsimp only at H)
   obtain ⟨rfl,rfl,rfl⟩:=zo3 H
   go_enter func72,ntmps72
   go_wp2_with (first|(refine box_ev 2 #[.string ⟨#[]⟩,.string ⟨#[]⟩] 61 ?_;intro gb369 hg w31 hbox hb;replace HB:=sB hb;have BK369:=aZ hbox;have GW369:=sE hg;have GE369:=zW HW0 hg;replace HK:=sU hb;have NB0_369:=aZ ((by rw [hg];exact Nat.ne_of_lt (IsS44.lt (show IsS44 w0 _ g s0_0 s0_1 from zi HI0)):g≠gb369));have NB369_0:=aZ ((by rw [hg];exact Nat.ne_of_gt (IsS44.lt (show IsS44 w0 _ g s0_0 s0_1 from zi HI0)):gb369≠g));replace HI0:=aZ (IsS44.below (zi HI0) hb);clear hb hbox hg)|(refine zg (some 6) func37 #[.pointer (some ⟨g,0,none⟩),.int .i64 (-20),.int .i64 20] ?_;(with_reducible refine (Yd.calls g s0_0 s0_1 (-20) 20 t370 t371 w0 _ (zi HI0) bw A2.out).mono ?_);rintro e w32 ⟨rfl,hi,hb,hk⟩;refine ⟨_,rfl,?_⟩;replace BK369:=kB hk NB369_0 BK369;replace HK:=sT hk;replace HB:=aZ (hb);replace HI0:=aZ (hi);clear hb hk hi)|(refine zg (some 8) func33 #[.pointer (some ⟨g,0,none⟩),.int .i64 6] ?_;(with_reducible refine (Y5.calls g s0_0 t371 6 t372 t373 w0 _ (zi HI0) bw A3.out).mono ?_);rintro e w33 ⟨rfl,hi,hb,hk⟩;refine ⟨_,rfl,?_⟩;replace BK369:=kB hk NB369_0 BK369;replace HK:=sT hk;replace HB:=aZ (hb);replace HI0:=aZ (hi);clear hb hk hi)|(refine zg (some 21) func123 #[.pointer (some ⟨g,0,none⟩)] ?_;(with_reducible refine (Y02.calls g s0_0 t373 t385 t386 w0 _ (zi HI0) bw A28.out).mono ?_);rintro e w34 ⟨rfl,hi,hb,hk⟩;refine ⟨_,rfl,?_⟩;replace BK369:=kB hk NB369_0 BK369;replace HK:=sT hk;replace HB:=aZ (hb);replace HI0:=aZ (hi);clear hb hk hi)|(refine zg (some 23) func37 #[.pointer (some ⟨g,0,none⟩),.int .i64 1,.int .i64 99] ?_;(with_reducible refine (Yd.calls g s0_0 t386 1 99 t387 t388 w0 _ (zi HI0) bw A29.out).mono ?_);rintro e w35 ⟨rfl,hi,hb,hk⟩;refine ⟨_,rfl,?_⟩;replace BK369:=kB hk NB369_0 BK369;replace HK:=sT hk;replace HB:=aZ (hb);replace HI0:=aZ (hi);clear hb hk hi)|(refine zg (some 30) func125 #[.int .i64 t385,.int .i64 t387] ?_;(with_reducible refine (Yc.calls k t385 t387 t389 t390 _ (Tryz.Gl.below HG.out bw) A30.out).mono ?_);rintro e w36 ⟨rfl,hb⟩;refine ⟨_,rfl,?_⟩;replace HI0:=aZ (IsS44.below (zi HI0) hb);replace BK369:=sK BK369 hb;replace HK:=sU hb;replace HB:=sB hb;clear hb;have hnb37:=NB369_0.out;have hnc37:=NB0_369.out;obtain ⟨hcz38_0,hfz38_0⟩:=zc BK369 0 (.string ⟨#[]⟩) rfl;obtain ⟨hcz38_1,hfz38_1⟩:=zc BK369 1 (.string ⟨#[]⟩) rfl))
   refine bodyPost_ret (results_cell_row rfl _ _ gb369 61 #[.string t389,.string t390] (0,0) _ rfl (zp BK369) underlying61 rfl (by kernel_rfl)) rfl ?_
   exact ⟨ze,zi HI0,bw,kk⟩
  rw [if_pos c14] at H
  obtain ⟨c14b0,c14b1⟩:=zY c14
  clear c14
  obtain ⟨y378,hy378⟩:∃ y_:List Int,y_=(([2,4,8,3,7,1000]:List Int)):=⟨_,rfl⟩
  replace H:((YX.f s0_0 t373 y378).bind fun bt381=>((Yc.f k t370 bt381.1).bind fun bt383=>(some (bt383.1,bt383.2,bt381.2))))=some (r1,r2,r3):=zy hy378 H
  have Ny378:=aZ hy378
  clear hy378
  obtain ⟨⟨t381,t382⟩,A15,H⟩:=zB H
  (try dsimp only at H)
  obtain ⟨⟨t383,t384⟩,A16,H⟩:=zB H
  (try dsimp only at H)
  obtain ⟨rfl,rfl,rfl⟩:=zo3 H
  go_enter func72,ntmps72
  go_wp2_with (first|(refine box_ev 2 #[.string ⟨#[]⟩,.string ⟨#[]⟩] 61 ?_;intro gb369 hg w17 hbox hb;replace HB:=sB hb;have BK369:=aZ hbox;have GW369:=sE hg;have GE369:=zW HW0 hg;replace HK:=sU hb;have NB0_369:=aZ ((by rw [hg];exact Nat.ne_of_lt (IsS44.lt (show IsS44 w0 _ g s0_0 s0_1 from zi HI0)):g≠gb369));have NB369_0:=aZ ((by rw [hg];exact Nat.ne_of_gt (IsS44.lt (show IsS44 w0 _ g s0_0 s0_1 from zi HI0)):gb369≠g));replace HI0:=aZ (IsS44.below (zi HI0) hb);clear hb hbox hg)|(refine zg (some 6) func37 #[.pointer (some ⟨g,0,none⟩),.int .i64 (-20),.int .i64 20] ?_;(with_reducible refine (Yd.calls g s0_0 s0_1 (-20) 20 t370 t371 w0 _ (zi HI0) bw A2.out).mono ?_);rintro e w18 ⟨rfl,hi,hb,hk⟩;refine ⟨_,rfl,?_⟩;replace BK369:=kB hk NB369_0 BK369;replace HK:=sT hk;replace HB:=aZ (hb);replace HI0:=aZ (hi);clear hb hk hi)|(refine zg (some 8) func33 #[.pointer (some ⟨g,0,none⟩),.int .i64 6] ?_;(with_reducible refine (Y5.calls g s0_0 t371 6 t372 t373 w0 _ (zi HI0) bw A3.out).mono ?_);rintro e w19 ⟨rfl,hi,hb,hk⟩;refine ⟨_,rfl,?_⟩;replace BK369:=kB hk NB369_0 BK369;replace HK:=sT hk;replace HB:=aZ (hb);replace HI0:=aZ (hi);clear hb hk hi)|((with_reducible refine gate_dst (N:=16) rfl ?_);refine Kd.R_lit (Kd.int .i64) _ 3 ?hg (N:=16) ?hd (xs:=([2,4,8,3,7,1000]:List Int)) (inner:=[.int .i64 2,.int .i64 4,.int .i64 8,.int .i64 3,.int .i64 7,.int .i64 1000]) (ok:=fun _=>True) (okp:=fun _=>True) ?hr ?hp (fun _ hk=>hk) trivial (Below.refl _ _) (Nat.le_refl _) (by simp) ?_;(case hd=>rfl);(case hg=>rfl);(case hr=>first|(go_simp;done)|(go_simp;rfl));(case hp=>exact (Reps.one (show Kd.M (Kd.int .i64) _ _ _ 2 [.int .i64 2] from rfl) (Reps.one (show Kd.M (Kd.int .i64) _ _ _ 4 [.int .i64 4] from rfl) (Reps.one (show Kd.M (Kd.int .i64) _ _ _ 8 [.int .i64 8] from rfl) (Reps.one (show Kd.M (Kd.int .i64) _ _ _ 3 [.int .i64 3] from rfl) (Reps.one (show Kd.M (Kd.int .i64) _ _ _ 7 [.int .i64 7] from rfl) (Reps.one (show Kd.M (Kd.int .i64) _ _ _ 1000 [.int .i64 1000] from rfl) (Reps.none _ _))))))));intro v379 w20 ho21 hb hg_ hnew_;clear hg_ hnew_;(first|rw [← Ny378.out] at ho21|(simp only [Int.reduceToNat] at ho21;rw [← Ny378.out] at ho21));have HO380:=aZ (Kd.R_lower ho21 ks);replace HI0:=aZ (IsS44.below (zi HI0) hb);replace BK369:=sK BK369 hb;replace HK:=sU hb;replace HB:=sB hb;clear hb ho21;obtain ⟨Ao22,co22,rfl⟩:=Kd.R_slice HO380.out)|(refine zg (some 17) func122 #[.pointer (some ⟨g,0,none⟩),.slice Ao22 y378.length co22] ?_;(with_reducible refine (YX.calls g s0_0 t373 _ _ y378 t381 t382 w0 _ (zi HI0) bw (zC (Kd.R_reads' HO380.out).2.2) ((Kd.R_reads' HO380.out).2.1) ?side5 A15.out).mono ?_);(case side5=>exact far_slice (IsS44.own_ne HI0.out HO380.out (by decide)));rintro e w23 ⟨rfl,hi,hb,hk⟩;refine ⟨_,rfl,?_⟩;replace BK369:=kB hk NB369_0 BK369;replace HO380:=aZ (Kd.R_mono (Kd.R_keep (IsS44.apart (show IsS44 w0 _ g s0_0 t373 from zi HI0) (zR HO380) (by decide)) hk (fun _ h=>h.2)) (fun _ h=>h.1));replace HK:=sT hk;replace HB:=aZ (hb);replace HI0:=aZ (hi);clear hb hk hi)|(refine zg (some 30) func125 #[.int .i64 t370,.int .i64 t381] ?_;(with_reducible refine (Yc.calls k t370 t381 t383 t384 _ (Tryz.Gl.below HG.out bw) A16.out).mono ?_);rintro e w24 ⟨rfl,hb⟩;refine ⟨_,rfl,?_⟩;replace HO380:=yR HO380 hb;replace HI0:=aZ (IsS44.below (zi HI0) hb);replace BK369:=sK BK369 hb;replace HK:=sU hb;replace HB:=sB hb;clear hb;have hnb25:=NB369_0.out;have hnc25:=NB0_369.out;obtain ⟨hcz26_0,hfz26_0⟩:=zc BK369 0 (.string ⟨#[]⟩) rfl;obtain ⟨hcz26_1,hfz26_1⟩:=zc BK369 1 (.string ⟨#[]⟩) rfl))
  refine bodyPost_ret (results_cell_row rfl _ _ gb369 61 #[.string t383,.string t384] (0,0) _ rfl (zp BK369) underlying61 rfl (by kernel_rfl)) rfl ?_
  exact ⟨ze,zi HI0,bw,kk⟩
 rw [if_pos c4] at H
 obtain ⟨c4b0,c4b1⟩:=zY c4
 clear c4
 obtain ⟨⟨t374,t375⟩,A5,H⟩:=zB H
 (try dsimp only at H)
 obtain ⟨⟨t376,t377⟩,A6,H⟩:=zB H
 (try dsimp only at H)
 obtain ⟨rfl,rfl,rfl⟩:=zo3 H
 go_enter func72,ntmps72
 go_wp2_with (first|(refine box_ev 2 #[.string ⟨#[]⟩,.string ⟨#[]⟩] 61 ?_;intro gb369 hg w7 hbox hb;replace HB:=sB hb;have BK369:=aZ hbox;have GW369:=sE hg;have GE369:=zW HW0 hg;replace HK:=sU hb;have NB0_369:=aZ ((by rw [hg];exact Nat.ne_of_lt (IsS44.lt (show IsS44 w0 _ g s0_0 s0_1 from zi HI0)):g≠gb369));have NB369_0:=aZ ((by rw [hg];exact Nat.ne_of_gt (IsS44.lt (show IsS44 w0 _ g s0_0 s0_1 from zi HI0)):gb369≠g));replace HI0:=aZ (IsS44.below (zi HI0) hb);clear hb hbox hg)|(refine zg (some 6) func37 #[.pointer (some ⟨g,0,none⟩),.int .i64 (-20),.int .i64 20] ?_;(with_reducible refine (Yd.calls g s0_0 s0_1 (-20) 20 t370 t371 w0 _ (zi HI0) bw A2.out).mono ?_);rintro e w8 ⟨rfl,hi,hb,hk⟩;refine ⟨_,rfl,?_⟩;replace BK369:=kB hk NB369_0 BK369;replace HK:=sT hk;replace HB:=aZ (hb);replace HI0:=aZ (hi);clear hb hk hi)|(refine zg (some 8) func33 #[.pointer (some ⟨g,0,none⟩),.int .i64 6] ?_;(with_reducible refine (Y5.calls g s0_0 t371 6 t372 t373 w0 _ (zi HI0) bw A3.out).mono ?_);rintro e w9 ⟨rfl,hi,hb,hk⟩;refine ⟨_,rfl,?_⟩;replace BK369:=kB hk NB369_0 BK369;replace HK:=sT hk;replace HB:=aZ (hb);replace HI0:=aZ (hi);clear hb hk hi)|(refine zg (some 12) func37 #[.pointer (some ⟨g,0,none⟩),.int .i64 1,.int .i64 9] ?_;(with_reducible refine (Yd.calls g s0_0 t373 1 9 t374 t375 w0 _ (zi HI0) bw A5.out).mono ?_);rintro e w10 ⟨rfl,hi,hb,hk⟩;refine ⟨_,rfl,?_⟩;replace BK369:=kB hk NB369_0 BK369;replace HK:=sT hk;replace HB:=aZ (hb);replace HI0:=aZ (hi);clear hb hk hi)|(refine zg (some 30) func125 #[.int .i64 t370,.int .i64 t374] ?_;(with_reducible refine (Yc.calls k t370 t374 t376 t377 _ (Tryz.Gl.below HG.out bw) A6.out).mono ?_);rintro e w11 ⟨rfl,hb⟩;refine ⟨_,rfl,?_⟩;replace HI0:=aZ (IsS44.below (zi HI0) hb);replace BK369:=sK BK369 hb;replace HK:=sU hb;replace HB:=sB hb;clear hb;have hnb12:=NB369_0.out;have hnc12:=NB0_369.out;obtain ⟨hcz13_0,hfz13_0⟩:=zc BK369 0 (.string ⟨#[]⟩) rfl;obtain ⟨hcz13_1,hfz13_1⟩:=zc BK369 1 (.string ⟨#[]⟩) rfl))
 refine bodyPost_ret (results_cell_row rfl _ _ gb369 61 #[.string t376,.string t377] (0,0) _ rfl (zp BK369) underlying61 rfl (by kernel_rfl)) rfl ?_
 exact ⟨ze,zi HI0,bw,kk⟩
def YO.f (k:Nat) (s0_0:List Int) (s0_1:Int):Option (ByteArray×ByteArray×Int):=(Yy.f k s0_0 s0_1).bind fun bt397=>((Y5.f s0_0 bt397.2.2 12).bind fun bt401=>(if bt401.1=0 then (some ((⟨#[]⟩:ByteArray),(⟨#[]⟩:ByteArray),bt401.2)) else (if bt401.1=1 then (if 1+bt397.1.size≤9223372036854775807 then (some ((⟨#[48]⟩:ByteArray)++bt397.1,bt397.2.1,bt401.2)) else (none)) else (if bt401.1=2 then (if bt397.2.1.size+1≤9223372036854775807 then (some (bt397.1,bt397.2.1++(⟨#[48]⟩:ByteArray),bt401.2)) else (none)) else (if bt401.1=3 then (if 1+bt397.1.size≤9223372036854775807 then (some ((⟨#[45]⟩:ByteArray)++bt397.1,bt397.2.1,bt401.2)) else (none)) else (if bt401.1=4 then (if 1+bt397.2.1.size≤9223372036854775807 then (some (bt397.1,(⟨#[45]⟩:ByteArray)++bt397.2.1,bt401.2)) else (none)) else (if bt401.1=5 then (some (bt397.2.1,bt397.1,bt401.2)) else (if bt401.1=6 then (if bt397.1.size+1≤9223372036854775807 then (some (bt397.1++(⟨#[120]⟩:ByteArray),bt397.2.1,bt401.2)) else (none)) else (some (bt397.1,bt397.2.1,bt401.2))))))))))
theorem YO.calls (k:Nat) (g:Nat) (s0_0:List Int) (s0_1:Int) (r1:ByteArray) (r2:ByteArray) (r3:Int) (w0 w:World) (hI:IsS44 w0 w g s0_0 s0_1) (hB:Below w0.heap.size w0 w) (hG:Tryz.Gl w0) (h:YO.f k s0_0 s0_1=some (r1,r2,r3)) :
  Calls Tryz.prog 52 #[.pointer (some ⟨g,0,none⟩)] w fun e w'=>e = .returned (.agg #[.string r1,.string r2])∧IsS44 w0 w' g s0_0 r3∧Below w0.heap.size w0 w'∧KeepBut w w' g none:=by
 have hu61:=underlying61
 have HG:=aZ hG
 clear hG
 have HI0:=aZ hI
 have HK:=aZ (KeepBut.refl w g none)
 have HL:=aZ hB.size
 clear hI
 have HW0:=aZ hB.size
 have HB:=aZ hB
 clear hB
 have H:=h
 unfold YO.f at H
 clear h
 obtain ⟨⟨t397,t398,t399⟩,A2,H⟩:=zB H
 (try dsimp only at H)
 obtain ⟨⟨t401,t402⟩,A3,H⟩:=zB H
 (try dsimp only at H)
 by_cases c4:t401=0
 case neg=>
  rw [if_neg c4] at H
  obtain ⟨c4b0,c4b1⟩:=zX c4
  by_cases c14:t401=1
  case neg=>
   rw [if_neg c14] at H
   obtain ⟨c14b0,c14b1⟩:=zX c14
   by_cases c26:t401=2
   case neg=>
    rw [if_neg c26] at H
    obtain ⟨c26b0,c26b1⟩:=zX c26
    by_cases c38:t401=3
    case neg=>
     rw [if_neg c38] at H
     obtain ⟨c38b0,c38b1⟩:=zX c38
     by_cases c50:t401=4
     case neg=>
      rw [if_neg c50] at H
      obtain ⟨c50b0,c50b1⟩:=zX c50
      by_cases c62:t401=5
      case neg=>
       rw [if_neg c62] at H
       obtain ⟨c62b0,c62b1⟩:=zX c62
       by_cases c73:t401=6
       case neg=>
        rw [if_neg c73] at H
        obtain ⟨c73b0,c73b1⟩:=zX c73
        obtain ⟨rfl,rfl,rfl⟩:=zo3 H
        go_enter func52,ntmps52
        go_wp2_with (first|(refine box_ev 2 #[.string ⟨#[]⟩,.string ⟨#[]⟩] 61 ?_;intro gb396 hg w85 hbox hb;replace HB:=sB hb;have BK396:=aZ hbox;have GW396:=sE hg;have GE396:=zW HW0 hg;replace HK:=sU hb;have NB0_396:=aZ ((by rw [hg];exact Nat.ne_of_lt (IsS44.lt (show IsS44 w0 _ g s0_0 s0_1 from zi HI0)):g≠gb396));have NB396_0:=aZ ((by rw [hg];exact Nat.ne_of_gt (IsS44.lt (show IsS44 w0 _ g s0_0 s0_1 from zi HI0)):gb396≠g));replace HI0:=aZ (IsS44.below (zi HI0) hb);clear hb hbox hg)|(refine zg (some 5) func72 #[.pointer (some ⟨g,0,none⟩)] ?_;(with_reducible refine (Yy.calls k g s0_0 s0_1 t397 t398 t399 w0 _ (zi HI0) bw HG.out A2.out).mono ?_);rintro e w86 ⟨rfl,hi,hb,hk⟩;refine ⟨_,rfl,?_⟩;replace BK396:=kB hk NB396_0 BK396;replace HK:=sT hk;replace HB:=aZ (hb);replace HI0:=aZ (hi);clear hb hk hi)|(refine box_ev 3 #[.string ⟨#[]⟩,.string ⟨#[]⟩] 61 ?_;intro gb400 hg w87 hbox hb;replace HB:=sB hb;have BK400:=aZ hbox;have GW400:=sE hg;have GE400:=zW HW0 hg;replace HK:=sU hb;obtain ⟨NB396_400,NB400_396,BK396⟩:=sX hg hb BK396;have NB0_400:=aZ ((by rw [hg];exact Nat.ne_of_lt (IsS44.lt (show IsS44 w0 _ g s0_0 t399 from zi HI0)):g≠gb400));have NB400_0:=aZ ((by rw [hg];exact Nat.ne_of_gt (IsS44.lt (show IsS44 w0 _ g s0_0 t399 from zi HI0)):gb400≠g));replace HI0:=aZ (IsS44.below (zi HI0) hb);clear hb hbox hg;have hnb88:=NB400_396.out;have hnc88:=NB396_400.out;have hnb89:=NB400_0.out;have hnc89:=NB0_400.out;obtain ⟨hcz90_0,hfz90_0⟩:=zc BK400 0 (.string ⟨#[]⟩) rfl;obtain ⟨hcz90_1,hfz90_1⟩:=zc BK400 1 (.string ⟨#[]⟩) rfl)|(refine zg (some 7) func33 #[.pointer (some ⟨g,0,none⟩),.int .i64 12] ?_;(with_reducible refine (Y5.calls g s0_0 t399 12 t401 t402 w0 _ (zi HI0) bw A3.out).mono ?_);rintro e w91 ⟨rfl,hi,hb,hk⟩;refine ⟨_,rfl,?_⟩;replace BK396:=aZ (KeepBut.blk hk (g':=gb396) (o:=.cells #[.string ⟨#[]⟩,.string ⟨#[]⟩] 61 (0,0)) (zq BK396) NB396_0.out (by simp));replace BK400:=aZ (KeepBut.blk hk (g':=gb400) (o:=.cells #[.string t397,.string t398] 61 (0,0)) (zp BK400) NB400_0.out (by simp));replace HK:=sT hk;replace HB:=aZ (hb);replace HI0:=aZ (hi);clear hb hk hi;obtain ⟨hcz92_0,hfz92_0⟩:=zc BK400 0 (.string t397) rfl;obtain ⟨hcz92_1,hfz92_1⟩:=zc BK400 1 (.string t398) rfl;have hnb93:=NB396_0.out;have hnc93:=NB0_396.out;obtain ⟨hcz94_0,hfz94_0⟩:=zc BK396 0 (.string ⟨#[]⟩) rfl;obtain ⟨hcz94_1,hfz94_1⟩:=zc BK396 1 (.string ⟨#[]⟩) rfl))
        refine bodyPost_ret (results_cell_row rfl _ _ gb396 61 #[.string t397,.string t398] (0,0) _ rfl (zp BK396) underlying61 rfl (by kernel_rfl)) rfl ?_
        exact ⟨ze,zi HI0,bw,kk⟩
       rw [if_pos c73] at H
       obtain ⟨c73b0,c73b1⟩:=zY c73
       clear c73
       by_cases c74:t397.size+1≤9223372036854775807
       case neg=>
        rw [if_neg c74] at H
        cases H
       rw [if_pos c74] at H
       have c74b0:=eq_true c74
       have c74b1:=decide_eq_true c74
       try have c74b2:=eq_false (Nat.not_lt.2 c74)
       obtain ⟨rfl,rfl,rfl⟩:=zo3 H
       go_enter func52,ntmps52
       go_wp2_with (first|(refine box_ev 2 #[.string ⟨#[]⟩,.string ⟨#[]⟩] 61 ?_;intro gb396 hg w75 hbox hb;replace HB:=sB hb;have BK396:=aZ hbox;have GW396:=sE hg;have GE396:=zW HW0 hg;replace HK:=sU hb;have NB0_396:=aZ ((by rw [hg];exact Nat.ne_of_lt (IsS44.lt (show IsS44 w0 _ g s0_0 s0_1 from zi HI0)):g≠gb396));have NB396_0:=aZ ((by rw [hg];exact Nat.ne_of_gt (IsS44.lt (show IsS44 w0 _ g s0_0 s0_1 from zi HI0)):gb396≠g));replace HI0:=aZ (IsS44.below (zi HI0) hb);clear hb hbox hg)|(refine zg (some 5) func72 #[.pointer (some ⟨g,0,none⟩)] ?_;(with_reducible refine (Yy.calls k g s0_0 s0_1 t397 t398 t399 w0 _ (zi HI0) bw HG.out A2.out).mono ?_);rintro e w76 ⟨rfl,hi,hb,hk⟩;refine ⟨_,rfl,?_⟩;replace BK396:=kB hk NB396_0 BK396;replace HK:=sT hk;replace HB:=aZ (hb);replace HI0:=aZ (hi);clear hb hk hi)|(refine box_ev 3 #[.string ⟨#[]⟩,.string ⟨#[]⟩] 61 ?_;intro gb400 hg w77 hbox hb;replace HB:=sB hb;have BK400:=aZ hbox;have GW400:=sE hg;have GE400:=zW HW0 hg;replace HK:=sU hb;obtain ⟨NB396_400,NB400_396,BK396⟩:=sX hg hb BK396;have NB0_400:=aZ ((by rw [hg];exact Nat.ne_of_lt (IsS44.lt (show IsS44 w0 _ g s0_0 t399 from zi HI0)):g≠gb400));have NB400_0:=aZ ((by rw [hg];exact Nat.ne_of_gt (IsS44.lt (show IsS44 w0 _ g s0_0 t399 from zi HI0)):gb400≠g));replace HI0:=aZ (IsS44.below (zi HI0) hb);clear hb hbox hg;have hnb78:=NB400_396.out;have hnc78:=NB396_400.out;have hnb79:=NB400_0.out;have hnc79:=NB0_400.out;obtain ⟨hcz80_0,hfz80_0⟩:=zc BK400 0 (.string ⟨#[]⟩) rfl;obtain ⟨hcz80_1,hfz80_1⟩:=zc BK400 1 (.string ⟨#[]⟩) rfl)|(refine zg (some 7) func33 #[.pointer (some ⟨g,0,none⟩),.int .i64 12] ?_;(with_reducible refine (Y5.calls g s0_0 t399 12 t401 t402 w0 _ (zi HI0) bw A3.out).mono ?_);rintro e w81 ⟨rfl,hi,hb,hk⟩;refine ⟨_,rfl,?_⟩;replace BK396:=aZ (KeepBut.blk hk (g':=gb396) (o:=.cells #[.string ⟨#[]⟩,.string ⟨#[]⟩] 61 (0,0)) (zq BK396) NB396_0.out (by simp));replace BK400:=aZ (KeepBut.blk hk (g':=gb400) (o:=.cells #[.string t397,.string t398] 61 (0,0)) (zp BK400) NB400_0.out (by simp));replace HK:=sT hk;replace HB:=aZ (hb);replace HI0:=aZ (hi);clear hb hk hi;obtain ⟨hcz82_0,hfz82_0⟩:=zc BK400 0 (.string t397) rfl;obtain ⟨hcz82_1,hfz82_1⟩:=zc BK400 1 (.string t398) rfl;have hnb83:=NB396_0.out;have hnc83:=NB0_396.out;obtain ⟨hcz84_0,hfz84_0⟩:=zc BK396 0 (.string ⟨#[]⟩) rfl;obtain ⟨hcz84_1,hfz84_1⟩:=zc BK396 1 (.string ⟨#[]⟩) rfl))
       refine bodyPost_ret (results_cell_row rfl _ _ gb396 61 #[.string (t397++(⟨#[120]⟩:ByteArray)),.string t398] (0,0) _ rfl (zq BK396) underlying61 rfl (by kernel_rfl)) rfl ?_
       exact ⟨ze,zi HI0,bw,kk⟩
      rw [if_pos c62] at H
      obtain ⟨c62b0,c62b1⟩:=zY c62
      clear c62
      obtain ⟨rfl,rfl,rfl⟩:=zo3 H
      go_enter func52,ntmps52
      go_wp2_with (first|(refine box_ev 2 #[.string ⟨#[]⟩,.string ⟨#[]⟩] 61 ?_;intro gb396 hg w63 hbox hb;replace HB:=sB hb;have BK396:=aZ hbox;have GW396:=sE hg;have GE396:=zW HW0 hg;replace HK:=sU hb;have NB0_396:=aZ ((by rw [hg];exact Nat.ne_of_lt (IsS44.lt (show IsS44 w0 _ g s0_0 s0_1 from zi HI0)):g≠gb396));have NB396_0:=aZ ((by rw [hg];exact Nat.ne_of_gt (IsS44.lt (show IsS44 w0 _ g s0_0 s0_1 from zi HI0)):gb396≠g));replace HI0:=aZ (IsS44.below (zi HI0) hb);clear hb hbox hg)|(refine zg (some 5) func72 #[.pointer (some ⟨g,0,none⟩)] ?_;(with_reducible refine (Yy.calls k g s0_0 s0_1 t397 t398 t399 w0 _ (zi HI0) bw HG.out A2.out).mono ?_);rintro e w64 ⟨rfl,hi,hb,hk⟩;refine ⟨_,rfl,?_⟩;replace BK396:=kB hk NB396_0 BK396;replace HK:=sT hk;replace HB:=aZ (hb);replace HI0:=aZ (hi);clear hb hk hi)|(refine box_ev 3 #[.string ⟨#[]⟩,.string ⟨#[]⟩] 61 ?_;intro gb400 hg w65 hbox hb;replace HB:=sB hb;have BK400:=aZ hbox;have GW400:=sE hg;have GE400:=zW HW0 hg;replace HK:=sU hb;obtain ⟨NB396_400,NB400_396,BK396⟩:=sX hg hb BK396;have NB0_400:=aZ ((by rw [hg];exact Nat.ne_of_lt (IsS44.lt (show IsS44 w0 _ g s0_0 t399 from zi HI0)):g≠gb400));have NB400_0:=aZ ((by rw [hg];exact Nat.ne_of_gt (IsS44.lt (show IsS44 w0 _ g s0_0 t399 from zi HI0)):gb400≠g));replace HI0:=aZ (IsS44.below (zi HI0) hb);clear hb hbox hg;have hnb66:=NB400_396.out;have hnc66:=NB396_400.out;have hnb67:=NB400_0.out;have hnc67:=NB0_400.out;obtain ⟨hcz68_0,hfz68_0⟩:=zc BK400 0 (.string ⟨#[]⟩) rfl;obtain ⟨hcz68_1,hfz68_1⟩:=zc BK400 1 (.string ⟨#[]⟩) rfl)|(refine zg (some 7) func33 #[.pointer (some ⟨g,0,none⟩),.int .i64 12] ?_;(with_reducible refine (Y5.calls g s0_0 t399 12 t401 t402 w0 _ (zi HI0) bw A3.out).mono ?_);rintro e w69 ⟨rfl,hi,hb,hk⟩;refine ⟨_,rfl,?_⟩;replace BK396:=aZ (KeepBut.blk hk (g':=gb396) (o:=.cells #[.string ⟨#[]⟩,.string ⟨#[]⟩] 61 (0,0)) (zq BK396) NB396_0.out (by simp));replace BK400:=aZ (KeepBut.blk hk (g':=gb400) (o:=.cells #[.string t397,.string t398] 61 (0,0)) (zp BK400) NB400_0.out (by simp));replace HK:=sT hk;replace HB:=aZ (hb);replace HI0:=aZ (hi);clear hb hk hi;obtain ⟨hcz70_0,hfz70_0⟩:=zc BK400 0 (.string t397) rfl;obtain ⟨hcz70_1,hfz70_1⟩:=zc BK400 1 (.string t398) rfl;have hnb71:=NB396_0.out;have hnc71:=NB0_396.out;obtain ⟨hcz72_0,hfz72_0⟩:=zc BK396 0 (.string ⟨#[]⟩) rfl;obtain ⟨hcz72_1,hfz72_1⟩:=zc BK396 1 (.string ⟨#[]⟩) rfl))
      refine bodyPost_ret (results_cell_row rfl _ _ gb396 61 #[.string t398,.string t397] (0,0) _ rfl (zq BK396) underlying61 rfl (by kernel_rfl)) rfl ?_
      exact ⟨ze,zi HI0,bw,kk⟩
     rw [if_pos c50] at H
     obtain ⟨c50b0,c50b1⟩:=zY c50
     clear c50
     by_cases c51:1+t398.size≤9223372036854775807
     case neg=>
      rw [if_neg c51] at H
      cases H
     rw [if_pos c51] at H
     have c51b0:=eq_true c51
     have c51b1:=decide_eq_true c51
     try have c51b2:=eq_false (Nat.not_lt.2 c51)
     obtain ⟨rfl,rfl,rfl⟩:=zo3 H
     go_enter func52,ntmps52
     go_wp2_with (first|(refine box_ev 2 #[.string ⟨#[]⟩,.string ⟨#[]⟩] 61 ?_;intro gb396 hg w52 hbox hb;replace HB:=sB hb;have BK396:=aZ hbox;have GW396:=sE hg;have GE396:=zW HW0 hg;replace HK:=sU hb;have NB0_396:=aZ ((by rw [hg];exact Nat.ne_of_lt (IsS44.lt (show IsS44 w0 _ g s0_0 s0_1 from zi HI0)):g≠gb396));have NB396_0:=aZ ((by rw [hg];exact Nat.ne_of_gt (IsS44.lt (show IsS44 w0 _ g s0_0 s0_1 from zi HI0)):gb396≠g));replace HI0:=aZ (IsS44.below (zi HI0) hb);clear hb hbox hg)|(refine zg (some 5) func72 #[.pointer (some ⟨g,0,none⟩)] ?_;(with_reducible refine (Yy.calls k g s0_0 s0_1 t397 t398 t399 w0 _ (zi HI0) bw HG.out A2.out).mono ?_);rintro e w53 ⟨rfl,hi,hb,hk⟩;refine ⟨_,rfl,?_⟩;replace BK396:=kB hk NB396_0 BK396;replace HK:=sT hk;replace HB:=aZ (hb);replace HI0:=aZ (hi);clear hb hk hi)|(refine box_ev 3 #[.string ⟨#[]⟩,.string ⟨#[]⟩] 61 ?_;intro gb400 hg w54 hbox hb;replace HB:=sB hb;have BK400:=aZ hbox;have GW400:=sE hg;have GE400:=zW HW0 hg;replace HK:=sU hb;obtain ⟨NB396_400,NB400_396,BK396⟩:=sX hg hb BK396;have NB0_400:=aZ ((by rw [hg];exact Nat.ne_of_lt (IsS44.lt (show IsS44 w0 _ g s0_0 t399 from zi HI0)):g≠gb400));have NB400_0:=aZ ((by rw [hg];exact Nat.ne_of_gt (IsS44.lt (show IsS44 w0 _ g s0_0 t399 from zi HI0)):gb400≠g));replace HI0:=aZ (IsS44.below (zi HI0) hb);clear hb hbox hg;have hnb55:=NB400_396.out;have hnc55:=NB396_400.out;have hnb56:=NB400_0.out;have hnc56:=NB0_400.out;obtain ⟨hcz57_0,hfz57_0⟩:=zc BK400 0 (.string ⟨#[]⟩) rfl;obtain ⟨hcz57_1,hfz57_1⟩:=zc BK400 1 (.string ⟨#[]⟩) rfl)|(refine zg (some 7) func33 #[.pointer (some ⟨g,0,none⟩),.int .i64 12] ?_;(with_reducible refine (Y5.calls g s0_0 t399 12 t401 t402 w0 _ (zi HI0) bw A3.out).mono ?_);rintro e w58 ⟨rfl,hi,hb,hk⟩;refine ⟨_,rfl,?_⟩;replace BK396:=aZ (KeepBut.blk hk (g':=gb396) (o:=.cells #[.string ⟨#[]⟩,.string ⟨#[]⟩] 61 (0,0)) (zq BK396) NB396_0.out (by simp));replace BK400:=aZ (KeepBut.blk hk (g':=gb400) (o:=.cells #[.string t397,.string t398] 61 (0,0)) (zp BK400) NB400_0.out (by simp));replace HK:=sT hk;replace HB:=aZ (hb);replace HI0:=aZ (hi);clear hb hk hi;obtain ⟨hcz59_0,hfz59_0⟩:=zc BK400 0 (.string t397) rfl;obtain ⟨hcz59_1,hfz59_1⟩:=zc BK400 1 (.string t398) rfl;have hnb60:=NB396_0.out;have hnc60:=NB0_396.out;obtain ⟨hcz61_0,hfz61_0⟩:=zc BK396 0 (.string ⟨#[]⟩) rfl;obtain ⟨hcz61_1,hfz61_1⟩:=zc BK396 1 (.string ⟨#[]⟩) rfl))
     refine bodyPost_ret (results_cell_row rfl _ _ gb396 61 #[.string t397,.string ((⟨#[45]⟩:ByteArray)++t398)] (0,0) _ rfl (zq BK396) underlying61 rfl (by kernel_rfl)) rfl ?_
     exact ⟨ze,zi HI0,bw,kk⟩
    rw [if_pos c38] at H
    obtain ⟨c38b0,c38b1⟩:=zY c38
    clear c38
    by_cases c39:1+t397.size≤9223372036854775807
    case neg=>
     rw [if_neg c39] at H
     cases H
    rw [if_pos c39] at H
    have c39b0:=eq_true c39
    have c39b1:=decide_eq_true c39
    try have c39b2:=eq_false (Nat.not_lt.2 c39)
    obtain ⟨rfl,rfl,rfl⟩:=zo3 H
    go_enter func52,ntmps52
    go_wp2_with (first|(refine box_ev 2 #[.string ⟨#[]⟩,.string ⟨#[]⟩] 61 ?_;intro gb396 hg w40 hbox hb;replace HB:=sB hb;have BK396:=aZ hbox;have GW396:=sE hg;have GE396:=zW HW0 hg;replace HK:=sU hb;have NB0_396:=aZ ((by rw [hg];exact Nat.ne_of_lt (IsS44.lt (show IsS44 w0 _ g s0_0 s0_1 from zi HI0)):g≠gb396));have NB396_0:=aZ ((by rw [hg];exact Nat.ne_of_gt (IsS44.lt (show IsS44 w0 _ g s0_0 s0_1 from zi HI0)):gb396≠g));replace HI0:=aZ (IsS44.below (zi HI0) hb);clear hb hbox hg)|(refine zg (some 5) func72 #[.pointer (some ⟨g,0,none⟩)] ?_;(with_reducible refine (Yy.calls k g s0_0 s0_1 t397 t398 t399 w0 _ (zi HI0) bw HG.out A2.out).mono ?_);rintro e w41 ⟨rfl,hi,hb,hk⟩;refine ⟨_,rfl,?_⟩;replace BK396:=kB hk NB396_0 BK396;replace HK:=sT hk;replace HB:=aZ (hb);replace HI0:=aZ (hi);clear hb hk hi)|(refine box_ev 3 #[.string ⟨#[]⟩,.string ⟨#[]⟩] 61 ?_;intro gb400 hg w42 hbox hb;replace HB:=sB hb;have BK400:=aZ hbox;have GW400:=sE hg;have GE400:=zW HW0 hg;replace HK:=sU hb;obtain ⟨NB396_400,NB400_396,BK396⟩:=sX hg hb BK396;have NB0_400:=aZ ((by rw [hg];exact Nat.ne_of_lt (IsS44.lt (show IsS44 w0 _ g s0_0 t399 from zi HI0)):g≠gb400));have NB400_0:=aZ ((by rw [hg];exact Nat.ne_of_gt (IsS44.lt (show IsS44 w0 _ g s0_0 t399 from zi HI0)):gb400≠g));replace HI0:=aZ (IsS44.below (zi HI0) hb);clear hb hbox hg;have hnb43:=NB400_396.out;have hnc43:=NB396_400.out;have hnb44:=NB400_0.out;have hnc44:=NB0_400.out;obtain ⟨hcz45_0,hfz45_0⟩:=zc BK400 0 (.string ⟨#[]⟩) rfl;obtain ⟨hcz45_1,hfz45_1⟩:=zc BK400 1 (.string ⟨#[]⟩) rfl)|(refine zg (some 7) func33 #[.pointer (some ⟨g,0,none⟩),.int .i64 12] ?_;(with_reducible refine (Y5.calls g s0_0 t399 12 t401 t402 w0 _ (zi HI0) bw A3.out).mono ?_);rintro e w46 ⟨rfl,hi,hb,hk⟩;refine ⟨_,rfl,?_⟩;replace BK396:=aZ (KeepBut.blk hk (g':=gb396) (o:=.cells #[.string ⟨#[]⟩,.string ⟨#[]⟩] 61 (0,0)) (zq BK396) NB396_0.out (by simp));replace BK400:=aZ (KeepBut.blk hk (g':=gb400) (o:=.cells #[.string t397,.string t398] 61 (0,0)) (zp BK400) NB400_0.out (by simp));replace HK:=sT hk;replace HB:=aZ (hb);replace HI0:=aZ (hi);clear hb hk hi;obtain ⟨hcz47_0,hfz47_0⟩:=zc BK400 0 (.string t397) rfl;obtain ⟨hcz47_1,hfz47_1⟩:=zc BK400 1 (.string t398) rfl;have hnb48:=NB396_0.out;have hnc48:=NB0_396.out;obtain ⟨hcz49_0,hfz49_0⟩:=zc BK396 0 (.string ⟨#[]⟩) rfl;obtain ⟨hcz49_1,hfz49_1⟩:=zc BK396 1 (.string ⟨#[]⟩) rfl))
    refine bodyPost_ret (results_cell_row rfl _ _ gb396 61 #[.string ((⟨#[45]⟩:ByteArray)++t397),.string t398] (0,0) _ rfl (zq BK396) underlying61 rfl (by kernel_rfl)) rfl ?_
    exact ⟨ze,zi HI0,bw,kk⟩
   rw [if_pos c26] at H
   obtain ⟨c26b0,c26b1⟩:=zY c26
   clear c26
   by_cases c27:t398.size+1≤9223372036854775807
   case neg=>
    rw [if_neg c27] at H
    cases H
   rw [if_pos c27] at H
   have c27b0:=eq_true c27
   have c27b1:=decide_eq_true c27
   try have c27b2:=eq_false (Nat.not_lt.2 c27)
   obtain ⟨rfl,rfl,rfl⟩:=zo3 H
   go_enter func52,ntmps52
   go_wp2_with (first|(refine box_ev 2 #[.string ⟨#[]⟩,.string ⟨#[]⟩] 61 ?_;intro gb396 hg w28 hbox hb;replace HB:=sB hb;have BK396:=aZ hbox;have GW396:=sE hg;have GE396:=zW HW0 hg;replace HK:=sU hb;have NB0_396:=aZ ((by rw [hg];exact Nat.ne_of_lt (IsS44.lt (show IsS44 w0 _ g s0_0 s0_1 from zi HI0)):g≠gb396));have NB396_0:=aZ ((by rw [hg];exact Nat.ne_of_gt (IsS44.lt (show IsS44 w0 _ g s0_0 s0_1 from zi HI0)):gb396≠g));replace HI0:=aZ (IsS44.below (zi HI0) hb);clear hb hbox hg)|(refine zg (some 5) func72 #[.pointer (some ⟨g,0,none⟩)] ?_;(with_reducible refine (Yy.calls k g s0_0 s0_1 t397 t398 t399 w0 _ (zi HI0) bw HG.out A2.out).mono ?_);rintro e w29 ⟨rfl,hi,hb,hk⟩;refine ⟨_,rfl,?_⟩;replace BK396:=kB hk NB396_0 BK396;replace HK:=sT hk;replace HB:=aZ (hb);replace HI0:=aZ (hi);clear hb hk hi)|(refine box_ev 3 #[.string ⟨#[]⟩,.string ⟨#[]⟩] 61 ?_;intro gb400 hg w30 hbox hb;replace HB:=sB hb;have BK400:=aZ hbox;have GW400:=sE hg;have GE400:=zW HW0 hg;replace HK:=sU hb;obtain ⟨NB396_400,NB400_396,BK396⟩:=sX hg hb BK396;have NB0_400:=aZ ((by rw [hg];exact Nat.ne_of_lt (IsS44.lt (show IsS44 w0 _ g s0_0 t399 from zi HI0)):g≠gb400));have NB400_0:=aZ ((by rw [hg];exact Nat.ne_of_gt (IsS44.lt (show IsS44 w0 _ g s0_0 t399 from zi HI0)):gb400≠g));replace HI0:=aZ (IsS44.below (zi HI0) hb);clear hb hbox hg;have hnb31:=NB400_396.out;have hnc31:=NB396_400.out;have hnb32:=NB400_0.out;have hnc32:=NB0_400.out;obtain ⟨hcz33_0,hfz33_0⟩:=zc BK400 0 (.string ⟨#[]⟩) rfl;obtain ⟨hcz33_1,hfz33_1⟩:=zc BK400 1 (.string ⟨#[]⟩) rfl)|(refine zg (some 7) func33 #[.pointer (some ⟨g,0,none⟩),.int .i64 12] ?_;(with_reducible refine (Y5.calls g s0_0 t399 12 t401 t402 w0 _ (zi HI0) bw A3.out).mono ?_);rintro e w34 ⟨rfl,hi,hb,hk⟩;refine ⟨_,rfl,?_⟩;replace BK396:=aZ (KeepBut.blk hk (g':=gb396) (o:=.cells #[.string ⟨#[]⟩,.string ⟨#[]⟩] 61 (0,0)) (zq BK396) NB396_0.out (by simp));replace BK400:=aZ (KeepBut.blk hk (g':=gb400) (o:=.cells #[.string t397,.string t398] 61 (0,0)) (zp BK400) NB400_0.out (by simp));replace HK:=sT hk;replace HB:=aZ (hb);replace HI0:=aZ (hi);clear hb hk hi;obtain ⟨hcz35_0,hfz35_0⟩:=zc BK400 0 (.string t397) rfl;obtain ⟨hcz35_1,hfz35_1⟩:=zc BK400 1 (.string t398) rfl;have hnb36:=NB396_0.out;have hnc36:=NB0_396.out;obtain ⟨hcz37_0,hfz37_0⟩:=zc BK396 0 (.string ⟨#[]⟩) rfl;obtain ⟨hcz37_1,hfz37_1⟩:=zc BK396 1 (.string ⟨#[]⟩) rfl))
   refine bodyPost_ret (results_cell_row rfl _ _ gb396 61 #[.string t397,.string (t398++(⟨#[48]⟩:ByteArray))] (0,0) _ rfl (zq BK396) underlying61 rfl (by kernel_rfl)) rfl ?_
   exact ⟨ze,zi HI0,bw,kk⟩
  rw [if_pos c14] at H
  obtain ⟨c14b0,c14b1⟩:=zY c14
  clear c14
  by_cases c15:1+t397.size≤9223372036854775807
  case neg=>
   rw [if_neg c15] at H
   cases H
  rw [if_pos c15] at H
  have c15b0:=eq_true c15
  have c15b1:=decide_eq_true c15
  try have c15b2:=eq_false (Nat.not_lt.2 c15)
  obtain ⟨rfl,rfl,rfl⟩:=zo3 H
  go_enter func52,ntmps52
  go_wp2_with (first|(refine box_ev 2 #[.string ⟨#[]⟩,.string ⟨#[]⟩] 61 ?_;intro gb396 hg w16 hbox hb;replace HB:=sB hb;have BK396:=aZ hbox;have GW396:=sE hg;have GE396:=zW HW0 hg;replace HK:=sU hb;have NB0_396:=aZ ((by rw [hg];exact Nat.ne_of_lt (IsS44.lt (show IsS44 w0 _ g s0_0 s0_1 from zi HI0)):g≠gb396));have NB396_0:=aZ ((by rw [hg];exact Nat.ne_of_gt (IsS44.lt (show IsS44 w0 _ g s0_0 s0_1 from zi HI0)):gb396≠g));replace HI0:=aZ (IsS44.below (zi HI0) hb);clear hb hbox hg)|(refine zg (some 5) func72 #[.pointer (some ⟨g,0,none⟩)] ?_;(with_reducible refine (Yy.calls k g s0_0 s0_1 t397 t398 t399 w0 _ (zi HI0) bw HG.out A2.out).mono ?_);rintro e w17 ⟨rfl,hi,hb,hk⟩;refine ⟨_,rfl,?_⟩;replace BK396:=kB hk NB396_0 BK396;replace HK:=sT hk;replace HB:=aZ (hb);replace HI0:=aZ (hi);clear hb hk hi)|(refine box_ev 3 #[.string ⟨#[]⟩,.string ⟨#[]⟩] 61 ?_;intro gb400 hg w18 hbox hb;replace HB:=sB hb;have BK400:=aZ hbox;have GW400:=sE hg;have GE400:=zW HW0 hg;replace HK:=sU hb;obtain ⟨NB396_400,NB400_396,BK396⟩:=sX hg hb BK396;have NB0_400:=aZ ((by rw [hg];exact Nat.ne_of_lt (IsS44.lt (show IsS44 w0 _ g s0_0 t399 from zi HI0)):g≠gb400));have NB400_0:=aZ ((by rw [hg];exact Nat.ne_of_gt (IsS44.lt (show IsS44 w0 _ g s0_0 t399 from zi HI0)):gb400≠g));replace HI0:=aZ (IsS44.below (zi HI0) hb);clear hb hbox hg;have hnb19:=NB400_396.out;have hnc19:=NB396_400.out;have hnb20:=NB400_0.out;have hnc20:=NB0_400.out;obtain ⟨hcz21_0,hfz21_0⟩:=zc BK400 0 (.string ⟨#[]⟩) rfl;obtain ⟨hcz21_1,hfz21_1⟩:=zc BK400 1 (.string ⟨#[]⟩) rfl)|(refine zg (some 7) func33 #[.pointer (some ⟨g,0,none⟩),.int .i64 12] ?_;(with_reducible refine (Y5.calls g s0_0 t399 12 t401 t402 w0 _ (zi HI0) bw A3.out).mono ?_);rintro e w22 ⟨rfl,hi,hb,hk⟩;refine ⟨_,rfl,?_⟩;replace BK396:=aZ (KeepBut.blk hk (g':=gb396) (o:=.cells #[.string ⟨#[]⟩,.string ⟨#[]⟩] 61 (0,0)) (zq BK396) NB396_0.out (by simp));replace BK400:=aZ (KeepBut.blk hk (g':=gb400) (o:=.cells #[.string t397,.string t398] 61 (0,0)) (zp BK400) NB400_0.out (by simp));replace HK:=sT hk;replace HB:=aZ (hb);replace HI0:=aZ (hi);clear hb hk hi;obtain ⟨hcz23_0,hfz23_0⟩:=zc BK400 0 (.string t397) rfl;obtain ⟨hcz23_1,hfz23_1⟩:=zc BK400 1 (.string t398) rfl;have hnb24:=NB396_0.out;have hnc24:=NB0_396.out;obtain ⟨hcz25_0,hfz25_0⟩:=zc BK396 0 (.string ⟨#[]⟩) rfl;obtain ⟨hcz25_1,hfz25_1⟩:=zc BK396 1 (.string ⟨#[]⟩) rfl))
  refine bodyPost_ret (results_cell_row rfl _ _ gb396 61 #[.string ((⟨#[48]⟩:ByteArray)++t397),.string t398] (0,0) _ rfl (zq BK396) underlying61 rfl (by kernel_rfl)) rfl ?_
  exact ⟨ze,zi HI0,bw,kk⟩
 rw [if_pos c4] at H
 obtain ⟨c4b0,c4b1⟩:=zY c4
 clear c4
 obtain ⟨rfl,rfl,rfl⟩:=zo3 H
 go_enter func52,ntmps52
 go_wp2_with (first|(refine box_ev 2 #[.string ⟨#[]⟩,.string ⟨#[]⟩] 61 ?_;intro gb396 hg w5 hbox hb;replace HB:=sB hb;have BK396:=aZ hbox;have GW396:=sE hg;have GE396:=zW HW0 hg;replace HK:=sU hb;have NB0_396:=aZ ((by rw [hg];exact Nat.ne_of_lt (IsS44.lt (show IsS44 w0 _ g s0_0 s0_1 from zi HI0)):g≠gb396));have NB396_0:=aZ ((by rw [hg];exact Nat.ne_of_gt (IsS44.lt (show IsS44 w0 _ g s0_0 s0_1 from zi HI0)):gb396≠g));replace HI0:=aZ (IsS44.below (zi HI0) hb);clear hb hbox hg)|(refine zg (some 5) func72 #[.pointer (some ⟨g,0,none⟩)] ?_;(with_reducible refine (Yy.calls k g s0_0 s0_1 t397 t398 t399 w0 _ (zi HI0) bw HG.out A2.out).mono ?_);rintro e w6 ⟨rfl,hi,hb,hk⟩;refine ⟨_,rfl,?_⟩;replace BK396:=kB hk NB396_0 BK396;replace HK:=sT hk;replace HB:=aZ (hb);replace HI0:=aZ (hi);clear hb hk hi)|(refine box_ev 3 #[.string ⟨#[]⟩,.string ⟨#[]⟩] 61 ?_;intro gb400 hg w7 hbox hb;replace HB:=sB hb;have BK400:=aZ hbox;have GW400:=sE hg;have GE400:=zW HW0 hg;replace HK:=sU hb;obtain ⟨NB396_400,NB400_396,BK396⟩:=sX hg hb BK396;have NB0_400:=aZ ((by rw [hg];exact Nat.ne_of_lt (IsS44.lt (show IsS44 w0 _ g s0_0 t399 from zi HI0)):g≠gb400));have NB400_0:=aZ ((by rw [hg];exact Nat.ne_of_gt (IsS44.lt (show IsS44 w0 _ g s0_0 t399 from zi HI0)):gb400≠g));replace HI0:=aZ (IsS44.below (zi HI0) hb);clear hb hbox hg;have hnb8:=NB400_396.out;have hnc8:=NB396_400.out;have hnb9:=NB400_0.out;have hnc9:=NB0_400.out;obtain ⟨hcz10_0,hfz10_0⟩:=zc BK400 0 (.string ⟨#[]⟩) rfl;obtain ⟨hcz10_1,hfz10_1⟩:=zc BK400 1 (.string ⟨#[]⟩) rfl)|(refine zg (some 7) func33 #[.pointer (some ⟨g,0,none⟩),.int .i64 12] ?_;(with_reducible refine (Y5.calls g s0_0 t399 12 t401 t402 w0 _ (zi HI0) bw A3.out).mono ?_);rintro e w11 ⟨rfl,hi,hb,hk⟩;refine ⟨_,rfl,?_⟩;replace BK396:=aZ (KeepBut.blk hk (g':=gb396) (o:=.cells #[.string ⟨#[]⟩,.string ⟨#[]⟩] 61 (0,0)) (zq BK396) NB396_0.out (by simp));replace BK400:=aZ (KeepBut.blk hk (g':=gb400) (o:=.cells #[.string t397,.string t398] 61 (0,0)) (zp BK400) NB400_0.out (by simp));replace HK:=sT hk;replace HB:=aZ (hb);replace HI0:=aZ (hi);clear hb hk hi;have hnb12:=NB396_0.out;have hnc12:=NB0_396.out;obtain ⟨hcz13_0,hfz13_0⟩:=zc BK396 0 (.string ⟨#[]⟩) rfl;obtain ⟨hcz13_1,hfz13_1⟩:=zc BK396 1 (.string ⟨#[]⟩) rfl))
 refine bodyPost_ret (results_cell_row rfl _ _ gb396 61 #[.string ⟨#[]⟩,.string ⟨#[]⟩] (0,0) _ rfl (zp BK396) underlying61 rfl (by kernel_rfl)) rfl ?_
 exact ⟨ze,zi HI0,bw,kk⟩
def Ym.l0:Nat→ByteArray→Int→Int→Option (Bool)
 | 0,_,_,_=>none
 | k+1,x0,x5,x6=>if x6<x5 then (if 0≤x6 then (if x6<(x0.size:Int) then (if (bt x0 x6)<48 then (some false) else (if (bt x0 x6)>57 then (some false) else (Ym.l0 k x0 x5 (wrap64 (x6+1))))) else (none)) else (none)) else (if x0.toList=([]:List UInt8) then (some false) else (if 0<(x0.size:Int) then (if (bt x0 0)=48 then (some (x0.toList==([48]:List UInt8))) else (some true)) else (none)))
def Ym.f (k:Nat) (a0:ByteArray):Option (Bool):=Ym.l0 k a0 (a0.size:Int) 0
theorem Ym.calls (k:Nat) (a0:ByteArray) (r:Bool) (w:World) (h:Ym.f k a0=some r) :
  Calls Tryz.prog 103 #[.string a0] w fun e w'=>e = .returned (.bool r)∧Drawn0 w w':=by
 have H:=h
 unfold Ym.f at H
 clear h
 have H':=aZ H
 clear H
 go_enter func103,ntmps103
 go_wp2
 go_loopg [6] k (fun kq v6 w'=>∃ (x6_1:Int),v6 = .int .i64 x6_1∧Aside0 (Ym.l0 kq a0 (a0.size:Int) x6_1=some r)∧Aside0 (kq≤k)∧Drawn0 w w')
 case atStart=>exact ⟨(0),zs,H',⟨Nat.le_refl _⟩,by repeat (first|exact Drawn0.refl _|apply Drawn0.step)⟩
 case round =>
  clear H'
  try clear c1
  obtain ⟨x6_1,rfl,HA,HK1,⟨m1,rfl⟩⟩:=hrel
  cases gk with
  | zero=>exact absurd HA.out (by simp [Ym.l0])
  | succ k1 =>
   have H:=HA.out
   clear HA
   simp only [Ym.l0] at H
   by_cases c2:x6_1<(a0.size:Int)
   case neg=>
    rw [if_neg c2] at H
    have c2b0:=decide_eq_false c2
    clear c2
    by_cases c9:a0.toList=([]:List UInt8)
    case neg=>
     rw [if_neg c9] at H
     obtain ⟨c9b0,c9b1⟩:=zX c9
     by_cases c10:0<(a0.size:Int)
     case neg=>
      rw [if_neg c10] at H
      cases H
     rw [if_pos c10] at H
     have c10b0:=decide_eq_true c10
     have c10b1:decide (0<a0.size)=true:=decide_eq_true (by omega)
     clear c10
     by_cases c12:(bt a0 0)=48
     case neg=>
      rw [if_neg c12] at H
      obtain ⟨c12b0,c12b1⟩:=zX c12
      obtain rfl:=Option.some.inj H
      have p11:0≤(0:Int):=(by omega)
      have q11:0<a0.size:=(by have:(0:Int)<(a0.size:Int):=zd;omega)
      have hx11:∀ h:0<a0.size,((a0[0]'h).toNat:Int)=bt a0 0:=bt_at a0 0
      clear p11
      have qi11:(0<(a0.size:Int))=True:=eq_true (zd)
      replace q11:=eq_true q11
      go_wp2
      go_ret
      exact ⟨zs,by repeat (first|exact Drawn0.refl _|apply Drawn0.step)⟩
     rw [if_pos c12] at H
     obtain ⟨c12b0,c12b1⟩:=zY c12
     clear c12
     obtain rfl:=Option.some.inj H
     have p11:0≤(0:Int):=(by omega)
     have q11:0<a0.size:=(by have:(0:Int)<(a0.size:Int):=zd;omega)
     have hx11:∀ h:0<a0.size,((a0[0]'h).toNat:Int)=bt a0 0:=bt_at a0 0
     clear p11
     have qi11:(0<(a0.size:Int))=True:=eq_true (zd)
     replace q11:=eq_true q11
     go_wp2
     go_ret
     exact ⟨zs,by repeat (first|exact Drawn0.refl _|apply Drawn0.step)⟩
    rw [if_pos c9] at H
    obtain ⟨c9b0,c9b1⟩:=zY c9
    clear c9
    obtain rfl:=Option.some.inj H
    go_wp2
    go_ret
    exact ⟨zs,by repeat (first|exact Drawn0.refl _|apply Drawn0.step)⟩
   rw [if_pos c2] at H
   have c2b0:=decide_eq_true c2
   clear c2
   by_cases c3:0≤x6_1
   case neg=>
    rw [if_neg c3] at H
    cases H
   rw [if_pos c3] at H
   have c3b0:=decide_eq_true c3
   clear c3
   by_cases c4:x6_1<(a0.size:Int)
   case neg=>
    rw [if_neg c4] at H
    cases H
   rw [if_pos c4] at H
   have c4b0:=decide_eq_true c4
   clear c4
   by_cases c6:(bt a0 x6_1)<48
   case neg=>
    rw [if_neg c6] at H
    have c6b0:=decide_eq_false c6
    clear c6
    by_cases c8:(bt a0 x6_1)>57
    case neg=>
     rw [if_neg c8] at H
     have c8b0:=decide_eq_false c8
     clear c8
     have H':=aZ H
     clear H
     have p5:0≤(x6_1:Int):=zd
     have q5:x6_1<(a0.size:Int):=zd
     have hx5:=bt_at a0 x6_1
     replace p5:=eq_true p5
     replace q5:=eq_true q5
     have p7:0≤(x6_1:Int):=zd
     have q7:x6_1<(a0.size:Int):=zd
     have hx7:=bt_at a0 x6_1
     replace p7:=eq_true p7
     replace q7:=eq_true q7
     go_wp2
     go_roundg k1
     case measure=>have:=HK1.out;omega
     case rel=>exact ⟨(wrap64 (x6_1+1)),zs,H',⟨by have:=HK1.out;omega⟩,by repeat (first|exact Drawn0.refl _|apply Drawn0.step)⟩
    rw [if_pos c8] at H
    have c8b0:=decide_eq_true c8
    clear c8
    obtain rfl:=Option.some.inj H
    have p5:0≤(x6_1:Int):=zd
    have q5:x6_1<(a0.size:Int):=zd
    have hx5:=bt_at a0 x6_1
    replace p5:=eq_true p5
    replace q5:=eq_true q5
    have p7:0≤(x6_1:Int):=zd
    have q7:x6_1<(a0.size:Int):=zd
    have hx7:=bt_at a0 x6_1
    replace p7:=eq_true p7
    replace q7:=eq_true q7
    go_wp2
    go_ret
    exact ⟨zs,by repeat (first|exact Drawn0.refl _|apply Drawn0.step)⟩
   rw [if_pos c6] at H
   have c6b0:=decide_eq_true c6
   clear c6
   obtain rfl:=Option.some.inj H
   have p5:0≤(x6_1:Int):=zd
   have q5:x6_1<(a0.size:Int):=zd
   have hx5:=bt_at a0 x6_1
   replace p5:=eq_true p5
   replace q5:=eq_true q5
   go_wp2
   go_ret
   exact ⟨zs,by repeat (first|exact Drawn0.refl _|apply Drawn0.step)⟩
def Y4.l0:Nat→List Int→Option (List Int)
 | 0,_=>none
 | k+1,x0=>if (x0.length:Int)>0 then (if 0≤(wrap64 ((x0.length:Int)-1)) then (if (wrap64 ((x0.length:Int)-1))<(x0.length:Int) then (if (rd x0 (wrap64 ((x0.length:Int)-1)))=0 then (if (wrap64 ((x0.length:Int)-1))≤(x0.length:Int) then (Y4.l0 k (x0.take ((wrap64 ((x0.length:Int)-1)):Int).toNat)) else (none)) else (some x0)) else (none)) else (none)) else (some x0)
def Y4.f (k:Nat) (l0:List Int):Option (List Int):=Y4.l0 k l0
theorem Y4.mono_l:∀ k,(∀ y0,LeO (Y4.l0 k y0) (Y4.l0 (k+1) y0))
 | 0=>fun _ r h=>by simp [Y4.l0] at h
 | k+1=>by
  have ih0:=Y4.mono_l k
  ·intro y0
   unfold Y4.l0
   exact zM
theorem Y4.mono:∀ a0 k,LeO (Y4.f k a0) (Y4.f (k+1) a0):=by
 intro a0 k
 have ih0:=Y4.mono_l k
 unfold Y4.f
 exact zM
theorem Y4.calls (k:Nat) (P0_:Nat→Prop) (A0:Option Addr) (c0:Nat) (l0:List Int) (r:List Int) (w:World) (hs0:Kd.V (Kd.int .i64) 3 w w.heap.size (fun k_=>P0_ k_) (.slice A0 l0.length c0) l0) (h:Y4.f k l0=some r) :
  Calls Tryz.prog 141 #[.slice A0 l0.length c0] w fun e w'=>∃ v0_:Value,e = .returned (v0_)∧Kd.V (Kd.int .i64) 3 w' w.heap.size (fun k_=>(P0_ k_∨w.heap.size≤k_)) v0_ r∧Below w.heap.size w w':=by
 have HO0:=aZ (show Kd.V (Kd.int .i64) 3 w w.heap.size (fun k_=>(P0_ k_∨w.heap.size≤k_)) (.slice A0 l0.length c0) l0 from Kd.V_mono hs0 (fun k_ hk=>.inl hk))
 have HB:=aZ (Below.refl w.heap.size w)
 have H:=h
 unfold Y4.f at H
 clear h
 have H':=aZ H
 clear H
 go_enter func141,ntmps141
 go_wp2
 go_loopg [0] k (fun kq v0 w'=>∃ (x0_1:List Int),Aside0 (Y4.l0 kq x0_1=some r)∧Aside0 (kq≤k)∧Aside0 (Kd.V (Kd.int .i64) 3 w' w.heap.size (fun k_=>(P0_ k_∨w.heap.size≤k_)) v0 x0_1)∧Aside0 (Below w.heap.size w w'))
 case atStart=>exact ⟨(l0),H',⟨Nat.le_refl _⟩,⟨zV HO0⟩,⟨bw⟩⟩
 case round =>
  clear H'
  try clear c1
  obtain ⟨x0_1,HA,HK1,HO_0,HB⟩:=hrel
  cases gk with
  | zero=>exact absurd HA.out (by simp [Y4.l0])
  | succ k1 =>
   have H:=HA.out
   clear HA
   simp only [Y4.l0] at H
   by_cases c2:(x0_1.length:Int)>0
   case neg=>
    rw [if_neg c2] at H
    have c2b0:=decide_eq_false c2
    have c2b1:decide (0<x0_1.length)=false:=decide_eq_false (by omega)
    clear c2
    obtain rfl:=Option.some.inj H
    obtain ⟨Ao12,co12,rfl⟩:=Kd.V_slice HO_0.out
    go_wp2
    go_ret
    exact ⟨_,ze,zV HO_0,bw⟩
   rw [if_pos c2] at H
   have c2b0:=decide_eq_true c2
   have c2b1:decide (0<x0_1.length)=true:=decide_eq_true (by omega)
   clear c2
   obtain ⟨ji3,hji3⟩:∃ j_:Int,(wrap64 ((x0_1.length:Int)-1))=j_:=⟨_,rfl⟩
   (first|rw [hji3] at H|simp only [hji3] at H)
   have hji3w:(IntKind.i64.wrap ((x0_1.length:Int)-1))=ji3:=(i64_w _).trans hji3
   by_cases c4:0≤(ji3)
   case neg=>
    rw [if_neg c4] at H
    cases H
   rw [if_pos c4] at H
   have c4b0:=decide_eq_true c4
   clear c4
   by_cases c5:(ji3)<(x0_1.length:Int)
   case neg=>
    rw [if_neg c5] at H
    cases H
   rw [if_pos c5] at H
   have c5b0:=decide_eq_true c5
   clear c5
   by_cases c6:(rd x0_1 (ji3))=0
   case neg=>
    rw [if_neg c6] at H
    obtain ⟨c6b0,c6b1⟩:=zX c6
    obtain rfl:=Option.some.inj H
    obtain ⟨Ao11,co11,rfl⟩:=Kd.V_slice HO_0.out
    have p403:0≤((ji3):Int):=zd
    have q403:(ji3)<(x0_1.length:Int):=zd
    obtain ⟨ad403,e403,hx403_0⟩:=Kd.at_int (Kd.V_reads' HO_0.out).2.2 (ji3) p403 q403
    cases e403
    replace p403:=eq_true p403
    replace q403:=eq_true q403
    go_wp2
    go_ret
    exact ⟨_,by first|rfl|(simp [errW_none,errW_some] <;> rfl)|(simp only [← hji3];first|rfl|(simp [errW_none,errW_some] <;> rfl))|(simp [*,errW_none,errW_some] <;> rfl),zV HO_0,bw⟩
   rw [if_pos c6] at H
   obtain ⟨c6b0,c6b1⟩:=zY c6
   clear c6
   have c7b0:=eq_true (zd:0≤(ji3))
   by_cases c8:(ji3)≤(x0_1.length:Int)
   case neg=>
    rw [if_neg c8] at H
    cases H
   rw [if_pos c8] at H
   have c8b0:=eq_true c8
   have c8b1:=decide_eq_true c8
   clear c8
   obtain ⟨y404,hy404⟩:∃ y_:List Int,y_=(x0_1.take ((ji3):Int).toNat):=⟨_,rfl⟩
   replace H:(Y4.l0 k1 y404)=some r:=zy hy404 H
   have Ny404:=aZ hy404
   clear hy404
   have H':=aZ H
   clear H
   obtain ⟨Ao9,co9,rfl⟩:=Kd.V_slice HO_0.out
   have p403:0≤((ji3):Int):=zd
   have q403:(ji3)<(x0_1.length:Int):=zd
   obtain ⟨ad403,e403,hx403_0⟩:=Kd.at_int (Kd.V_reads' HO_0.out).2.2 (ji3) p403 q403
   cases e403
   replace p403:=eq_true p403
   replace q403:=eq_true q403
   have q10:((ji3):Int)≤((x0_1.length:Int):Int):=zd
   obtain ⟨i010,hi010,_,hsz10,_⟩:=info_parts info3
   have hroom10:x0_1.length≤co9:=(Kd.V_reads' HO_0.out).2.1
   have hC10:Kd.F (Kd.int .i64) _ _ (some ad403) x0_1.length x0_1:=(Kd.V_at (base:=w.heap.size) HO_0.out).2.2
   have hcut10:=cut_to (P:=Tryz.prog) 65 3 .i64 underlying65 hi010 (some ad403) x0_1.length co9 (ji3) (zd) q10 hroom10
   have hr10:=Kd.F_take (m:=((ji3):Int).toNat) hC10 (by omega)
   have hy10:y404.length=((ji3):Int).toNat:=(by rw [Ny404.out,List.length_take];omega)
   rw [← Ny404.out] at hr10
   rw [← hy10] at hcut10
   have HO408:=aZ (show Kd.V (Kd.int .i64) 3 _ w.heap.size _ (.slice (some ad403) y404.length co9) y404 from Kd.V_mk (by omega) hr10)
   have HC408:=aZ (show y404.length≤co9 from by omega)
   clear hr10 hC10 hroom10 hi010 hsz10
   have KY10:=aZ hy10
   clear hy10
   replace q10:=eq_true q10
   go_wp2
   go_roundg k1
   case measure=>have:=HK1.out;omega
   case rel=>exact ⟨(y404),H',⟨by have:=HK1.out;omega⟩,⟨zV HO408⟩,⟨bw⟩⟩
mutual
def Y1.l0:Nat→List Int→Int→Int→Int→Option (List Int)
 | 0,_,_,_,_=>none
 | k+1,x0,x3,x6,x7=>if x7<x6 then (if 0≤x7 then (if x7<(x0.length:Int) then ((some (x0.set (x7:Int).toNat (Int.tmod (wrap64 (x3+(rd x0 x7))) 10000):List Int)).bind fun y410=>(if (rd y410 x7)<0 then (Y1.l0 k (y410.set (x7:Int).toNat (wrap64 ((rd y410 x7)+10000))) (wrap64 ((wrap64 (Int.tdiv (wrap64 (x3+(rd x0 x7))) 10000))-1)) x6 (wrap64 (x7+1))) else (Y1.l0 k y410 (wrap64 (Int.tdiv (wrap64 (x3+(rd x0 x7))) 10000)) x6 (wrap64 (x7+1))))) else (none)) else (none)) else (Y1.l1 k x0 x3)
def Y1.l1:Nat→List Int→Int→Option (List Int)
 | 0,_,_=>none
 | k+1,x0,x3=>if x3 > 0 then (if x0.length<17592186044416 then (Y1.l1 k (x0++[Int.tmod x3 10000]) (wrap64 (Int.tdiv x3 10000))) else (none)) else ((Y4.f k x0).bind fun t417=>(some t417))
end
def Y1.f (k:Nat) (l0:List Int):Option (List Int):=Y1.l0 k l0 0 (l0.length:Int) 0
theorem Y1.mono_l:∀ k,(∀ y0 y1 y2 y3,LeO (Y1.l0 k y0 y1 y2 y3) (Y1.l0 (k+1) y0 y1 y2 y3))∧(∀ y0 y1,LeO (Y1.l1 k y0 y1) (Y1.l1 (k+1) y0 y1))
 | 0=>⟨fun _ _ _ _ r h=>by simp [Y1.l0] at h,fun _ _ r h=>by simp [Y1.l1] at h⟩
 | k+1=>by
  obtain ⟨ih0,ih1⟩:=Y1.mono_l k
  refine ⟨?_,?_⟩
  ·intro y0 y1 y2 y3
   unfold Y1.l0
   have m0:=Y4.mono
   exact zM
  ·intro y0 y1
   unfold Y1.l1
   have m0:=Y4.mono
   exact zM
theorem Y1.mono:∀ a0 k,LeO (Y1.f k a0) (Y1.f (k+1) a0):=by
 intro a0 k
 obtain ⟨ih0,ih1⟩:=Y1.mono_l k
 unfold Y1.f
 have m0:=Y4.mono
 exact zM
theorem Y1.calls (k:Nat) (P0_:Nat→Prop) (u9000_:Value) (l0:List Int) (r:List Int) (w0 w:World) (hB:Below w0.heap.size w0 w) (ho0:Kd.R (Kd.int .i64) 3 w w0.heap.size P0_ u9000_ l0) (h:Y1.f k l0=some r) :
  Calls Tryz.prog 150 #[u9000_] w fun e w'=>∃ v0_:Value,e = .returned (v0_)∧Kd.V (Kd.int .i64) 3 w' w0.heap.size (fun k_=>(P0_ k_∨w.heap.size≤k_)) v0_ r∧Below w0.heap.size w0 w'∧Kept w w' (fun k_=>P0_ k_):=by
 have HO0:=aZ (show Kd.R (Kd.int .i64) 3 w w0.heap.size (fun k_=>(P0_ k_∨w.heap.size≤k_)) u9000_ l0 from Kd.R_mono ho0 (fun k_ hk=>(.inl hk)))
 have HK:=aZ (Kept.refl w (fun k_=>P0_ k_))
 have HW0:=aZ hB.size
 have HB:=aZ hB
 clear hB
 have H:=h
 unfold Y1.f at H
 clear h
 have H':=aZ H
 clear H
 obtain ⟨Ao2,co2,rfl⟩:=Kd.R_slice HO0.out
 go_enter func150,ntmps150
 go_wp2
 go_loopg [3,7] k (fun kq v3 v7 w'=>∃ (x0_1:List Int) (x3_1:Int) (x7_1:Int),v3 = .int .i64 x3_1∧v7 = .int .i64 x7_1∧Aside0 (Y1.l0 kq x0_1 x3_1 (l0.length:Int) x7_1=some r)∧Aside0 (kq≤k)∧Aside0 (Kd.R (Kd.int .i64) 3 w' w0.heap.size (fun k_=>(P0_ k_∨w.heap.size≤k_)) (.slice Ao2 l0.length co2) x0_1)∧Aside0 (Kept w w' (fun k_=>P0_ k_))∧Aside0 (Below w0.heap.size w0 w'))
 case atStart=>exact ⟨(l0),(0),(0),zs,zs,H',⟨Nat.le_refl _⟩,⟨zR HO0⟩,⟨kw⟩,⟨bw⟩⟩
 case round =>
  clear H'
  try clear c1
  obtain ⟨x0_1,x3_1,x7_1,rfl,rfl,HA,HK1,HO_0,HK,HB⟩:=hrel
  have hl0_1:=(Kd.R_reads' HO_0.out).1
  rw [hl0_1] at HO_0
  (try simp only [hl0_1])
  cases gk with
  | zero=>exact absurd HA.out (by simp [Y1.l0])
  | succ k1 =>
   have H:=HA.out
   clear HA
   simp only [Y1.l0] at H
   by_cases c3:x7_1<(l0.length:Int)
   case neg=>
    rw [if_neg c3] at H
    have c3b0:=decide_eq_false c3
    (try (have c3b0_hl0_1:=c3b0;simp only [hl0_1] at c3b0_hl0_1))
    clear c3
    have H':=aZ H
    clear H
    go_wp2
    go_loopg [0,3] k1 (fun kq v0 v3 w'=>∃ (x0_2:List Int) (x3_2:Int),v3 = .int .i64 x3_2∧Aside0 (Y1.l1 kq x0_2 x3_2=some r)∧Aside0 (kq≤k1)∧Aside0 (Kd.R (Kd.int .i64) 3 w' w0.heap.size (fun k_=>(P0_ k_∨w.heap.size≤k_)) v0 x0_2)∧Aside0 (Kept w w' (fun k_=>P0_ k_))∧Aside0 (Below w0.heap.size w0 w'))
    case atStart=>exact ⟨(x0_1),(x3_1),zs,H',⟨Nat.le_refl _⟩,⟨by (try simp only [hl0_1]);(with_reducible repeat (first|apply Kd.R_alloc|apply Kd.R_drewN|apply Kd.R_drew));exact HO_0.out⟩,⟨kw⟩,⟨bw⟩⟩
    case round =>
     clear H'
     try clear c1
     try clear c3
     try clear c3b0
     try clear c4
     try clear c4b0
     try clear q4
     try clear hx4
     try clear c5
     try clear c5b0
     try clear q6
     try clear hx6
     try clear hf6
     try clear c7
     try clear c7b0
     try clear q8
     try clear hx8
     try clear hf8
     try clear hx409_0
     try clear hx411_0
     try clear hx412_0
     try clear hx6_0
     try clear hx8_0
     try clear q409
     try clear q411
     try clear q412
     try clear q6
     try clear q8
     obtain ⟨x0_2,x3_2,rfl,HA,HK2,HO_0,HK,HB⟩:=hrel
     cases gk with
     | zero=>exact absurd HA.out (by simp [Y1.l1])
     | succ k2 =>
      have H:=HA.out
      clear HA
      simp only [Y1.l1] at H
      by_cases c15:x3_2 > 0
      case neg=>
       rw [if_neg c15] at H
       have c15b0:=decide_eq_false c15
       clear c15
       obtain ⟨t417,A18,H⟩:=zB H
       obtain rfl:=Option.some.inj H
       obtain ⟨Ao19,co19,rfl⟩:=Kd.R_slice HO_0.out
       go_wp2_with (first|(refine zg (some 47) func141 #[.slice Ao19 x0_2.length co19] ?_;(with_reducible refine (Y4.calls k2 (fun k_=>some k_=(.slice Ao19 x0_2.length co19:Value).ownBlock) _ _ x0_2 t417 _ ?side1 A18.out).mono ?_);(case side1=>exact Kd.R_V (Kd.R_tight rfl (HO_0.out)));rintro e w20 ⟨v418,rfl,ho0,hb⟩;refine ⟨_,rfl,?_⟩;have HO419:=yL (fun k_=>(P0_ k_∨w.heap.size≤k_)) ho0 (fun k_ hk_=>Or.elim hk_ (fun hs_=>((HO_0.out).1 k_ hs_.symm)) (fun hn_=>(.inr (Nat.le_trans (by first|exact HK.out.1|exact (show Kept w _ (fun k_=>P0_ k_) from kw).1) hn_))));replace HO_0:=yR HO_0 hb;replace HK:=aZ (Kept.below (S:=(fun k_=>P0_ k_)) kw hb);replace HB:=sB hb;clear hb ho0))
       go_ret
       exact ⟨_,ze,zV HO419,bw,kw⟩
      rw [if_pos c15] at H
      have c15b0:=decide_eq_true c15
      clear c15
      by_cases c16:x0_2.length<17592186044416
      case neg=>
       rw [if_neg c16] at H
       cases H
      rw [if_pos c16] at H
      have LMc16:=aZ c16
      clear c16
      obtain ⟨y414,hy414⟩:∃ y_:List Int,y_=(x0_2++[Int.tmod x3_2 10000]):=⟨_,rfl⟩
      replace H:(Y1.l1 k2 y414 (wrap64 (Int.tdiv x3_2 10000)))=some r:=zy hy414 H
      have Ny414:=aZ hy414
      clear hy414
      have H':=aZ H
      clear H
      go_wp2_with (first|((with_reducible refine gate_builtin (b:=.append) (xs:=#[.tmp 41,.tmp 44]) rfl ?_);at_builtin;refine Kd.R_append (Kd.int .i64) (w0:=w0) w0.heap.size rfl (.tmp 41) (.tmp 44) 65 3 (.int .i64 0) 8 rfl underlying65 info3 rfl (by decide) (by omega) u0 x0_2 (Int.tmod x3_2 10000) [.int .i64 (Int.tmod x3_2 10000)] (fun k_=>(P0_ k_∨w.heap.size≤k_)) (fun _=>False) rfl rfl ?aP (fun _ hk=>hk.elim) ?aF ?aO ?aB ?aS ?aL ?_;(case aP=>exact rfl);(case aB=>exact bw);(case aF=>exact (fun k_ hk=>(.inr (Nat.le_trans (by first|exact HK.out.1|exact (show Kept w _ (fun k_=>P0_ k_) from kw).1) hk))));(case aO=>exact (zR HO_0));(case aS=>exact bs);(case aL=>have:=LMc16.out;omega);intro v415 w17 ho hb hg hat;rw [← Ny414.out] at ho;replace HB:=aZ (hb);replace HK:=aZ (Kept.of_grown (S:=(fun k_=>P0_ k_)) hg kw (fun k_ e_=>(HO_0.out.1 k_ e_)));have HO416:=aZ (ho);clear HO_0;clear ho hb hg hat))
      go_roundg k2
      case measure=>have:=HK1.out;have:=HK2.out;omega
      case rel=>exact ⟨(y414),(wrap64 (Int.tdiv x3_2 10000)),zs,H',⟨by have:=HK1.out;have:=HK2.out;omega⟩,⟨by (try simp only [hl0_1]);(with_reducible repeat (first|apply Kd.R_alloc|apply Kd.R_drewN|apply Kd.R_drew));exact HO416.out⟩,⟨kw⟩,⟨bw⟩⟩
   rw [if_pos c3] at H
   have c3b0:=decide_eq_true c3
   (try (have c3b0_hl0_1:=c3b0;simp only [hl0_1] at c3b0_hl0_1))
   clear c3
   by_cases c4:0≤x7_1
   case neg=>
    rw [if_neg c4] at H
    cases H
   rw [if_pos c4] at H
   have c4b0:=decide_eq_true c4
   clear c4
   by_cases c5:x7_1<(x0_1.length:Int)
   case neg=>
    rw [if_neg c5] at H
    cases H
   rw [if_pos c5] at H
   have c5b0:=decide_eq_true c5
   (try (have c5b0_hl0_1:=c5b0;simp only [hl0_1] at c5b0_hl0_1))
   clear c5
   obtain ⟨y410,hy410⟩:∃ y_:List Int,y_=(x0_1.set (x7_1:Int).toNat (Int.tmod (wrap64 (x3_1+(rd x0_1 x7_1))) 10000)):=⟨_,rfl⟩
   replace H:(if (rd y410 x7_1)<0 then (Y1.l0 k1 (y410.set (x7_1:Int).toNat (wrap64 ((rd y410 x7_1)+10000))) (wrap64 ((wrap64 (Int.tdiv (wrap64 (x3_1+(rd x0_1 x7_1))) 10000))-1)) (l0.length:Int) (wrap64 (x7_1+1))) else (Y1.l0 k1 y410 (wrap64 (Int.tdiv (wrap64 (x3_1+(rd x0_1 x7_1))) 10000)) (l0.length:Int) (wrap64 (x7_1+1))))=some r:=zy hy410 H
   have Ny410:=aZ hy410
   clear hy410
   by_cases c7:(rd y410 x7_1)<0
   case neg=>
    rw [if_neg c7] at H
    have c7b0:=decide_eq_false c7
    clear c7
    have H':=aZ H
    clear H
    have p409:0≤(x7_1:Int):=zd
    have q409:x7_1<(x0_1.length:Int):=zd
    obtain ⟨ad409,e409,hx409_0⟩:=Kd.at_int (Kd.R_reads' HO_0.out).2.2 x7_1 p409 q409
    cases e409
    replace p409:=eq_true p409
    replace q409:=eq_true q409
    have p6:0≤(x7_1:Int):=zd
    have q6:(x7_1:Int)<((x0_1.length:Int):Int):=zd
    obtain ⟨go6,co6,eo6,gb6,gl6,cl6,HG6⟩:=Kd.R_form HO_0.out (by omega)
    (first|cases eo6|(injection eo6 with ea_ en_ ec_;(first|subst ea_|(injection ea_ with ea_;subst ea_));subst ec_;clear en_))
    have GB6:=aZ gb6
    have GG6:=aZ HG6
    clear gb6 gl6 HG6
    have HMgo6:=aZ (show (P0_ go6∨w.heap.size≤go6) from (HO_0.out.1 _ rfl))
    (first|simp only [add_plain] at hx409_0|skip)
    obtain ⟨hx6_0,hf6_0⟩:=Kd.R_celln 0 HO_0.out (x7_1:Int) p6 q6
    replace p6:=eq_true p6
    replace q6:=eq_true q6
    have HP13:=Kd.R_putg HO_0.out (x7_1:Int) (Int.tmod (wrap64 (x3_1+(rd x0_1 x7_1))) 10000)
    go_wp2_with (first|((with_reducible refine gate_store (t:=3) (p:=20) rfl ?_);refine store_event (t:=3) (p:=20) (v:=?vo_w14) (w1:=(wr.setCell ⟨go6,(x7_1:Int).toNat,none⟩ (.int .i64 (Int.tmod (wrap64 (x3_1+(rd x0_1 x7_1))) 10000)))) ?hg ?ho ?hn ?hr ?_;(case ho=>rfl);(case hg=>rfl);(case hn=>rfl);(case hr=>first|(go_simp;done)|(go_simp;rfl));intro w14 hw;have hg:wr.grownBy w14 (some go6):=(by rw [hw];exact HP13.2);have hp_:Kd.R (Kd.int .i64) 3 w14 w0.heap.size (fun k_=>(P0_ k_∨w.heap.size≤k_)) (.slice (some ⟨go6,0,none⟩) x0_1.length co2) y410:=(by rw [hw,Ny410.out];exact HP13.1);clear HP13;replace HB:=aZ ((by rw [hw];exact below_set (HB.out) GB6.out:Below w0.heap.size w0 w14));replace HK:=aZ (Kept.of_grown (S:=(fun k_=>P0_ k_)) hg kw (fun k_ e_=>(HO_0.out.1 k_ e_)));replace HO_0:=aZ (hp_);clear hg hw hp_;have p411:0≤(x7_1:Int):=zd;have q411:x7_1<(y410.length:Int):=(by have h_:(x7_1:Int)<((x0_1.length:Int):Int):=zd;first|(have e_:=(Kd.R_reads' HO_0.out).1;omega)|simpa only [Ny410.out,List.length_set] using h_);have ql411:((x7_1:Int)<((x0_1.length:Int):Int))=True:=eq_true (zd);obtain ⟨ad411,e411,hx411_0⟩:=Kd.at_int (Kd.R_reads' HO_0.out).2.2 x7_1 p411 q411;obtain rfl:(⟨go6,0,none⟩:Addr)=ad411:=(by injection e411);(first|simp only [add_plain] at hx411_0|simp only [add_at] at hx411_0|simp only [Addr.add,Nat.zero_add] at hx411_0|skip);replace p411:=eq_true p411;replace q411:=eq_true q411))
    (try simp only [← hl0_1])
    go_roundg k1
    case measure=>have:=HK1.out;omega
    case rel=>exact ⟨(y410),(wrap64 (Int.tdiv (wrap64 (x3_1+(rd x0_1 x7_1))) 10000)),(wrap64 (x7_1+1)),zs,zs,H',⟨by have:=HK1.out;omega⟩,⟨by (try simp only [hl0_1]);(with_reducible repeat (first|apply Kd.R_alloc|apply Kd.R_drewN|apply Kd.R_drew));exact HO_0.out⟩,⟨kw⟩,⟨bw⟩⟩
   rw [if_pos c7] at H
   have c7b0:=decide_eq_true c7
   clear c7
   obtain ⟨y413,hy413⟩:∃ y_:List Int,y_=(y410.set (x7_1:Int).toNat (wrap64 ((rd y410 x7_1)+10000))):=⟨_,rfl⟩
   replace H:(Y1.l0 k1 y413 (wrap64 ((wrap64 (Int.tdiv (wrap64 (x3_1+(rd x0_1 x7_1))) 10000))-1)) (l0.length:Int) (wrap64 (x7_1+1)))=some r:=zy hy413 H
   have Ny413:=aZ hy413
   clear hy413
   have H':=aZ H
   clear H
   have p409:0≤(x7_1:Int):=zd
   have q409:x7_1<(x0_1.length:Int):=zd
   obtain ⟨ad409,e409,hx409_0⟩:=Kd.at_int (Kd.R_reads' HO_0.out).2.2 x7_1 p409 q409
   cases e409
   replace p409:=eq_true p409
   replace q409:=eq_true q409
   have p6:0≤(x7_1:Int):=zd
   have q6:(x7_1:Int)<((x0_1.length:Int):Int):=zd
   obtain ⟨go6,co6,eo6,gb6,gl6,cl6,HG6⟩:=Kd.R_form HO_0.out (by omega)
   (first|cases eo6|(injection eo6 with ea_ en_ ec_;(first|subst ea_|(injection ea_ with ea_;subst ea_));subst ec_;clear en_))
   have GB6:=aZ gb6
   have GG6:=aZ HG6
   clear gb6 gl6 HG6
   have HMgo6:=aZ (show (P0_ go6∨w.heap.size≤go6) from (HO_0.out.1 _ rfl))
   (first|simp only [add_plain] at hx409_0|skip)
   obtain ⟨hx6_0,hf6_0⟩:=Kd.R_celln 0 HO_0.out (x7_1:Int) p6 q6
   replace p6:=eq_true p6
   replace q6:=eq_true q6
   have HP9:=Kd.R_putg HO_0.out (x7_1:Int) (Int.tmod (wrap64 (x3_1+(rd x0_1 x7_1))) 10000)
   go_wp2_with (first|((with_reducible refine gate_store (t:=3) (p:=20) rfl ?_);refine store_event (t:=3) (p:=20) (v:=?vo_w10) (w1:=(wr.setCell ⟨go6,(x7_1:Int).toNat,none⟩ (.int .i64 (Int.tmod (wrap64 (x3_1+(rd x0_1 x7_1))) 10000)))) ?hg ?ho ?hn ?hr ?_;(case ho=>rfl);(case hg=>rfl);(case hn=>rfl);(case hr=>first|(go_simp;done)|(go_simp;rfl));intro w10 hw;have hg:wr.grownBy w10 (some go6):=(by rw [hw];exact HP9.2);have hp_:Kd.R (Kd.int .i64) 3 w10 w0.heap.size (fun k_=>(P0_ k_∨w.heap.size≤k_)) (.slice (some ⟨go6,0,none⟩) x0_1.length co2) y410:=(by rw [hw,Ny410.out];exact HP9.1);clear HP9;replace HB:=aZ ((by rw [hw];exact below_set (HB.out) GB6.out:Below w0.heap.size w0 w10));replace HK:=aZ (Kept.of_grown (S:=(fun k_=>P0_ k_)) hg kw (fun k_ e_=>(HO_0.out.1 k_ e_)));replace HO_0:=aZ (hp_);clear hg hw hp_;have p411:0≤(x7_1:Int):=zd;have q411:x7_1<(y410.length:Int):=(by have h_:(x7_1:Int)<((x0_1.length:Int):Int):=zd;first|(have e_:=(Kd.R_reads' HO_0.out).1;omega)|simpa only [Ny410.out,List.length_set] using h_);have ql411:((x7_1:Int)<((x0_1.length:Int):Int))=True:=eq_true (zd);obtain ⟨ad411,e411,hx411_0⟩:=Kd.at_int (Kd.R_reads' HO_0.out).2.2 x7_1 p411 q411;obtain rfl:(⟨go6,0,none⟩:Addr)=ad411:=(by injection e411);(first|simp only [add_plain] at hx411_0|simp only [add_at] at hx411_0|simp only [Addr.add,Nat.zero_add] at hx411_0|skip);replace p411:=eq_true p411;replace q411:=eq_true q411;have p412:0≤(x7_1:Int):=zd;have q412:x7_1<(y410.length:Int):=(by have h_:(x7_1:Int)<((x0_1.length:Int):Int):=zd;first|(have e_:=(Kd.R_reads' HO_0.out).1;omega)|simpa only [Ny410.out,List.length_set] using h_);have ql412:((x7_1:Int)<((x0_1.length:Int):Int))=True:=eq_true (zd);obtain ⟨ad412,e412,hx412_0⟩:=Kd.at_int (Kd.R_reads' HO_0.out).2.2 x7_1 p412 q412;obtain rfl:(⟨go6,0,none⟩:Addr)=ad412:=(by injection e412);(first|simp only [add_plain] at hx412_0|simp only [add_at] at hx412_0|simp only [Addr.add,Nat.zero_add] at hx412_0|skip);replace p412:=eq_true p412;replace q412:=eq_true q412;have p8:0≤(x7_1:Int):=zd;have q8:(x7_1:Int)<((x0_1.length:Int):Int):=zd;obtain ⟨hx8_0,hf8_0⟩:=Kd.R_celln 0 HO_0.out (x7_1:Int) p8 q8;replace p8:=eq_true p8;replace q8:=eq_true q8;obtain ⟨hy11_,hz11_⟩:=Kd.R_celln 0 HO_0.out (x7_1:Int) (zd) (zd);have HP11:=Kd.R_putg HO_0.out (x7_1:Int) (wrap64 ((rd y410 x7_1)+10000)))|((with_reducible refine gate_store (t:=3) (p:=33) rfl ?_);refine store_event (t:=3) (p:=33) (v:=?vo_w12) (w1:=(w10.setCell ⟨go6,(x7_1:Int).toNat,none⟩ (.int .i64 (wrap64 ((rd y410 x7_1)+10000))))) ?hg ?ho ?hn ?hr ?_;(case ho=>rfl);(case hg=>rfl);(case hn=>rfl);(case hr=>first|(go_simp;done)|(go_simp;rfl));intro w12 hw;have hg:w10.grownBy w12 (some go6):=(by rw [hw];exact HP11.2);have hp_:Kd.R (Kd.int .i64) 3 w12 w0.heap.size (fun k_=>(P0_ k_∨w.heap.size≤k_)) (.slice (some ⟨go6,0,none⟩) x0_1.length co2) y413:=(by rw [hw,Ny413.out];exact HP11.1);clear HP11;replace HB:=aZ ((by rw [hw];exact below_set (HB.out) GB6.out:Below w0.heap.size w0 w12));replace HK:=aZ (Kept.of_grown (S:=(fun k_=>P0_ k_)) hg kw (fun k_ e_=>(HO_0.out.1 k_ e_)));replace HO_0:=aZ (hp_);clear hg hw hp_))
   (try simp only [← hl0_1])
   go_roundg k1
   case measure=>have:=HK1.out;omega
   case rel=>exact ⟨(y413),(wrap64 ((wrap64 (Int.tdiv (wrap64 (x3_1+(rd x0_1 x7_1))) 10000))-1)),(wrap64 (x7_1+1)),zs,zs,H',⟨by have:=HK1.out;omega⟩,⟨by (try simp only [hl0_1]);(with_reducible repeat (first|apply Kd.R_alloc|apply Kd.R_drewN|apply Kd.R_drew));exact HO_0.out⟩,⟨kw⟩,⟨bw⟩⟩
end Go.Proofs.YtaffkbemjbfajaaGreatDoor.PNumOrders
