-- By a program of this session: functions as plain Lean functions, each with its proof over the machine.
import Derived.Test.YtaffkbemjbfajaaGreatDoorPNumOrdersx0
import Derived.Test.YtaffkbemjbfajaaGreatDoorPNumOrdersx2
import Derived.Test.YtaffkbemjbfajaaGreatDoorPNumOrdersx1
import Derived.Test.YtaffkbemjbfajaaGreatDoorPNumOrdersx3
import Derived.Test.YtaffkbemjbfajaaGreatDoorPNumOrdersx4
import Derived.Test.YtaffkbemjbfajaaGreatDoorPNumOrdersx5
namespace Go.Proofs.YtaffkbemjbfajaaGreatDoor.PNumOrders
open Go.RowKit Go.Proofs.Tryz Go.Proofs.YtaffkbemjbfajaaGreatDoorW.PrintWords Go.Proofs.YtaffkbemjbfajaaGreatDoorW.PrintLast Go.Proofs.YtaffkbemjbfajaaGreatDoorW.PrintMore
attribute [local go_sem] max2_int min2_int max_two min_two max_three min_three max_four min_four
set_option linter.unusedVariables false
set_option linter.unusedSimpArgs false
mutual
def Y0.j0:Nat→ByteArray→ByteArray→ByteArray→ByteArray→Option (Bool)
 | 0,_,_,_,_=>none
 | k+1,x840000,x840001,x841000,x841001=>(Yn.f k (([(⟨x840000,x840001⟩:S61),(⟨x841000,x841001⟩:S61)]:List (S61)))).bind fun t846=>((Yb.f k x840000 x840001).bind fun t847=>((Y0u.f k x840000 x840001 x841000 x841001).bind fun bt848=>(if t846=0 then ((YI.f k x840000 x840001).bind fun bt850=>((YI.f k x841000 x841001).bind fun bt857=>((Y07.f k bt850.1 bt850.2.1 bt850.2.2 bt857.1 bt857.2.1 bt857.2.2).bind fun t864=>(Y0.j1 k t846 t847 bt848.1 bt848.2 t864 x840000 x840001)))) else (Y0.j1 k t846 t847 bt848.1 bt848.2 0 x840000 x840001))))
def Y0.j1:Nat→Int→Int→Int→Int→Int→ByteArray→ByteArray→Option (Bool)
 | 0,_,_,_,_,_,_,_=>none
 | k+1,x6,x7,x8,x9,x10,x840000,x840001=>(YR.f k).bind fun t865=>(if t865=true then (if x8=x10 then (Y0.j2 k x7 (x9 != x6) x840000 x840001) else (Y0.j2 k x7 true x840000 x840001)) else (Y0.j2 k x7 true x840000 x840001))
def Y0.j2:Nat→Int→Bool→ByteArray→ByteArray→Option (Bool)
 | 0,_,_,_,_=>none
 | k+1,x7,x61,x840000,x840001=>if x61=true then (some false) else ((Y0j.f k 0).bind fun bt866=>(if x7=0 then ((YI.f k x840000 x840001).bind fun bt874=>(Y0.j3 k x7 x840000 x840001 bt874.1 bt874.2.1 bt874.2.2)) else (Y0.j3 k x7 x840000 x840001 bt866.1 bt866.2.1 bt866.2.2)))
def Y0.j3:Nat→Int→ByteArray→ByteArray→Bool→List Int→List Int→Option (Bool)
 | 0,_,_,_,_,_,_=>none
 | k+1,x7,x840000,x840001,x874000,x874001,x874002=>(Y0n.f k x840000 x840001).bind fun bt881=>((Y0r.f k x840000 x840001).bind fun bt885=>((Y0s.f k x840000 x840001).bind fun bt889=>((Yq.f k x874000 x874001 x874002).bind fun bt892=>(if bt892.2=true then (if x7=0 then (if bt892.1≥(-2147483648) then (Y0.j4 k x7 bt881.2.2 bt885.2.2 bt889.1 bt889.2.1 bt889.2.2 bt892.1 (decide (bt892.1≤2147483647)) x874000 x874001 x874002 bt881.1 bt881.2.1 bt885.1 bt885.2.1) else (Y0.j4 k x7 bt881.2.2 bt885.2.2 bt889.1 bt889.2.1 bt889.2.2 bt892.1 false x874000 x874001 x874002 bt881.1 bt881.2.1 bt885.1 bt885.2.1)) else (Y0.j4 k x7 bt881.2.2 bt885.2.2 bt889.1 bt889.2.1 bt889.2.2 bt892.1 false x874000 x874001 x874002 bt881.1 bt881.2.1 bt885.1 bt885.2.1)) else (Y0.j4 k x7 bt881.2.2 bt885.2.2 bt889.1 bt889.2.1 bt889.2.2 bt892.1 false x874000 x874001 x874002 bt881.1 bt881.2.1 bt885.1 bt885.2.1)))))
def Y0.j4:Nat→Int→Int→Int→Int→Bool→Int→Int→Bool→Bool→List Int→List Int→ByteArray→ByteArray→ByteArray→ByteArray→Option (Bool)
 | 0,_,_,_,_,_,_,_,_,_,_,_,_,_,_,_=>none
 | k+1,x7,x13,x15,x16,x17,x18,x19,x20,x874000,x874001,x874002,x885000,x885001,x889000,x889001=>if x20=true then (Y0.j5 k x7 x13 x15 x16 x17 x18 x19 x20 x874000 x874001 x874002 x885000 x885001 x889000 x889001) else (Y0.j5 k x7 x13 x15 x16 x17 x18 0 x20 x874000 x874001 x874002 x885000 x885001 x889000 x889001)
def Y0.j5:Nat→Int→Int→Int→Int→Bool→Int→Int→Bool→Bool→List Int→List Int→ByteArray→ByteArray→ByteArray→ByteArray→Option (Bool)
 | 0,_,_,_,_,_,_,_,_,_,_,_,_,_,_,_=>none
 | k+1,x7,x13,x15,x16,x17,x18,x19,x20,x874000,x874001,x874002,x885000,x885001,x889000,x889001=>(Yw.f k x874000 x874001 x874002).bind fun bt894=>((Yu.f x885000 x885001 x13 bt894.1 bt894.2.1 bt894.2.2 x7).bind fun t901=>(if t901=true then ((Y09.f k x874000 x874001 x874002).bind fun bt902=>((Yu.f x889000 x889001 x15 bt902.1 bt902.2.1 bt902.2.2 x7).bind fun t909=>(if t909=true then (if x16=x19 then (if (x17==x20)=true then (some (x18==x7)) else (some false)) else (some false)) else (some false)))) else (some false)))
end
def Y0.f (k:Nat) (l0:List Int):Option (Bool):=(YO.f k l0 0).bind fun bt833=>((YO.f k l0 bt833.2.2).bind fun bt836=>((Yk.f l0 bt836.2.2 4).bind fun bt841=>(if bt841.1=true then (Y0.j0 k bt833.1 bt833.2.1 bt833.1 bt833.2.1) else (Y0.j0 k bt833.1 bt833.2.1 bt836.1 bt836.2.1))))
def Y0.T5:Bool×List (List Nat×List Nat):=(true,[([],[]),([],[]),([0,1],[0,1]),([2],[2]),([],[]),([4,3],[4]),([3,5,0,1,2,3],[3]),([5,6,0,1,2,3,4,5,6],[5])])
def Y0.B5:List Nat:=[0,0,3,7,0,31,63,127]
theorem Y0.tab5:rtab .any (opsOf Tryz.f18 5)=Y0.T5:=by kernel_rfl
theorem Y0.bits5:waitsOk Y0.T5.2 Y0.B5=true:=by kernel_rfl
def Y0.T22:Bool×List (List Nat×List Nat):=(true,[([],[]),([],[]),([],[]),([2],[2]),([],[]),([0,1,3,4,3],[0,1,3,4]),([5,5],[5]),([6],[6]),([6],[6]),([6],[6]),([9,6,6],[6,9]),([6],[6]),([7,8,10,11,10,6],[6,7,8,10,11]),([6,12],[6,12]),([13,12],[13]),([14],[14]),([14],[14]),([15,16,14],[14,15,16]),([14,17],[14,17]),([18,14],[18]),([19],[19]),([19],[19]),([20,21,19],[19,20,21]),([19,22],[19,22]),([23,19],[23]),([24],[24]),([24],[24]),([25,26,24],[24,25,26]),([24,27],[24,27]),([28,24,0,1,2,3,4,5,6,7,8,9,10,11,12,13,14,15,16,17,18,19,20,21,22,23,24,25,26,27,28],[28])])
def Y0.B22:List Nat:=[0,0,0,4,0,31,63,127,127,127,639,127,4095,8191,16383,32767,32767,131071,262143,524287,1048575,1048575,4194303,8388607,16777215,33554431,33554431,134217727,268435455,536870911]
theorem Y0.tab22:rtab .any (opsOf Tryz.f18 22)=Y0.T22:=by kernel_rfl
theorem Y0.bits22:waitsOk Y0.T22.2 Y0.B22=true:=by kernel_rfl
theorem Y0.j2_dead {P:Prop} {r:Bool}:∀ k y0 y2 y3,Y0.j2 k y0 true y2 y3=some r→Aside0 (r=true)→P
 | 0,_,_,_,h,_=>by have h2:(none:Option Bool)=some r:=h;cases h2
 | k+1,_,_,_,h,hr=>by have h2:some false=some r:=h;exact absurd ((Option.some.inj h2).trans hr.out) (by decide)
set_option maxHeartbeats 80000000 in
set_option maxRecDepth 100000 in
theorem Y0.calls (k:Nat) (A0:Option Addr) (c0:Nat) (l0:List Int) (r:Bool) (w:World) (hr0:Kd.C (Kd.int .i64) w A0 l0.length l0) (hc0:l0.length≤c0) (hG:Tryz.Gl w) (h:Y0.f k l0=some r) (hr:Aside0 (r=true)) :
  Calls Tryz.prog 18 #[.slice A0 l0.length c0] w fun e w'=>e = .returned (.bool r)∧Below w.heap.size w w':=by
 have hu44:=underlying44
 have hu61:=underlying61
 have hu67:=underlying67
 have HG:=aZ hG
 clear hG
 have HR0:=aZ hr0
 have HC0:=aZ hc0
 clear hr0 hc0
 have HB:=aZ (Below.refl w.heap.size w)
 have H:=h
 unfold Y0.f at H
 clear h
 obtain ⟨⟨t833,t834,t835⟩,A2,H⟩:=zB H
 (try dsimp only at H)
 obtain ⟨⟨t836,t837,t838⟩,A3,H⟩:=zB H
 (try dsimp only at H)
 obtain ⟨⟨t841,t842⟩,A4,H⟩:=zB H
 (try dsimp only at H)
 have HC5:=aZ H
 clear H
 go_enter func18,ntmps18
 go_upto_if 29 with (first|(refine box_ev 23 #[.slice A0 l0.length c0,.int .i64 0] 44 ?_;intro gb832 hg w6 hbox hb;have GE832:=sG hg;have HI832:=aZ ((by refine ⟨_,_,hbox,(by rw [hg];exact bs),HR0.out⟩:IsS44 w _ gb832 l0 0));replace HB:=sB hb;clear hb hbox hg)|(refine zg (some 25) func52 #[.pointer (some ⟨gb832,0,none⟩)] ?_;(with_reducible refine (YO.calls k gb832 l0 0 t833 t834 t835 w _ (zi HI832) bw HG.out A2.out).mono ?_);rintro e w7 ⟨rfl,hi,hb,hk⟩;refine ⟨_,rfl,?_⟩;replace HB:=aZ (hb);replace HI832:=aZ (hi);clear hb hk hi)|(refine zg (some 27) func52 #[.pointer (some ⟨gb832,0,none⟩)] ?_;(with_reducible refine (YO.calls k gb832 l0 t835 t836 t837 t838 w _ (zi HI832) bw HG.out A3.out).mono ?_);rintro e w8 ⟨rfl,hi,hb,hk⟩;refine ⟨_,rfl,?_⟩;replace HB:=aZ (hb);replace HI832:=aZ (hi);clear hb hk hi)|(refine box_ev 4 #[.string ⟨#[]⟩,.string ⟨#[]⟩] 61 ?_;intro gb839 hg w9 hbox hb;have BK839:=aZ hbox;have GE839:=sG hg;replace HB:=sB hb;have NB832_839:=aZ ((by rw [hg];exact Nat.ne_of_lt (IsS44.lt (show IsS44 w _ gb832 l0 t838 from zi HI832)):gb832≠gb839));have NB839_832:=aZ ((by rw [hg];exact Nat.ne_of_gt (IsS44.lt (show IsS44 w _ gb832 l0 t838 from zi HI832)):gb839≠gb832));replace HI832:=aZ (IsS44.below (zi HI832) hb);clear hb hbox hg)|(refine box_ev 5 #[.string ⟨#[]⟩,.string ⟨#[]⟩] 61 ?_;intro gb840 hg w10 hbox hb;have BK840:=aZ hbox;have GE840:=sG hg;replace HB:=sB hb;obtain ⟨NB839_840,NB840_839,BK839⟩:=sX hg hb BK839;have NB832_840:=aZ ((by rw [hg];exact Nat.ne_of_lt (IsS44.lt (show IsS44 w _ gb832 l0 t838 from zi HI832)):gb832≠gb840));have NB840_832:=aZ ((by rw [hg];exact Nat.ne_of_gt (IsS44.lt (show IsS44 w _ gb832 l0 t838 from zi HI832)):gb840≠gb832));replace HI832:=aZ (IsS44.below (zi HI832) hb);clear hb hbox hg;have hnb11:=NB839_840.out;have hnc11:=NB840_839.out;have hnb12:=NB839_832.out;have hnc12:=NB832_839.out;obtain ⟨hcz13_0,hfz13_0⟩:=zc BK839 0 (.string ⟨#[]⟩) rfl;obtain ⟨hcz13_1,hfz13_1⟩:=zc BK839 1 (.string ⟨#[]⟩) rfl;have hnb14:=NB840_832.out;have hnc14:=NB832_840.out;obtain ⟨hcz15_0,hfz15_0⟩:=zc BK840 0 (.string ⟨#[]⟩) rfl;obtain ⟨hcz15_1,hfz15_1⟩:=zc BK840 1 (.string ⟨#[]⟩) rfl)|(refine zg (some 29) func78 #[.pointer (some ⟨gb832,0,none⟩),.int .i64 4] ?_;(with_reducible refine (Yk.calls gb832 l0 t838 4 t841 t842 w _ (zi HI832) bw A4.out).mono ?_);rintro e w16 ⟨rfl,hi,hb,hk⟩;refine ⟨_,rfl,?_⟩;replace BK839:=aZ (KeepBut.blk hk (g':=gb839) (o:=.cells #[.string t833,.string t834] 61 (0,0)) (zq BK839) NB839_832.out (by simp));replace BK840:=aZ (KeepBut.blk hk (g':=gb840) (o:=.cells #[.string t836,.string t837] 61 (0,0)) (zq BK840) NB840_832.out (by simp));replace HB:=aZ (hb);replace HI832:=aZ (hi);clear hb hk hi))
 (try simp only [Act.put,List.setIfInBounds_toArray,List.set_cons_zero,List.set_cons_succ])
 go_cut [] (fun wc=>∃ (kq:Nat) (x841000_4:ByteArray) (x841001_4:ByteArray),Aside0 (Y0.j0 kq t833 t834 x841000_4 x841001_4=some r)∧Aside0 (kq≤k)∧Aside0 (wc.heap[gb839]? = some (.cells #[.string t833,.string t834] 61 (0,0)))∧Aside0 (wc.heap[gb840]? = some (.cells #[.string x841000_4,.string x841001_4] 61 (0,0)))∧Aside0 (Below w.heap.size w wc))
 case first =>
  have H:=HC5.out
  clear HC5
  by_cases c17:t841=true
  case neg=>
   replace c17:=Bool.eq_false_iff.mpr c17
   subst c17
   replace H:=zU H
   have H':=aZ H
   clear H
   go_wp2
   go_meet
   case rel=>exact ⟨_,(t836),(t837),H',⟨by first|omega|exact Nat.le_refl _⟩,⟨zb BK839⟩,⟨zb BK840⟩,⟨bw⟩⟩
  subst c17
  replace H:=zT H
  have H':=aZ H
  clear H
  have hnb18:=NB839_840.out
  have hnc18:=NB840_839.out
  have hnb19:=NB839_832.out
  have hnc19:=NB832_839.out
  obtain ⟨hcz20_0,hfz20_0⟩:=zc BK839 0 (.string t833) rfl
  obtain ⟨hcz20_1,hfz20_1⟩:=zc BK839 1 (.string t834) rfl
  have hnb21:=NB840_832.out
  have hnc21:=NB832_840.out
  obtain ⟨hcz22_0,hfz22_0⟩:=zc BK840 0 (.string t836) rfl
  obtain ⟨hcz22_1,hfz22_1⟩:=zc BK840 1 (.string t837) rfl
  go_wp2
  go_meet
  case rel=>exact ⟨_,(t833),(t834),H',⟨by first|omega|exact Nat.le_refl _⟩,⟨zq BK839⟩,⟨zq BK840⟩,⟨bw⟩⟩
 case rest =>
  clear HC5
  obtain ⟨kq,x841000_4,x841001_4,HA,HJ4,BK839,BK840,HB⟩:=hcut
  cases kq with
  | zero=>exact absurd HA.out (by simp [Y0.j0])
  | succ kj4 =>
   have H:=HA.out
   clear HA
   simp only [Y0.j0] at H
   obtain ⟨y843,hy843⟩:∃ y_:List (S61),y_=(([(⟨t833,t834⟩:S61),(⟨x841000_4,x841001_4⟩:S61)]:List (S61))):=⟨_,rfl⟩
   replace H:((Yn.f kj4 y843).bind fun t846=>((Yb.f kj4 t833 t834).bind fun t847=>((Y0u.f kj4 t833 t834 x841000_4 x841001_4).bind fun bt848=>(if t846=0 then ((YI.f kj4 t833 t834).bind fun bt850=>((YI.f kj4 x841000_4 x841001_4).bind fun bt857=>((Y07.f kj4 bt850.1 bt850.2.1 bt850.2.2 bt857.1 bt857.2.1 bt857.2.2).bind fun t864=>(Y0.j1 kj4 t846 t847 bt848.1 bt848.2 t864 t833 t834)))) else (Y0.j1 kj4 t846 t847 bt848.1 bt848.2 0 t833 t834)))))=some r:=zy hy843 H
   have Ny843:=aZ hy843
   clear hy843
   obtain ⟨t846,A23,H⟩:=zB H
   obtain ⟨t847,A24,H⟩:=zB H
   obtain ⟨⟨t848,t849⟩,A25,H⟩:=zB H
   (try dsimp only at H)
   have HC26:=aZ H
   clear H
   try go_wp2
   replace BK839:=aZ (blk_drew BK839.out)
   replace BK840:=aZ (blk_drew BK840.out)
   replace HB:=aZ (below_drew1 HB.out)
   refine start_ (n:=8) (S:=fun w'=>w'.cell? ⟨gb839,0,none⟩=some (.string t833)∧w'.cell? ⟨gb839,1,none⟩=some (.string t834)∧w'.cell? ⟨gb840,0,none⟩=some (.string x841000_4)∧w'.cell? ⟨gb840,1,none⟩=some (.string x841001_4)) (ds:=[]) #[false,false,false,false,false,false,false,false] (by kernel_rfl) rfl rfl ⟨zh BK839 0,zh BK839 1,zh BK840 0,zh BK840 1⟩ (fun hHeld=>?_);refine with_tabW Y0.tab5 Y0.bits5 (fun HT_ HW_=>?_)
   generalize wc.drew=w27 at BK839 BK840 HB hHeld ⊢
   refine tk 0 (some 31) HT_ HW_ hHeld ?_
   refine tk 1 (some 32) HT_ HW_ hHeld ?_
   refine tk 4 (some 35) HT_ HW_ hHeld ?_
   refine one_ (i:=2) (N:=some 33) #[true,true,true,false,true,false,false,false] rfl rfl (one_of HT_.out (by kernel_rfl)) (by decide) (fun K hK=>?_)
   refine Kd.R_lit_step k61 _ 61 ?hg (N:=33) ?hd (xs:=([(⟨t833,t834⟩:S61),(⟨x841000_4,x841001_4⟩:S61)]:List (S61))) (inner:=[.string t833,.string t834,.string x841000_4,.string x841001_4]) (ok:=fun _=>True) (okp:=fun _=>True) ?hr ?hp (fun _ hk=>hk) trivial (Below.refl _ _) (Nat.le_refl _) (by simp) ?_;(case hd=>rfl);(case hg=>rfl);(case hr=>first|(go_simp;done)|(go_simp;rfl));(case hp=>exact (Reps.c2 (show Kd.M k61 _ _ _ (⟨t833,t834⟩:S61) [.string t833,.string t834] from (k61_mkM _ _ _ (⟨t833,t834⟩:S61) )) (Reps.c2 (show Kd.M k61 _ _ _ (⟨x841000_4,x841001_4⟩:S61) [.string x841000_4,.string x841001_4] from (k61_mkM _ _ _ (⟨x841000_4,x841001_4⟩:S61) )) (Reps.none _ _))))
   intro v844 w28 ho29 hb hg_ hnew_
   clear hg_ hnew_
   (first|rw [← Ny843.out] at ho29|(simp only [Int.reduceToNat] at ho29;rw [← Ny843.out] at ho29))
   have HO845:=aZ (Kd.R_lower (Kd.R_newB (Kd.R_newB ho29 (g:=gb839) (o:=.cells #[.string t833,.string t834] 61 (0,0)) (zb BK839)) (g:=gb840) (o:=.cells #[.string x841000_4,.string x841001_4] 61 (0,0)) (zb BK840)) bs)
   replace BK839:=sK BK839 hb
   replace BK840:=sK BK840 hb
   replace HB:=sB hb
   clear hb ho29
   obtain ⟨Ao30,co30,eo30⟩:=Kd.R_slice HO845.out
   (first|subst eo30|(injection eo30 with f1_ f2_ f3_;have f4_:=f1_.symm;have f5_:=f3_.symm;clear f1_ f2_ f3_;subst f4_;subst f5_))
   refine hK.out _ _ ⟨zh BK839 0,zh BK839 1,zh BK840 0,zh BK840 1⟩ (fun hHeld=>?_)
   clear hK K
   refine nm ?_
   refine one_ (i:=3) (N:=some 34) #[true,true,true,true,true,false,false,false] rfl rfl (one_of HT_.out (by kernel_rfl)) (by decide) (fun K hK=>?_)
   refine goes_ func57 (by kernel_rfl) rfl #[.slice Ao30 y843.length co30] (by rfl) rfl rfl zm ?_
   with_reducible refine (Yn.calls kj4 _ _ y843 t846 _ (zC (Kd.R_reads' HO845.out).2.2) ((Kd.R_reads' HO845.out).2.1) A23.out).mono ?_
   rintro e w31 ⟨rfl,hb⟩
   refine ⟨_,rfl,?_⟩
   replace HO845:=yR HO845 hb
   replace BK839:=sK BK839 hb
   replace BK840:=sK BK840 hb
   replace HB:=sB hb
   clear hb
   refine hK.out _ _ ⟨zh BK839 0,zh BK839 1,zh BK840 0,zh BK840 1⟩ (fun hHeld=>?_)
   clear hK K
   refine nm ?_
   refine one_ (i:=5) (N:=some 36) #[true,true,true,true,true,true,false,false] rfl rfl (one_of HT_.out (by kernel_rfl)) (by decide) (fun K hK=>?_)
   refine goes_ func53 (by kernel_rfl) rfl #[.agg #[.string t833,.string t834]] (by rfl) rfl rfl zm ?_
   with_reducible refine (Yb.calls kj4 t833 t834 t847 _ A24.out).mono ?_
   rintro e w32 ⟨rfl,hb⟩
   refine ⟨_,rfl,?_⟩
   replace HO845:=yR HO845 hb
   replace BK839:=sK BK839 hb
   replace BK840:=sK BK840 hb
   replace HB:=sB hb
   clear hb
   refine hK.out _ _ ⟨zh BK839 0,zh BK839 1,zh BK840 0,zh BK840 1⟩ (fun hHeld=>?_)
   clear hK K
   refine nm ?_
   refine pu 6 (some 6) HT_ ?_
   refine pu 7 (some 7) HT_ ?_
   refine done_ (done_of HT_.out (by kernel_rfl)) ?_
   have hnb33:=NB839_840.out
   have hnc33:=NB840_839.out
   obtain ⟨hcz34_0,hfz34_0⟩:=zc BK839 0 (.string t833) rfl
   obtain ⟨hcz34_1,hfz34_1⟩:=zc BK839 1 (.string t834) rfl
   obtain ⟨hcz35_0,hfz35_0⟩:=zc BK840 0 (.string x841000_4) rfl
   obtain ⟨hcz35_1,hfz35_1⟩:=zc BK840 1 (.string x841001_4) rfl
   go_upto_if 44 with (first|(refine zg (some 40) func79 #[.agg #[.string t833,.string t834],.agg #[.string x841000_4,.string x841001_4]] ?_;(with_reducible refine (Y0u.calls kj4 t833 t834 x841000_4 x841001_4 t848 t849 _ A25.out).mono ?_);rintro e w36 ⟨rfl,hb⟩;refine ⟨_,rfl,?_⟩;replace HO845:=yR HO845 hb;replace BK839:=sK BK839 hb;replace BK840:=sK BK840 hb;replace HB:=sB hb;clear hb))
   (try simp only [Act.put,List.setIfInBounds_toArray,List.set_cons_zero,List.set_cons_succ])
   go_cut [10] (fun v10 wc=>∃ (kq:Nat) (x10_25:Int),v10 = .int .i64 x10_25∧Aside0 (Y0.j1 kq t846 t847 t848 t849 x10_25 t833 t834=some r)∧Aside0 (kq≤kj4)∧Aside0 (wc.heap[gb839]? = some (.cells #[.string t833,.string t834] 61 (0,0)))∧Aside0 (wc.heap[gb840]? = some (.cells #[.string x841000_4,.string x841001_4] 61 (0,0)))∧Aside0 (Below w.heap.size w wc))
   case first =>
    have H:=HC26.out
    clear HC26
    by_cases c37:t846=0
    case neg=>
     rw [if_neg c37] at H
     obtain ⟨c37b0,c37b1⟩:=zX c37
     (first|rw [c37b0]|(simp only [i64_w,i32_w];rw [c37b0])|skip)
     have H':=aZ H
     clear H
     go_wp2
     go_meet
     case rel=>exact ⟨_,(0),zs,H',⟨by have:=HJ4.out;first|omega|exact Nat.le_refl _⟩,⟨zb BK839⟩,⟨zb BK840⟩,⟨bw⟩⟩
    rw [if_pos c37] at H
    obtain ⟨c37b0,c37b1⟩:=zY c37
    clear c37
    (first|rw [c37b0]|(simp only [i64_w,i32_w];rw [c37b0])|skip)
    obtain ⟨⟨t850,t851,t854⟩,A38,H⟩:=zB H
    (try dsimp only at H)
    obtain ⟨⟨t857,t858,t861⟩,A39,H⟩:=zB H
    (try dsimp only at H)
    obtain ⟨t864,A40,H⟩:=zB H
    have H':=aZ H
    clear H
    try go_wp2
    replace HO845:=aZ (Kd.R_drew HO845.out)
    replace BK839:=aZ (blk_drew BK839.out)
    replace BK840:=aZ (blk_drew BK840.out)
    replace HB:=aZ (below_drew1 HB.out)
    refine start_ (n:=6) (S:=fun w'=>w'.cell? ⟨gb839,0,none⟩=some (.string t833)∧w'.cell? ⟨gb839,1,none⟩=some (.string t834)∧w'.cell? ⟨gb840,0,none⟩=some (.string x841000_4)∧w'.cell? ⟨gb840,1,none⟩=some (.string x841001_4)) (ds:=[]) #[false,false,false,false,false,false] (by kernel_rfl) rfl rfl ⟨zh BK839 0,zh BK839 1,zh BK840 0,zh BK840 1⟩ (fun hHeld=>?_)
    generalize w36.drew=w41 at HO845 BK839 BK840 HB hHeld ⊢
    refine tv 0 (some 45) hHeld ?_
    refine tv 2 (some 47) hHeld ?_
    refine one_ (i:=1) (N:=some 46) #[true,true,true,false,false,false] rfl rfl (by kernel_rfl) (by decide) (fun K hK=>?_)
    refine goes_ func58 (by kernel_rfl) rfl #[.agg #[.string t833,.string t834]] (by rfl) rfl rfl zm ?_
    with_reducible refine (YI.calls kj4 t833 t834 t850 t851 t854 _ A38.out).mono ?_
    rintro e w42 ⟨v852,v855,rfl,ho0,ho1,hb⟩
    refine ⟨_,rfl,?_⟩
    have HO853:=yL (fun k_=>some k_≠(.slice Ao30 y843.length co30:Value).ownBlock∧k_≠gb839∧k_≠gb840) ho0 (fun k_ hk_=>⟨(yf HO845 hk_),(zf BK839 hk_),(zf BK840 hk_)⟩)
    have HO856:=yL (fun k_=>some k_≠(.slice Ao30 y843.length co30:Value).ownBlock∧k_≠gb839∧k_≠gb840) ho1 (fun k_ hk_=>⟨(yf HO845 hk_),(zf BK839 hk_),(zf BK840 hk_)⟩)
    replace HO845:=yR HO845 hb
    replace BK839:=sK BK839 hb
    replace BK840:=sK BK840 hb
    replace HB:=sB hb
    clear hb ho0 ho1
    refine hK.out _ _ ⟨zh BK839 0,zh BK839 1,zh BK840 0,zh BK840 1⟩ (fun hHeld=>?_)
    clear hK K
    refine nm ?_
    refine one_ (i:=3) (N:=some 48) #[true,true,true,true,false,false] rfl rfl (by kernel_rfl) (by decide) (fun K hK=>?_)
    refine goes_ func58 (by kernel_rfl) rfl #[.agg #[.string x841000_4,.string x841001_4]] (by rfl) rfl rfl zm ?_
    with_reducible refine (YI.calls kj4 x841000_4 x841001_4 t857 t858 t861 _ A39.out).mono ?_
    rintro e w43 ⟨v859,v862,rfl,ho0,ho1,hb⟩
    refine ⟨_,rfl,?_⟩
    replace HO853:=yV HO853 hb
    replace HO856:=yV HO856 hb
    have HO860:=yL (fun k_=>some k_≠(.slice Ao30 y843.length co30:Value).ownBlock∧k_≠gb839∧k_≠gb840) ho0 (fun k_ hk_=>⟨(yf HO845 hk_),(zf BK839 hk_),(zf BK840 hk_)⟩)
    have HO863:=yL (fun k_=>some k_≠(.slice Ao30 y843.length co30:Value).ownBlock∧k_≠gb839∧k_≠gb840) ho1 (fun k_ hk_=>⟨(yf HO845 hk_),(zf BK839 hk_),(zf BK840 hk_)⟩)
    replace HO845:=yR HO845 hb
    replace BK839:=sK BK839 hb
    replace BK840:=sK BK840 hb
    replace HB:=sB hb
    clear hb ho0 ho1
    obtain ⟨Ao44,co44,eo44⟩:=Kd.V_slice HO853.out
    (first|subst eo44|(injection eo44 with f1_ f2_ f3_;have f4_:=f1_.symm;have f5_:=f3_.symm;clear f1_ f2_ f3_;subst f4_;subst f5_))
    obtain ⟨Ao45,co45,eo45⟩:=Kd.V_slice HO856.out
    (first|subst eo45|(injection eo45 with f1_ f2_ f3_;have f4_:=f1_.symm;have f5_:=f3_.symm;clear f1_ f2_ f3_;subst f4_;subst f5_))
    obtain ⟨Ao46,co46,eo46⟩:=Kd.V_slice HO860.out
    (first|subst eo46|(injection eo46 with f1_ f2_ f3_;have f4_:=f1_.symm;have f5_:=f3_.symm;clear f1_ f2_ f3_;subst f4_;subst f5_))
    obtain ⟨Ao47,co47,eo47⟩:=Kd.V_slice HO863.out
    (first|subst eo47|(injection eo47 with f1_ f2_ f3_;have f4_:=f1_.symm;have f5_:=f3_.symm;clear f1_ f2_ f3_;subst f4_;subst f5_))
    refine hK.out _ _ ⟨zh BK839 0,zh BK839 1,zh BK840 0,zh BK840 1⟩ (fun hHeld=>?_)
    clear hK K
    refine nm ?_
    refine one_ (i:=4) (N:=some 49) #[true,true,true,true,true,false] rfl rfl (by kernel_rfl) (by decide) (fun K hK=>?_)
    refine goes_ func80 (by kernel_rfl) rfl #[.agg #[.bool t850,.slice Ao44 t851.length co44,.slice Ao45 t854.length co45],.agg #[.bool t857,.slice Ao46 t858.length co46,.slice Ao47 t861.length co47]] (by rfl) rfl rfl zm ?_
    with_reducible refine (Y07.calls kj4 t850 _ _ t851 _ _ t854 t857 _ _ t858 _ _ t861 t864 _ (zC (Kd.V_reads' HO853.out).2.2) ((Kd.V_reads' HO853.out).2.1) (zC (Kd.V_reads' HO856.out).2.2) ((Kd.V_reads' HO856.out).2.1) (zC (Kd.V_reads' HO860.out).2.2) ((Kd.V_reads' HO860.out).2.1) (zC (Kd.V_reads' HO863.out).2.2) ((Kd.V_reads' HO863.out).2.1) A40.out).mono ?_
    rintro e w48 ⟨rfl,hb⟩
    refine ⟨_,rfl,?_⟩
    replace HO845:=yR HO845 hb
    replace HO853:=yV HO853 hb
    replace HO856:=yV HO856 hb
    replace HO860:=yV HO860 hb
    replace HO863:=yV HO863 hb
    replace BK839:=sK BK839 hb
    replace BK840:=sK BK840 hb
    replace HB:=sB hb
    clear hb
    refine hK.out _ _ ⟨zh BK839 0,zh BK839 1,zh BK840 0,zh BK840 1⟩ (fun hHeld=>?_)
    clear hK K
    refine nm ?_
    refine pv 5 (some 10) ?_
    refine done_ (by kernel_rfl) ?_
    try go_wp2
    go_meet
    case rel=>exact ⟨_,(t864),zs,H',⟨by have:=HJ4.out;first|omega|exact Nat.le_refl _⟩,⟨zb BK839⟩,⟨zb BK840⟩,⟨bw⟩⟩
   case rest =>
    clear HC26
    try clear c17
    obtain ⟨kq,x10_25,rfl,HA,HJ25,BK839,BK840,HB⟩:=hcut
    cases kq with
    | zero=>exact absurd HA.out (by simp [Y0.j1])
    | succ kj25 =>
     have H:=HA.out
     clear HA
     simp only [Y0.j1] at H
     have HC49:=aZ H
     clear H
     go_upto_region 10 with (fail)
     go_cut [61] (fun v61 wc=>∃ (kq:Nat) (x61_48:Bool),v61 = .bool x61_48∧Aside0 (Y0.j2 kq t847 x61_48 t833 t834=some r)∧Aside0 (kq≤kj25)∧Aside0 (wc.heap[gb839]? = some (.cells #[.string t833,.string t834] 61 (0,0)))∧Aside0 (wc.heap[gb840]? = some (.cells #[.string x841000_4,.string x841001_4] 61 (0,0)))∧Aside0 (Below w.heap.size w wc))
     case first =>
      have H:=HC49.out
      clear HC49
      obtain ⟨t865,A50,H⟩:=zB H
      by_cases c51:t865=true
      case neg=>
       replace c51:=Bool.eq_false_iff.mpr c51
       subst c51
       replace H:=zU H
       exact Y0.j2_dead _ _ _ _ H hr
      subst c51
      replace H:=zT H
      by_cases c52:t848=x10_25
      case neg=>
       rw [if_neg c52] at H
       obtain ⟨c52b0,c52b1⟩:=zX c52
       (first|rw [c52b0]|(simp only [i64_w,i32_w];rw [c52b0])|skip)
       exact Y0.j2_dead _ _ _ _ H hr
      rw [if_pos c52] at H
      obtain ⟨c52b0,c52b1⟩:=zY c52
      clear c52
      (first|rw [c52b0]|(simp only [i64_w,i32_w];rw [c52b0])|skip)
      have H':=aZ H
      clear H
      go_wp2_with (first|(refine zg (some 50) func20 #[] ?_;(with_reducible refine (YR.calls kj25  true _ (Tryz.Gl.below HG.out bw) A50.out).mono ?_);rintro e w53 ⟨rfl,hb⟩;refine ⟨_,rfl,?_⟩;replace BK839:=sK BK839 hb;replace BK840:=sK BK840 hb;replace HB:=sB hb;clear hb))
      go_meet
      case rel=>exact ⟨_,((t849 != t846)),zs,H',⟨by have:=HJ4.out;have:=HJ25.out;first|omega|exact Nat.le_refl _⟩,⟨zb BK839⟩,⟨zb BK840⟩,⟨bw⟩⟩
     case rest =>
      clear HC49
      try clear c17
      try clear c37
      try clear c37b0
      try clear c37b1
      obtain ⟨kq,x61_48,rfl,HA,HJ48,BK839,BK840,HB⟩:=hcut
      cases kq with
      | zero=>exact absurd HA.out (by simp [Y0.j2])
      | succ kj48 =>
       have H:=HA.out
       clear HA
       simp only [Y0.j2] at H
       by_cases c56:x61_48=true
       case neg=>
        replace c56:=Bool.eq_false_iff.mpr c56
        subst c56
        replace H:=zU H
        obtain ⟨⟨t866,t867,t870⟩,A57,H⟩:=zB H
        (try dsimp only at H)
        have HC58:=aZ H
        clear H
        go_upto_if 64 with (first|(refine zg (some 62) func48 #[.int .i64 0] ?_;(with_reducible refine (Y0j.calls kj48 0 t866 t867 t870 _ A57.out).mono ?_);rintro e w59 ⟨v868,v871,rfl,ho0,ho1,hb⟩;refine ⟨_,rfl,?_⟩;have HO869:=aZ (Kd.R_lower ho0 bs);have HO872:=aZ (Kd.R_lower ho1 bs);replace BK839:=sK BK839 hb;replace BK840:=sK BK840 hb;replace HB:=sB hb;clear hb ho0 ho1)|(refine box_ev 11 #[.bool false,.slice none 0 0,.slice none 0 0] 67 ?_;intro gb873 hg w60 hbox hb;replace HO869:=yR HO869 hb;replace HO872:=yR HO872 hb;have BK873:=aZ hbox;have GE873:=sG hg;replace HB:=sB hb;obtain ⟨NB839_873,NB873_839,BK839⟩:=sX hg hb BK839;obtain ⟨NB840_873,NB873_840,BK840⟩:=sX hg hb BK840;clear hb hbox hg;have hnb61:=NB873_839.out;have hnc61:=NB839_873.out;have hnb62:=NB873_840.out;have hnc62:=NB840_873.out;obtain ⟨hcz63_0,hfz63_0⟩:=zc BK873 0 (.bool false) rfl;obtain ⟨hcz63_1,hfz63_1⟩:=zc BK873 1 (.slice none 0 0) rfl;obtain ⟨hcz63_2,hfz63_2⟩:=zc BK873 2 (.slice none 0 0) rfl;obtain ⟨Ao64,co64,rfl⟩:=Kd.R_slice HO869.out;obtain ⟨Ao65,co65,rfl⟩:=Kd.R_slice HO872.out))
        (try simp only [Act.put,List.setIfInBounds_toArray,List.set_cons_zero,List.set_cons_succ])
        go_cut [] (fun wc=>∃ (kq:Nat) (x874000_57:Bool) (x874001_57:List Int) (x874002_57:List Int) (u874001:Value) (u874002:Value),Aside0 (Y0.j3 kq t847 t833 t834 x874000_57 x874001_57 x874002_57=some r)∧Aside0 (kq≤kj48)∧Aside0 (Kd.V (Kd.int .i64) 3 wc w.heap.size (fun k_=>k_≠gb839∧k_≠gb840∧k_≠gb873) u874001 x874001_57)∧Aside0 (Kd.V (Kd.int .i64) 3 wc w.heap.size (fun k_=>k_≠gb839∧k_≠gb840∧k_≠gb873) u874002 x874002_57)∧Aside0 (wc.heap[gb839]? = some (.cells #[.string t833,.string t834] 61 (0,0)))∧Aside0 (wc.heap[gb840]? = some (.cells #[.string x841000_4,.string x841001_4] 61 (0,0)))∧Aside0 (wc.heap[gb873]? = some (.cells #[.bool x874000_57,u874001,u874002] 67 (0,0)))∧Aside0 (Below w.heap.size w wc))
        case first =>
         have H:=HC58.out
         clear HC58
         by_cases c66:t847=0
         case neg=>
          rw [if_neg c66] at H
          obtain ⟨c66b0,c66b1⟩:=zX c66
          (first|rw [c66b0]|(simp only [i64_w,i32_w];rw [c66b0])|skip)
          have H':=aZ H
          clear H
          go_wp2
          go_meet
          case rel=>exact ⟨_,(t866),(t867),(t870),(.slice Ao64 t867.length co64),(.slice Ao65 t870.length co65),H',⟨by have:=HJ4.out;have:=HJ25.out;have:=HJ48.out;first|omega|exact Nat.le_refl _⟩,⟨Kd.R_V (by (with_reducible repeat (first|apply Kd.R_alloc|apply Kd.R_drewN|apply Kd.R_drew));exact Kd.R_mono (Kd.R_far (p:=⟨gb873,2,none⟩) (Kd.R_far (p:=⟨gb873,1,none⟩) (Kd.R_far (p:=⟨gb873,0,none⟩) (Kd.R_types (Kd.R_types (Kd.R_types (Kd.R_types HO869.out BK839.out (by decide)) BK840.out (by decide)) BK873.out (by decide)) BK873.out (by decide)) (fun _ hk=>hk.2) (.bool t866)) (fun _ hk=>hk.2) (.slice Ao64 t867.length co64)) (fun _ hk=>hk.2) (.slice Ao65 t870.length co65)) (fun _ hk=>⟨hk.1.1.1.2,⟨hk.1.1.2,hk.1.2⟩⟩))⟩,⟨Kd.R_V (by (with_reducible repeat (first|apply Kd.R_alloc|apply Kd.R_drewN|apply Kd.R_drew));exact Kd.R_mono (Kd.R_far (p:=⟨gb873,2,none⟩) (Kd.R_far (p:=⟨gb873,1,none⟩) (Kd.R_far (p:=⟨gb873,0,none⟩) (Kd.R_types (Kd.R_types (Kd.R_types (Kd.R_types HO872.out BK839.out (by decide)) BK840.out (by decide)) BK873.out (by decide)) BK873.out (by decide)) (fun _ hk=>hk.2) (.bool t866)) (fun _ hk=>hk.2) (.slice Ao64 t867.length co64)) (fun _ hk=>hk.2) (.slice Ao65 t870.length co65)) (fun _ hk=>⟨hk.1.1.1.2,⟨hk.1.1.2,hk.1.2⟩⟩))⟩,⟨zq BK839⟩,⟨zq BK840⟩,⟨zq BK873⟩,⟨bw⟩⟩
         rw [if_pos c66] at H
         obtain ⟨c66b0,c66b1⟩:=zY c66
         clear c66
         (first|rw [c66b0]|(simp only [i64_w,i32_w];rw [c66b0])|skip)
         obtain ⟨⟨t874,t875,t878⟩,A67,H⟩:=zB H
         (try dsimp only at H)
         have H':=aZ H
         clear H
         have hnb68:=NB839_840.out
         have hnc68:=NB840_839.out
         have hnb69:=NB839_873.out
         have hnc69:=NB873_839.out
         obtain ⟨hcz70_0,hfz70_0⟩:=zc BK839 0 (.string t833) rfl
         obtain ⟨hcz70_1,hfz70_1⟩:=zc BK839 1 (.string t834) rfl
         go_wp2_with (first|(refine zg (some 66) func58 #[.agg #[.string t833,.string t834]] ?_;(with_reducible refine (YI.calls kj48 t833 t834 t874 t875 t878 _ A67.out).mono ?_);rintro e w71 ⟨v876,v879,rfl,ho0,ho1,hb⟩;refine ⟨_,rfl,?_⟩;have HO877:=yL (fun k_=>some k_≠(.slice Ao64 t867.length co64:Value).ownBlock∧some k_≠(.slice Ao65 t870.length co65:Value).ownBlock∧k_≠gb839∧k_≠gb840∧k_≠gb873) ho0 (fun k_ hk_=>⟨(Kd.fresh' (Kd.R_lt (by (with_reducible repeat (first|apply Kd.R_alloc|apply Kd.R_drewN|apply Kd.R_drew));exact (Kd.R_mono (Kd.R_far (p:=⟨gb873,2,none⟩) (Kd.R_far (p:=⟨gb873,1,none⟩) (Kd.R_far (p:=⟨gb873,0,none⟩) (Kd.R_types HO869.out BK873.out (by decide)) (fun _ hk=>hk.2) (.bool t866)) (fun _ hk=>hk.2) (.slice Ao64 t867.length co64)) (fun _ hk=>hk.2) (.slice Ao65 t870.length co65)) (fun _ h_=>h_.1)))) k_ hk_),(Kd.fresh' (Kd.R_lt (by (with_reducible repeat (first|apply Kd.R_alloc|apply Kd.R_drewN|apply Kd.R_drew));exact (Kd.R_mono (Kd.R_far (p:=⟨gb873,2,none⟩) (Kd.R_far (p:=⟨gb873,1,none⟩) (Kd.R_far (p:=⟨gb873,0,none⟩) (Kd.R_types HO872.out BK873.out (by decide)) (fun _ hk=>hk.2) (.bool t866)) (fun _ hk=>hk.2) (.slice Ao64 t867.length co64)) (fun _ hk=>hk.2) (.slice Ao65 t870.length co65)) (fun _ h_=>h_.1)))) k_ hk_),(Kd.freshB (g:=gb839) (o:=.cells #[.string t833,.string t834] 61 (0,0)) (zq BK839) k_ hk_),(Kd.freshB (g:=gb840) (o:=.cells #[.string x841000_4,.string x841001_4] 61 (0,0)) (zq BK840) k_ hk_),(Kd.freshB (g:=gb873) (o:=.cells #[.bool t866,.slice Ao64 t867.length co64,.slice Ao65 t870.length co65] 67 (0,0)) (zp BK873) k_ hk_)⟩);have HO880:=yL (fun k_=>some k_≠(.slice Ao64 t867.length co64:Value).ownBlock∧some k_≠(.slice Ao65 t870.length co65:Value).ownBlock∧k_≠gb839∧k_≠gb840∧k_≠gb873) ho1 (fun k_ hk_=>⟨(Kd.fresh' (Kd.R_lt (by (with_reducible repeat (first|apply Kd.R_alloc|apply Kd.R_drewN|apply Kd.R_drew));exact (Kd.R_mono (Kd.R_far (p:=⟨gb873,2,none⟩) (Kd.R_far (p:=⟨gb873,1,none⟩) (Kd.R_far (p:=⟨gb873,0,none⟩) (Kd.R_types HO869.out BK873.out (by decide)) (fun _ hk=>hk.2) (.bool t866)) (fun _ hk=>hk.2) (.slice Ao64 t867.length co64)) (fun _ hk=>hk.2) (.slice Ao65 t870.length co65)) (fun _ h_=>h_.1)))) k_ hk_),(Kd.fresh' (Kd.R_lt (by (with_reducible repeat (first|apply Kd.R_alloc|apply Kd.R_drewN|apply Kd.R_drew));exact (Kd.R_mono (Kd.R_far (p:=⟨gb873,2,none⟩) (Kd.R_far (p:=⟨gb873,1,none⟩) (Kd.R_far (p:=⟨gb873,0,none⟩) (Kd.R_types HO872.out BK873.out (by decide)) (fun _ hk=>hk.2) (.bool t866)) (fun _ hk=>hk.2) (.slice Ao64 t867.length co64)) (fun _ hk=>hk.2) (.slice Ao65 t870.length co65)) (fun _ h_=>h_.1)))) k_ hk_),(Kd.freshB (g:=gb839) (o:=.cells #[.string t833,.string t834] 61 (0,0)) (zq BK839) k_ hk_),(Kd.freshB (g:=gb840) (o:=.cells #[.string x841000_4,.string x841001_4] 61 (0,0)) (zq BK840) k_ hk_),(Kd.freshB (g:=gb873) (o:=.cells #[.bool t866,.slice Ao64 t867.length co64,.slice Ao65 t870.length co65] 67 (0,0)) (zp BK873) k_ hk_)⟩);replace HO869:=aZ (Kd.R_below (by (with_reducible repeat (first|apply Kd.R_alloc|apply Kd.R_drewN|apply Kd.R_drew));exact (Kd.R_mono (Kd.R_far (p:=⟨gb873,2,none⟩) (Kd.R_far (p:=⟨gb873,1,none⟩) (Kd.R_far (p:=⟨gb873,0,none⟩) (Kd.R_types HO869.out BK873.out (by decide)) (fun _ hk=>hk.2) (.bool t866)) (fun _ hk=>hk.2) (.slice Ao64 t867.length co64)) (fun _ hk=>hk.2) (.slice Ao65 t870.length co65)) (fun _ h_=>h_.1))) hb);replace HO872:=aZ (Kd.R_below (by (with_reducible repeat (first|apply Kd.R_alloc|apply Kd.R_drewN|apply Kd.R_drew));exact (Kd.R_mono (Kd.R_far (p:=⟨gb873,2,none⟩) (Kd.R_far (p:=⟨gb873,1,none⟩) (Kd.R_far (p:=⟨gb873,0,none⟩) (Kd.R_types HO872.out BK873.out (by decide)) (fun _ hk=>hk.2) (.bool t866)) (fun _ hk=>hk.2) (.slice Ao64 t867.length co64)) (fun _ hk=>hk.2) (.slice Ao65 t870.length co65)) (fun _ h_=>h_.1))) hb);replace BK839:=aZ (blk_below (g:=gb839) (o:=.cells #[.string t833,.string t834] 61 (0,0)) (zq BK839) hb);replace BK840:=aZ (blk_below (g:=gb840) (o:=.cells #[.string x841000_4,.string x841001_4] 61 (0,0)) (zq BK840) hb);replace BK873:=sP (.cells #[.bool t866,.slice Ao64 t867.length co64,.slice Ao65 t870.length co65] 67 (0,0)) BK873 hb;replace HB:=sB hb;clear hb ho0 ho1;have hnb72:=NB873_840.out;have hnc72:=NB840_873.out;obtain ⟨hcz73_0,hfz73_0⟩:=zc BK873 0 (.bool t866) rfl;obtain ⟨hcz73_1,hfz73_1⟩:=zc BK873 1 (.slice Ao64 t867.length co64) rfl;obtain ⟨hcz73_2,hfz73_2⟩:=zc BK873 2 (.slice Ao65 t870.length co65) rfl;obtain ⟨Ao74,co74,rfl⟩:=Kd.V_slice HO877.out;obtain ⟨Ao75,co75,rfl⟩:=Kd.V_slice HO880.out))
         go_meet
         case rel=>exact ⟨_,(t874),(t875),(t878),(.slice Ao74 t875.length co74),(.slice Ao75 t878.length co75),H',⟨by have:=HJ4.out;have:=HJ25.out;have:=HJ48.out;first|omega|exact Nat.le_refl _⟩,⟨zF HO877⟩,⟨zF HO880⟩,⟨zq BK839⟩,⟨zq BK840⟩,⟨zq BK873⟩,⟨bw⟩⟩
        case rest =>
         clear HC58
         try clear c17
         try clear c37
         try clear c37b0
         try clear c37b1
         try clear c51
         try clear c52
         try clear c52b0
         try clear c52b1
         try clear c56
         obtain ⟨kq,x874000_57,x874001_57,x874002_57,u874001,u874002,HA,HJ57,HO_874001,HO_874002,BK839,BK840,BK873,HB⟩:=hcut
         cases kq with
         | zero=>exact absurd HA.out (by simp [Y0.j3])
         | succ kj57 =>
          have H:=HA.out
          clear HA
          simp only [Y0.j3] at H
          obtain ⟨⟨t881,t882,t883⟩,A76,H⟩:=zB H
          (try dsimp only at H)
          obtain ⟨⟨t885,t886,t887⟩,A77,H⟩:=zB H
          (try dsimp only at H)
          obtain ⟨⟨t889,t890,t891⟩,A78,H⟩:=zB H
          (try dsimp only at H)
          obtain ⟨⟨t892,t893⟩,A79,H⟩:=zB H
          (try dsimp only at H)
          have HC80:=aZ H
          clear H
          have hnb81:=NB839_840.out
          have hnc81:=NB840_839.out
          have hnb82:=NB839_873.out
          have hnc82:=NB873_839.out
          obtain ⟨hcz83_0,hfz83_0⟩:=zc BK839 0 (.string t833) rfl
          obtain ⟨hcz83_1,hfz83_1⟩:=zc BK839 1 (.string t834) rfl
          go_upto_region 19 with (first|(refine zg (some 69) func81 #[.agg #[.string t833,.string t834]] ?_;(with_reducible refine (Y0n.calls kj57 t833 t834 t881 t882 t883 _ (Tryz.Gl.below HG.out bw) A76.out).mono ?_);rintro e w84 ⟨rfl,hb⟩;refine ⟨_,rfl,?_⟩;replace HO_874001:=yV HO_874001 hb;replace HO_874002:=yV HO_874002 hb;replace BK839:=sK BK839 hb;replace BK840:=sK BK840 hb;replace BK873:=sK BK873 hb;replace HB:=sB hb;clear hb)|(refine box_ev 12 #[.string ⟨#[]⟩,.string ⟨#[]⟩] 61 ?_;intro gb884 hg w85 hbox hb;replace HO_874001:=yE HO_874001 hg hb;replace HO_874002:=yE HO_874002 hg hb;have BK884:=aZ hbox;have GE884:=sG hg;replace HB:=sB hb;obtain ⟨NB839_884,NB884_839,BK839⟩:=sX hg hb BK839;obtain ⟨NB840_884,NB884_840,BK840⟩:=sX hg hb BK840;obtain ⟨NB873_884,NB884_873,BK873⟩:=sX hg hb BK873;clear hb hbox hg;have hnb86:=NB884_839.out;have hnc86:=NB839_884.out;have hnb87:=NB884_840.out;have hnc87:=NB840_884.out;have hnb88:=NB884_873.out;have hnc88:=NB873_884.out;obtain ⟨hcz89_0,hfz89_0⟩:=zc BK884 0 (.string ⟨#[]⟩) rfl;obtain ⟨hcz89_1,hfz89_1⟩:=zc BK884 1 (.string ⟨#[]⟩) rfl;obtain ⟨hcz90_0,hfz90_0⟩:=zc BK839 0 (.string t833) rfl;obtain ⟨hcz90_1,hfz90_1⟩:=zc BK839 1 (.string t834) rfl)|(refine zg (some 74) func82 #[.agg #[.string t833,.string t834]] ?_;(with_reducible refine (Y0r.calls kj57 t833 t834 t885 t886 t887 _ (Tryz.Gl.below HG.out bw) A77.out).mono ?_);rintro e w91 ⟨rfl,hb⟩;refine ⟨_,rfl,?_⟩;replace HO_874001:=aZ (Kd.V_below (by (with_reducible repeat (first|apply Kd.V_alloc|apply Kd.V_drewN|apply Kd.V_drew));exact (Kd.V_mono (Kd.V_far (p:=⟨gb884,1,none⟩) (Kd.V_far (p:=⟨gb884,0,none⟩) (Kd.V_mono HO_874001.out (fun k_ hk=>(⟨hk,hk.2⟩:_∧k_≠gb884))) (fun _ hk=>hk.2) (.string t881)) (fun _ hk=>hk.2) (.string t882)) (fun _ h_=>h_.1))) hb);replace HO_874002:=aZ (Kd.V_below (by (with_reducible repeat (first|apply Kd.V_alloc|apply Kd.V_drewN|apply Kd.V_drew));exact (Kd.V_mono (Kd.V_far (p:=⟨gb884,1,none⟩) (Kd.V_far (p:=⟨gb884,0,none⟩) (Kd.V_mono HO_874002.out (fun k_ hk=>(⟨hk,hk.2⟩:_∧k_≠gb884))) (fun _ hk=>hk.2) (.string t881)) (fun _ hk=>hk.2) (.string t882)) (fun _ h_=>h_.1))) hb);replace BK839:=aZ (blk_below (g:=gb839) (o:=.cells #[.string t833,.string t834] 61 (0,0)) (zq BK839) hb);replace BK840:=aZ (blk_below (g:=gb840) (o:=.cells #[.string x841000_4,.string x841001_4] 61 (0,0)) (zq BK840) hb);replace BK873:=aZ (blk_below (g:=gb873) (o:=.cells #[.bool x874000_57,u874001,u874002] 67 (0,0)) (zq BK873) hb);replace BK884:=sP (.cells #[.string t881,.string t882] 61 (0,0)) BK884 hb;replace HB:=sB hb;clear hb)|(refine box_ev 14 #[.string ⟨#[]⟩,.string ⟨#[]⟩] 61 ?_;intro gb888 hg w92 hbox hb;replace HO_874001:=yE HO_874001 hg hb;replace HO_874002:=yE HO_874002 hg hb;have BK888:=aZ hbox;have GE888:=sG hg;replace HB:=sB hb;obtain ⟨NB839_888,NB888_839,BK839⟩:=sX hg hb BK839;obtain ⟨NB840_888,NB888_840,BK840⟩:=sX hg hb BK840;obtain ⟨NB873_888,NB888_873,BK873⟩:=sX hg hb BK873;obtain ⟨NB884_888,NB888_884,BK884⟩:=sX hg hb BK884;clear hb hbox hg;have hnb93:=NB888_839.out;have hnc93:=NB839_888.out;have hnb94:=NB888_840.out;have hnc94:=NB840_888.out;have hnb95:=NB888_873.out;have hnc95:=NB873_888.out;have hnb96:=NB888_884.out;have hnc96:=NB884_888.out;obtain ⟨hcz97_0,hfz97_0⟩:=zc BK888 0 (.string ⟨#[]⟩) rfl;obtain ⟨hcz97_1,hfz97_1⟩:=zc BK888 1 (.string ⟨#[]⟩) rfl;obtain ⟨hcz98_0,hfz98_0⟩:=zc BK839 0 (.string t833) rfl;obtain ⟨hcz98_1,hfz98_1⟩:=zc BK839 1 (.string t834) rfl)|(refine zg (some 79) func83 #[.agg #[.string t833,.string t834]] ?_;(with_reducible refine (Y0s.calls kj57 t833 t834 t889 t890 t891 _ A78.out).mono ?_);rintro e w99 ⟨rfl,hb⟩;refine ⟨_,rfl,?_⟩;replace HO_874001:=aZ (Kd.V_below (by (with_reducible repeat (first|apply Kd.V_alloc|apply Kd.V_drewN|apply Kd.V_drew));exact (Kd.V_mono (Kd.V_far (p:=⟨gb888,1,none⟩) (Kd.V_far (p:=⟨gb888,0,none⟩) (Kd.V_mono HO_874001.out (fun k_ hk=>(⟨hk,hk.2⟩:_∧k_≠gb888))) (fun _ hk=>hk.2) (.string t885)) (fun _ hk=>hk.2) (.string t886)) (fun _ h_=>h_.1))) hb);replace HO_874002:=aZ (Kd.V_below (by (with_reducible repeat (first|apply Kd.V_alloc|apply Kd.V_drewN|apply Kd.V_drew));exact (Kd.V_mono (Kd.V_far (p:=⟨gb888,1,none⟩) (Kd.V_far (p:=⟨gb888,0,none⟩) (Kd.V_mono HO_874002.out (fun k_ hk=>(⟨hk,hk.2⟩:_∧k_≠gb888))) (fun _ hk=>hk.2) (.string t885)) (fun _ hk=>hk.2) (.string t886)) (fun _ h_=>h_.1))) hb);replace BK839:=aZ (blk_below (g:=gb839) (o:=.cells #[.string t833,.string t834] 61 (0,0)) (zq BK839) hb);replace BK840:=aZ (blk_below (g:=gb840) (o:=.cells #[.string x841000_4,.string x841001_4] 61 (0,0)) (zq BK840) hb);replace BK873:=aZ (blk_below (g:=gb873) (o:=.cells #[.bool x874000_57,u874001,u874002] 67 (0,0)) (zq BK873) hb);replace BK884:=aZ (blk_below (g:=gb884) (o:=.cells #[.string t881,.string t882] 61 (0,0)) (zq BK884) hb);replace BK888:=sP (.cells #[.string t885,.string t886] 61 (0,0)) BK888 hb;replace HB:=sB hb;clear hb;have hnb100:=NB873_840.out;have hnc100:=NB840_873.out;obtain ⟨hcz101_0,hfz101_0⟩:=zc BK873 0 (.bool x874000_57) rfl;obtain ⟨hcz101_1,hfz101_1⟩:=zc BK873 1 (u874001) rfl;obtain ⟨hcz101_2,hfz101_2⟩:=zc BK873 2 (u874002) rfl;obtain ⟨Ao102,co102,rfl⟩:=Kd.V_slice HO_874001.out;obtain ⟨Ao103,co103,rfl⟩:=Kd.V_slice HO_874002.out)|(refine zg (some 85) func84 #[.agg #[.bool x874000_57,.slice Ao102 x874001_57.length co102,.slice Ao103 x874002_57.length co103]] ?_;(with_reducible refine (Yq.calls kj57 x874000_57 _ _ x874001_57 _ _ x874002_57 t892 t893 _ (zC (Kd.V_reads' HO_874001.out).2.2) ((Kd.V_reads' HO_874001.out).2.1) (zC (Kd.V_reads' HO_874002.out).2.2) ((Kd.V_reads' HO_874002.out).2.1) (Tryz.Gl.below HG.out bw) A79.out).mono ?_);rintro e w104 ⟨rfl,hb⟩;refine ⟨_,rfl,?_⟩;replace HO_874001:=yV HO_874001 hb;replace HO_874002:=yV HO_874002 hb;replace BK839:=sK BK839 hb;replace BK840:=sK BK840 hb;replace BK873:=sK BK873 hb;replace BK884:=sK BK884 hb;replace BK888:=sK BK888 hb;replace HB:=sB hb;clear hb))
          (try simp only [Act.put,List.setIfInBounds_toArray,List.set_cons_zero,List.set_cons_succ])
          go_cut [20] (fun v20 wc=>∃ (kq:Nat) (x20_79:Bool),v20 = .bool x20_79∧Aside0 (Y0.j4 kq t847 t883 t887 t889 t890 t891 t892 x20_79 x874000_57 x874001_57 x874002_57 t881 t882 t885 t886=some r)∧Aside0 (kq≤kj57)∧Aside0 (Kd.V (Kd.int .i64) 3 wc w.heap.size (fun k_=>k_≠gb839∧k_≠gb840∧k_≠gb873∧k_≠gb884∧k_≠gb888) (.slice Ao102 x874001_57.length co102) x874001_57)∧Aside0 (Kd.V (Kd.int .i64) 3 wc w.heap.size (fun k_=>k_≠gb839∧k_≠gb840∧k_≠gb873∧k_≠gb884∧k_≠gb888) (.slice Ao103 x874002_57.length co103) x874002_57)∧Aside0 (wc.heap[gb839]? = some (.cells #[.string t833,.string t834] 61 (0,0)))∧Aside0 (wc.heap[gb840]? = some (.cells #[.string x841000_4,.string x841001_4] 61 (0,0)))∧Aside0 (wc.heap[gb873]? = some (.cells #[.bool x874000_57,(.slice Ao102 x874001_57.length co102),(.slice Ao103 x874002_57.length co103)] 67 (0,0)))∧Aside0 (wc.heap[gb884]? = some (.cells #[.string t881,.string t882] 61 (0,0)))∧Aside0 (wc.heap[gb888]? = some (.cells #[.string t885,.string t886] 61 (0,0)))∧Aside0 (Below w.heap.size w wc))
          case first =>
           have H:=HC80.out
           clear HC80
           by_cases c105:t893=true
           case neg=>
            replace c105:=Bool.eq_false_iff.mpr c105
            subst c105
            replace H:=zU H
            have H':=aZ H
            clear H
            go_wp2
            go_meet
            case rel=>exact ⟨_,(false),zs,H',⟨by have:=HJ4.out;have:=HJ25.out;have:=HJ48.out;have:=HJ57.out;first|omega|exact Nat.le_refl _⟩,⟨vM HO_874001 (fun _ hk=>⟨hk.1.1.1,⟨hk.1.1.2.1,⟨hk.1.1.2.2,⟨hk.1.2,hk.2⟩⟩⟩⟩)⟩,⟨vM HO_874002 (fun _ hk=>⟨hk.1.1.1,⟨hk.1.1.2.1,⟨hk.1.1.2.2,⟨hk.1.2,hk.2⟩⟩⟩⟩)⟩,⟨zb BK839⟩,⟨zb BK840⟩,⟨zb BK873⟩,⟨zb BK884⟩,⟨zb BK888⟩,⟨bw⟩⟩
           subst c105
           replace H:=zT H
           by_cases c106:t847=0
           case neg=>
            rw [if_neg c106] at H
            obtain ⟨c106b0,c106b1⟩:=zX c106
            (first|rw [c106b0]|(simp only [i64_w,i32_w];rw [c106b0])|skip)
            have H':=aZ H
            clear H
            go_wp2
            go_meet
            case rel=>exact ⟨_,(false),zs,H',⟨by have:=HJ4.out;have:=HJ25.out;have:=HJ48.out;have:=HJ57.out;first|omega|exact Nat.le_refl _⟩,⟨vM HO_874001 (fun _ hk=>⟨hk.1.1.1,⟨hk.1.1.2.1,⟨hk.1.1.2.2,⟨hk.1.2,hk.2⟩⟩⟩⟩)⟩,⟨vM HO_874002 (fun _ hk=>⟨hk.1.1.1,⟨hk.1.1.2.1,⟨hk.1.1.2.2,⟨hk.1.2,hk.2⟩⟩⟩⟩)⟩,⟨zb BK839⟩,⟨zb BK840⟩,⟨zb BK873⟩,⟨zb BK884⟩,⟨zb BK888⟩,⟨bw⟩⟩
           rw [if_pos c106] at H
           obtain ⟨c106b0,c106b1⟩:=zY c106
           clear c106
           (first|rw [c106b0]|(simp only [i64_w,i32_w];rw [c106b0])|skip)
           by_cases c107:t892≥(-2147483648)
           case neg=>
            rw [if_neg c107] at H
            have c107b0:=decide_eq_false c107
            clear c107
            have H':=aZ H
            clear H
            go_wp2
            go_meet
            case rel=>exact ⟨_,(false),zs,H',⟨by have:=HJ4.out;have:=HJ25.out;have:=HJ48.out;have:=HJ57.out;first|omega|exact Nat.le_refl _⟩,⟨vM HO_874001 (fun _ hk=>⟨hk.1.1.1,⟨hk.1.1.2.1,⟨hk.1.1.2.2,⟨hk.1.2,hk.2⟩⟩⟩⟩)⟩,⟨vM HO_874002 (fun _ hk=>⟨hk.1.1.1,⟨hk.1.1.2.1,⟨hk.1.1.2.2,⟨hk.1.2,hk.2⟩⟩⟩⟩)⟩,⟨zb BK839⟩,⟨zb BK840⟩,⟨zb BK873⟩,⟨zb BK884⟩,⟨zb BK888⟩,⟨bw⟩⟩
           rw [if_pos c107] at H
           have c107b0:=decide_eq_true c107
           clear c107
           have H':=aZ H
           clear H
           go_wp2
           go_meet
           case rel=>exact ⟨_,(decide (t892≤2147483647)),zs,H',⟨by have:=HJ4.out;have:=HJ25.out;have:=HJ48.out;have:=HJ57.out;first|omega|exact Nat.le_refl _⟩,⟨vM HO_874001 (fun _ hk=>⟨hk.1.1.1,⟨hk.1.1.2.1,⟨hk.1.1.2.2,⟨hk.1.2,hk.2⟩⟩⟩⟩)⟩,⟨vM HO_874002 (fun _ hk=>⟨hk.1.1.1,⟨hk.1.1.2.1,⟨hk.1.1.2.2,⟨hk.1.2,hk.2⟩⟩⟩⟩)⟩,⟨zb BK839⟩,⟨zb BK840⟩,⟨zb BK873⟩,⟨zb BK884⟩,⟨zb BK888⟩,⟨bw⟩⟩
          case rest =>
           clear HC80
           try clear c17
           try clear c37
           try clear c37b0
           try clear c37b1
           try clear c51
           try clear c52
           try clear c52b0
           try clear c52b1
           try clear c56
           try clear c66
           try clear c66b0
           try clear c66b1
           obtain ⟨kq,x20_79,rfl,HA,HJ79,HO_874001,HO_874002,BK839,BK840,BK873,BK884,BK888,HB⟩:=hcut
           cases kq with
           | zero=>exact absurd HA.out (by simp [Y0.j4])
           | succ kj79 =>
            have H:=HA.out
            clear HA
            simp only [Y0.j4] at H
            have HC108:=aZ H
            clear H
            go_upto_if 102 with (fail)
            go_cut [19] (fun v19 wc=>∃ (kq:Nat) (x19_107:Int),v19 = .int .i64 x19_107∧Aside0 (Y0.j5 kq t847 t883 t887 t889 t890 t891 x19_107 x20_79 x874000_57 x874001_57 x874002_57 t881 t882 t885 t886=some r)∧Aside0 (kq≤kj79)∧Aside0 (Kd.V (Kd.int .i64) 3 wc w.heap.size (fun k_=>k_≠gb839∧k_≠gb840∧k_≠gb873∧k_≠gb884∧k_≠gb888) (.slice Ao102 x874001_57.length co102) x874001_57)∧Aside0 (Kd.V (Kd.int .i64) 3 wc w.heap.size (fun k_=>k_≠gb839∧k_≠gb840∧k_≠gb873∧k_≠gb884∧k_≠gb888) (.slice Ao103 x874002_57.length co103) x874002_57)∧Aside0 (wc.heap[gb839]? = some (.cells #[.string t833,.string t834] 61 (0,0)))∧Aside0 (wc.heap[gb840]? = some (.cells #[.string x841000_4,.string x841001_4] 61 (0,0)))∧Aside0 (wc.heap[gb873]? = some (.cells #[.bool x874000_57,(.slice Ao102 x874001_57.length co102),(.slice Ao103 x874002_57.length co103)] 67 (0,0)))∧Aside0 (wc.heap[gb884]? = some (.cells #[.string t881,.string t882] 61 (0,0)))∧Aside0 (wc.heap[gb888]? = some (.cells #[.string t885,.string t886] 61 (0,0)))∧Aside0 (Below w.heap.size w wc))
            case first =>
             have H:=HC108.out
             clear HC108
             by_cases c109:x20_79=true
             case neg=>
              replace c109:=Bool.eq_false_iff.mpr c109
              subst c109
              replace H:=zU H
              have H':=aZ H
              clear H
              go_wp2
              go_meet
              case rel=>exact ⟨_,(0),zs,H',⟨by have:=HJ4.out;have:=HJ25.out;have:=HJ48.out;have:=HJ57.out;have:=HJ79.out;first|omega|exact Nat.le_refl _⟩,⟨zV HO_874001⟩,⟨zV HO_874002⟩,⟨zb BK839⟩,⟨zb BK840⟩,⟨zb BK873⟩,⟨zb BK884⟩,⟨zb BK888⟩,⟨bw⟩⟩
             subst c109
             replace H:=zT H
             have H':=aZ H
             clear H
             go_wp2
             go_meet
             case rel=>exact ⟨_,(t892),zs,H',⟨by have:=HJ4.out;have:=HJ25.out;have:=HJ48.out;have:=HJ57.out;have:=HJ79.out;first|omega|exact Nat.le_refl _⟩,⟨zV HO_874001⟩,⟨zV HO_874002⟩,⟨zb BK839⟩,⟨zb BK840⟩,⟨zb BK873⟩,⟨zb BK884⟩,⟨zb BK888⟩,⟨bw⟩⟩
            case rest =>
             clear HC108
             try clear c17
             try clear c37
             try clear c37b0
             try clear c37b1
             try clear c51
             try clear c52
             try clear c52b0
             try clear c52b1
             try clear c56
             try clear c66
             try clear c66b0
             try clear c66b1
             try clear c105
             try clear c106
             obtain ⟨kq,x19_107,rfl,HA,HJ107,HO_874001,HO_874002,BK839,BK840,BK873,BK884,BK888,HB⟩:=hcut
             cases kq with
             | zero=>exact absurd HA.out (by simp [Y0.j5])
             | succ kj107 =>
              have H:=HA.out
              clear HA
              simp only [Y0.j5] at H
              obtain ⟨⟨t894,t895,t898⟩,A110,H⟩:=zB H
              (try dsimp only at H)
              obtain ⟨t901,A111,H⟩:=zB H
              by_cases c112:t901=true
              case neg=>
               replace c112:=Bool.eq_false_iff.mpr c112
               subst c112
               replace H:=zU H
               exact absurd ((Option.some.inj H).trans hr.out) (by decide)
              subst c112
              replace H:=zT H
              obtain ⟨⟨t902,t903,t906⟩,A113,H⟩:=zB H
              (try dsimp only at H)
              obtain ⟨t909,A114,H⟩:=zB H
              by_cases c115:t909=true
              case neg=>
               replace c115:=Bool.eq_false_iff.mpr c115
               subst c115
               replace H:=zU H
               exact absurd ((Option.some.inj H).trans hr.out) (by decide)
              subst c115
              replace H:=zT H
              by_cases c116:t889=x19_107
              case neg=>
               rw [if_neg c116] at H
               obtain ⟨c116b0,c116b1⟩:=zX c116
               exact absurd ((Option.some.inj H).trans hr.out) (by decide)
              rw [if_pos c116] at H
              obtain ⟨c116b0,c116b1⟩:=zY c116
              clear c116
              by_cases c117:(t890==x20_79)=true
              case neg=>
               rw [if_neg c117] at H
               have c117b0:(t890==x20_79)=false:=by simpa using c117
               (try (have c117b1:decide (t890=x20_79)=false:=by simpa using c117))
               (try (have c117b2:(t890==x20_79)=false:=by simpa using c117))
               (try (have c117b3:¬ (t890=x20_79):=by simpa using c117))
               clear c117
               exact absurd ((Option.some.inj H).trans hr.out) (by decide)
              rw [if_pos c117] at H
              have c117b0:(t890==x20_79)=true:=c117
              (try (have c117b1:decide (t890=x20_79)=true:=by simpa using c117))
              (try (have c117b2:(t890==x20_79)=true:=by simpa using c117))
              clear c117
              obtain rfl:=Option.some.inj H
              try go_wp2
              replace HO_874001:=aZ (Kd.V_drew HO_874001.out)
              replace HO_874002:=aZ (Kd.V_drew HO_874002.out)
              replace BK839:=aZ (blk_drew BK839.out)
              replace BK840:=aZ (blk_drew BK840.out)
              replace BK873:=aZ (blk_drew BK873.out)
              replace BK884:=aZ (blk_drew BK884.out)
              replace BK888:=aZ (blk_drew BK888.out)
              replace HB:=aZ (below_drew1 HB.out)
              refine start_ (n:=30) (S:=fun w'=>w'.cell? ⟨gb884,0,none⟩=some (.string t881)∧w'.cell? ⟨gb884,1,none⟩=some (.string t882)∧w'.cell? ⟨gb873,0,none⟩=some (.bool x874000_57)∧w'.cell? ⟨gb873,1,none⟩=some (.slice Ao102 x874001_57.length co102)∧w'.cell? ⟨gb873,2,none⟩=some (.slice Ao103 x874002_57.length co103)∧w'.cell? ⟨gb888,0,none⟩=some (.string t885)∧w'.cell? ⟨gb888,1,none⟩=some (.string t886)) (ds:=[]) #[false,false,false,false,false,false,false,false,false,false,false,false,false,false,false,false,false,false,false,false,false,false,false,false,false,false,false,false,false,false] (by kernel_rfl) rfl rfl ⟨zh BK884 0,zh BK884 1,zh BK873 0,zh BK873 1,zh BK873 2,zh BK888 0,zh BK888 1⟩ (fun hHeld=>?_);refine with_tabW Y0.tab22 Y0.bits22 (fun HT_ HW_=>?_)
              generalize wc.drew=w118 at HO_874001 HO_874002 BK839 BK840 BK873 BK884 BK888 HB hHeld ⊢
              refine pu 1 (some 104) HT_ ?_
              refine pu 4 (some 107) HT_ ?_
              refine tk 0 (some 103) HT_ HW_ hHeld ?_
              refine tk 2 (some 105) HT_ HW_ hHeld ?_
              refine one_ (i:=3) (N:=some 106) #[true,true,true,true,true,false,false,false,false,false,false,false,false,false,false,false,false,false,false,false,false,false,false,false,false,false,false,false,false,false] rfl rfl (one_of HT_.out (by kernel_rfl)) (by decide) (fun K hK=>?_)
              refine goes_ func85 (by kernel_rfl) rfl #[.agg #[.bool x874000_57,.slice Ao102 x874001_57.length co102,.slice Ao103 x874002_57.length co103]] (by rfl) rfl rfl zm ?_
              with_reducible refine (Yw.calls kj107 x874000_57 (fun k_=>(k_≠gb839∧(k_≠gb840∧(k_≠gb873∧(k_≠gb884∧k_≠gb888))))) _ _ x874001_57 _ _ x874002_57 t894 t895 t898 _ HO_874001.out (zC (Kd.V_reads' HO_874002.out).2.2) ((Kd.V_reads' HO_874002.out).2.1) A110.out).mono ?_
              rintro e w119 ⟨v896,v899,rfl,ho0,ho1,hb⟩
              refine ⟨_,rfl,?_⟩
              replace HO_874001:=aZ (Kd.V_elder' (zV HO_874001) (Kd.R_base ho1) hb)
              replace HO_874002:=aZ (Kd.V_elder' (zV HO_874002) (Kd.R_base ho1) hb)
              have HO897:=yL (fun k_=>some k_≠(v899:Value).ownBlock∧k_≠gb839∧k_≠gb840∧k_≠gb873∧k_≠gb884∧k_≠gb888) ho0 (fun k_ hk_=>⟨hk_.2,Or.elim hk_.1 (fun hs_=>hs_.1) (fun hn_=>(zf BK839 hn_)),Or.elim hk_.1 (fun hs_=>hs_.2.1) (fun hn_=>(zf BK840 hn_)),Or.elim hk_.1 (fun hs_=>hs_.2.2.1) (fun hn_=>(zf BK873 hn_)),Or.elim hk_.1 (fun hs_=>hs_.2.2.2.1) (fun hn_=>(zf BK884 hn_)),Or.elim hk_.1 (fun hs_=>hs_.2.2.2.2) (fun hn_=>(zf BK888 hn_))⟩)
              have HO900:=aZ (Kd.R_lower (Kd.R_mono (ok':=fun k_=>True) ho1 (fun _ hk_=>trivial)) bs)
              replace BK839:=sK BK839 hb
              replace BK840:=sK BK840 hb
              replace BK873:=sK BK873 hb
              replace BK884:=sK BK884 hb
              replace BK888:=sK BK888 hb
              replace HB:=sB hb
              clear hb ho0 ho1
              obtain ⟨Ao120,co120,eo120⟩:=Kd.V_slice HO897.out
              (first|subst eo120|(injection eo120 with f1_ f2_ f3_;have f4_:=f1_.symm;have f5_:=f3_.symm;clear f1_ f2_ f3_;subst f4_;subst f5_))
              obtain ⟨Ao121,co121,eo121⟩:=Kd.R_slice HO900.out
              (first|subst eo121|(injection eo121 with f1_ f2_ f3_;have f4_:=f1_.symm;have f5_:=f3_.symm;clear f1_ f2_ f3_;subst f4_;subst f5_))
              refine hK.out _ _ ⟨zh BK884 0,zh BK884 1,zh BK873 0,zh BK873 1,zh BK873 2,zh BK888 0,zh BK888 1⟩ (fun hHeld=>?_)
              clear hK K
              refine nm ?_
              refine one_ (i:=5) (N:=some 108) #[true,true,true,true,true,true,false,false,false,false,false,false,false,false,false,false,false,false,false,false,false,false,false,false,false,false,false,false,false,false] rfl rfl (one_of HT_.out (by kernel_rfl)) (by decide) (fun K hK=>?_)
              refine goes_ func50 (by kernel_rfl) rfl #[.agg #[.string t881,.string t882],.int .i64 t883,.agg #[.bool t894,.slice Ao120 t895.length co120,.slice Ao121 t898.length co121],.int .i64 t847] (by rfl) rfl rfl zm ?_
              with_reducible refine (Yu.calls t881 t882 t883 t894 _ _ t895 _ _ t898 t847 true _ (zC (Kd.V_reads' HO897.out).2.2) ((Kd.V_reads' HO897.out).2.1) (zC (Kd.R_reads' HO900.out).2.2) ((Kd.R_reads' HO900.out).2.1) (Tryz.Gl.below HG.out bw) A111.out).mono ?_
              rintro e w122 ⟨rfl,hb⟩
              refine ⟨_,rfl,?_⟩
              replace HO_874001:=yV HO_874001 hb
              replace HO_874002:=yV HO_874002 hb
              replace HO897:=yV HO897 hb
              replace HO900:=yR HO900 hb
              replace BK839:=sK BK839 hb
              replace BK840:=sK BK840 hb
              replace BK873:=sK BK873 hb
              replace BK884:=sK BK884 hb
              replace BK888:=sK BK888 hb
              replace HB:=sB hb
              clear hb
              refine hK.out _ _ ⟨zh BK884 0,zh BK884 1,zh BK873 0,zh BK873 1,zh BK873 2,zh BK888 0,zh BK888 1⟩ (fun hHeld=>?_)
              clear hK K
              refine nm ?_
              refine pu 6 (some 109) HT_ ?_
              refine pu 8 (some 111) HT_ ?_
              refine pu 11 (some 114) HT_ ?_
              refine tk 7 (some 110) HT_ HW_ hHeld ?_
              refine tk 9 (some 112) HT_ HW_ hHeld ?_
              refine one_ (i:=10) (N:=some 113) #[true,true,true,true,true,true,true,true,true,true,true,true,false,false,false,false,false,false,false,false,false,false,false,false,false,false,false,false,false,false] rfl rfl (one_of HT_.out (by kernel_rfl)) (by decide) (fun K hK=>?_)
              refine goes_ func86 (by kernel_rfl) rfl #[.agg #[.bool x874000_57,.slice Ao102 x874001_57.length co102,.slice Ao103 x874002_57.length co103]] (by rfl) rfl rfl zm ?_
              with_reducible refine (Y09.calls kj107 x874000_57 _ _ x874001_57 _ _ x874002_57 t902 t903 t906 _ (zC (Kd.V_reads' HO_874001.out).2.2) ((Kd.V_reads' HO_874001.out).2.1) (zC (Kd.V_reads' HO_874002.out).2.2) ((Kd.V_reads' HO_874002.out).2.1) A113.out).mono ?_
              rintro e w123 ⟨v904,v907,rfl,ho0,ho1,hb⟩
              refine ⟨_,rfl,?_⟩
              replace HO_874001:=aZ (Kd.V_elder' (zV HO_874001) (Kd.R_base ho1) hb)
              replace HO_874002:=aZ (Kd.V_elder' (zV HO_874002) (Kd.R_base ho1) hb)
              replace HO897:=aZ (Kd.V_elder' (zV HO897) (Kd.R_base ho1) hb)
              have HO905:=yL (fun k_=>some k_≠(v907:Value).ownBlock∧some k_≠(.slice Ao121 t898.length co121:Value).ownBlock∧k_≠gb839∧k_≠gb840∧k_≠gb873∧k_≠gb884∧k_≠gb888) ho0 (fun k_ hk_=>⟨hk_.2,(Kd.fresh' (Kd.R_lt (zR HO900)) k_ hk_.1),(Kd.freshB (g:=gb839) (o:=.cells #[.string t833,.string t834] 61 (0,0)) (zb BK839) k_ hk_.1),(Kd.freshB (g:=gb840) (o:=.cells #[.string x841000_4,.string x841001_4] 61 (0,0)) (zb BK840) k_ hk_.1),(Kd.freshB (g:=gb873) (o:=.cells #[.bool x874000_57,.slice Ao102 x874001_57.length co102,.slice Ao103 x874002_57.length co103] 67 (0,0)) (zb BK873) k_ hk_.1),(Kd.freshB (g:=gb884) (o:=.cells #[.string t881,.string t882] 61 (0,0)) (zb BK884) k_ hk_.1),(Kd.freshB (g:=gb888) (o:=.cells #[.string t885,.string t886] 61 (0,0)) (zb BK888) k_ hk_.1)⟩)
              have HO908:=aZ (Kd.R_lower (Kd.R_new' (Kd.R_mono (ok':=fun k_=>True) ho1 (fun _ hk_=>trivial)) (Kd.R_lt (zR HO900))) bs)
              replace HO900:=aZ (Kd.R_elder' (zR HO900) (Kd.R_base ho1) hb)
              replace BK839:=sK BK839 hb
              replace BK840:=sK BK840 hb
              replace BK873:=sK BK873 hb
              replace BK884:=sK BK884 hb
              replace BK888:=sK BK888 hb
              replace HB:=sB hb
              clear hb ho0 ho1
              obtain ⟨Ao124,co124,eo124⟩:=Kd.V_slice HO905.out
              (first|subst eo124|(injection eo124 with f1_ f2_ f3_;have f4_:=f1_.symm;have f5_:=f3_.symm;clear f1_ f2_ f3_;subst f4_;subst f5_))
              obtain ⟨Ao125,co125,eo125⟩:=Kd.R_slice HO908.out
              (first|subst eo125|(injection eo125 with f1_ f2_ f3_;have f4_:=f1_.symm;have f5_:=f3_.symm;clear f1_ f2_ f3_;subst f4_;subst f5_))
              refine hK.out _ _ ⟨zh BK884 0,zh BK884 1,zh BK873 0,zh BK873 1,zh BK873 2,zh BK888 0,zh BK888 1⟩ (fun hHeld=>?_)
              clear hK K
              refine nm ?_
              refine one_ (i:=12) (N:=some 115) #[true,true,true,true,true,true,true,true,true,true,true,true,true,false,false,false,false,false,false,false,false,false,false,false,false,false,false,false,false,false] rfl rfl (one_of HT_.out (by kernel_rfl)) (by decide) (fun K hK=>?_)
              refine goes_ func50 (by kernel_rfl) rfl #[.agg #[.string t885,.string t886],.int .i64 t887,.agg #[.bool t902,.slice Ao124 t903.length co124,.slice Ao125 t906.length co125],.int .i64 t847] (by rfl) rfl rfl zm ?_
              with_reducible refine (Yu.calls t885 t886 t887 t902 _ _ t903 _ _ t906 t847 true _ (zC (Kd.V_reads' HO905.out).2.2) ((Kd.V_reads' HO905.out).2.1) (zC (Kd.R_reads' HO908.out).2.2) ((Kd.R_reads' HO908.out).2.1) (Tryz.Gl.below HG.out bw) A114.out).mono ?_
              rintro e w126 ⟨rfl,hb⟩
              refine ⟨_,rfl,?_⟩
              replace HO_874001:=yV HO_874001 hb
              replace HO_874002:=yV HO_874002 hb
              replace HO897:=yV HO897 hb
              replace HO900:=yR HO900 hb
              replace HO905:=yV HO905 hb
              replace HO908:=yR HO908 hb
              replace BK839:=sK BK839 hb
              replace BK840:=sK BK840 hb
              replace BK873:=sK BK873 hb
              replace BK884:=sK BK884 hb
              replace BK888:=sK BK888 hb
              replace HB:=sB hb
              clear hb
              refine hK.out _ _ ⟨zh BK884 0,zh BK884 1,zh BK873 0,zh BK873 1,zh BK873 2,zh BK888 0,zh BK888 1⟩ (fun hHeld=>?_)
              clear hK K
              refine nm ?_
              refine pu 13 (some 116) HT_ ?_
              refine pu 14 (some 117) HT_ ?_
              refine pu 15 (some 118) HT_ ?_
              refine pu 16 (some 119) HT_ ?_
              refine pu 17 (some 120) HT_ ?_
              refine pu 18 (some 121) HT_ ?_
              refine pu 19 (some 122) HT_ ?_
              refine pu 20 (some 123) HT_ ?_
              refine pu 21 (some 124) HT_ ?_
              refine pu 22 (some 125) HT_ ?_
              refine pu 23 (some 126) HT_ ?_
              refine pu 24 (some 127) HT_ ?_
              refine pu 25 (some 128) HT_ ?_
              refine pu 26 (some 129) HT_ ?_
              refine pu 27 (some 130) HT_ ?_
              refine pu 28 (some 131) HT_ ?_
              refine pu 29 (some 2) HT_ ?_
              refine done_ (done_of HT_.out (by kernel_rfl)) ?_
              try go_wp2
              go_ret
              exact ⟨ze,bw⟩
       subst c56
       replace H:=zT H
       exact absurd ((Option.some.inj H).trans hr.out) (by decide)
def Y0.Pure:Prop:=∀ (l0:List Int),l0.length≤maxLen→l0.length*8≤140737488351232→(∀ x ∈ l0,(Lit.int .i64 x).wf=true)→∃ k,Y0.f k l0=some true
theorem Y0.walk (P:Y0.Pure) (a0:Option Addr) (len0 cap0:Nat) (z0:List Int) (w:World) (w0:(a0=none∧len0=0∧cap0=0∧z0=[])∨∃ x,a0=some x∧len0≤cap0∧cap0≤maxLen∧z0.length=cap0∧(∀ i,i<z0.length→w.cell? (x.add i)=some (.int .i64 (z0.getD i 0)))∧∀ n ∈ z0,(Lit.int .i64 n).wf=true) (y0:len0*8≤140737488351232) (hG:Tryz.Gl w) :
  Calls Tryz.prog 18 #[.slice a0 len0 cap0] w fun e w'=>e = .returned (.bool true)∧Below w.heap.size w w':=by
 obtain ⟨l0,rfl,hr0,hm0,hw0,hc0⟩:=ReadsInt.ofRowC w0
 obtain ⟨k,h⟩:=P l0 hm0 y0 hw0
 refine (Y0.calls k _ _ l0 true w (Kd.C_of_reads (d:=(0:Int)) (h1:=fun _=>rfl) hr0) hc0 hG h ⟨rfl⟩).mono ?_
 rintro e w' ⟨rfl,hd⟩
 exact ⟨rfl,hd⟩
end Go.Proofs.YtaffkbemjbfajaaGreatDoor.PNumOrders
