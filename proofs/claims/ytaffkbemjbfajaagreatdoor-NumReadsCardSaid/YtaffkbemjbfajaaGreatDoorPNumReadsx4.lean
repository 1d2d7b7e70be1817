-- By a program of this session: functions as plain Lean functions, each with its proof over the machine.
import Derived.Test.YtaffkbemjbfajaaGreatDoorPNumReadsx0
import Derived.Test.YtaffkbemjbfajaaGreatDoorPNumReadsx1
import Derived.Test.YtaffkbemjbfajaaGreatDoorPNumReadsx2
import Derived.Test.YtaffkbemjbfajaaGreatDoorPNumReadsx3
namespace Go.Proofs.YtaffkbemjbfajaaGreatDoor.PNumReads
open Go.RowKit Go.Proofs.Tryz Go.Proofs.YtaffkbemjbfajaaGreatDoorW.PrintWords Go.Proofs.YtaffkbemjbfajaaGreatDoorW.PrintLast Go.Proofs.YtaffkbemjbfajaaGreatDoorW.PrintMore
attribute [local go_sem] max2_int min2_int max_two min_two max_three min_three max_four min_four
set_option linter.unusedVariables false
set_option linter.unusedSimpArgs false
attribute [local go_sem high] eqA61
def Yl.l0:Nat→ByteArray→Int→Int→List Int→Int→Option (Bool)
 | 0,_,_,_,_,_=>none
 | k+1,x4,x16,x17,x462000,x462001=>if x17<x16 then ((Yc.f k x462000 x462001 x4 (⟨#[48,49,50,51,52,53,54,55,56,57,45,47,43,32,46,120]⟩:ByteArray)).bind fun bt468=>(Yl.l0 k bt468.1 x16 (wrap64 (x17+1)) x462000 bt468.2)) else ((YZ.f k x4).bind fun bt470=>((Yu.f k x4).bind fun bt474=>((YA.f k).bind fun t478=>(if t478=true then (if bt470.2.2=bt474.2.2 then (some (bt470.1.toList==bt474.1.toList&&(bt470.2.1.toList==bt474.2.1.toList))) else (some false)) else (some false)))))
def Yl.f (k:Nat) (l0:List Int):Option (Bool):=(YH.f k l0 0).bind fun bt462=>((Yy.f bt462.1 bt462.2.1).bind fun t465=>((Y0.f l0 bt462.2.2 3).bind fun bt466=>(Yl.l0 k t465 bt466.1 0 l0 bt466.2)))
set_option maxHeartbeats 80000000 in
set_option maxRecDepth 100000 in
theorem Yl.calls (k:Nat) (A0:Option Addr) (c0:Nat) (l0:List Int) (r:Bool) (w:World) (hr0:Kd.C (Kd.int .i64) w A0 l0.length l0) (hc0:l0.length≤c0) (hG:Tryz.Gl w) (h:Yl.f k l0=some r) (hr:Aside0 (r=true)) :
  Calls Tryz.prog 16 #[.slice A0 l0.length c0] w fun e w'=>e = .returned (.bool r)∧Below w.heap.size w w':=by
 have hu44:=underlying44
 have hu61:=underlying61
 have HG:=aZ hG
 clear hG
 have HR0:=aZ hr0
 have HC0:=aZ hc0
 clear hr0 hc0
 have HB:=aZ (Below.refl w.heap.size w)
 have H:=h
 unfold Yl.f at H
 clear h
 obtain ⟨⟨t462,t463,t464⟩,A2,H⟩:=zB H
 (try dsimp only at H)
 obtain ⟨t465,A3,H⟩:=zB H
 obtain ⟨⟨t466,t467⟩,A4,H⟩:=zB H
 (try dsimp only at H)
 have H':=aZ H
 clear H
 go_enter func16,ntmps16
 go_wp2_with (first|(refine box_ev 11 #[.slice A0 l0.length c0,.int .i64 0] 44 ?_;intro gb461 hg w5 hbox hb;have GE461:=sG hg;have HI461:=aZ ((by refine ⟨_,_,hbox,(by rw [hg];exact bs),HR0.out⟩:IsS44 w _ gb461 l0 0));replace HB:=sB hb;clear hb hbox hg)|(refine zg (some 13) func72 #[.pointer (some ⟨gb461,0,none⟩)] ?_;(with_reducible refine (YH.calls k gb461 l0 0 t462 t463 t464 w _ ?side1 ?side2 ?side3 A2.out).mono ?_);(case side1=>exact zi HI461);(case side2=>exact bw);(case side3=>exact HG.out);rintro e w6 ⟨rfl,hi,hb,hk⟩;refine ⟨_,rfl,?_⟩;replace HB:=aZ (hb);replace HI461:=aZ (hi);clear hb hk hi)|(refine zg (some 14) func55 #[.agg #[.string t462,.string t463]] ?_;(with_reducible refine (Yy.calls t462 t463 t465 _ A3.out).mono ?_);rintro e w7 ⟨rfl,hb⟩;refine ⟨_,rfl,?_⟩;replace HI461:=aZ (IsS44.below (zi HI461) hb);replace HB:=sB hb;clear hb)|(refine zg (some 16) func33 #[.pointer (some ⟨gb461,0,none⟩),.int .i64 3] ?_;(with_reducible refine (Y0.calls gb461 l0 t464 3 t466 t467 w _ ?side1 ?side2 A4.out).mono ?_);(case side1=>exact zi HI461);(case side2=>exact bw);rintro e w8 ⟨rfl,hi,hb,hk⟩;refine ⟨_,rfl,?_⟩;replace HB:=aZ (hb);replace HI461:=aZ (hi);clear hb hk hi))
 go_loopg [4,17] k (fun kq v4 v17 w'=>∃ (x4_1:ByteArray) (x17_1:Int) (x462001_1:Int),v4 = .string x4_1∧v17 = .int .i64 x17_1∧Aside0 (Yl.l0 kq x4_1 t466 x17_1 l0 x462001_1=some r)∧Aside0 (kq≤k)∧Aside0 (IsS44 w w' gb461 l0 x462001_1)∧Aside0 (Below w.heap.size w w'))
 case atStart=>exact ⟨(t465),(0),(t467),zs,zs,H',⟨Nat.le_refl _⟩,⟨zi HI461⟩,⟨bw⟩⟩
 case round =>
  clear H'
  try clear c1
  try clear c3
  try clear c5
  try clear c7
  obtain ⟨x4_1,x17_1,x462001_1,rfl,rfl,HA,HK1,HI461,HB⟩:=hrel
  cases gk with
  | zero=>exact absurd HA.out (by simp [Yl.l0])
  | succ k1 =>
   have H:=HA.out
   clear HA
   simp only [Yl.l0] at H
   by_cases c9:x17_1<t466
   case neg=>
    rw [if_neg c9] at H
    have c9b0:=decide_eq_false c9
    clear c9
    obtain ⟨⟨t470,t471,t472⟩,A12,H⟩:=zB H
    (try dsimp only at H)
    obtain ⟨⟨t474,t475,t476⟩,A13,H⟩:=zB H
    (try dsimp only at H)
    obtain ⟨t478,A14,H⟩:=zB H
    by_cases c15:t478=true
    case neg=>
     replace c15:=Bool.eq_false_iff.mpr c15
     subst c15
     have H1:(some false)=some r:=by rw [if_neg (show ¬ (false=true) by decide)] at H;exact H
     clear H
     have H:=H1
     clear H1
     exact absurd ((Option.some.inj H).trans hr.out) (by decide)
    subst c15
    have H1:(if t472=t476 then (some (t470.toList==t474.toList&&(t471.toList==t475.toList))) else (some false))=some r:=by rw [if_pos rfl] at H;exact H
    clear H
    have H:=H1
    clear H1
    by_cases c16:t472=t476
    case neg=>
     rw [if_neg c16] at H
     obtain ⟨c16b0,c16b1⟩:=zX c16
     exact absurd ((Option.some.inj H).trans hr.out) (by decide)
    rw [if_pos c16] at H
    obtain ⟨c16b0,c16b1⟩:=zY c16
    clear c16
    obtain rfl:=Option.some.inj H
    go_wp2_with (first|(refine zg (some 25) func74 #[.string x4_1] ?_;(with_reducible refine (YZ.calls k1 x4_1 t470 t471 t472 _ ?side1 A12.out).mono ?_);(case side1=>exact Tryz.Gl.below HG.out bw);rintro e w17 ⟨rfl,hb⟩;refine ⟨_,rfl,?_⟩;replace HI461:=aZ (IsS44.below (zi HI461) hb);replace HB:=sB hb;clear hb)|(refine box_ev 5 #[.string ⟨#[]⟩,.string ⟨#[]⟩] 61 ?_;intro gb473 hg w18 hbox hb;have BK473:=aZ hbox;have GE473:=sG hg;replace HB:=sB hb;have NB461_473:=aZ ((by rw [hg];exact Nat.ne_of_lt (IsS44.lt (show IsS44 w _ gb461 l0 x462001_1 from zi HI461)):gb461≠gb473));have NB473_461:=aZ ((by rw [hg];exact Nat.ne_of_gt (IsS44.lt (show IsS44 w _ gb461 l0 x462001_1 from zi HI461)):gb473≠gb461));replace HI461:=aZ (IsS44.below (zi HI461) hb);clear hb hbox hg;have hnb19:=NB473_461.out;have hnc19:=NB461_473.out;obtain ⟨hcz20_0,hfz20_0⟩:=zc BK473 0 (.string ⟨#[]⟩) rfl;obtain ⟨hcz20_1,hfz20_1⟩:=zc BK473 1 (.string ⟨#[]⟩) rfl)|(refine zg (some 30) func75 #[.string x4_1] ?_;(with_reducible refine (Yu.calls k1 x4_1 t474 t475 t476 _ ?side1 A13.out).mono ?_);(case side1=>exact Tryz.Gl.below HG.out bw);rintro e w21 ⟨rfl,hb⟩;refine ⟨_,rfl,?_⟩;replace HI461:=aZ (IsS44.below (show IsS44 w ((w18.setCell ⟨gb473,0,none⟩ (.string t470)).setCell ⟨gb473,1,none⟩ (.string t471)) gb461 l0 x462001_1 from zi HI461) hb);replace BK473:=sP (.cells #[.string t470,.string t471] 61 (0,0)) BK473 hb;replace HB:=sB hb;clear hb)|(refine box_ev 7 #[.string ⟨#[]⟩,.string ⟨#[]⟩] 61 ?_;intro gb477 hg w22 hbox hb;have BK477:=aZ hbox;have GE477:=sG hg;replace HB:=sB hb;have NB473_477:=sl hg BK473;have NB477_473:=sg hg BK473;replace BK473:=sK BK473 hb;have NB461_477:=aZ ((by rw [hg];exact Nat.ne_of_lt (IsS44.lt (show IsS44 w _ gb461 l0 x462001_1 from zi HI461)):gb461≠gb477));have NB477_461:=aZ ((by rw [hg];exact Nat.ne_of_gt (IsS44.lt (show IsS44 w _ gb461 l0 x462001_1 from zi HI461)):gb477≠gb461));replace HI461:=aZ (IsS44.below (zi HI461) hb);clear hb hbox hg;have hnb23:=NB477_473.out;have hnc23:=NB473_477.out;have hnb24:=NB477_461.out;have hnc24:=NB461_477.out;obtain ⟨hcz25_0,hfz25_0⟩:=zc BK477 0 (.string ⟨#[]⟩) rfl;obtain ⟨hcz25_1,hfz25_1⟩:=zc BK477 1 (.string ⟨#[]⟩) rfl)|(refine zg (some 33) func20 #[] ?_;(with_reducible refine (YA.calls k1  true _ ?side1 A14.out).mono ?_);(case side1=>exact Tryz.Gl.below HG.out bw);rintro e w26 ⟨rfl,hb⟩;refine ⟨_,rfl,?_⟩;replace HI461:=aZ (IsS44.below (show IsS44 w ((w22.setCell ⟨gb477,0,none⟩ (.string t474)).setCell ⟨gb477,1,none⟩ (.string t475)) gb461 l0 x462001_1 from zi HI461) hb);replace BK473:=aZ (blk_below (g:=gb473) (o:=.cells #[.string t470,.string t471] 61 (0,0)) (zq BK473) hb);replace BK477:=sP (.cells #[.string t474,.string t475] 61 (0,0)) BK477 hb;replace HB:=sB hb;clear hb;obtain ⟨hcz27_0,hfz27_0⟩:=zc BK473 0 (.string t470) rfl;obtain ⟨hcz27_1,hfz27_1⟩:=zc BK473 1 (.string t471) rfl;obtain ⟨hcz28_0,hfz28_0⟩:=zc BK477 0 (.string t474) rfl;obtain ⟨hcz28_1,hfz28_1⟩:=zc BK477 1 (.string t475) rfl))
    go_ret
    exact ⟨ze,bw⟩
   rw [if_pos c9] at H
   have c9b0:=decide_eq_true c9
   clear c9
   obtain ⟨⟨t468,t469⟩,A10,H⟩:=zB H
   (try dsimp only at H)
   have H':=aZ H
   clear H
   go_wp2_with (first|(refine zg (some 21) func73 #[.pointer (some ⟨gb461,0,none⟩),.string x4_1,.string (⟨#[48,49,50,51,52,53,54,55,56,57,45,47,43,32,46,120]⟩:ByteArray)] ?_;(with_reducible refine (Yc.calls k1 gb461 l0 x462001_1 x4_1 (⟨#[48,49,50,51,52,53,54,55,56,57,45,47,43,32,46,120]⟩:ByteArray) t468 t469 w _ ?side1 ?side2 A10.out).mono ?_);(case side1=>exact zi HI461);(case side2=>exact bw);rintro e w11 ⟨rfl,hi,hb,hk⟩;refine ⟨_,rfl,?_⟩;replace HB:=aZ (hb);replace HI461:=aZ (hi);clear hb hk hi))
   go_roundg k1
   case measure=>have:=HK1.out;omega
   case rel=>exact ⟨(t468),(wrap64 (x17_1+1)),(t469),zs,zs,H',⟨by have:=HK1.out;omega⟩,⟨zi HI461⟩,⟨bw⟩⟩
def Yl.Pure:Prop:=∀ (l0:List Int),l0.length≤maxLen→l0.length*8≤140737488351232→(∀ x ∈ l0,(Lit.int .i64 x).wf=true)→∃ k,Yl.f k l0=some true
theorem Yl.walk (P:Yl.Pure) (a0:Option Addr) (len0 cap0:Nat) (z0:List Int) (w:World) (w0:(a0=none∧len0=0∧cap0=0∧z0=[])∨∃ x,a0=some x∧len0≤cap0∧cap0≤maxLen∧z0.length=cap0∧(∀ i,i<z0.length→w.cell? (x.add i)=some (.int .i64 (z0.getD i 0)))∧∀ n ∈ z0,(Lit.int .i64 n).wf=true) (y0:len0*8≤140737488351232) (hG:Tryz.Gl w) :
  Calls Tryz.prog 16 #[.slice a0 len0 cap0] w fun e w'=>e = .returned (.bool true)∧Below w.heap.size w w':=by
 obtain ⟨l0,rfl,hr0,hm0,hw0,hc0⟩:=ReadsInt.ofRowC w0
 obtain ⟨k,h⟩:=P l0 hm0 y0 hw0
 refine (Yl.calls k _ _ l0 true w (Kd.C_of_reads (d:=(0:Int)) (h1:=fun _=>rfl) hr0) hc0 hG h ⟨rfl⟩).mono ?_
 rintro e w' ⟨rfl,hd⟩
 exact ⟨rfl,hd⟩
end Go.Proofs.YtaffkbemjbfajaaGreatDoor.PNumReads
