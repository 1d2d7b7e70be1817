-- By a program of this session: functions as plain Lean functions, each with its proof over the machine.
import Derived.Test.YtaffkbemjbfajaaGreatDoorPNumReadsx0
import Derived.Test.YtaffkbemjbfajaaGreatDoorPNumReadsx2
import Derived.Test.YtaffkbemjbfajaaGreatDoorPNumReadsx1
namespace Go.Proofs.YtaffkbemjbfajaaGreatDoor.PNumReads
open Go.RowKit Go.Proofs.Tryz Go.Proofs.YtaffkbemjbfajaaGreatDoorW.PrintWords Go.Proofs.YtaffkbemjbfajaaGreatDoorW.PrintLast Go.Proofs.YtaffkbemjbfajaaGreatDoorW.PrintMore
attribute [local go_sem] max2_int min2_int max_two min_two max_three min_three max_four min_four
set_option linter.unusedVariables false
set_option linter.unusedSimpArgs false
set_option maxHeartbeats 8000000
set_option maxRecDepth 100000
mutual
def Y4.l0:Nat→List Int→List Int→List Int→Int→Int→Option (List Int)
 | 0,_,_,_,_,_=>none
 | k+1,x1,x5,x16,x17,x18=>if x18<x17 then (if 0≤x18 then (if x18<(x16.length:Int) then (Y4.l1 k x1 x5 x18 (rd x16 x18) x16 x17 x18 x1 (x1.length:Int) 0) else (none)) else (none)) else ((Y1.f k x5).bind fun t414=>(some t414))
def Y4.l1:Nat→List Int→List Int→Int→Int→List Int→Int→Int→List Int→Int→Int→Option (List Int)
 | 0,_,_,_,_,_,_,_,_,_,_=>none
 | k+1,x1,x5,x6,x7,x16,x17,x18,x23,x24,x25=>if x25<x24 then (if 0≤x25 then (if x25<(x23.length:Int) then (if 0≤(wrap64 (x6+x25)) then (if (wrap64 (x6+x25))<(x5.length:Int) then (Y4.l1 k x1 (x5.set ((wrap64 (x6+x25)):Int).toNat (wrap64 ((rd x5 (wrap64 (x6+x25)))+(wrap64 (x7*(rd x23 x25)))))) x6 x7 x16 x17 x18 x23 x24 (wrap64 (x25+1))) else (none)) else (none)) else (none)) else (none)) else (Y4.l0 k x1 x5 x16 x17 (wrap64 (x18+1)))
end
def Y4.f (k:Nat) (l0:List Int) (l1:List Int):Option (List Int):=if 0≤(wrap64 ((l0.length:Int)+(l1.length:Int))) then (if (wrap64 ((l0.length:Int)+(l1.length:Int)):Int).toNat≤35184372088832 then (Y4.l0 k l1 (List.replicate (wrap64 ((l0.length:Int)+(l1.length:Int)):Int).toNat 0) l0 (l0.length:Int) 0) else (none)) else (none)
theorem Y4.mono_l:∀ k,(∀ y0 y1 y2 y3 y4,LeO (Y4.l0 k y0 y1 y2 y3 y4) (Y4.l0 (k+1) y0 y1 y2 y3 y4))∧(∀ y0 y1 y2 y3 y4 y5 y6 y7 y8 y9,LeO (Y4.l1 k y0 y1 y2 y3 y4 y5 y6 y7 y8 y9) (Y4.l1 (k+1) y0 y1 y2 y3 y4 y5 y6 y7 y8 y9))
 | 0=>⟨fun _ _ _ _ _ r h=>by simp [Y4.l0] at h,fun _ _ _ _ _ _ _ _ _ _ r h=>by simp [Y4.l1] at h⟩
 | k+1=>by
  obtain ⟨ih0,ih1⟩:=Y4.mono_l k
  refine ⟨?_,?_⟩
  ·intro y0 y1 y2 y3 y4
   unfold Y4.l0
   have m0:=Y1.mono
   exact zM
  ·intro y0 y1 y2 y3 y4 y5 y6 y7 y8 y9
   unfold Y4.l1
   have m0:=Y1.mono
   exact zM
theorem Y4.mono:∀ a0 a1 k,LeO (Y4.f k a0 a1) (Y4.f (k+1) a0 a1):=by
 intro a0 a1 k
 obtain ⟨ih0,ih1⟩:=Y4.mono_l k
 unfold Y4.f
 have m0:=Y1.mono
 exact zM
theorem Y4.calls (k:Nat) (A0:Option Addr) (c0:Nat) (l0:List Int) (A1:Option Addr) (c1:Nat) (l1:List Int) (r:List Int) (w:World) (hr0:Kd.C (Kd.int .i64) w A0 l0.length l0) (hc0:l0.length≤c0) (hr1:Kd.C (Kd.int .i64) w A1 l1.length l1) (hc1:l1.length≤c1) (h:Y4.f k l0 l1=some r) :
  Calls Tryz.prog 112 #[.slice A0 l0.length c0,.slice A1 l1.length c1] w fun e w'=>∃ v0_:Value,e = .returned (v0_)∧Kd.V (Kd.int .i64) 3 w' w.heap.size (fun k_=>(w.heap.size≤k_)) v0_ r∧Below w.heap.size w w':=by
 have HR0:=aZ hr0
 have HC0:=aZ hc0
 clear hr0 hc0
 have HR1:=aZ hr1
 have HC1:=aZ hc1
 clear hr1 hc1
 have HB:=aZ (Below.refl w.heap.size w)
 have H:=h
 unfold Y4.f at H
 clear h
 obtain ⟨ji3,hji3⟩:∃ j_:Int,(wrap64 ((l0.length:Int)+(l1.length:Int)))=j_:=⟨_,rfl⟩
 (first|rw [hji3] at H|simp only [hji3] at H)
 have hji3w:(IntKind.i64.wrap ((l0.length:Int)+(l1.length:Int)))=ji3:=(i64_w _).trans hji3
 by_cases c4:0≤(ji3)
 case neg=>
  rw [if_neg c4] at H
  cases H
 rw [if_pos c4] at H
 have c4b0:=eq_true c4
 have c4b1:=decide_eq_true c4
 clear c4
 by_cases c5:(ji3:Int).toNat≤35184372088832
 case neg=>
  rw [if_neg c5] at H
  cases H
 rw [if_pos c5] at H
 have c5b0:=eq_true c5
 have c5b1:=decide_eq_true c5
 clear c5
 obtain ⟨y411,hy411⟩:∃ y_:List Int,y_=(List.replicate (ji3:Int).toNat 0):=⟨_,rfl⟩
 replace H:(Y4.l0 k l1 y411 l0 (l0.length:Int) 0)=some r:=zy hy411 H
 have Ny411:=aZ hy411
 clear hy411
 have H':=aZ H
 clear H
 go_enter func112,ntmps112
 go_wp2_with (first|((with_reducible refine gate_dst (N:=15) rfl ?_);refine Kd.R_make (Kd.int .i64) _ 3 rfl (N:=15) rfl 65 _ _ rfl ji3 rfl rfl underlying65 (.int .i64 0) 8 info3 rfl (by decide) (by omega) 0 (ok:=fun _=>True) (okp:=fun _=>True) rfl (fun _ hk=>hk) trivial (zd) (Nat.le_trans (Nat.mul_le_mul_right _ (zd:ji3.toNat≤35184372088832)) (by omega)) (Below.refl _ _) (Nat.le_refl _) ?_;intro v412 w6 ho7 hb hg_ hnew_;clear hg_ hnew_;(first|rw [← Ny411.out] at ho7|(simp only [Int.reduceToNat] at ho7;rw [← Ny411.out] at ho7));have HO413:=aZ (Kd.R_lower (Kd.R_newM (M:=fun k_=>(w.heap.size≤k_)) ho7 bs (fun k_ h_=>h_)) bs);replace HB:=sB hb;clear hb ho7))
 go_loopg [18] k (fun kq v18 w'=>∃ (x5_1:List Int) (x18_1:Int),v18 = .int .i64 x18_1∧Aside0 (Y4.l0 kq l1 x5_1 l0 (l0.length:Int) x18_1=some r)∧Aside0 (kq≤k)∧Aside0 (Kd.R (Kd.int .i64) 3 w' w.heap.size (fun k_=>(w.heap.size≤k_)) v412 x5_1)∧Aside0 (Below w.heap.size w w'))
 case atStart=>exact ⟨(y411),(0),zs,H',⟨Nat.le_refl _⟩,⟨by (with_reducible repeat (first|apply Kd.R_alloc|apply Kd.R_drewN|apply Kd.R_drew));exact Kd.R_mono HO413.out (fun _ hk=>hk.1)⟩,⟨bw⟩⟩
 case round =>
  clear H'
  try clear c1
  try clear c4
  try clear c4b0
  try clear c4b1
  try clear c5
  try clear c5b0
  try clear c5b1
  obtain ⟨x5_1,x18_1,rfl,HA,HK1,HO_5,HB⟩:=hrel
  cases gk with
  | zero=>exact absurd HA.out (by simp [Y4.l0])
  | succ k1 =>
   have H:=HA.out
   clear HA
   simp only [Y4.l0] at H
   by_cases c8:x18_1<(l0.length:Int)
   case neg=>
    rw [if_neg c8] at H
    have c8b0:=decide_eq_false c8
    clear c8
    obtain ⟨t414,A21,H⟩:=zB H
    obtain rfl:=Option.some.inj H
    obtain ⟨Ao22,co22,rfl⟩:=Kd.R_slice HO_5.out
    go_wp2_with (first|(refine zg (some 44) func150 #[.slice Ao22 x5_1.length co22] ?_;(with_reducible refine (Y1.calls k1 (fun k_=>some k_=(.slice Ao22 x5_1.length co22:Value).ownBlock) (.slice Ao22 x5_1.length co22) x5_1 t414 w _ ?side1 ?side2 A21.out).mono ?_);(case side1=>exact bw);(case side2=>exact Kd.R_tight rfl HO_5.out);rintro e w23 ⟨v415,rfl,ho0,hb,hkp⟩;refine ⟨_,rfl,?_⟩;have HO416:=aZ (Kd.V_mono (ok':=fun k_=>(w.heap.size≤k_)) ho0 (fun k_ hk_=>Or.elim hk_ (fun hs_=>(HO_5.out.1 k_ (hs_).symm)) (fun hn_=>(Nat.le_trans bs hn_))));replace HB:=aZ (hb);clear HO_5;clear hb ho0))
    go_ret
    exact ⟨_,by first|rfl|(simp [errW_none,errW_some] <;> rfl)|(simp only [← hji3];first|rfl|(simp [errW_none,errW_some] <;> rfl))|(simp [*,errW_none,errW_some] <;> rfl),zV HO416,bw⟩
   rw [if_pos c8] at H
   have c8b0:=decide_eq_true c8
   clear c8
   by_cases c9:0≤x18_1
   case neg=>
    rw [if_neg c9] at H
    cases H
   rw [if_pos c9] at H
   have c9b0:=decide_eq_true c9
   clear c9
   by_cases c10:x18_1<(l0.length:Int)
   case neg=>
    rw [if_neg c10] at H
    cases H
   rw [if_pos c10] at H
   have c10b0:=decide_eq_true c10
   clear c10
   have H':=aZ H
   clear H
   have p417:0≤(x18_1:Int):=zd
   have q417:x18_1<(l0.length:Int):=zd
   obtain ⟨ad417,e417,hx417_0⟩:=Kd.at_int HR0.out x18_1 p417 q417
   cases e417
   replace hx417_0:=(HB.out.cell (World.block_lt_of_cell? w _ hx417_0)).trans hx417_0
   replace p417:=eq_true p417
   replace q417:=eq_true q417
   go_wp2
   go_loopg [25] k1 (fun kq v25 w'=>∃ (x5_2:List Int) (x25_2:Int),v25 = .int .i64 x25_2∧Aside0 (Y4.l1 kq l1 x5_2 x18_1 (rd l0 x18_1) l0 (l0.length:Int) x18_1 l1 (l1.length:Int) x25_2=some r)∧Aside0 (kq≤k1)∧Aside0 (Kd.R (Kd.int .i64) 3 w' w.heap.size (fun k_=>(w.heap.size≤k_)) v412 x5_2)∧Aside0 (Below w.heap.size w w'))
   case atStart=>exact ⟨(x5_1),(0),zs,H',⟨Nat.le_refl _⟩,⟨zR HO_5⟩,⟨bw⟩⟩
   case round =>
    clear H'
    try clear c1
    try clear c4
    try clear c4b0
    try clear c4b1
    try clear q4
    try clear hx4
    try clear c5
    try clear c5b0
    try clear c5b1
    try clear c8
    try clear c8b0
    try clear c9
    try clear c9b0
    try clear c10
    try clear c10b0
    try clear hx417_0
    try clear q417
    obtain ⟨x5_2,x25_2,rfl,HA,HK2,HO_5,HB⟩:=hrel
    cases gk with
    | zero=>exact absurd HA.out (by simp [Y4.l1])
    | succ k2 =>
     have H:=HA.out
     clear HA
     simp only [Y4.l1] at H
     by_cases c11:x25_2<(l1.length:Int)
     case neg=>
      rw [if_neg c11] at H
      have c11b0:=decide_eq_false c11
      clear c11
      have H':=aZ H
      clear H
      go_wp2
      go_roundg k2
      case measure=>have:=HK1.out;have:=HK2.out;omega
      case rel=>exact ⟨(x5_2),(wrap64 (x18_1+1)),zs,H',⟨by have:=HK1.out;have:=HK2.out;omega⟩,⟨zR HO_5⟩,⟨bw⟩⟩
     rw [if_pos c11] at H
     have c11b0:=decide_eq_true c11
     clear c11
     by_cases c12:0≤x25_2
     case neg=>
      rw [if_neg c12] at H
      cases H
     rw [if_pos c12] at H
     have c12b0:=decide_eq_true c12
     clear c12
     by_cases c13:x25_2<(l1.length:Int)
     case neg=>
      rw [if_neg c13] at H
      cases H
     rw [if_pos c13] at H
     have c13b0:=decide_eq_true c13
     clear c13
     obtain ⟨ji14,hji14⟩:∃ j_:Int,(wrap64 (x18_1+x25_2))=j_:=⟨_,rfl⟩
     (first|rw [hji14] at H|simp only [hji14] at H)
     have hji14w:(IntKind.i64.wrap (x18_1+x25_2))=ji14:=(i64_w _).trans hji14
     by_cases c15:0≤(ji14)
     case neg=>
      rw [if_neg c15] at H
      cases H
     rw [if_pos c15] at H
     have c15b0:=decide_eq_true c15
     clear c15
     by_cases c16:(ji14)<(x5_2.length:Int)
     case neg=>
      rw [if_neg c16] at H
      cases H
     rw [if_pos c16] at H
     have c16b0:=decide_eq_true c16
     clear c16
     obtain ⟨y420,hy420⟩:∃ y_:List Int,y_=(x5_2.set ((ji14):Int).toNat (wrap64 ((rd x5_2 (ji14))+(wrap64 ((rd l0 x18_1)*(rd l1 x25_2)))))):=⟨_,rfl⟩
     replace H:(Y4.l1 k2 l1 y420 x18_1 (rd l0 x18_1) l0 (l0.length:Int) x18_1 l1 (l1.length:Int) (wrap64 (x25_2+1)))=some r:=zy hy420 H
     have Ny420:=aZ hy420
     clear hy420
     have H':=aZ H
     clear H
     have p418:0≤(x25_2:Int):=zd
     have q418:x25_2<(l1.length:Int):=zd
     obtain ⟨ad418,e418,hx418_0⟩:=Kd.at_int HR1.out x25_2 p418 q418
     cases e418
     replace hx418_0:=(HB.out.cell (World.block_lt_of_cell? w _ hx418_0)).trans hx418_0
     replace p418:=eq_true p418
     replace q418:=eq_true q418
     obtain ⟨Ao18,co18,rfl⟩:=Kd.R_slice HO_5.out
     have p419:0≤((ji14):Int):=zd
     have q419:(ji14)<(x5_2.length:Int):=zd
     obtain ⟨ad419,e419,hx419_0⟩:=Kd.at_int (Kd.R_reads' HO_5.out).2.2 (ji14) p419 q419
     cases e419
     replace p419:=eq_true p419
     replace q419:=eq_true q419
     have p17:0≤((ji14):Int):=zd
     have q17:((ji14):Int)<((x5_2.length:Int):Int):=zd
     obtain ⟨go17,co17,eo17,gb17,gl17,cl17,HG17⟩:=Kd.R_form HO_5.out (by omega)
     (first|cases eo17|(injection eo17 with ea_ en_ ec_;(first|subst ea_|(injection ea_ with ea_;subst ea_));subst ec_;clear en_))
     have GB17:=aZ gb17
     have GG17:=aZ HG17
     clear gb17 gl17 HG17
     (first|simp only [add_plain] at hx419_0|skip)
     obtain ⟨hx17_0,hf17_0⟩:=Kd.R_celln 0 HO_5.out ((ji14):Int) p17 q17
     replace p17:=eq_true p17
     replace q17:=eq_true q17
     have HP19:=Kd.R_putg HO_5.out ((ji14):Int) (wrap64 ((rd x5_2 (ji14))+(wrap64 ((rd l0 x18_1)*(rd l1 x25_2)))))
     go_wp2_with (first|((with_reducible refine gate_store (t:=3) (p:=40) rfl ?_);refine store_event (t:=3) (p:=40) (v:=?vo_w20) (w1:=(wr.setCell ⟨go17,((ji14):Int).toNat,none⟩ (.int .i64 (wrap64 ((rd x5_2 (ji14))+(wrap64 ((rd l0 x18_1)*(rd l1 x25_2)))))))) ?hg ?ho ?hn ?hr ?_;(case ho=>rfl);(case hg=>rfl);(case hn=>rfl);(case hr=>first|(go_simp;done)|(go_simp;rfl));intro w20 hw;have hg:wr.grownBy w20 (some go17):=(by rw [hw];exact HP19.2);have hp_:Kd.R (Kd.int .i64) 3 w20 w.heap.size (fun k_=>(w.heap.size≤k_)) (.slice (some ⟨go17,0,none⟩) x5_2.length co18) y420:=(by rw [hw,Ny420.out];exact HP19.1);clear HP19;replace HO_5:=aZ (hp_);replace HB:=aZ ((by rw [hw];exact below_set (HB.out) GB17.out:Below w.heap.size w w20));clear hg hw hp_))
     go_roundg k2
     case measure=>have:=HK1.out;have:=HK2.out;omega
     case rel=>exact ⟨(y420),(wrap64 (x25_2+1)),zs,H',⟨by have:=HK1.out;have:=HK2.out;omega⟩,⟨zR HO_5⟩,⟨bw⟩⟩
section
def Ye.lp (a2:Int):List Int→Nat→List Int→List Int
 | [],_,o=>o
 | x :: r,i,o=>Ye.lp a2 r (i+1) (o.set i (wrap64 ((rd o (i:Int))+wrap64 (a2*x))))
def Ye.f (k:Nat) (l0:List Int) (l1:List Int) (a2:Int):Option (List Int) :=
 if l0.length<1099511627776∧l1.length<1099511627776 then Y1.f k (Ye.lp a2 l1 0 (l0++List.replicate (l1.length-l0.length) 0)) else none
theorem Ye.mono:∀ a0 a1 a2 k,LeO (Ye.f k a0 a1 a2) (Ye.f (k+1) a0 a1 a2):=by
 intro a0 a1 a2 k
 unfold Ye.f
 exact LeO.ite (Y1.mono _ k) (LeO.none _)
theorem Ye.calls (k:Nat) (A0:Option Addr) (c0:Nat) (l0:List Int) (A1:Option Addr) (c1:Nat) (l1:List Int) (a2:Int) (r:List Int) (w:World) (hr0:Kd.C (Kd.int .i64) w A0 l0.length l0) (hc0:l0.length≤c0) (hr1:Kd.C (Kd.int .i64) w A1 l1.length l1) (hc1:l1.length≤c1) (h:Ye.f k l0 l1 a2=some r) :
  Calls Tryz.prog 119 #[.slice A0 l0.length c0,.slice A1 l1.length c1,.int .i64 a2] w fun e w'=>∃ v0_:Value,e = .returned v0_∧Kd.V (Kd.int .i64) 3 w' w.heap.size (fun k_=>(w.heap.size≤k_)) v0_ r∧Below w.heap.size w w':=by
 unfold Ye.f at h
 by_cases hl:l0.length<1099511627776∧l1.length<1099511627776
 case neg=>rw [if_neg hl] at h;cases h
 rw [if_pos hl] at h
 obtain ⟨mm,hmm⟩:∃ m:Int,(if (l0.length:Int)<(l1.length:Int) then (l1.length:Int) else (l0.length:Int))=m:=⟨_,rfl⟩
 have emm:mm.toNat=l0.length+(l1.length-l0.length):=by rw [← hmm];split <;> omega
 have info3c:(Tryz.prog.info? 3).map (fun i=>(i.zero,i.size,i.bytes))=some (some (.int .i64 0),1,8):=by kernel_rfl
 have info3s:(Tryz.prog.info? 3).map (·.size)=some 1:=by kernel_rfl
 obtain ⟨fin,hfin⟩:∃ o:List Int,Ye.lp a2 l1 0 (l0++List.replicate (l1.length-l0.length) 0)=o:=⟨_,rfl⟩
 rw [hfin] at h
 have hcarry:=fun (v:Value) (W:World) (hB:Below w.heap.size w W) (h0:Kd.R (Kd.int .i64) 3 W w.heap.size (fun b=>w.heap.size≤b) v fin)=>Y1.calls k (fun b=>w.heap.size≤b) v fin r w W hB h0 h
 have HF:=aZ hfin
 clear hfin
 have hmmN:(if l0.length<l1.length then (l1.length:Int) else (l0.length:Int))=mm:=by rw [← hmm];split <;> split <;> omega
 have P3:=aZ (show 0≤mm by rw [← hmm];split <;> omega)
 have P4:=aZ (show mm.toNat≤35184372088832 by omega)
 have EM:=aZ emm
 have HL:=aZ hl
 have HR0:=aZ hr0
 have HR1:=aZ hr1
 have I:=aZ info3c
 have IS:=aZ info3s
 have HB:=aZ (Below.refl w.heap.size w)
 clear hr0 hr1 hc0 hc1 h emm info3c info3s hl
 go_enter func119,ntmps119
 go_wp2_with (first
  | ((with_reducible refine gate_dst (N:=15) rfl ?_);refine Kd.R_make (Kd.int .i64) _ 3 rfl (N:=15) rfl 65 _ _ rfl mm rfl rfl underlying65 (.int .i64 0) 8 I.out rfl (by decide) (by omega) 0 (ok:=fun _=>True) (okp:=fun _=>True) rfl (fun _ hk=>hk) trivial P3.out (Nat.le_trans (Nat.mul_le_mul_right _ P4.out) (by omega)) (Below.refl _ _) (Nat.le_refl _) ?_;intro vo wo hv hb hg_ hnew_;clear hg_ hnew_;have HO:=aZ hv;have HB2:=aZ (below_step HB.out hb);have HRa:=aZ (Kd.C_below HR0.out hb);have HRb:=aZ (Kd.C_below HR1.out hb);clear hv hb)
  | ((with_reducible refine gate_builtin (b:=.copy) (xs:=#[.tmp 16,.tmp 17]) rfl ?_);refine Kd.R_copy (0:Int) w.heap.size rfl (.tmp 16) (.tmp 17) 65 65 3 rfl underlying65 IS.out vo _ l0 A0 _ c0 _ rfl rfl HO.out HRa.out HB2.out HB2.out.size ?_;intro wc hv hb hg;have HC:=aZ hv;have HB3:=aZ hb;have HRc:=aZ hg;clear hv hb hg))
 have e1:l0.take (min l0.length (List.replicate mm.toNat (0:Int)).length)++(List.replicate mm.toNat (0:Int)).drop (min l0.length (List.replicate mm.toNat (0:Int)).length)=l0++List.replicate (l1.length-l0.length) 0:=by
  have:=EM.out
  rw [List.length_replicate,Nat.min_eq_left (by omega),List.take_length,List.drop_replicate,show mm.toNat-l0.length=l1.length-l0.length by omega]
 have hC:=HC.out
 rw [e1] at hC
 obtain ⟨o1,ho1⟩:∃ o:List Int,l0++List.replicate (l1.length-l0.length) 0=o:=⟨_,rfl⟩
 have hF:=HF.out
 rw [ho1] at hC hF
 have ho1l:o1.length=mm.toNat:=by have:=EM.out;rw [← ho1,List.length_append,List.length_replicate];omega
 obtain ⟨Ao,co,eo⟩:=Kd.R_slice hC
 subst eo
 have HC2:=aZ hC
 have HF2:=aZ hF
 have HO1L:=aZ ho1l
 have HM:=aZ hmm
 clear HC HO hC hF e1 ho1 ho1l HRa HRb HRc HB2 HF hmm hmmN
 go_loopg [21] l1.length (fun kq v21 w'=>∃ (i:Nat) (o:List Int),v21 = .int .i64 (i:Int)∧Aside0 (Ye.lp a2 (l1.drop i) i o=fin)∧Aside0 (i≤l1.length∧l1.length-i≤kq)∧Aside0 (o.length=o1.length)∧Aside0 (Kd.R (Kd.int .i64) 3 w' w.heap.size (fun _=>True) (.slice Ao o1.length co) o)∧Aside0 (Below w.heap.size w w'))
 case atStart=>exact ⟨0,o1,rfl,HF2,⟨Nat.zero_le _,Nat.le_refl _⟩,⟨rfl⟩,HC2,HB3⟩
 case round =>
  obtain ⟨i,o,rfl,HF,HI,HOL,HO,HB⟩:=hrel
  clear HF2 HC2 HB3
  by_cases hi:i<l1.length
  case neg=>
   have hil:l1.length≤i:=by omega
   have hf:=HF.out
   rw [List.drop_eq_nil_of_le hil] at hf
   simp only [Ye.lp] at hf
   subst hf
   clear HF
   have hiI:((i:Int)<(l1.length:Int))=False:=eq_false (by omega)
   go_wp2_with (go_at_call 150;(with_reducible refine (hcarry _ _ ?s1 ?s2).mono ?_);(case s1=>exact HB.out);(case s2=>exact Kd.R_mono (Kd.R_bound HO.out) (fun _ hk=>hk.2.1));clear hcarry;rintro e w5 ⟨v5,rfl,hv,hb,_⟩;have HV:=aZ hv;have HB5:=aZ hb;clear hv hb)
   go_ret
   exact ⟨_,rfl,Kd.V_mono HV.out (fun b hb=>hb.elim id (fun h=>Nat.le_trans HB.out.size h)),HB5.out⟩
  have hC1:=Kd.C_below HR1.out HB.out
  obtain ⟨ad1,e1,hx1⟩:=Kd.at_int hC1 (i:Int) (by omega) (by omega)
  subst e1
  rw [Int.toNat_natCast] at hx1
  have hio:i<o.length:=by have:=HOL.out;have:=HO1L.out;have:=EM.out;omega
  obtain ⟨go,cg,eg,g1,g2,_,_⟩:=Kd.R_form HO.out (by omega)
  injection eg with eA en ec
  subst eA ec
  obtain ⟨hx2,hf2⟩:=Kd.R_celln 0 HO.out (i:Int) (by omega) (by omega)
  rw [Int.toNat_natCast] at hx2 hf2
  replace hx2:wr.cell? ⟨go,i,none⟩=some (.int .i64 (rd o (i:Int))):=hx2
  have hlp:=HF.out
  rw [List.drop_eq_getElem_cons hi] at hlp
  simp only [Ye.lp] at hlp
  have hrd:l1[i]=rd l1 (i:Int):=by unfold rd;rw [Int.toNat_natCast,List.getD_eq_getElem?_getD,List.getElem?_eq_getElem hi];rfl
  rw [hrd] at hlp
  obtain ⟨hP,hg⟩:=Kd.R_putg HO.out (i:Int) (wrap64 (rd o (i:Int)+wrap64 (a2*rd l1 (i:Int))))
  rw [Int.toNat_natCast] at hP hg
  have HP:=aZ hP
  have HLP:=aZ hlp
  have HB4:=aZ (below_set (j:=i) (v:=.int .i64 (wrap64 (rd o (i:Int)+wrap64 (a2*rd l1 (i:Int))))) HB.out g1)
  have hlt:(i<o1.length)=True:=eq_true (by have:=HOL.out;omega)
  have hltI:((i:Int)<(o1.length:Int))=True:=eq_true (by have:=HOL.out;omega)
  have hbd:(i:Int)≤1099511627776:=by have:=HL.out;omega
  clear hC1 hP hg hlp hrd hio en g1 g2
  go_wp2
  go_roundg (l1.length-(i+1))
  case measure=>have:=HI.out;omega
  case rel=>exact ⟨i+1,_,by first|rfl|(congr 1;unfold wrap64;omega)|(simp;done),HLP,⟨by omega,Nat.le_refl _⟩,⟨by rw [List.length_set];exact HOL.out⟩,HP,HB4⟩
end
def Y7.l0:Nat→List Int→List Int→Int→Option (Int)
 | 0,_,_,_=>none
 | k+1,x0,x1,x5=>if x5≥0 then (if 0≤x5 then (if x5<(x0.length:Int) then (if x5<(x1.length:Int) then (if (rd x0 x5)=(rd x1 x5) then (Y7.l0 k x0 x1 (wrap64 (x5-1))) else (some (wrap64 ((rd x0 x5)-(rd x1 x5))))) else (none)) else (none)) else (none)) else (some 0)
def Y7.f (k:Nat) (l0:List Int) (l1:List Int):Option (Int):=if (l0.length:Int)=(l1.length:Int) then (Y7.l0 k l0 l1 (wrap64 ((l0.length:Int)-1))) else (some (wrap64 ((l0.length:Int)-(l1.length:Int))))
theorem Y7.mono_l:∀ k,(∀ y0 y1 y2,LeO (Y7.l0 k y0 y1 y2) (Y7.l0 (k+1) y0 y1 y2))
 | 0=>fun _ _ _ r h=>by simp [Y7.l0] at h
 | k+1=>by
  have ih0:=Y7.mono_l k
  ·intro y0 y1 y2
   unfold Y7.l0
   exact zM
theorem Y7.mono:∀ a0 a1 k,LeO (Y7.f k a0 a1) (Y7.f (k+1) a0 a1):=by
 intro a0 a1 k
 have ih0:=Y7.mono_l k
 unfold Y7.f
 exact zM
theorem Y7.calls (k:Nat) (A0:Option Addr) (c0:Nat) (l0:List Int) (A1:Option Addr) (c1:Nat) (l1:List Int) (r:Int) (w:World) (hr0:Kd.C (Kd.int .i64) w A0 l0.length l0) (hc0:l0.length≤c0) (hr1:Kd.C (Kd.int .i64) w A1 l1.length l1) (hc1:l1.length≤c1) (h:Y7.f k l0 l1=some r) :
  Calls Tryz.prog 120 #[.slice A0 l0.length c0,.slice A1 l1.length c1] w fun e w'=>e = .returned (.int .i64 r)∧Drawn0 w w':=by
 have HR0:=aZ hr0
 have HC0:=aZ hc0
 clear hr0 hc0
 have HR1:=aZ hr1
 have HC1:=aZ hc1
 clear hr1 hc1
 have H:=h
 unfold Y7.f at H
 clear h
 by_cases c3:(l0.length:Int)=(l1.length:Int)
 case neg=>
  rw [if_neg c3] at H
  obtain ⟨c3b0,c3b1⟩:=zX c3
  have c3b2:(l0.length==l1.length)=false:=by first|simpa using c3|(simp at c3 ⊢;omega)
  obtain rfl:=Option.some.inj H
  go_enter func120,ntmps120
  go_wp2
  repeat (go_quiet (fail);try go_wp2)
  go_ret
  exact ⟨zs,by repeat (first|exact Drawn0.refl _|apply Drawn0.step)⟩
 rw [if_pos c3] at H
 obtain ⟨c3b0,c3b1⟩:=zY c3
 have c3b2:(l0.length==l1.length)=true:=by first|simpa using c3|(simp at c3 ⊢;omega)
 clear c3
 have H':=aZ H
 clear H
 go_enter func120,ntmps120
 go_wp2
 repeat (go_quiet (fail);try go_wp2)
 go_loopg [5] k (fun kq v5 w'=>∃ (x5_1:Int),v5 = .int .i64 x5_1∧Aside0 (Y7.l0 kq l0 l1 x5_1=some r)∧Aside0 (kq≤k)∧Drawn0 w w')
 case atStart=>exact ⟨(wrap64 ((l0.length:Int)-1)),zs,H',⟨Nat.le_refl _⟩,by repeat (first|exact Drawn0.refl _|apply Drawn0.step)⟩
 case round =>
  clear H'
  try clear c1
  try clear c3
  try clear c3b0
  try clear c3b1
  try clear c3b2
  obtain ⟨x5_1,rfl,HA,HK1,⟨m1,rfl⟩⟩:=hrel
  cases gk with
  | zero=>exact absurd HA.out (by simp [Y7.l0])
  | succ k1 =>
   have H:=HA.out
   clear HA
   simp only [Y7.l0] at H
   by_cases c4:x5_1≥0
   case neg=>
    rw [if_neg c4] at H
    have c4b0:=decide_eq_false c4
    clear c4
    obtain rfl:=Option.some.inj H
    go_wp2
    repeat (go_quiet (fail);try go_wp2)
    go_ret
    exact ⟨zs,by repeat (first|exact Drawn0.refl _|apply Drawn0.step)⟩
   rw [if_pos c4] at H
   have c4b0:=decide_eq_true c4
   clear c4
   by_cases c5:0≤x5_1
   case neg=>
    rw [if_neg c5] at H
    cases H
   rw [if_pos c5] at H
   have c5b0:=decide_eq_true c5
   clear c5
   by_cases c6:x5_1<(l0.length:Int)
   case neg=>
    rw [if_neg c6] at H
    cases H
   rw [if_pos c6] at H
   have c6b0:=decide_eq_true c6
   clear c6
   by_cases c7:x5_1<(l1.length:Int)
   case neg=>
    rw [if_neg c7] at H
    cases H
   rw [if_pos c7] at H
   have c7b0:=decide_eq_true c7
   clear c7
   by_cases c8:(rd l0 x5_1)=(rd l1 x5_1)
   case neg=>
    rw [if_neg c8] at H
    obtain ⟨c8b0,c8b1⟩:=zX c8
    obtain rfl:=Option.some.inj H
    have p421:0≤(x5_1:Int):=zd
    have q421:x5_1<(l0.length:Int):=zd
    obtain ⟨ad421,e421,hx421_0⟩:=Kd.at_int HR0.out x5_1 p421 q421
    cases e421
    replace p421:=eq_true p421
    replace q421:=eq_true q421
    have p422:0≤(x5_1:Int):=zd
    have q422:x5_1<(l1.length:Int):=zd
    obtain ⟨ad422,e422,hx422_0⟩:=Kd.at_int HR1.out x5_1 p422 q422
    cases e422
    replace p422:=eq_true p422
    replace q422:=eq_true q422
    have p423:0≤(x5_1:Int):=zd
    have q423:x5_1<(l0.length:Int):=zd
    obtain ⟨ad423,e423,hx423_0⟩:=Kd.at_int HR0.out x5_1 p423 q423
    obtain rfl:ad421=ad423:=(by injection e423)
    replace p423:=eq_true p423
    replace q423:=eq_true q423
    have p424:0≤(x5_1:Int):=zd
    have q424:x5_1<(l1.length:Int):=zd
    obtain ⟨ad424,e424,hx424_0⟩:=Kd.at_int HR1.out x5_1 p424 q424
    obtain rfl:ad422=ad424:=(by injection e424)
    replace p424:=eq_true p424
    replace q424:=eq_true q424
    go_wp2
    repeat (go_quiet (fail);try go_wp2)
    go_ret
    exact ⟨zs,by repeat (first|exact Drawn0.refl _|apply Drawn0.step)⟩
   rw [if_pos c8] at H
   obtain ⟨c8b0,c8b1⟩:=zY c8
   clear c8
   have H':=aZ H
   clear H
   have p421:0≤(x5_1:Int):=zd
   have q421:x5_1<(l0.length:Int):=zd
   obtain ⟨ad421,e421,hx421_0⟩:=Kd.at_int HR0.out x5_1 p421 q421
   cases e421
   replace p421:=eq_true p421
   replace q421:=eq_true q421
   have p422:0≤(x5_1:Int):=zd
   have q422:x5_1<(l1.length:Int):=zd
   obtain ⟨ad422,e422,hx422_0⟩:=Kd.at_int HR1.out x5_1 p422 q422
   cases e422
   replace p422:=eq_true p422
   replace q422:=eq_true q422
   go_wp2
   repeat (go_quiet (fail);try go_wp2)
   go_roundg k1
   case measure=>have:=HK1.out;omega
   case rel=>exact ⟨(wrap64 (x5_1-1)),zs,H',⟨by have:=HK1.out;omega⟩,by repeat (first|exact Drawn0.refl _|apply Drawn0.step)⟩
section
def YD.f (l0:List Int):Option (List Int):=if l0.length<17592186044416 then some l0 else none
theorem YD.calls (A0:Option Addr) (c0:Nat) (l0:List Int) (r:List Int) (w:World) (hr0:Kd.C (Kd.int .i64) w A0 l0.length l0) (hc0:l0.length≤c0) (h:YD.f l0=some r) :
  Calls Tryz.prog 160 #[.slice A0 l0.length c0] w fun e w'=>∃ v0_:Value,e = .returned (v0_)∧Kd.R (Kd.int .i64) 3 w' w.heap.size (fun _=>True) v0_ r∧Below w.heap.size w w':=by
 unfold YD.f at h
 by_cases c2:l0.length<17592186044416
 case neg=>rw [if_neg c2] at h;cases h
 rw [if_pos c2] at h
 obtain rfl:=Option.some.inj h
 clear h
 cases A0 with
 | none =>
  have hz:l0=[]:=by
   rcases Nat.eq_zero_or_pos l0.length with h0|h0
   ·exact List.eq_nil_of_length_eq_zero h0
   ·obtain ⟨ad,e,_⟩:=hr0.2.2 h0;cases e
  subst hz
  have hnil:=fun (W:World)=>Lib.run_eql_slice_nil (P:=Tryz.prog) W 65 3 none 0 c0 0 0 underlying65
  clear hr0 hc0 c2
  go_enter func160,ntmps160
  go_wp2
  go_ret
  exact ⟨_,rfl,Kd.R_nil _ _ _ _ _,Below.refl _ _⟩
 | some ad =>
  have HR0:=aZ hr0
  clear hr0 hc0
  have hnil:=fun (W:World) (n:Nat)=>Lib.run_eql_slice_nil (P:=Tryz.prog) W 65 3 (some ad) n c0 0 0 underlying65
  have HB:=aZ (Below.refl w.heap.size w)
  have LMc2:=aZ c2
  clear c2
  have info97c:(Tryz.prog.info? 3).map (fun i=>(i.zero,i.size,i.bytes))=some (some (.int .i64 0),1,8):=by kernel_rfl
  have I:=aZ info97c
  clear info97c
  go_enter func160,ntmps160
  go_wp2_with (first|((with_reducible refine gate_dst (N:=5) rfl ?_);refine Kd.R_lit (Kd.int .i64) _ 3 ?hg (N:=5) ?hd (xs:=([]:List Int)) (inner:=[]) (ok:=fun _=>True) (okp:=fun _=>True) ?hr ?hp (fun _ hk=>hk) trivial (Below.refl _ _) (Nat.le_refl _) (by simp) ?_;(case hd=>rfl);(case hg=>rfl);(case hr=>first|(go_simp;done)|(go_simp;rfl));(case hp=>exact (Reps.none _ _));intro v102 w3 ho4 hb hg_ hnew_;clear hg_ hnew_;have HO103:=aZ (Kd.R_lower ho4 bs);replace HB:=sB hb;clear hb ho4)|((with_reducible refine gate_builtin (b:=.append) (xs:=#[.tmp 5,.tmp 6]) rfl ?_);at_builtin;refine Kd.R_append_rows (Kd.int .i64) (w0:=w) w.heap.size rfl (.tmp 5) (.tmp 6) 65 3 (.int .i64 0) 8 rfl underlying65 I.out rfl (by decide) (by omega) v102 ([]:List Int) l0 _ _ _ (fun _=>True) (fun _=>False) rfl rfl ?aO ?aR (fun _ _ h=>h) (fun _ h=>h.elim) ?aF ?aB ?aS ?aL ?_;(case aR=>exact zC (Kd.C_below HR0.out HB.out));(case aB=>exact bw);(case aF=>exact (fun _ _=>trivial));(case aO=>exact (zR HO103));(case aS=>exact bs);(case aL=>have:=LMc2.out;simp;omega);intro v105 w5 ho hb hg hat;rw [List.nil_append] at ho;replace HB:=aZ (hb);have HO106:=aZ (ho);clear HO103;clear ho hb hg hat))
  go_ret
  exact ⟨_,rfl,zR HO106,bw⟩
end
section
def Y3.bs (k:Nat) (b r:List Int):Nat→Int→Int→Option Int
 | 0,_,_=>none
 | m+1,lo,hi=>if lo<hi then (Ya.f k ((lo+hi+1)/2)).bind fun t=>(Y4.f k b t).bind fun p=>(Y7.f k p r).bind fun c=>if c≤0 then Y3.bs k b r m ((lo+hi+1)/2) hi else Y3.bs k b r m lo ((lo+hi+1)/2-1) else some lo
def Y3.lp (k:Nat) (a b:List Int):Nat→List Int→List Int→Option (List Int×List Int)
 | 0,r,q=>some (q,r)
 | i+1,r,q=>(YD.f r).bind fun r'=>(Y2.f k (rd a (i:Int) :: r')).bind fun r1=>(Y3.bs k b r1 10000 0 9999).bind fun low =>
  if low > 0 then (Ya.f k low).bind fun t=>(Y4.f k b t).bind fun p=>(Ye.f k r1 p (-1)).bind fun r2=>Y3.lp k a b i r2 (low :: q)
  else Y3.lp k a b i r1 (low :: q)
def Y3.f (k:Nat) (l0:List Int) (l1:List Int):Option (List Int×List Int) :=
 if l0.length<1000000000∧l1.length<1000000000 then (Y7.f k l0 l1).bind fun c =>
  if c<0 then some ([],l0)
  else if 1≤l1.length∧l1.length≤l0.length then (YD.f (l0.drop (l0.length-l1.length+1))).bind fun r'=>(Y2.f k r').bind fun r0 =>
   (Y3.lp k l0 l1 (l0.length-l1.length+1) r0 []).bind fun z=>(Y2.f k z.1).bind fun q=>some (q,z.2)
  else none
 else none
theorem Y3.mono_bs (k:Nat) (b r:List Int):∀ m lo hi,LeO (Y3.bs k b r m lo hi) (Y3.bs (k+1) b r m lo hi)
 | 0,_,_=>LeO.refl _
 | m+1,lo,hi=>LeO.ite (LeO.bind (Ya.mono _ k) fun _=>LeO.bind (Y4.mono _ _ k) fun _=>LeO.bind (Y7.mono _ _ k) fun _=>LeO.ite (Y3.mono_bs k b r m _ _) (Y3.mono_bs k b r m _ _)) (LeO.refl _)
theorem Y3.mono_lp (k:Nat) (a b:List Int):∀ i r q,LeO (Y3.lp k a b i r q) (Y3.lp (k+1) a b i r q)
 | 0,_,_=>LeO.refl _
 | i+1,r,q=>LeO.bind (LeO.refl _) fun _=>LeO.bind (Y2.mono _ k) fun _=>LeO.bind (Y3.mono_bs k b _ _ _ _) fun _=>LeO.ite (LeO.bind (Ya.mono _ k) fun _=>LeO.bind (Y4.mono _ _ k) fun _=>LeO.bind (Ye.mono _ _ _ k) fun _=>Y3.mono_lp k a b i _ _) (Y3.mono_lp k a b i _ _)
theorem Y3.less_ (k:Nat) (P0_:Nat→Prop) (A0:Option Addr) (c0:Nat) (l0:List Int) (A1:Option Addr) (c1:Nat) (l1:List Int) (c:Int) (w:World) (hs0:Kd.V (Kd.int .i64) 3 w w.heap.size (fun k_=>P0_ k_) (.slice A0 l0.length c0) l0) (hr1:Kd.C (Kd.int .i64) w A1 l1.length l1) (hc1:l1.length≤c1) (hc:Y7.f k l0 l1=some c) (hlt:c<0) :
  Calls Tryz.prog 134 #[.slice A0 l0.length c0,.slice A1 l1.length c1] w fun e w'=>∃ v0_ v1_:Value,e = .returned (.tuple #[v0_,v1_])∧Kd.V (Kd.int .i64) 3 w' w.heap.size (fun k_=>(P0_ k_∨w.heap.size≤k_)) v0_ []∧Kd.V (Kd.int .i64) 3 w' w.heap.size (fun k_=>(P0_ k_∨w.heap.size≤k_)) v1_ l0∧Below w.heap.size w w':=by
 have hcmp:=fun (W:World) (h0:Kd.C (Kd.int .i64) W A0 l0.length l0) (h1:Kd.C (Kd.int .i64) W A1 l1.length l1)=>Y7.calls k A0 c0 l0 A1 c1 l1 c W h0 (Kd.V_reads' hs0).2.1 h1 hc1 hc
 have HS0:=aZ hs0
 have HR1:=aZ hr1
 have c3b0:decide (c<0)=true:=decide_eq_true hlt
 have HB:=aZ (Below.refl w.heap.size w)
 clear hs0 hr1 hc1 hc hlt
 go_enter func134,ntmps134
 go_wp2_with (first
  | (go_at_call 120;(with_reducible refine (hcmp _ ?s1 ?s2).mono ?_);(case s1=>exact (Kd.V_reads' HS0.out).2.2);(case s2=>exact HR1.out);clear hcmp;rintro e w' ⟨rfl,⟨nd,rfl⟩⟩;have HB1:=aZ (pw_below_drewN HB.out nd))
  | fail)
 go_ret2
 exact ⟨_,_,rfl,Kd.V_nil _ _ _ _ _,Kd.V_mono (Kd.V_drewN HS0.out nd) (fun _ h=>.inl h),HB1.out⟩
theorem Y3.big_ (k:Nat) (P0_:Nat→Prop) (A0:Option Addr) (c0:Nat) (l0:List Int) (A1:Option Addr) (c1:Nat) (l1:List Int) (c:Int) (r' r0 z1 z2 q:List Int) (w:World) (hs0:Kd.V (Kd.int .i64) 3 w w.heap.size (fun k_=>P0_ k_) (.slice A0 l0.length c0) l0) (hr1:Kd.C (Kd.int .i64) w A1 l1.length l1) (hc1:l1.length≤c1) (hc:Y7.f k l0 l1=some c) (hlt:¬ c<0)
  (hl1:1≤l1.length) (hle:l1.length≤l0.length) (hbig:l0.length<1000000000) (hcl:YD.f (l0.drop (l0.length-l1.length+1))=some r') (htd:Y2.f k r'=some r0) (hlp:Y3.lp k l0 l1 (l0.length-l1.length+1) r0 []=some (z1,z2)) (hq:Y2.f k z1=some q) :
  Calls Tryz.prog 134 #[.slice A0 l0.length c0,.slice A1 l1.length c1] w fun e w'=>∃ v0_ v1_:Value,e = .returned (.tuple #[v0_,v1_])∧Kd.V (Kd.int .i64) 3 w' w.heap.size (fun k_=>(P0_ k_∨w.heap.size≤k_)) v0_ q∧Kd.V (Kd.int .i64) 3 w' w.heap.size (fun k_=>(P0_ k_∨w.heap.size≤k_)) v1_ z2∧Below w.heap.size w w':=by
 have hc0:=(Kd.V_reads' hs0).2.1
 have hr0:=(Kd.V_reads' hs0).2.2
 have hcmp:=fun (W:World) (h0:Kd.C (Kd.int .i64) W A0 l0.length l0) (h1:Kd.C (Kd.int .i64) W A1 l1.length l1)=>Y7.calls k A0 c0 l0 A1 c1 l1 c W h0 hc0 h1 hc1 hc
 obtain ⟨d1,hd1⟩:∃ j:Int,wrap64 ((l0.length:Int)-(l1.length:Int))=j:=⟨_,rfl⟩
 have ed1:d1=((l0.length-l1.length:Nat):Int):=by rw [← hd1];unfold wrap64;omega
 obtain ⟨d2,hd2⟩:∃ j:Int,wrap64 (d1+1)=j:=⟨_,rfl⟩
 have ed2:d2=((l0.length-l1.length+1:Nat):Int):=by rw [← hd2];unfold wrap64;omega
 have hd1w:IntKind.i64.wrap ((l0.length:Int)-(l1.length:Int))=d1:=(i64_w _).trans hd1
 have hd2w:IntKind.i64.wrap (d1+1)=d2:=(i64_w _).trans hd2
 have info3c:(Tryz.prog.info? 3).map (fun i=>(i.zero,i.size,i.bytes))=some (some (.int .i64 0),1,8):=by kernel_rfl
 obtain ⟨i0,hi0,_,hsz0,_⟩:=info_parts info3c
 have hcut:=cut_from (P:=Tryz.prog) 65 3 .i64 underlying65 hi0 1 hsz0 A0 l0.length c0 d2 (by omega) (by omega)
 obtain ⟨y0,hy0⟩:∃ y:List Int,y=l0.drop (l0.length-l1.length+1):=⟨_,rfl⟩
 obtain ⟨A0',hA0'⟩:∃ A:Option Addr,A=(if c0=d2.toNat then A0 else A0.map (·.add (d2.toNat*1))):=⟨_,rfl⟩
 have hy0l:y0.length=l0.length-d2.toNat:=by rw [hy0,List.length_drop];omega
 rw [← hA0',← hy0l] at hcut
 have hC0:=fun (W:World) (h:Kd.C (Kd.int .i64) W A0 l0.length l0)=>Kd.C_drop (m:=d2.toNat) h (by omega) hc0
 have hC0':∀ (W:World),Kd.C (Kd.int .i64) W A0 l0.length l0→Kd.C (Kd.int .i64) W A0' y0.length y0:=by
  intro W h
  have:=hC0 W h
  rw [hA0',hy0,show l0.length-l1.length+1=d2.toNat by omega]
  exact this
 rw [← hy0] at hcl
 have hclone:=fun (W:World) (h0:Kd.C (Kd.int .i64) W A0' y0.length y0)=>YD.calls A0' (c0-d2.toNat) y0 r' W h0 (by omega) hcl
 have htidy:=fun (A:Option Addr) (c:Nat) (W:World) (h0:Kd.V (Kd.int .i64) 3 W W.heap.size (fun b=>w.heap.size≤b) (.slice A r'.length c) r')=>Y2.calls k (fun b=>w.heap.size≤b) A c r' r0 W h0 htd
 have c3b0:decide (c<0)=false:=decide_eq_false hlt
 have HS0:=aZ hs0
 have HR0:=aZ hr0
 have HR1:=aZ hr1
 have HC0:=aZ hC0'
 have HLP:=aZ hlp
 have HLE:=aZ hle
 have HC1:=aZ hc1
 have HL1X:=aZ hl1
 have HBIG:=aZ hbig
 have HQ:=aZ hq
 have HD:=aZ ed1
 have HB:=aZ (Below.refl w.heap.size w)
 clear hs0 hr0 hr1 hc0 hc1 hc hlt hcl htd hlp hle hbig hq ed2 ed1 hi0 hsz0 info3c hy0 hA0' hC0 hC0' hl1 hy0l
 go_enter func134,ntmps134
 go_wp2_with (first
  | (go_at_call 120;(with_reducible refine (hcmp _ ?s1 ?s2).mono ?_);(case s1=>exact HR0.out);(case s2=>exact HR1.out);clear hcmp;rintro e w' ⟨rfl,⟨nd,rfl⟩⟩;have HB1:=aZ (pw_below_drewN HB.out nd))
  | (go_at_call 160;(with_reducible refine (hclone _ ?s3).mono ?_);(case s3=>exact HC0.out _ (Kd.C_drewN HR0.out _));clear hclone;rintro e w5 ⟨v5,rfl,hv,hb⟩;obtain ⟨A5,c5,e5⟩:=Kd.R_slice hv;subst e5;have HB5:=aZ (below_step HB1.out hb);have HV5:=aZ (Kd.R_V (base':=w.heap.size) (Kd.R_mono (ok':=fun b=>w.heap.size≤b) (Kd.R_bound hv) (fun _ hk=>Nat.le_trans HB1.out.size hk.2.1)));clear hv hb)
  | (go_at_call 141;(with_reducible refine (htidy _ _ _ ?s4).mono ?_);(case s4=>exact HV5.out);clear htidy;rintro e w6 ⟨v6,rfl,hv,hb⟩;have HB6:=aZ (below_step HB5.out hb);have HV6:=aZ (Kd.V_lower (base':=w.heap.size) (Kd.V_mono (ok':=fun b=>w.heap.size≤b) hv (fun _ hk=>hk.elim id (fun h=>Nat.le_trans HB5.out.size h))) HB5.out.size);clear hv hb)
  | fail)
 clear HC0 HB1 HV5 HB5 HB
 go_loopg [6,8,9] (l0.length-l1.length+1) (fun kq v6 v8 v9 w'=>∃ (i:Nat) (r q_:List Int),v9 = .int .i64 ((i:Int)-1)∧Aside0 (Y3.lp k l0 l1 i r q_=some (z1,z2))∧Aside0 (i≤kq)∧Aside0 (q_.length+i=l0.length-l1.length+1)∧Aside0 (Kd.R (Kd.int .i64) 3 w' w.heap.size (fun _=>True) v6 q_)∧Aside0 (Kd.V (Kd.int .i64) 3 w' w.heap.size (fun b=>w.heap.size≤b∧some b≠v6.ownBlock) v8 r)∧Aside0 (Below w.heap.size w w'))
 case atStart=>exact ⟨l0.length-l1.length+1,r0,[],by rw [HD.out];congr 1;omega,HLP,⟨Nat.le_refl _⟩,⟨by simp⟩,⟨Kd.R_nil _ _ _ _ _⟩,⟨Kd.V_apart_nil HV6.out⟩,HB6⟩
 case round =>
  obtain ⟨i,r,q_,rfl,HL,HI,HQL,HR,HV,HB⟩:=hrel
  clear HLP HV6 HB6
  obtain ⟨Ar,cr,er⟩:=Kd.V_slice HV.out
  subst er
  cases i with
  | zero =>
   have hz:=HL.out
   simp only [Y3.lp,Option.some.injEq,Prod.mk.injEq] at hz
   obtain ⟨rfl,rfl⟩:=hz
   clear HL
   have hq:=HQ.out
   obtain ⟨Aq,cq,eq⟩:=Kd.R_slice HR.out
   subst eq
   have htidy:=fun (W:World) (h0:Kd.V (Kd.int .i64) 3 W W.heap.size (fun b=>w.heap.size≤b) (.slice Aq q_.length cq) q_)=>Y2.calls k (fun b=>w.heap.size≤b) Aq cq q_ q W h0 hq
   clear hq hd1 hd2 hd1w hd2w hcut c3b0
   go_wp2_with (first
    | (go_at_call 141;(with_reducible refine (htidy _ ?s9).mono ?_);(case s9=>exact Kd.R_V (Kd.R_mono (Kd.R_bound HR.out) (fun _ hk=>hk.2.1)));clear htidy;rintro e w9 ⟨v9,rfl,hv,hb⟩;have HV9:=aZ hv;have HB9:=aZ (below_step HB.out hb);have HVr:=aZ (Kd.V_below HV.out hb);clear hv hb)
    | fail)
   go_ret2
   exact ⟨_,_,rfl,Kd.V_mono HV9.out (fun b hb=>.inr (hb.elim id (fun h=>Nat.le_trans HB.out.size h))),Kd.V_mono HVr.out (fun b hb=>.inr hb.1),HB9.out⟩
  | succ i =>
   have ej:(((i+1:Nat):Int)-1)=(i:Int):=by omega
   rw [ej]
   have hl:=HL.out
   simp only [Y3.lp] at hl
   obtain ⟨rc,hrc,hl⟩:=Option.bind_eq_some_iff.1 hl
   obtain ⟨r1,hr1',hl⟩:=Option.bind_eq_some_iff.1 hl
   obtain ⟨low,hlow,hl⟩:=Option.bind_eq_some_iff.1 hl
   have hrcl:rc=r∧r.length<17592186044416:=by
    unfold YD.f at hrc
    split at hrc
    ·exact ⟨(Option.some.inj hrc).symm,by assumption⟩
    ·cases hrc
   have hiL:i<l0.length:=by have:=HQL.out;have:=HLE.out;have:=HL1X.out;omega
   obtain ⟨ad,ead,hx⟩:=Kd.at_int HR0.out (i:Int) (by omega) (by omega)
   subst ead
   rw [Int.toNat_natCast] at hx
   have hxr:=(HB.out.cell (World.block_lt_of_cell? w _ hx)).trans hx
   have hb64:(i:Int)<(l0.length:Int):=by omega
   have hbI:((i:Int)<(l0.length:Int))=True:=eq_true (by omega)
   have hbN:(i<l0.length)=True:=eq_true (by omega)
   have hclone:=fun (W:World) (h0:Kd.C (Kd.int .i64) W Ar r.length r)=>YD.calls Ar cr r rc W h0 (Kd.V_reads' HV.out).2.1 hrc
   obtain ⟨y1,hy1⟩:∃ y:List Int,rd l0 (i:Int) :: rc=y:=⟨_,rfl⟩
   rw [hy1] at hr1'
   have HY1:=aZ hy1
   clear hy1
   have htidy:=fun (A:Option Addr) (c:Nat) (W:World) (h0:Kd.V (Kd.int .i64) 3 W W.heap.size (fun b=>wr.heap.size≤b) (.slice A y1.length c) y1)=>Y2.calls k (fun b=>wr.heap.size≤b) A c y1 r1 W h0 hr1'
   have HL1:=aZ hl
   have HLOW:=aZ hlow
   have HRCL:=aZ hrcl
   clear hl hlow hrc hr1' hrcl HL hiL hx hd1 hd2 hd1w hd2w hcut c3b0 hb64
   go_wp2_with (fail)
   go_region_held3 (fun w'=>w'.cell? (ad.add i)=some (.int .i64 (rd l0 (i:Int)))) (first|(with_reducible exact hx7)|(with_reducible exact hx6)|(with_reducible exact hk5)|(with_reducible exact hxr)|(exact hxr)|(exact pw_cell_below (below_alloc (Below.refl _ _) _) hk5)|(exact pw_cell_below (below_alloc (Below.refl _ _) _) hxr))
    (first
     | (go_at_call 160;(refine (hclone _ (by (with_reducible repeat (first|apply Kd.C_alloc|apply Kd.C_drewN|apply Kd.C_drew));exact (Kd.V_reads' HV.out).2.2)).mono ?_);rintro e w5 ⟨v5,rfl,hv5_,hb5_⟩;have hb5:Below wr.heap.size wr w5:=below_step (by repeat (first|exact Below.refl _ _|apply below_alloc|apply pw_below_drewN|apply below_drew)) hb5_;have hv5:Kd.R (Kd.int .i64) 3 w5 wr.heap.size (fun _=>True) v5 rc:=Kd.R_lower hv5_ (below_size (by repeat (first|exact Below.refl _ _|apply below_alloc|apply pw_below_drewN|apply below_drew)));have hk5:=pw_cell_below hb5 hxr)
     | (go_at_call 161;have hA:Kd.R (Kd.int .i64) 3 (w5.alloc (.cells #[.int .i64 (rd l0 (i:Int))] 3)) w.heap.size (fun _=>True) v5 rc:=Kd.R_alloc (Kd.R_lower hv5 HB.out.size) _;have hBq:v5.ownBlock≠some w5.heap.size:=(fun e_=>absurd (own_lt (Kd.own_of_R hv5) _ e_) (Nat.lt_irrefl _));have hCq:w.heap.size≤(w5.alloc (.cells #[.int .i64 (rd l0 (i:Int))] 3)).heap.size:=(by have:=HB.out.size;have:=hb5.size;simp;omega);have hDq:rc.length<17592186044416:=(by rw [HRCL.out.1];exact HRCL.out.2);have hEq:=blk_new w5 (.cells #[.int .i64 (rd l0 (i:Int))] 3);(with_reducible refine (Ins.ins w.heap.size v5 rc (rd l0 (i:Int)) w5.heap.size (w5.alloc (.cells #[.int .i64 (rd l0 (i:Int))] 3)) hA hEq hBq hCq hDq).mono ?_);clear hA hBq hCq hDq hEq;rintro e w6 ⟨v6,rfl,hr6,hg6,ha6⟩;rw [HY1.out] at hr6;have hB6:Below wr.heap.size wr w6:=(hb5.alloc hb5.size _).grown hg6 (by have:=hb5.size;simp;omega) (own_base (Kd.own_of_R hv5));have hk6:∀ b,v6.ownBlock=some b→wr.heap.size≤b:=(fun b hb=>by rcases ha6 with ha6|⟨b',ha6,hb'⟩;(rw [ha6] at hb;exact own_base (Kd.own_of_R hv5) _ hb);(rw [ha6] at hb;injection hb with hb;have:=hb5.size;simp at hb';omega));obtain ⟨A6,c6,e6⟩:=Kd.R_slice hr6;subst e6;have hx6:=pw_cell_below hB6 hxr;clear hg6 ha6 hv5 hb5 hk5 hv5_ hb5_)
     | (go_at_call 161;have hA:Kd.R (Kd.int .i64) 3 w5 w.heap.size (fun _=>True) v5 rc:=Kd.R_lower hv5 HB.out.size;have hEq:w5.heap[wr.heap.size]? = some (.cells #[.int .i64 (rd l0 (i:Int))] 3 (0,0)):=(hb5_.block _ (by simp)).trans (blk_new wr _);have hFq:wr.heap.size+1≤w5.heap.size:=(by have:=hb5_.size;simp at this;omega);have hOq:∀ b,v5.ownBlock=some b→wr.heap.size+1≤b:=(fun b hb=>by have:=own_base (Kd.own_of_R hv5_) b hb;simp at this;omega);have hBq:v5.ownBlock≠some wr.heap.size:=(fun e_=>by have:=hOq _ e_;omega);have hCq:w.heap.size≤w5.heap.size:=(by have:=HB.out.size;omega);have hDq:rc.length<17592186044416:=(by rw [HRCL.out.1];exact HRCL.out.2);(with_reducible refine (Ins.ins w.heap.size v5 rc (rd l0 (i:Int)) wr.heap.size w5 hA hEq hBq hCq hDq).mono ?_);clear hA hBq hCq hDq hEq;rintro e w6 ⟨v6,rfl,hr6,hg6,ha6⟩;rw [HY1.out] at hr6;have hB6:Below wr.heap.size wr w6:=hb5.grown hg6 hb5.size (fun b hb=>by have:=hOq b hb;omega);have hk6:∀ b,v6.ownBlock=some b→wr.heap.size≤b:=(fun b hb=>by rcases ha6 with ha6|⟨b',ha6,hb'⟩;(rw [ha6] at hb;have:=hOq b hb;omega);(rw [ha6] at hb;injection hb with hb;have:=hb5.size;omega));obtain ⟨A6,c6,e6⟩:=Kd.R_slice hr6;subst e6;have hx6:=pw_cell_below hB6 hxr;clear hg6 ha6 hv5 hb5 hk5 hv5_ hb5_ hOq hFq)
     | (go_at_call 141;have hT1:=Kd.R_tight rfl hr6;have hT2:=Kd.R_mono (ok':=fun b=>wr.heap.size≤b) hT1 (fun b hb=>hk6 b hb.symm);have hT:Kd.V (Kd.int .i64) 3 w6 w6.heap.size (fun b=>wr.heap.size≤b) (.slice A6 y1.length c6) y1:=Kd.R_V hT2;refine (htidy A6 c6 w6 hT).mono ?_;clear hT1 hT2 hT;rintro e w7 ⟨v7,rfl,hv7,hb7⟩;have hB7:Below wr.heap.size wr w7:=below_then hB6 hB6.size hb7;have hx7:=pw_cell_below hB7 hxr;replace hv7:Kd.V (Kd.int .i64) 3 w7 w.heap.size (fun b=>wr.heap.size≤b) v7 r1:=Kd.V_lower (base':=w.heap.size) (Kd.V_mono (ok':=fun b=>wr.heap.size≤b) hv7 (fun b hb=>hb.elim id (fun h=>Nat.le_trans hB6.size h))) (Nat.le_trans HB.out.size hB6.size);clear hb7 hB6 hx6 hr6 hk6))
   all_goals
    clear hxr hx7 hclone htidy
    have HB7:=aZ (below_step HB.out hB7)
    have HBr:=aZ hB7
    obtain ⟨A7,c7,e7⟩:=Kd.V_slice hv7
    subst e7
    have HV7:=aZ hv7
    clear hv7 hB7
    have hc1:=HC1.out
    have hc7:=(Kd.V_reads' HV7.out).2.1
    have hof:=fun (x:Int) (t:List Int) (W:World) (ht:Ya.f k x=some t)=>Ya.calls k x t W ht
    have hmul:=fun (t p:List Int) (A:Option Addr) (c:Nat) (W:World) (h0:Kd.C (Kd.int .i64) W A1 l1.length l1) (h1:Kd.C (Kd.int .i64) W A t.length t) (h2:t.length≤c) (hp:Y4.f k l1 t=some p)=>Y4.calls k A1 c1 l1 A c t p W h0 hc1 h1 h2 hp
    have hcm2:=fun (p:List Int) (cc:Int) (A:Option Addr) (c:Nat) (W:World) (h0:Kd.C (Kd.int .i64) W A p.length p) (h2:p.length≤c) (h1:Kd.C (Kd.int .i64) W A7 r1.length r1) (hp:Y7.f k p r1=some cc)=>Y7.calls k A c p A7 c7 r1 cc W h0 h2 h1 hc7 hp
    have hadd:=fun (p r2:List Int) (A:Option Addr) (c:Nat) (W:World) (h0:Kd.C (Kd.int .i64) W A7 r1.length r1) (h1:Kd.C (Kd.int .i64) W A p.length p) (h2:p.length≤c) (hp:Ye.f k r1 p (-1)=some r2)=>Ye.calls k A7 c7 r1 A c p (-1) r2 W h0 hc7 h1 h2 hp
    clear hc1 hc7
    go_wp2_with (fail)
    go_loopg [10,11] 10000 (fun kq v10 v11 w'=>∃ (m:Nat) (lo hi:Int),v10 = .int .i64 lo∧v11 = .int .i64 hi∧Aside0 (Y3.bs k l1 r1 m lo hi=some low)∧Aside0 (m≤kq)∧(0≤lo∧lo≤9999)∧(0≤hi∧hi≤9999)∧Aside0 (Below w7.heap.size w7 w'))
    case atStart=>exact ⟨10000,0,9999,rfl,rfl,HLOW,⟨Nat.le_refl _⟩,⟨by omega,by omega⟩,⟨by omega,by omega⟩,⟨Below.refl _ _⟩⟩
    case round =>
     obtain ⟨m,lo,hi,rfl,rfl,HBS,HM,⟨hlo0,hlo1⟩,⟨hhi0,hhi1⟩,HB8⟩:=hrel
     cases m with
     | zero=>exact absurd HBS.out (by simp [Y3.bs])
     | succ m =>
      have hbs:=HBS.out
      simp only [Y3.bs] at hbs
      clear HBS
      by_cases hlt:lo<hi
      case neg=>
       rw [if_neg hlt] at hbs
       have elo:=Option.some.inj hbs
       subst elo
       clear hbs
       have c45:decide (lo<hi)=false:=decide_eq_false hlt
       have HQ44:=aZ (show q_.length<17592186044416 by have:=HQL.out;have:=HBIG.out;omega)
       have hl1:=HL1.out
       clear HL1 hlt
       by_cases hpos:lo > 0
       case neg=>
        rw [if_neg hpos] at hl1
        have c63:decide (0<lo)=false:=decide_eq_false hpos
        have HL:=aZ hl1
        clear hl1
        go_wp2_with (first
          | (go_at_call 161;have hRx:=Kd.R_below HR.out (below_step HBr.out HB8.out);have hAx:=Kd.R_alloc hRx (.cells #[.int .i64 lo] 3);have hNx:=blk_new wr (.cells #[.int .i64 lo] 3);have hBx:u6.ownBlock≠some wr.heap.size:=(fun e_=>absurd (own_lt (Kd.own_of_R hRx) _ e_) (Nat.lt_irrefl _));have hCx:w.heap.size≤(wr.alloc (.cells #[.int .i64 lo] 3)).heap.size:=(by have:=HB7.out.size;have:=HB8.out.size;simp;omega);(with_reducible refine (Ins.ins w.heap.size u6 q_ lo wr.heap.size (wr.alloc (.cells #[.int .i64 lo] 3)) hAx hNx hBx hCx HQ44.out).mono ?_);clear hAx hNx hBx hCx;rintro e w13 ⟨v13,rfl,hr13,hg13,ha13⟩;have HR13:=aZ hr13;have HG13:=aZ hg13;have HA13:=aZ ha13;clear hr13 hg13 ha13 hRx))
        have hs1:=Kd.own_of_R HR.out
        have hsz1:=HB7.out.size
        have hsz2:=HBr.out.size
        have hsz3:=HB8.out.size
        have hsz5:=HB.out.size
        have HVn:=aZ (show Kd.V (Kd.int .i64) 3 w13 w.heap.size (fun b=>w.heap.size≤b∧some b≠v13.ownBlock) (.slice A7 r1.length c7) r1 from Kd.V_mono (Kd.V_grown (Kd.V_alloc (Kd.V_below (Kd.V_bound HV7.out) HB8.out) _) HG13.out (fun b hb he=>by have:=own_lt hs1 b he.symm;have:=hb.1;omega)) (fun b hb=>⟨by have:=hb.1;omega,fun he=>by
         rcases HA13.out with h|⟨b',h,hb'⟩
         ·rw [h] at he;have:=own_lt hs1 b he.symm;have:=hb.1;omega
         ·rw [h] at he;injection he with he;have:=hb.2;simp at hb';omega⟩))
        have HBn:=aZ (show Below w.heap.size w w13 from (below_alloc (below_step HB7.out HB8.out) _).grown HG13.out (by simp;omega) (fun b hb=>own_base hs1 b hb))
        clear hs1 hsz1 hsz2 hsz3 hsz5
        go_roundg i
        case measure=>have:=HI.out;omega
        case rel=>exact ⟨i,r1,lo :: q_,congrArg (Value.int .i64) (show wrap64 ((i:Int)-1)=(i:Int)-1 by unfold wrap64;have:=HQL.out;have:=HBIG.out;omega),HL,⟨Nat.le_refl _⟩,⟨by have:=HQL.out;simp;omega⟩,HR13,HVn,HBn⟩
       rw [if_pos hpos] at hl1
       have c63:decide (0<lo)=true:=decide_eq_true hpos
       obtain ⟨t,ht,hl1⟩:=Option.bind_eq_some_iff.1 hl1
       obtain ⟨p,hp,hl1⟩:=Option.bind_eq_some_iff.1 hl1
       obtain ⟨r2,hr2,hl1⟩:=Option.bind_eq_some_iff.1 hl1
       have HT:=aZ ht
       have HP:=aZ hp
       have HR2:=aZ hr2
       have HL:=aZ hl1
       clear ht hp hr2 hl1
       go_wp2_with (first
         | (go_at_call 98;(with_reducible refine (hof lo t _ HT.out).mono ?_);rintro e w8 ⟨v8,rfl,hv,hb⟩;obtain ⟨At,ct,et⟩:=Kd.R_slice hv;subst et;have HT8:=aZ (Kd.R_reads' hv);have HB9:=aZ (below_step HB8.out hb);clear hv hb)
         | (go_at_call 112;(with_reducible refine (hmul t p At ct _ (Kd.C_below HR1.out (below_step HB7.out HB9.out)) HT8.out.2.2 HT8.out.2.1 HP.out).mono ?_);rintro e w9 ⟨v9,rfl,hv,hb⟩;obtain ⟨Ap,cp,ep⟩:=Kd.V_slice hv;subst ep;have HP9:=aZ (Kd.V_reads' hv);have HB10:=aZ (below_step HB9.out hb);clear hv hb)
         | (go_at_call 119;(with_reducible refine (hadd p r2 Ap cp _ (Kd.C_below (Kd.V_reads' HV7.out).2.2 HB10.out) HP9.out.2.2 HP9.out.2.1 HR2.out).mono ?_);rintro e w12 ⟨v12,rfl,hv,hb⟩;have HV12:=aZ (Kd.V_bound hv);have HB12:=aZ (below_step HB10.out hb);clear hv hb)
         | (go_at_call 161;have hRx:=Kd.R_below HR.out (below_step HBr.out HB12.out);have hAx:=Kd.R_alloc hRx (.cells #[.int .i64 lo] 3);have hNx:=blk_new w12 (.cells #[.int .i64 lo] 3);have hBx:u6.ownBlock≠some w12.heap.size:=(fun e_=>absurd (own_lt (Kd.own_of_R hRx) _ e_) (Nat.lt_irrefl _));have hCx:w.heap.size≤(w12.alloc (.cells #[.int .i64 lo] 3)).heap.size:=(by have:=HB7.out.size;have:=HB12.out.size;simp;omega);(with_reducible refine (Ins.ins w.heap.size u6 q_ lo w12.heap.size (w12.alloc (.cells #[.int .i64 lo] 3)) hAx hNx hBx hCx HQ44.out).mono ?_);clear hAx hNx hBx hCx;rintro e w13 ⟨v13,rfl,hr13,hg13,ha13⟩;have HR13:=aZ hr13;have HG13:=aZ hg13;have HA13:=aZ ha13;clear hr13 hg13 ha13 hRx))
       have hs1:=Kd.own_of_R HR.out
       have hsz1:=HB7.out.size
       have hsz2:=HBr.out.size
       have hsz3:=HB12.out.size
       have hsz4:=HB10.out.size
       have hsz5:=HB.out.size
       have HVn:=aZ (show Kd.V (Kd.int .i64) 3 w13 w.heap.size (fun b=>w.heap.size≤b∧some b≠v13.ownBlock) v12 r2 from Kd.V_lower (base':=w.heap.size) (Kd.V_mono (Kd.V_grown (Kd.V_alloc HV12.out _) HG13.out (fun b hb he=>by have:=own_lt hs1 b he.symm;have:=hb.1;omega)) (fun b hb=>⟨by have:=hb.1;omega,fun he=>by
        rcases HA13.out with h|⟨b',h,hb'⟩
        ·rw [h] at he;have:=own_lt hs1 b he.symm;have:=hb.1;omega
        ·rw [h] at he;injection he with he;have:=hb.2;simp at hb';omega⟩)) (by omega))
       have HBn:=aZ (show Below w.heap.size w w13 from (below_alloc (below_step HB7.out HB12.out) _).grown HG13.out (by simp;omega) (fun b hb=>own_base hs1 b hb))
       clear hs1 hsz1 hsz2 hsz3 hsz4 hsz5
       go_roundg i
       case measure=>have:=HI.out;omega
       case rel=>exact ⟨i,r2,lo :: q_,congrArg (Value.int .i64) (show wrap64 ((i:Int)-1)=(i:Int)-1 by unfold wrap64;have:=HQL.out;have:=HBIG.out;omega),HL,⟨Nat.le_refl _⟩,⟨by have:=HQL.out;simp;omega⟩,HR13,HVn,HBn⟩
      rw [if_pos hlt] at hbs
      have c45:decide (lo<hi)=true:=decide_eq_true hlt
      obtain ⟨md,hmd⟩:∃ x:Int,(lo+hi+1)/2=x:=⟨_,rfl⟩
      have hmd0:0≤md:=by omega
      have hmd1:md≤9999:=by omega
      have HMD:=aZ (show 1≤md by omega)
      rw [hmd] at hbs
      obtain ⟨t,ht,hbs⟩:=Option.bind_eq_some_iff.1 hbs
      obtain ⟨p,hp,hbs⟩:=Option.bind_eq_some_iff.1 hbs
      obtain ⟨cc,hcc,hbs⟩:=Option.bind_eq_some_iff.1 hbs
      have HT:=aZ ht
      have HP:=aZ hp
      have HCC:=aZ hcc
      clear ht hp hcc
      by_cases hc0:cc≤0
      case neg=>
       rw [if_neg hc0] at hbs
       have HBS:=aZ hbs
       have c58:decide (cc≤0)=false:=decide_eq_false hc0
       clear hbs hc0
       go_wp2_with (first
         | (go_at_call 98;(with_reducible refine (hof md t _ HT.out).mono ?_);rintro e w8 ⟨v8,rfl,hv,hb⟩;obtain ⟨At,ct,et⟩:=Kd.R_slice hv;subst et;have HT8:=aZ (Kd.R_reads' hv);have HB9:=aZ (below_step HB8.out hb);clear hv hb)
         | (go_at_call 112;(with_reducible refine (hmul t p At ct _ (Kd.C_below HR1.out (below_step HB7.out HB9.out)) HT8.out.2.2 HT8.out.2.1 HP.out).mono ?_);rintro e w9 ⟨v9,rfl,hv,hb⟩;obtain ⟨Ap,cp,ep⟩:=Kd.V_slice hv;subst ep;have HP9:=aZ (Kd.V_reads' hv);have HB10:=aZ (below_step HB9.out hb);clear hv hb)
         | (go_at_call 120;(with_reducible refine (hcm2 p cc Ap cp _ HP9.out.2.2 HP9.out.2.1 (Kd.C_below (Kd.V_reads' HV7.out).2.2 HB10.out) HCC.out).mono ?_);rintro e w' ⟨rfl,⟨nd2,rfl⟩⟩;have HB11:=aZ (pw_below_drewN HB10.out nd2)))
       go_roundg m
       case measure=>have:=HM.out;omega
       case rel=>exact ⟨m,lo,md-1,rfl,rfl,HBS,⟨Nat.le_refl _⟩,⟨hlo0,hlo1⟩,⟨by have:=HMD.out;omega,by omega⟩,HB11⟩
      rw [if_pos hc0] at hbs
      have HBS:=aZ hbs
      have c58:decide (cc≤0)=true:=decide_eq_true hc0
      clear hbs hc0
      go_wp2_with (first
        | (go_at_call 98;(with_reducible refine (hof md t _ HT.out).mono ?_);rintro e w8 ⟨v8,rfl,hv,hb⟩;obtain ⟨At,ct,et⟩:=Kd.R_slice hv;subst et;have HT8:=aZ (Kd.R_reads' hv);have HB9:=aZ (below_step HB8.out hb);clear hv hb)
        | (go_at_call 112;(with_reducible refine (hmul t p At ct _ (Kd.C_below HR1.out (below_step HB7.out HB9.out)) HT8.out.2.2 HT8.out.2.1 HP.out).mono ?_);rintro e w9 ⟨v9,rfl,hv,hb⟩;obtain ⟨Ap,cp,ep⟩:=Kd.V_slice hv;subst ep;have HP9:=aZ (Kd.V_reads' hv);have HB10:=aZ (below_step HB9.out hb);clear hv hb)
        | (go_at_call 120;(with_reducible refine (hcm2 p cc Ap cp _ HP9.out.2.2 HP9.out.2.1 (Kd.C_below (Kd.V_reads' HV7.out).2.2 HB10.out) HCC.out).mono ?_);rintro e w' ⟨rfl,⟨nd2,rfl⟩⟩;have HB11:=aZ (pw_below_drewN HB10.out nd2)))
      go_roundg m
      case measure=>have:=HM.out;omega
      case rel=>exact ⟨m,md,hi,rfl,rfl,HBS,⟨Nat.le_refl _⟩,⟨hmd0,hmd1⟩,⟨hhi0,hhi1⟩,HB11⟩
set_option maxHeartbeats 2000000 in
theorem Y3.calls (k:Nat) (P0_:Nat→Prop) (A0:Option Addr) (c0:Nat) (l0:List Int) (A1:Option Addr) (c1:Nat) (l1:List Int) (r1:List Int) (r2:List Int) (w:World) (hs0:Kd.V (Kd.int .i64) 3 w w.heap.size (fun k_=>P0_ k_) (.slice A0 l0.length c0) l0) (hr1:Kd.C (Kd.int .i64) w A1 l1.length l1) (hc1:l1.length≤c1) (h:Y3.f k l0 l1=some (r1,r2)) :
  Calls Tryz.prog 134 #[.slice A0 l0.length c0,.slice A1 l1.length c1] w fun e w'=>∃ v0_ v1_:Value,e = .returned (.tuple #[v0_,v1_])∧Kd.V (Kd.int .i64) 3 w' w.heap.size (fun k_=>(P0_ k_∨w.heap.size≤k_)) v0_ r1∧Kd.V (Kd.int .i64) 3 w' w.heap.size (fun k_=>(P0_ k_∨w.heap.size≤k_)) v1_ r2∧Below w.heap.size w w':=by
 unfold Y3.f at h
 by_cases hl:l0.length<1000000000∧l1.length<1000000000
 case neg=>rw [if_neg hl] at h;cases h
 rw [if_pos hl] at h
 obtain ⟨c,hc,h⟩:=Option.bind_eq_some_iff.1 h
 by_cases hlt:c<0
 ·rw [if_pos hlt] at h
  simp only [Option.some.injEq,Prod.mk.injEq] at h
  obtain ⟨rfl,rfl⟩:=h
  exact Y3.less_ k P0_ A0 c0 l0 A1 c1 l1 c w hs0 hr1 hc1 hc hlt
 rw [if_neg hlt] at h
 by_cases h2:1≤l1.length∧l1.length≤l0.length
 case neg=>rw [if_neg h2] at h;cases h
 rw [if_pos h2] at h
 obtain ⟨r',hr',h⟩:=Option.bind_eq_some_iff.1 h
 obtain ⟨r0,hr0,h⟩:=Option.bind_eq_some_iff.1 h
 obtain ⟨⟨z1,z2⟩,hz,h⟩:=Option.bind_eq_some_iff.1 h
 obtain ⟨q,hq,h⟩:=Option.bind_eq_some_iff.1 h
 simp only [Option.some.injEq,Prod.mk.injEq] at h
 obtain ⟨rfl,rfl⟩:=h
 exact Y3.big_ k P0_ A0 c0 l0 A1 c1 l1 c r' r0 z1 _ _ w hs0 hr1 hc1 hc hlt h2.1 h2.2 hl.1 hr' hr0 hz hq
end
def Yr.l0:Nat→List Int→List Int→Option (List Int)
 | 0,_,_=>none
 | k+1,x0,x1=>if (x1.length:Int)>0 then ((Y3.f k x0 x1).bind fun bt425=>(Yr.l0 k x1 bt425.2)) else (some x0)
def Yr.f (k:Nat) (l0:List Int) (l1:List Int):Option (List Int):=Yr.l0 k l0 l1
theorem Yr.calls (k:Nat) (P0_:Nat→Prop) (A0:Option Addr) (c0:Nat) (l0:List Int) (P1_:Nat→Prop) (A1:Option Addr) (c1:Nat) (l1:List Int) (r:List Int) (w:World) (hs0:Kd.V (Kd.int .i64) 3 w w.heap.size (fun k_=>P0_ k_) (.slice A0 l0.length c0) l0) (hs1:Kd.V (Kd.int .i64) 3 w w.heap.size (fun k_=>P1_ k_) (.slice A1 l1.length c1) l1) (h:Yr.f k l0 l1=some r) :
  Calls Tryz.prog 104 #[.slice A0 l0.length c0,.slice A1 l1.length c1] w fun e w'=>∃ v0_:Value,e = .returned (v0_)∧Kd.V (Kd.int .i64) 3 w' w.heap.size (fun k_=>((P0_ k_∨P1_ k_)∨w.heap.size≤k_)) v0_ r∧Below w.heap.size w w':=by
 have HO0:=aZ (show Kd.V (Kd.int .i64) 3 w w.heap.size (fun k_=>((P0_ k_∨P1_ k_)∨w.heap.size≤k_)) (.slice A0 l0.length c0) l0 from Kd.V_mono hs0 (fun k_ hk=>.inl (.inl hk)))
 have HO1:=aZ (show Kd.V (Kd.int .i64) 3 w w.heap.size (fun k_=>((P0_ k_∨P1_ k_)∨w.heap.size≤k_)) (.slice A1 l1.length c1) l1 from Kd.V_mono hs1 (fun k_ hk=>.inl (.inr hk)))
 have HB:=aZ (Below.refl w.heap.size w)
 have H:=h
 unfold Yr.f at H
 clear h
 have H':=aZ H
 clear H
 go_enter func104,ntmps104
 go_wp2
 go_loopg [0,1] k (fun kq v0 v1 w'=>∃ (x0_1:List Int) (x1_1:List Int),Aside0 (Yr.l0 kq x0_1 x1_1=some r)∧Aside0 (kq≤k)∧Aside0 (Kd.V (Kd.int .i64) 3 w' w.heap.size (fun k_=>((P0_ k_∨P1_ k_)∨w.heap.size≤k_)) v0 x0_1)∧Aside0 (Kd.V (Kd.int .i64) 3 w' w.heap.size (fun k_=>((P0_ k_∨P1_ k_)∨w.heap.size≤k_)) v1 x1_1)∧Aside0 (Below w.heap.size w w'))
 case atStart=>exact ⟨(l0),(l1),H',⟨Nat.le_refl _⟩,⟨zV HO0⟩,⟨zV HO1⟩,⟨bw⟩⟩
 case round =>
  clear H'
  try clear c1
  obtain ⟨x0_1,x1_1,HA,HK1,HO_0,HO_1,HB⟩:=hrel
  cases gk with
  | zero=>exact absurd HA.out (by simp [Yr.l0])
  | succ k1 =>
   have H:=HA.out
   clear HA
   simp only [Yr.l0] at H
   by_cases c3:(x1_1.length:Int)>0
   case neg=>
    rw [if_neg c3] at H
    have c3b0:=decide_eq_false c3
    have c3b1:decide (0<x1_1.length)=false:=decide_eq_false (by omega)
    clear c3
    obtain rfl:=Option.some.inj H
    obtain ⟨Ao8,co8,rfl⟩:=Kd.V_slice HO_1.out
    go_wp2
    go_ret
    exact ⟨_,ze,zV HO_0,bw⟩
   rw [if_pos c3] at H
   have c3b0:=decide_eq_true c3
   have c3b1:decide (0<x1_1.length)=true:=decide_eq_true (by omega)
   clear c3
   obtain ⟨⟨t425,t428⟩,A4,H⟩:=zB H
   (try dsimp only at H)
   have H':=aZ H
   clear H
   obtain ⟨Ao5,co5,rfl⟩:=Kd.V_slice HO_1.out
   obtain ⟨Ao6,co6,rfl⟩:=Kd.V_slice HO_0.out
   go_wp2_with (first|(refine zg (some 13) func134 #[.slice Ao6 x0_1.length co6,.slice Ao5 x1_1.length co5] ?_;(with_reducible refine (Y3.calls k1 (fun k_=>((P0_ k_∨P1_ k_)∨w.heap.size≤k_)) _ _ x0_1 _ _ x1_1 t425 t428 _ ?side1 ?side2 ?side3 A4.out).mono ?_);(case side1=>exact HO_0.out);(case side2=>exact zr HO_1);(case side3=>exact zk HO_1);rintro e w7 ⟨v426,v429,rfl,ho0,ho1,hb⟩;refine ⟨_,rfl,?_⟩;replace HO_0:=yV HO_0 hb;replace HO_1:=yV HO_1 hb;have HO427:=yL (fun k_=>((P0_ k_∨P1_ k_)∨w.heap.size≤k_)) ho0 (fun k_ hk_=>Or.elim hk_ (fun hs_=>hs_) (fun hn_=>(.inr (Nat.le_trans bs hn_))));have HO430:=yL (fun k_=>((P0_ k_∨P1_ k_)∨w.heap.size≤k_)) ho1 (fun k_ hk_=>Or.elim hk_ (fun hs_=>hs_) (fun hn_=>(.inr (Nat.le_trans bs hn_))));replace HB:=sB hb;clear hb ho0 ho1))
   go_roundg k1
   case measure=>have:=HK1.out;omega
   case rel=>exact ⟨(x1_1),(t428),H',⟨by have:=HK1.out;omega⟩,⟨zV HO_1⟩,⟨zV HO430⟩,⟨bw⟩⟩
section
def YX.f (a0:ByteArray):Option (Int×Option Int):=if a0.size≤18 then (Lib.atoi a0.data.toList).map (fun n=>(n,none)) else none
theorem YX.calls (a0:ByteArray) (r1:Int) (r2:Option Int) (w:World) (h:YX.f a0=some (r1,r2)) :
  Calls Tryz.prog 133 #[.string a0] w fun e w'=>e = .returned (.tuple #[.int .i64 r1,errW r2])∧Below w.heap.size w w':=by
 unfold YX.f at h
 by_cases c:a0.size≤18
 case neg=>
  rw [if_neg c] at h;cases h
 rw [if_pos c] at h
 obtain ⟨n,hn,he⟩:=Option.map_eq_some_iff.1 h
 obtain ⟨rfl,rfl⟩:=Prod.mk.inj he
 have ha:Lib.atoiAll a0.data.toList = .ok n:=by rw [Lib.atoiAll_short _ (by rw [Array.length_toList];exact c),hn];rfl
 refine (Tryz.strconv_Atoi_ok a0 (Nat.le_trans c (by decide)) n ha w).mono ?_
 rintro e w' ⟨rfl,hw⟩
 refine ⟨rfl,?_⟩
 rcases hw with rfl|⟨t,rfl⟩
 ·exact Below.refl _ _
 ·exact Lib.bytesWorld_below _ _ _
end
def Yi.l0:Nat→ByteArray→List Int→Option (List Int)
 | 0,_,_=>none
 | k+1,x0,x3=>if (x0.size:Int)>0 then (if 0≤(mx 0 (wrap64 ((x0.size:Int)-4))) then (if (mx 0 (wrap64 ((x0.size:Int)-4)))≤(x0.size:Int) then ((YX.f (x0.extract ((mx 0 (wrap64 ((x0.size:Int)-4))):Int).toNat x0.size)).bind fun bt431=>(if x3.length<17592186044416 then (Yi.l0 k (x0.extract 0 ((mx 0 (wrap64 ((x0.size:Int)-4))):Int).toNat) (x3++[bt431.1])) else (none))) else (none)) else (none)) else ((Y2.f k x3).bind fun t436=>(some t436))
def Yi.f (k:Nat) (a0:ByteArray):Option (List Int):=Yi.l0 k a0 ([]:List Int)
theorem Yi.calls (k:Nat) (a0:ByteArray) (r:List Int) (w:World) (h:Yi.f k a0=some r) :
  Calls Tryz.prog 105 #[.string a0] w fun e w'=>∃ v0_:Value,e = .returned (v0_)∧Kd.V (Kd.int .i64) 3 w' w.heap.size (fun k_=>(w.heap.size≤k_)) v0_ r∧Below w.heap.size w w':=by
 have HB:=aZ (Below.refl w.heap.size w)
 have H:=h
 unfold Yi.f at H
 clear h
 have H':=aZ H
 clear H
 go_enter func105,ntmps105
 go_wp2
 go_loopg [0,3] k (fun kq v0 v3 w'=>∃ (x0_1:ByteArray) (x3_1:List Int),v0 = .string x0_1∧Aside0 (Yi.l0 kq x0_1 x3_1=some r)∧Aside0 (kq≤k)∧Aside0 (Kd.R (Kd.int .i64) 3 w' w.heap.size (fun k_=>(w.heap.size≤k_)) v3 x3_1)∧Aside0 (Below w.heap.size w w'))
 case atStart=>exact ⟨(a0),(([]:List Int)),zs,H',⟨Nat.le_refl _⟩,⟨by first|exact Kd.R_nil _ _ _ _ _|exact Kd.N_nil _ _ _ _ _|exact Kd.V_nil _ _ _ _ _|exact Kd.Q_nil _ _ _ _ _|exact Kd.S_nil _ _ _ _ _⟩,⟨bw⟩⟩
 case round =>
  clear H'
  try clear c1
  obtain ⟨x0_1,x3_1,rfl,HA,HK1,HO_3,HB⟩:=hrel
  cases gk with
  | zero=>exact absurd HA.out (by simp [Yi.l0])
  | succ k1 =>
   have H:=HA.out
   clear HA
   simp only [Yi.l0] at H
   by_cases c2:(x0_1.size:Int)>0
   case neg=>
    rw [if_neg c2] at H
    have c2b0:=decide_eq_false c2
    have c2b1:decide (0<x0_1.size)=false:=decide_eq_false (by omega)
    clear c2
    obtain ⟨t436,A12,H⟩:=zB H
    obtain rfl:=Option.some.inj H
    obtain ⟨Ao13,co13,rfl⟩:=Kd.R_slice HO_3.out
    go_wp2_with (first|(refine zg (some 29) func141 #[.slice Ao13 x3_1.length co13] ?_;(with_reducible refine (Y2.calls k1 (fun k_=>some k_=(.slice Ao13 x3_1.length co13:Value).ownBlock) _ _ x3_1 t436 _ ?side1 A12.out).mono ?_);(case side1=>exact Kd.R_V (Kd.R_tight rfl (HO_3.out)));rintro e w14 ⟨v437,rfl,ho0,hb⟩;refine ⟨_,rfl,?_⟩;have HO438:=yL (fun k_=>(w.heap.size≤k_)) ho0 (fun k_ hk_=>Or.elim hk_ (fun hs_=>((HO_3.out).1 k_ hs_.symm)) (fun hn_=>(Nat.le_trans bs hn_)));replace HO_3:=yR HO_3 hb;replace HB:=sB hb;clear hb ho0))
    go_ret
    exact ⟨_,ze,zV HO438,bw⟩
   rw [if_pos c2] at H
   have c2b0:=decide_eq_true c2
   have c2b1:decide (0<x0_1.size)=true:=decide_eq_true (by omega)
   clear c2
   obtain ⟨ji3,hji3⟩:∃ j_:Int,(mx 0 (wrap64 ((x0_1.size:Int)-4)))=j_:=⟨_,rfl⟩
   (first|rw [hji3] at H|simp only [hji3] at H)
   have hji3_:(if 0<(wrap64 ((x0_1.size:Int)-4)) then (wrap64 ((x0_1.size:Int)-4)) else 0)=ji3:=hji3
   by_cases c4:0≤(ji3)
   case neg=>
    rw [if_neg c4] at H
    cases H
   rw [if_pos c4] at H
   have c4b0:=eq_true c4
   have c4b1:=decide_eq_true c4
   clear c4
   by_cases c5:(ji3)≤(x0_1.size:Int)
   case neg=>
    rw [if_neg c5] at H
    cases H
   rw [if_pos c5] at H
   have c5b0:=eq_true c5
   have c5b1:=decide_eq_true c5
   clear c5
   obtain ⟨⟨t431,t432⟩,A6,H⟩:=zB H
   (try dsimp only at H)
   by_cases c7:x3_1.length<17592186044416
   case neg=>
    rw [if_neg c7] at H
    cases H
   rw [if_pos c7] at H
   have LMc7:=aZ c7
   clear c7
   obtain ⟨y433,hy433⟩:∃ y_:List Int,y_=(x3_1++[t431]):=⟨_,rfl⟩
   replace H:(Yi.l0 k1 (x0_1.extract 0 ((ji3):Int).toNat) y433)=some r:=zy hy433 H
   have Ny433:=aZ hy433
   clear hy433
   have c8b0:=eq_true (zd:0≤(ji3))
   have c9b0:=eq_true (zd:(ji3)≤(x0_1.size:Int))
   have H':=aZ H
   clear H
   go_wp2_with (first|((with_reducible refine gate_callee (f:=133) rfl ?_);refine goesL_ (some 18) rfl rfl func133 (by kernel_rfl) rfl #[.string (x0_1.extract ((ji3):Int).toNat x0_1.size)] rfl (by (try simp only [List.map_toArray,List.map_cons,List.map_nil]);first|done|(simp only [hji3];rfl)|rfl|(simp only [List.length_drop,List.length_take];rfl)) ?_;(with_reducible refine (YX.calls (x0_1.extract ((ji3):Int).toNat x0_1.size) t431 t432 _ A6.out).mono ?_);rintro e w10 ⟨rfl,hb⟩;refine ⟨_,rfl,?_⟩;replace HO_3:=yR HO_3 hb;replace HB:=sB hb;clear hb;(try simp only [errW_none,errW_some]))|((with_reducible refine gate_builtin (b:=.append) (xs:=#[.tmp 21,.tmp 23]) rfl ?_);at_builtin;refine Kd.R_append (Kd.int .i64) (w0:=w) w.heap.size rfl (.tmp 21) (.tmp 23) 65 3 (.int .i64 0) 8 rfl underlying65 info3 rfl (by decide) (by omega) u3 x3_1 t431 [.int .i64 t431] (fun k_=>(w.heap.size≤k_)) (fun _=>False) rfl rfl ?aP (fun _ hk=>hk.elim) ?aF ?aO ?aB ?aS ?aL ?_;(case aP=>exact rfl);(case aB=>exact bw);(case aF=>exact (fun k_ hk=>(Nat.le_trans bs hk)));(case aO=>exact (zR HO_3));(case aS=>exact bs);(case aL=>have:=LMc7.out;omega);intro v434 w11 ho hb hg hat;rw [← Ny433.out] at ho;replace HB:=aZ (hb);have HO435:=aZ (ho);clear HO_3;clear ho hb hg hat))
   go_roundg k1
   case measure=>have:=HK1.out;omega
   case rel=>exact ⟨(x0_1.extract 0 ((ji3):Int).toNat),(y433),(by first|rfl|(simp;done)|(simp only [← hji3] <;> (first|rfl|simp))|(simp [*];done)),H',⟨by have:=HK1.out;omega⟩,⟨zR HO435⟩,⟨bw⟩⟩
def Y5.j0:Nat→ByteArray→Bool→ByteArray→ByteArray→Option (Int)
 | 0,_,_,_,_=>none
 | k+1,x3,x37,x440000,x440001=>if x37=true then (some 3) else ((Yi.f k x3).bind fun t444=>((Yi.f k x440001).bind fun t447=>((Yr.f k t444 t447).bind fun t450=>(if (t450.length:Int)=1 then (if 0<(t450.length:Int) then (if (rd t450 0)=1 then (some 0) else (some 3)) else (none)) else (some 3)))))
def Y5.f (k:Nat) (a0_0:ByteArray) (a0_1:ByteArray):Option (Int):=(YB.f a0_0 (⟨#[45]⟩:ByteArray)).bind fun bt440=>((Yh.f k bt440.1).bind fun t442=>(if t442=true then ((Yh.f k a0_1).bind fun t443=>(if t443=true then (if a0_1.toList=([48]:List UInt8) then (Y5.j0 k bt440.1 true a0_0 a0_1) else (if bt440.1.toList=([48]:List UInt8) then (if bt440.2=true then (Y5.j0 k bt440.1 true a0_0 a0_1) else (Y5.j0 k bt440.1 (a0_1.toList != ([49]:List UInt8)) a0_0 a0_1)) else (Y5.j0 k bt440.1 false a0_0 a0_1))) else (Y5.j0 k bt440.1 true a0_0 a0_1))) else (Y5.j0 k bt440.1 true a0_0 a0_1)))
theorem Y5.calls (k:Nat) (a0_0:ByteArray) (a0_1:ByteArray) (r:Int) (w:World) (h:Y5.f k a0_0 a0_1=some r) :
  Calls Tryz.prog 53 #[.agg #[.string a0_0,.string a0_1]] w fun e w'=>e = .returned (.int .i64 r)∧Below w.heap.size w w':=by
 have hu61:=underlying61
 have HB:=aZ (Below.refl w.heap.size w)
 have H:=h
 unfold Y5.f at H
 clear h
 obtain ⟨⟨t440,t441⟩,A2,H⟩:=zB H
 (try dsimp only at H)
 have HC3:=aZ H
 clear H
 go_enter func53,ntmps53
 go_upto_region 2 with (first|(refine box_ev 1 #[.string a0_0,.string a0_1] 61 ?_;intro gb439 hg w4 hbox hb;have BK439:=aZ hbox;have GE439:=sG hg;replace HB:=sB hb;clear hb hbox hg;obtain ⟨hcz5_0,hfz5_0⟩:=zc BK439 0 (.string a0_0) rfl;obtain ⟨hcz5_1,hfz5_1⟩:=zc BK439 1 (.string a0_1) rfl)|(refine zg (some 9) func102 #[.string a0_0,.string (⟨#[45]⟩:ByteArray)] ?_;(with_reducible refine (YB.calls a0_0 (⟨#[45]⟩:ByteArray) t440 t441 _ A2.out).mono ?_);rintro e w' ⟨rfl,⟨nd,rfl⟩⟩;refine ⟨_,rfl,?_⟩))
 (try simp only [Act.put,List.setIfInBounds_toArray,List.set_cons_zero,List.set_cons_succ])
 go_cut [37] (fun v37 wc=>∃ (kq:Nat) (x37_2:Bool),v37 = .bool x37_2∧Aside0 (Y5.j0 kq t440 x37_2 a0_0 a0_1=some r)∧Aside0 (kq≤k)∧Aside0 (wc.heap[gb439]? = some (.cells #[.string a0_0,.string a0_1] 61 (0,0)))∧Aside0 (Below w.heap.size w wc))
 case first =>
  have H:=HC3.out
  clear HC3
  obtain ⟨t442,A6,H⟩:=zB H
  by_cases c7:t442=true
  case neg=>
   replace c7:=Bool.eq_false_iff.mpr c7
   subst c7
   have H1:(Y5.j0 k t440 true a0_0 a0_1)=some r:=by rw [if_neg (show ¬ (false=true) by decide)] at H;exact H
   clear H
   have H:=H1
   clear H1
   have H':=aZ H
   clear H
   go_wp2_with (first|(refine zg (some 13) func103 #[.string t440] ?_;(with_reducible refine (Yh.calls k t440 false _ A6.out).mono ?_);rintro e w' ⟨rfl,⟨nd,rfl⟩⟩;refine ⟨_,rfl,?_⟩))
   go_meet
   case rel=>exact ⟨_,(true),zs,H',⟨by first|omega|exact Nat.le_refl _⟩,⟨zb BK439⟩,⟨bw⟩⟩
  subst c7
  have H1:((Yh.f k a0_1).bind fun t443=>(if t443=true then (if a0_1.toList=([48]:List UInt8) then (Y5.j0 k t440 true a0_0 a0_1) else (if t440.toList=([48]:List UInt8) then (if t441=true then (Y5.j0 k t440 true a0_0 a0_1) else (Y5.j0 k t440 (a0_1.toList != ([49]:List UInt8)) a0_0 a0_1)) else (Y5.j0 k t440 false a0_0 a0_1))) else (Y5.j0 k t440 true a0_0 a0_1)))=some r:=by rw [if_pos rfl] at H;exact H
  clear H
  have H:=H1
  clear H1
  obtain ⟨t443,A8,H⟩:=zB H
  by_cases c9:t443=true
  case neg=>
   replace c9:=Bool.eq_false_iff.mpr c9
   subst c9
   have H1:(Y5.j0 k t440 true a0_0 a0_1)=some r:=by rw [if_neg (show ¬ (false=true) by decide)] at H;exact H
   clear H
   have H:=H1
   clear H1
   have H':=aZ H
   clear H
   go_wp2_with (first|(refine zg (some 13) func103 #[.string t440] ?_;(with_reducible refine (Yh.calls k t440 true _ A6.out).mono ?_);rintro e w' ⟨rfl,⟨nd,rfl⟩⟩;refine ⟨_,rfl,?_⟩;obtain ⟨hcz17_0,hfz17_0⟩:=zc BK439 0 (.string a0_0) rfl;obtain ⟨hcz17_1,hfz17_1⟩:=zc BK439 1 (.string a0_1) rfl)|(go_at_call 103;(with_reducible refine (Yh.calls k a0_1 false _ A8.out).mono ?_);rintro e w' ⟨rfl,⟨nd,rfl⟩⟩))
   go_meet
   case rel=>exact ⟨_,(true),zs,H',⟨by first|omega|exact Nat.le_refl _⟩,⟨zb BK439⟩,⟨bw⟩⟩
  subst c9
  have H1:(if a0_1.toList=([48]:List UInt8) then (Y5.j0 k t440 true a0_0 a0_1) else (if t440.toList=([48]:List UInt8) then (if t441=true then (Y5.j0 k t440 true a0_0 a0_1) else (Y5.j0 k t440 (a0_1.toList != ([49]:List UInt8)) a0_0 a0_1)) else (Y5.j0 k t440 false a0_0 a0_1)))=some r:=by rw [if_pos rfl] at H;exact H
  clear H
  have H:=H1
  clear H1
  by_cases c10:a0_1.toList=([48]:List UInt8)
  case neg=>
   rw [if_neg c10] at H
   obtain ⟨c10b0,c10b1⟩:=zX c10
   (first|rw [c10b0]|(simp only [i64_w,i32_w];rw [c10b0])|skip)
   by_cases c12:t440.toList=([48]:List UInt8)
   case neg=>
    rw [if_neg c12] at H
    obtain ⟨c12b0,c12b1⟩:=zX c12
    have H':=aZ H
    clear H
    go_wp2_with (first|(refine zg (some 13) func103 #[.string t440] ?_;(with_reducible refine (Yh.calls k t440 true _ A6.out).mono ?_);rintro e w' ⟨rfl,⟨nd,rfl⟩⟩;refine ⟨_,rfl,?_⟩;obtain ⟨hcz16_0,hfz16_0⟩:=zc BK439 0 (.string a0_0) rfl;obtain ⟨hcz16_1,hfz16_1⟩:=zc BK439 1 (.string a0_1) rfl)|(go_at_call 103;(with_reducible refine (Yh.calls k a0_1 true _ A8.out).mono ?_);rintro e w' ⟨rfl,⟨nd,rfl⟩⟩))
    go_meet
    case rel=>exact ⟨_,(false),zs,H',⟨by first|omega|exact Nat.le_refl _⟩,⟨zb BK439⟩,⟨bw⟩⟩
   rw [if_pos c12] at H
   obtain ⟨c12b0,c12b1⟩:=zY c12
   clear c12
   by_cases c13:t441=true
   case neg=>
    replace c13:=Bool.eq_false_iff.mpr c13
    subst c13
    have H1:(Y5.j0 k t440 (a0_1.toList != ([49]:List UInt8)) a0_0 a0_1)=some r:=by rw [if_neg (show ¬ (false=true) by decide)] at H;exact H
    clear H
    have H:=H1
    clear H1
    have H':=aZ H
    clear H
    go_wp2_with (first|(refine zg (some 13) func103 #[.string t440] ?_;(with_reducible refine (Yh.calls k t440 true _ A6.out).mono ?_);rintro e w' ⟨rfl,⟨nd,rfl⟩⟩;refine ⟨_,rfl,?_⟩;obtain ⟨hcz15_0,hfz15_0⟩:=zc BK439 0 (.string a0_0) rfl;obtain ⟨hcz15_1,hfz15_1⟩:=zc BK439 1 (.string a0_1) rfl)|(go_at_call 103;(with_reducible refine (Yh.calls k a0_1 true _ A8.out).mono ?_);rintro e w' ⟨rfl,⟨nd,rfl⟩⟩))
    go_meet
    case rel=>exact ⟨_,((a0_1.toList != ([49]:List UInt8))),zs,H',⟨by first|omega|exact Nat.le_refl _⟩,⟨zb BK439⟩,⟨bw⟩⟩
   subst c13
   have H1:(Y5.j0 k t440 true a0_0 a0_1)=some r:=by rw [if_pos rfl] at H;exact H
   clear H
   have H:=H1
   clear H1
   have H':=aZ H
   clear H
   go_wp2_with (first|(refine zg (some 13) func103 #[.string t440] ?_;(with_reducible refine (Yh.calls k t440 true _ A6.out).mono ?_);rintro e w' ⟨rfl,⟨nd,rfl⟩⟩;refine ⟨_,rfl,?_⟩;obtain ⟨hcz14_0,hfz14_0⟩:=zc BK439 0 (.string a0_0) rfl;obtain ⟨hcz14_1,hfz14_1⟩:=zc BK439 1 (.string a0_1) rfl)|(go_at_call 103;(with_reducible refine (Yh.calls k a0_1 true _ A8.out).mono ?_);rintro e w' ⟨rfl,⟨nd,rfl⟩⟩))
   go_meet
   case rel=>exact ⟨_,(true),zs,H',⟨by first|omega|exact Nat.le_refl _⟩,⟨zb BK439⟩,⟨bw⟩⟩
  rw [if_pos c10] at H
  obtain ⟨c10b0,c10b1⟩:=zY c10
  clear c10
  (first|rw [c10b0]|(simp only [i64_w,i32_w];rw [c10b0])|skip)
  have H':=aZ H
  clear H
  go_wp2_with (first|(refine zg (some 13) func103 #[.string t440] ?_;(with_reducible refine (Yh.calls k t440 true _ A6.out).mono ?_);rintro e w' ⟨rfl,⟨nd,rfl⟩⟩;refine ⟨_,rfl,?_⟩;obtain ⟨hcz11_0,hfz11_0⟩:=zc BK439 0 (.string a0_0) rfl;obtain ⟨hcz11_1,hfz11_1⟩:=zc BK439 1 (.string a0_1) rfl)|(go_at_call 103;(with_reducible refine (Yh.calls k a0_1 true _ A8.out).mono ?_);rintro e w' ⟨rfl,⟨nd,rfl⟩⟩))
  go_meet
  case rel=>exact ⟨_,(true),zs,H',⟨by first|omega|exact Nat.le_refl _⟩,⟨zb BK439⟩,⟨bw⟩⟩
 case rest =>
  clear HC3
  try clear c1
  try clear c5
  try clear c7
  try clear c9
  try clear c10
  try clear c10b0
  try clear c10b1
  try clear c12
  try clear c12b0
  try clear c12b1
  try clear c13
  try clear hcz11_0
  try clear hcz11_1
  try clear hcz14_0
  try clear hcz14_1
  try clear hcz15_0
  try clear hcz15_1
  try clear hcz16_0
  try clear hcz16_1
  try clear hcz17_0
  try clear hcz17_1
  try clear hcz5_0
  try clear hcz5_1
  try clear hfz11_0
  try clear hfz11_1
  try clear hfz14_0
  try clear hfz14_1
  try clear hfz15_0
  try clear hfz15_1
  try clear hfz16_0
  try clear hfz16_1
  try clear hfz17_0
  try clear hfz17_1
  try clear hfz5_0
  try clear hfz5_1
  obtain ⟨kq,x37_2,rfl,HA,HJ2,BK439,HB⟩:=hcut
  cases kq with
  | zero=>exact absurd HA.out (by simp [Y5.j0])
  | succ kj2 =>
   have H:=HA.out
   clear HA
   simp only [Y5.j0] at H
   by_cases c18:x37_2=true
   case neg=>
    replace c18:=Bool.eq_false_iff.mpr c18
    subst c18
    have H1:((Yi.f kj2 t440).bind fun t444=>((Yi.f kj2 a0_1).bind fun t447=>((Yr.f kj2 t444 t447).bind fun t450=>(if (t450.length:Int)=1 then (if 0<(t450.length:Int) then (if (rd t450 0)=1 then (some 0) else (some 3)) else (none)) else (some 3)))))=some r:=by rw [if_neg (show ¬ (false=true) by decide)] at H;exact H
    clear H
    have H:=H1
    clear H1
    obtain ⟨t444,A19,H⟩:=zB H
    obtain ⟨t447,A20,H⟩:=zB H
    obtain ⟨t450,A21,H⟩:=zB H
    by_cases c22:(t450.length:Int)=1
    case neg=>
     rw [if_neg c22] at H
     obtain ⟨c22b0,c22b1⟩:=zX c22
     obtain rfl:=Option.some.inj H
     try go_wp2
     replace BK439:=aZ (blk_drew BK439.out)
     replace HB:=aZ (below_drew1 HB.out)
     refine start_ (n:=7) (S:=fun w'=>w'.cell? ⟨gb439,0,none⟩=some (.string a0_0)∧w'.cell? ⟨gb439,1,none⟩=some (.string a0_1)) (ds:=[]) #[false,false,false,false,false,false,false] (by kernel_rfl) rfl rfl ⟨zh BK439 0,zh BK439 1⟩ (fun hHeld=>?_)
     generalize wc.drew=w39 at BK439 HB hHeld ⊢
     refine pure_ (i:=0) (N:=some 38) (v:=?_) (a':=?_) #[true,false,false,false,false,false,false] rfl rfl (by kernel_rfl) (fun _ _ _ h=>h) (Or.inl ⟨by rfl,?_⟩) ?_ ?_
     rotate_left
     ·intro w'
      go_simp
      with_reducible rfl
     rotate_left
     ·simp only [Act.put,List.setIfInBounds_toArray,List.set_cons_zero,List.set_cons_succ,i64_w,i32_w]
      rfl
     refine pure_ (i:=2) (N:=some 40) (v:=?_) (a':=?_) #[true,false,true,false,false,false,false] rfl rfl (by kernel_rfl) (fun _ _ _ h=>h) (Or.inl ⟨by rfl,?_⟩) ?_ ?_
     rotate_left
     ·intro w'
      go_simp
      with_reducible rfl
     rotate_left
     ·simp only [Act.put,List.setIfInBounds_toArray,List.set_cons_zero,List.set_cons_succ,i64_w,i32_w]
      rfl
     refine take_ (i:=3) (N:=some 41) (v:=?_) (a':=?_) #[true,false,true,true,false,false,false] rfl rfl (by kernel_rfl) (fun _ _ _ h=>h) (Or.inl ⟨by rfl,?_⟩) hHeld ?_ ?_
     rotate_left
     ·rintro w' ⟨s0,s1⟩
      go_simp
      with_reducible rfl
     rotate_left
     ·simp only [Act.put,List.setIfInBounds_toArray,List.set_cons_zero,List.set_cons_succ,i64_w,i32_w]
      rfl
     refine one_ (i:=1) (N:=some 39) #[true,true,true,true,false,false,false] rfl rfl (by kernel_rfl) (by decide) (fun K hK=>?_)
     refine goes_ func105 (by kernel_rfl) rfl #[.string t440] (by rfl) rfl rfl zm ?_
     with_reducible refine (Yi.calls kj2 t440 t444 _ A19.out).mono ?_
     rintro e w40 ⟨v445,rfl,ho0,hb⟩
     refine ⟨_,rfl,?_⟩
     have HO446:=yL (fun k_=>k_≠gb439) ho0 (fun k_ hk_=>(zf BK439 hk_))
     replace BK439:=sK BK439 hb
     replace HB:=sB hb
     clear hb ho0
     refine hK.out _ _ ⟨zh BK439 0,zh BK439 1⟩ (fun hHeld=>?_)
     clear hK K
     refine nm ?_
     refine one_ (i:=4) (N:=some 42) #[true,true,true,true,true,false,false] rfl rfl (by kernel_rfl) (by decide) (fun K hK=>?_)
     refine goes_ func105 (by kernel_rfl) rfl #[.string a0_1] (by rfl) rfl rfl zm ?_
     with_reducible refine (Yi.calls kj2 a0_1 t447 _ A20.out).mono ?_
     rintro e w41 ⟨v448,rfl,ho0,hb⟩
     refine ⟨_,rfl,?_⟩
     replace HO446:=yV HO446 hb
     have HO449:=yL (fun k_=>k_≠gb439) ho0 (fun k_ hk_=>(zf BK439 hk_))
     replace BK439:=sK BK439 hb
     replace HB:=sB hb
     clear hb ho0
     obtain ⟨Ao42,co42,eo42⟩:=Kd.V_slice HO446.out
     (first|subst eo42|(injection eo42 with f1_ f2_ f3_;have f4_:=f1_.symm;have f5_:=f3_.symm;clear f1_ f2_ f3_;subst f4_;subst f5_))
     obtain ⟨Ao43,co43,eo43⟩:=Kd.V_slice HO449.out
     (first|subst eo43|(injection eo43 with f1_ f2_ f3_;have f4_:=f1_.symm;have f5_:=f3_.symm;clear f1_ f2_ f3_;subst f4_;subst f5_))
     refine hK.out _ _ ⟨zh BK439 0,zh BK439 1⟩ (fun hHeld=>?_)
     clear hK K
     refine nm ?_
     refine one_ (i:=5) (N:=some 43) #[true,true,true,true,true,true,false] rfl rfl (by kernel_rfl) (by decide) (fun K hK=>?_)
     refine goes_ func104 (by kernel_rfl) rfl #[.slice Ao42 t444.length co42,.slice Ao43 t447.length co43] (by rfl) rfl rfl zm ?_
     with_reducible refine (Yr.calls kj2 (fun k_=>k_≠gb439) _ _ t444 (fun k_=>k_≠gb439) _ _ t447 t450 _ ?side1 ?side2 A21.out).mono ?_
     (case side1=>exact HO446.out)
     (case side2=>exact HO449.out)
     rintro e w44 ⟨v451,rfl,ho0,hb⟩
     refine ⟨_,rfl,?_⟩
     replace HO446:=yV HO446 hb
     replace HO449:=yV HO449 hb
     have HO452:=yL (fun k_=>k_≠gb439) ho0 (fun k_ hk_=>Or.elim hk_ (fun hs_=>Or.elim hs_ (fun hs_=>hs_) (fun hs_=>hs_)) (fun hn_=>(zf BK439 hn_)))
     replace BK439:=sK BK439 hb
     replace HB:=sB hb
     clear hb ho0
     refine hK.out _ _ ⟨zh BK439 0,zh BK439 1⟩ (fun hHeld=>?_)
     clear hK K
     refine nm ?_
     refine pure_ (i:=6) (N:=some 5) (v:=?_) (a':=?_) #[true,true,true,true,true,true,true] rfl rfl (by kernel_rfl) (fun _ _ _ h=>h) (Or.inl ⟨by rfl,?_⟩) ?_ ?_
     rotate_left
     ·intro w'
      go_simp
      with_reducible rfl
     rotate_left
     ·simp only [Act.put,List.setIfInBounds_toArray,List.set_cons_zero,List.set_cons_succ,i64_w,i32_w]
      rfl
     refine done_ (by kernel_rfl) ?_
     obtain ⟨Ao45,co45,rfl⟩:=Kd.V_slice HO452.out
     try go_wp2
     go_ret
     exact ⟨ze,bw⟩
    rw [if_pos c22] at H
    obtain ⟨c22b0,c22b1⟩:=zY c22
    clear c22
    by_cases c23:0<(t450.length:Int)
    case neg=>
     rw [if_neg c23] at H
     cases H
    rw [if_pos c23] at H
    have c23b0:=decide_eq_true c23
    have c23b1:decide (0<t450.length)=true:=decide_eq_true (by omega)
    clear c23
    by_cases c24:(rd t450 0)=1
    case neg=>
     rw [if_neg c24] at H
     obtain ⟨c24b0,c24b1⟩:=zX c24
     obtain rfl:=Option.some.inj H
     try go_wp2
     replace BK439:=aZ (blk_drew BK439.out)
     replace HB:=aZ (below_drew1 HB.out)
     refine start_ (n:=7) (S:=fun w'=>w'.cell? ⟨gb439,0,none⟩=some (.string a0_0)∧w'.cell? ⟨gb439,1,none⟩=some (.string a0_1)) (ds:=[]) #[false,false,false,false,false,false,false] (by kernel_rfl) rfl rfl ⟨zh BK439 0,zh BK439 1⟩ (fun hHeld=>?_)
     generalize wc.drew=w32 at BK439 HB hHeld ⊢
     refine pure_ (i:=0) (N:=some 38) (v:=?_) (a':=?_) #[true,false,false,false,false,false,false] rfl rfl (by kernel_rfl) (fun _ _ _ h=>h) (Or.inl ⟨by rfl,?_⟩) ?_ ?_
     rotate_left
     ·intro w'
      go_simp
      with_reducible rfl
     rotate_left
     ·simp only [Act.put,List.setIfInBounds_toArray,List.set_cons_zero,List.set_cons_succ,i64_w,i32_w]
      rfl
     refine pure_ (i:=2) (N:=some 40) (v:=?_) (a':=?_) #[true,false,true,false,false,false,false] rfl rfl (by kernel_rfl) (fun _ _ _ h=>h) (Or.inl ⟨by rfl,?_⟩) ?_ ?_
     rotate_left
     ·intro w'
      go_simp
      with_reducible rfl
     rotate_left
     ·simp only [Act.put,List.setIfInBounds_toArray,List.set_cons_zero,List.set_cons_succ,i64_w,i32_w]
      rfl
     refine take_ (i:=3) (N:=some 41) (v:=?_) (a':=?_) #[true,false,true,true,false,false,false] rfl rfl (by kernel_rfl) (fun _ _ _ h=>h) (Or.inl ⟨by rfl,?_⟩) hHeld ?_ ?_
     rotate_left
     ·rintro w' ⟨s0,s1⟩
      go_simp
      with_reducible rfl
     rotate_left
     ·simp only [Act.put,List.setIfInBounds_toArray,List.set_cons_zero,List.set_cons_succ,i64_w,i32_w]
      rfl
     refine one_ (i:=1) (N:=some 39) #[true,true,true,true,false,false,false] rfl rfl (by kernel_rfl) (by decide) (fun K hK=>?_)
     refine goes_ func105 (by kernel_rfl) rfl #[.string t440] (by rfl) rfl rfl zm ?_
     with_reducible refine (Yi.calls kj2 t440 t444 _ A19.out).mono ?_
     rintro e w33 ⟨v445,rfl,ho0,hb⟩
     refine ⟨_,rfl,?_⟩
     have HO446:=yL (fun k_=>k_≠gb439) ho0 (fun k_ hk_=>(zf BK439 hk_))
     replace BK439:=sK BK439 hb
     replace HB:=sB hb
     clear hb ho0
     refine hK.out _ _ ⟨zh BK439 0,zh BK439 1⟩ (fun hHeld=>?_)
     clear hK K
     refine nm ?_
     refine one_ (i:=4) (N:=some 42) #[true,true,true,true,true,false,false] rfl rfl (by kernel_rfl) (by decide) (fun K hK=>?_)
     refine goes_ func105 (by kernel_rfl) rfl #[.string a0_1] (by rfl) rfl rfl zm ?_
     with_reducible refine (Yi.calls kj2 a0_1 t447 _ A20.out).mono ?_
     rintro e w34 ⟨v448,rfl,ho0,hb⟩
     refine ⟨_,rfl,?_⟩
     replace HO446:=yV HO446 hb
     have HO449:=yL (fun k_=>k_≠gb439) ho0 (fun k_ hk_=>(zf BK439 hk_))
     replace BK439:=sK BK439 hb
     replace HB:=sB hb
     clear hb ho0
     obtain ⟨Ao35,co35,eo35⟩:=Kd.V_slice HO446.out
     (first|subst eo35|(injection eo35 with f1_ f2_ f3_;have f4_:=f1_.symm;have f5_:=f3_.symm;clear f1_ f2_ f3_;subst f4_;subst f5_))
     obtain ⟨Ao36,co36,eo36⟩:=Kd.V_slice HO449.out
     (first|subst eo36|(injection eo36 with f1_ f2_ f3_;have f4_:=f1_.symm;have f5_:=f3_.symm;clear f1_ f2_ f3_;subst f4_;subst f5_))
     refine hK.out _ _ ⟨zh BK439 0,zh BK439 1⟩ (fun hHeld=>?_)
     clear hK K
     refine nm ?_
     refine one_ (i:=5) (N:=some 43) #[true,true,true,true,true,true,false] rfl rfl (by kernel_rfl) (by decide) (fun K hK=>?_)
     refine goes_ func104 (by kernel_rfl) rfl #[.slice Ao35 t444.length co35,.slice Ao36 t447.length co36] (by rfl) rfl rfl zm ?_
     with_reducible refine (Yr.calls kj2 (fun k_=>k_≠gb439) _ _ t444 (fun k_=>k_≠gb439) _ _ t447 t450 _ ?side1 ?side2 A21.out).mono ?_
     (case side1=>exact HO446.out)
     (case side2=>exact HO449.out)
     rintro e w37 ⟨v451,rfl,ho0,hb⟩
     refine ⟨_,rfl,?_⟩
     replace HO446:=yV HO446 hb
     replace HO449:=yV HO449 hb
     have HO452:=yL (fun k_=>k_≠gb439) ho0 (fun k_ hk_=>Or.elim hk_ (fun hs_=>Or.elim hs_ (fun hs_=>hs_) (fun hs_=>hs_)) (fun hn_=>(zf BK439 hn_)))
     replace BK439:=sK BK439 hb
     replace HB:=sB hb
     clear hb ho0
     refine hK.out _ _ ⟨zh BK439 0,zh BK439 1⟩ (fun hHeld=>?_)
     clear hK K
     refine nm ?_
     refine pure_ (i:=6) (N:=some 5) (v:=?_) (a':=?_) #[true,true,true,true,true,true,true] rfl rfl (by kernel_rfl) (fun _ _ _ h=>h) (Or.inl ⟨by rfl,?_⟩) ?_ ?_
     rotate_left
     ·intro w'
      go_simp
      with_reducible rfl
     rotate_left
     ·simp only [Act.put,List.setIfInBounds_toArray,List.set_cons_zero,List.set_cons_succ,i64_w,i32_w]
      rfl
     refine done_ (by kernel_rfl) ?_
     obtain ⟨Ao38,co38,rfl⟩:=Kd.V_slice HO452.out
     have p453:0≤(0:Int):=(by omega)
     have q453:0<(t450.length:Int):=zd
     obtain ⟨ad453,e453,hx453_0⟩:=Kd.at_int (Kd.V_reads' HO452.out).2.2 0 p453 q453
     cases e453
     have qi453:(0<t450.length)=True:=eq_true (by omega)
     (try rw [show ((0:Int)).toNat=0 from rfl] at hx453_0)
     (try rw [Addr.add_zero'] at hx453_0)
     replace p453:=eq_true p453
     replace q453:=eq_true q453
     try go_wp2
     go_ret
     exact ⟨ze,bw⟩
    rw [if_pos c24] at H
    obtain ⟨c24b0,c24b1⟩:=zY c24
    clear c24
    obtain rfl:=Option.some.inj H
    try go_wp2
    replace BK439:=aZ (blk_drew BK439.out)
    replace HB:=aZ (below_drew1 HB.out)
    refine start_ (n:=7) (S:=fun w'=>w'.cell? ⟨gb439,0,none⟩=some (.string a0_0)∧w'.cell? ⟨gb439,1,none⟩=some (.string a0_1)) (ds:=[]) #[false,false,false,false,false,false,false] (by kernel_rfl) rfl rfl ⟨zh BK439 0,zh BK439 1⟩ (fun hHeld=>?_)
    generalize wc.drew=w25 at BK439 HB hHeld ⊢
    refine pure_ (i:=0) (N:=some 38) (v:=?_) (a':=?_) #[true,false,false,false,false,false,false] rfl rfl (by kernel_rfl) (fun _ _ _ h=>h) (Or.inl ⟨by rfl,?_⟩) ?_ ?_
    rotate_left
    ·intro w'
     go_simp
     with_reducible rfl
    rotate_left
    ·simp only [Act.put,List.setIfInBounds_toArray,List.set_cons_zero,List.set_cons_succ,i64_w,i32_w]
     rfl
    refine pure_ (i:=2) (N:=some 40) (v:=?_) (a':=?_) #[true,false,true,false,false,false,false] rfl rfl (by kernel_rfl) (fun _ _ _ h=>h) (Or.inl ⟨by rfl,?_⟩) ?_ ?_
    rotate_left
    ·intro w'
     go_simp
     with_reducible rfl
    rotate_left
    ·simp only [Act.put,List.setIfInBounds_toArray,List.set_cons_zero,List.set_cons_succ,i64_w,i32_w]
     rfl
    refine take_ (i:=3) (N:=some 41) (v:=?_) (a':=?_) #[true,false,true,true,false,false,false] rfl rfl (by kernel_rfl) (fun _ _ _ h=>h) (Or.inl ⟨by rfl,?_⟩) hHeld ?_ ?_
    rotate_left
    ·rintro w' ⟨s0,s1⟩
     go_simp
     with_reducible rfl
    rotate_left
    ·simp only [Act.put,List.setIfInBounds_toArray,List.set_cons_zero,List.set_cons_succ,i64_w,i32_w]
     rfl
    refine one_ (i:=1) (N:=some 39) #[true,true,true,true,false,false,false] rfl rfl (by kernel_rfl) (by decide) (fun K hK=>?_)
    refine goes_ func105 (by kernel_rfl) rfl #[.string t440] (by rfl) rfl rfl zm ?_
    with_reducible refine (Yi.calls kj2 t440 t444 _ A19.out).mono ?_
    rintro e w26 ⟨v445,rfl,ho0,hb⟩
    refine ⟨_,rfl,?_⟩
    have HO446:=yL (fun k_=>k_≠gb439) ho0 (fun k_ hk_=>(zf BK439 hk_))
    replace BK439:=sK BK439 hb
    replace HB:=sB hb
    clear hb ho0
    refine hK.out _ _ ⟨zh BK439 0,zh BK439 1⟩ (fun hHeld=>?_)
    clear hK K
    refine nm ?_
    refine one_ (i:=4) (N:=some 42) #[true,true,true,true,true,false,false] rfl rfl (by kernel_rfl) (by decide) (fun K hK=>?_)
    refine goes_ func105 (by kernel_rfl) rfl #[.string a0_1] (by rfl) rfl rfl zm ?_
    with_reducible refine (Yi.calls kj2 a0_1 t447 _ A20.out).mono ?_
    rintro e w27 ⟨v448,rfl,ho0,hb⟩
    refine ⟨_,rfl,?_⟩
    replace HO446:=yV HO446 hb
    have HO449:=yL (fun k_=>k_≠gb439) ho0 (fun k_ hk_=>(zf BK439 hk_))
    replace BK439:=sK BK439 hb
    replace HB:=sB hb
    clear hb ho0
    obtain ⟨Ao28,co28,eo28⟩:=Kd.V_slice HO446.out
    (first|subst eo28|(injection eo28 with f1_ f2_ f3_;have f4_:=f1_.symm;have f5_:=f3_.symm;clear f1_ f2_ f3_;subst f4_;subst f5_))
    obtain ⟨Ao29,co29,eo29⟩:=Kd.V_slice HO449.out
    (first|subst eo29|(injection eo29 with f1_ f2_ f3_;have f4_:=f1_.symm;have f5_:=f3_.symm;clear f1_ f2_ f3_;subst f4_;subst f5_))
    refine hK.out _ _ ⟨zh BK439 0,zh BK439 1⟩ (fun hHeld=>?_)
    clear hK K
    refine nm ?_
    refine one_ (i:=5) (N:=some 43) #[true,true,true,true,true,true,false] rfl rfl (by kernel_rfl) (by decide) (fun K hK=>?_)
    refine goes_ func104 (by kernel_rfl) rfl #[.slice Ao28 t444.length co28,.slice Ao29 t447.length co29] (by rfl) rfl rfl zm ?_
    with_reducible refine (Yr.calls kj2 (fun k_=>k_≠gb439) _ _ t444 (fun k_=>k_≠gb439) _ _ t447 t450 _ ?side1 ?side2 A21.out).mono ?_
    (case side1=>exact HO446.out)
    (case side2=>exact HO449.out)
    rintro e w30 ⟨v451,rfl,ho0,hb⟩
    refine ⟨_,rfl,?_⟩
    replace HO446:=yV HO446 hb
    replace HO449:=yV HO449 hb
    have HO452:=yL (fun k_=>k_≠gb439) ho0 (fun k_ hk_=>Or.elim hk_ (fun hs_=>Or.elim hs_ (fun hs_=>hs_) (fun hs_=>hs_)) (fun hn_=>(zf BK439 hn_)))
    replace BK439:=sK BK439 hb
    replace HB:=sB hb
    clear hb ho0
    refine hK.out _ _ ⟨zh BK439 0,zh BK439 1⟩ (fun hHeld=>?_)
    clear hK K
    refine nm ?_
    refine pure_ (i:=6) (N:=some 5) (v:=?_) (a':=?_) #[true,true,true,true,true,true,true] rfl rfl (by kernel_rfl) (fun _ _ _ h=>h) (Or.inl ⟨by rfl,?_⟩) ?_ ?_
    rotate_left
    ·intro w'
     go_simp
     with_reducible rfl
    rotate_left
    ·simp only [Act.put,List.setIfInBounds_toArray,List.set_cons_zero,List.set_cons_succ,i64_w,i32_w]
     rfl
    refine done_ (by kernel_rfl) ?_
    obtain ⟨Ao31,co31,rfl⟩:=Kd.V_slice HO452.out
    have p453:0≤(0:Int):=(by omega)
    have q453:0<(t450.length:Int):=zd
    obtain ⟨ad453,e453,hx453_0⟩:=Kd.at_int (Kd.V_reads' HO452.out).2.2 0 p453 q453
    cases e453
    have qi453:(0<t450.length)=True:=eq_true (by omega)
    (try rw [show ((0:Int)).toNat=0 from rfl] at hx453_0)
    (try rw [Addr.add_zero'] at hx453_0)
    replace p453:=eq_true p453
    replace q453:=eq_true q453
    try go_wp2
    go_ret
    exact ⟨ze,bw⟩
   subst c18
   have H1:(some 3)=some r:=by rw [if_pos rfl] at H;exact H
   clear H
   have H:=H1
   clear H1
   obtain rfl:=Option.some.inj H
   go_wp2
   go_ret
   exact ⟨ze,bw⟩
def Yu.j0:Nat→ByteArray→ByteArray→ByteArray→Option (ByteArray×ByteArray×Int)
 | 0,_,_,_=>none
 | k+1,x0,x4,x5=>(Y5.f k x4 x5).bind fun t459=>(if t459=0 then ((Yy.f x4 x5).bind fun t460=>(if t460.toList=x0.toList then (some (x4,x5,0)) else (some ((⟨#[]⟩:ByteArray),(⟨#[]⟩:ByteArray),10)))) else (some ((⟨#[]⟩:ByteArray),(⟨#[]⟩:ByteArray),10)))
def Yu.f (k:Nat) (a0:ByteArray):Option (ByteArray×ByteArray×Int):=(YE.f a0 (⟨#[47]⟩:ByteArray)).bind fun bt455=>(if bt455.2.2=true then (Yu.j0 k a0 bt455.1 bt455.2.1) else (Yu.j0 k a0 bt455.1 (⟨#[49]⟩:ByteArray)))
theorem Yu.calls (k:Nat) (a0:ByteArray) (r1:ByteArray) (r2:ByteArray) (r3:Int) (w:World) (hG:Tryz.Gl w) (h:Yu.f k a0=some (r1,r2,r3)) :
  Calls Tryz.prog 75 #[.string a0] w fun e w'=>e = .returned (.tuple #[.agg #[.string r1,.string r2],.int .i64 r3])∧Below w.heap.size w w':=by
 have hu61:=underlying61
 have HG:=aZ hG
 clear hG
 have HB:=aZ (Below.refl w.heap.size w)
 have H:=h
 unfold Yu.f at H
 clear h
 obtain ⟨⟨t455,t456,t457⟩,A2,H⟩:=zB H
 (try dsimp only at H)
 have HC3:=aZ H
 clear H
 go_enter func75,ntmps75
 go_upto_if 15 with (first|(refine box_ev 2 #[.string ⟨#[]⟩,.string ⟨#[]⟩] 61 ?_;intro gb454 hg w4 hbox hb;have BK454:=aZ hbox;have GE454:=sG hg;replace HB:=sB hb;clear hb hbox hg)|(refine zg (some 10) func126 #[.string a0,.string (⟨#[47]⟩:ByteArray)] ?_;(with_reducible refine (YE.calls a0 (⟨#[47]⟩:ByteArray) t455 t456 t457 _ ?side1 A2.out).mono ?_);(case side1=>exact Tryz.Gl.below HG.out bw);rintro e w5 ⟨rfl,hb⟩;refine ⟨_,rfl,?_⟩;replace BK454:=sK BK454 hb;replace HB:=sB hb;clear hb))
 (try simp only [Act.put,List.setIfInBounds_toArray,List.set_cons_zero,List.set_cons_succ])
 go_cut [5] (fun v5 wc=>∃ (kq:Nat) (x5_2:ByteArray),v5 = .string x5_2∧Aside0 (Yu.j0 kq a0 t455 x5_2=some (r1,r2,r3))∧Aside0 (kq≤k)∧Aside0 (wc.heap[gb454]? = some (.cells #[.string ⟨#[]⟩,.string ⟨#[]⟩] 61 (0,0)))∧Aside0 (Below w.heap.size w wc))
 case first =>
  have H:=HC3.out
  clear HC3
  by_cases c6:t457=true
  case neg=>
   replace c6:=Bool.eq_false_iff.mpr c6
   subst c6
   have H1:(Yu.j0 k a0 t455 (⟨#[49]⟩:ByteArray))=some (r1,r2,r3):=by rw [if_neg (show ¬ (false=true) by decide)] at H;exact H
   clear H
   have H:=H1
   clear H1
   have H':=aZ H
   clear H
   go_wp2
   go_meet
   case rel=>exact ⟨_,((⟨#[49]⟩:ByteArray)),zs,H',⟨by first|omega|exact Nat.le_refl _⟩,⟨zb BK454⟩,⟨bw⟩⟩
  subst c6
  have H1:(Yu.j0 k a0 t455 t456)=some (r1,r2,r3):=by rw [if_pos rfl] at H;exact H
  clear H
  have H:=H1
  clear H1
  have H':=aZ H
  clear H
  go_wp2
  go_meet
  case rel=>exact ⟨_,(t456),zs,H',⟨by first|omega|exact Nat.le_refl _⟩,⟨zb BK454⟩,⟨bw⟩⟩
 case rest =>
  clear HC3
  try clear c1
  try clear c6
  obtain ⟨kq,x5_2,rfl,HA,HJ2,BK454,HB⟩:=hcut
  cases kq with
  | zero=>exact absurd HA.out (by simp [Yu.j0])
  | succ kj2 =>
   have H:=HA.out
   clear HA
   simp only [Yu.j0] at H
   obtain ⟨t459,A7,H⟩:=zB H
   by_cases c8:t459=0
   case neg=>
    rw [if_neg c8] at H
    obtain ⟨c8b0,c8b1⟩:=zX c8
    simp only [Option.some.injEq,Prod.mk.injEq] at H
    obtain ⟨rfl,rfl,rfl⟩:=H
    go_wp2_with (first|(refine box_ev 7 #[.string ⟨#[]⟩,.string ⟨#[]⟩] 61 ?_;intro gb458 hg w26 hbox hb;have BK458:=aZ hbox;have GE458:=sG hg;replace HB:=sB hb;have NB454_458:=sl hg BK454;have NB458_454:=sg hg BK454;replace BK454:=sK BK454 hb;clear hb hbox hg;have hnb27:=NB458_454.out;have hnc27:=NB454_458.out;obtain ⟨hcz28_0,hfz28_0⟩:=zc BK458 0 (.string ⟨#[]⟩) rfl;obtain ⟨hcz28_1,hfz28_1⟩:=zc BK458 1 (.string ⟨#[]⟩) rfl)|(refine zg (some 20) func53 #[.agg #[.string t455,.string x5_2]] ?_;(with_reducible refine (Y5.calls kj2 t455 x5_2 t459 _ A7.out).mono ?_);rintro e w29 ⟨rfl,hb⟩;refine ⟨_,rfl,?_⟩;replace BK454:=aZ (blk_below (g:=gb454) (o:=.cells #[.string ⟨#[]⟩,.string ⟨#[]⟩] 61 (0,0)) (zq BK454) hb);replace BK458:=sP (.cells #[.string t455,.string x5_2] 61 (0,0)) BK458 hb;replace HB:=sB hb;clear hb;obtain ⟨hcz30_0,hfz30_0⟩:=zc BK454 0 (.string ⟨#[]⟩) rfl;obtain ⟨hcz30_1,hfz30_1⟩:=zc BK454 1 (.string ⟨#[]⟩) rfl))
    refine bodyPost_ret (results_ct rfl _ _ gb454 61 #[.string ⟨#[]⟩,.string ⟨#[]⟩] (0,0) _ rfl (zp BK454) underlying61 rfl (by kernel_rfl)) rfl ?_
    exact ⟨ze,bw⟩
   rw [if_pos c8] at H
   obtain ⟨c8b0,c8b1⟩:=zY c8
   clear c8
   obtain ⟨t460,A9,H⟩:=zB H
   by_cases c10:t460.toList=a0.toList
   case neg=>
    rw [if_neg c10] at H
    obtain ⟨c10b0,c10b1⟩:=zX c10
    simp only [Option.some.injEq,Prod.mk.injEq] at H
    obtain ⟨rfl,rfl,rfl⟩:=H
    go_wp2_with (first|(refine box_ev 7 #[.string ⟨#[]⟩,.string ⟨#[]⟩] 61 ?_;intro gb458 hg w19 hbox hb;have BK458:=aZ hbox;have GE458:=sG hg;replace HB:=sB hb;have NB454_458:=sl hg BK454;have NB458_454:=sg hg BK454;replace BK454:=sK BK454 hb;clear hb hbox hg;have hnb20:=NB458_454.out;have hnc20:=NB454_458.out;obtain ⟨hcz21_0,hfz21_0⟩:=zc BK458 0 (.string ⟨#[]⟩) rfl;obtain ⟨hcz21_1,hfz21_1⟩:=zc BK458 1 (.string ⟨#[]⟩) rfl)|(refine zg (some 20) func53 #[.agg #[.string t455,.string x5_2]] ?_;(with_reducible refine (Y5.calls kj2 t455 x5_2 t459 _ A7.out).mono ?_);rintro e w22 ⟨rfl,hb⟩;refine ⟨_,rfl,?_⟩;replace BK454:=aZ (blk_below (g:=gb454) (o:=.cells #[.string ⟨#[]⟩,.string ⟨#[]⟩] 61 (0,0)) (zq BK454) hb);replace BK458:=sP (.cells #[.string t455,.string x5_2] 61 (0,0)) BK458 hb;replace HB:=sB hb;clear hb;obtain ⟨hcz23_0,hfz23_0⟩:=zc BK458 0 (.string t455) rfl;obtain ⟨hcz23_1,hfz23_1⟩:=zc BK458 1 (.string x5_2) rfl)|(go_at_call 55;(with_reducible refine (Yy.calls t455 x5_2 t460 _ A9.out).mono ?_);rintro e w24 ⟨rfl,hb⟩;replace BK454:=sK BK454 hb;replace BK458:=sK BK458 hb;replace HB:=sB hb;clear hb;obtain ⟨hcz25_0,hfz25_0⟩:=zc BK454 0 (.string ⟨#[]⟩) rfl;obtain ⟨hcz25_1,hfz25_1⟩:=zc BK454 1 (.string ⟨#[]⟩) rfl))
    refine bodyPost_ret (results_ct rfl _ _ gb454 61 #[.string ⟨#[]⟩,.string ⟨#[]⟩] (0,0) _ rfl (zp BK454) underlying61 rfl (by kernel_rfl)) rfl ?_
    exact ⟨ze,bw⟩
   rw [if_pos c10] at H
   obtain ⟨c10b0,c10b1⟩:=zY c10
   clear c10
   simp only [Option.some.injEq,Prod.mk.injEq] at H
   obtain ⟨rfl,rfl,rfl⟩:=H
   go_wp2_with (first|(refine box_ev 7 #[.string ⟨#[]⟩,.string ⟨#[]⟩] 61 ?_;intro gb458 hg w11 hbox hb;have BK458:=aZ hbox;have GE458:=sG hg;replace HB:=sB hb;have NB454_458:=sl hg BK454;have NB458_454:=sg hg BK454;replace BK454:=sK BK454 hb;clear hb hbox hg;have hnb12:=NB458_454.out;have hnc12:=NB454_458.out;obtain ⟨hcz13_0,hfz13_0⟩:=zc BK458 0 (.string ⟨#[]⟩) rfl;obtain ⟨hcz13_1,hfz13_1⟩:=zc BK458 1 (.string ⟨#[]⟩) rfl)|(refine zg (some 20) func53 #[.agg #[.string t455,.string x5_2]] ?_;(with_reducible refine (Y5.calls kj2 t455 x5_2 t459 _ A7.out).mono ?_);rintro e w14 ⟨rfl,hb⟩;refine ⟨_,rfl,?_⟩;replace BK454:=aZ (blk_below (g:=gb454) (o:=.cells #[.string ⟨#[]⟩,.string ⟨#[]⟩] 61 (0,0)) (zq BK454) hb);replace BK458:=sP (.cells #[.string t455,.string x5_2] 61 (0,0)) BK458 hb;replace HB:=sB hb;clear hb;obtain ⟨hcz15_0,hfz15_0⟩:=zc BK458 0 (.string t455) rfl;obtain ⟨hcz15_1,hfz15_1⟩:=zc BK458 1 (.string x5_2) rfl)|(go_at_call 55;(with_reducible refine (Yy.calls t455 x5_2 t460 _ A9.out).mono ?_);rintro e w16 ⟨rfl,hb⟩;replace BK454:=sK BK454 hb;replace BK458:=sK BK458 hb;replace HB:=sB hb;clear hb;obtain ⟨hcz17_0,hfz17_0⟩:=zc BK458 0 (.string t455) rfl;obtain ⟨hcz17_1,hfz17_1⟩:=zc BK458 1 (.string x5_2) rfl;obtain ⟨hcz18_0,hfz18_0⟩:=zc BK454 0 (.string ⟨#[]⟩) rfl;obtain ⟨hcz18_1,hfz18_1⟩:=zc BK454 1 (.string ⟨#[]⟩) rfl))
   refine bodyPost_ret (results_ct rfl _ _ gb454 61 #[.string t455,.string x5_2] (0,0) _ rfl (zp BK454) underlying61 rfl (by kernel_rfl)) rfl ?_
   exact ⟨ze,bw⟩
end Go.Proofs.YtaffkbemjbfajaaGreatDoor.PNumReads
